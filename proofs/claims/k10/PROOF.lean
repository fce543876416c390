import PyProof.Rows.All
import KE.RegKSuper
import KE.OsRunLaw
import PySem.Challenge.RW_smallcount_k10_errors_apart
import HandS.ForMost
import HandS.Evl
import HandS.ForExc
import HandS.CallSlots
import HandS.Flow
import HandS.SetKeys
import HandS.More
import HandS.TupAny
import KE.GoesMore
import KE.GoesEnum
import HandS.IsInst
import KE.KExcIs
import HandS.Dict
import HandS.Iter
import HandS.WordsDict
import HandS.Zip
import PyProof.Rows.TupDisplay
import KE.KDictDisplayH
import KE.KDictWalk
import HandS.Exc
import HandS.ExcSuper
import KE.KExcSuper
import HandS.ExcField
import HandS.ExcIs
import PyProof.ReprRoads
import HandS.DictEq
import HandS.SortInts
import HandS.Conv
import KE.DatumOrd
import KE.SortData
import HandS.Style
import HandS.ListItems
import HandS.Codes
import PyProof.DictUpdate
import PyProof.InstNe
import HandS.Star
import HandS.Property
import HandS.Small
import PyProof.AssignAttr
import HandS.Set
import HandS.SetFor
import PyProof.Rows.SortShellAny
import HandS.SetBool
import HandS.DictComp
import KE.KDictZip
import PyProof.NeKinds
import PyProof.StrOps2
import HandS.Defaults
import HandS.ExcOwn
import OpenK.KOwn
import HandS.TupMul
import KE.KEqDict
import HandS.Text
import PyProof.SeqRoads2
import KE.KStar
import KE.KDictSum
import HandS.SortKw
import KE.SortKeyHeap
import HandS.MethStar
import HandS.Deep
import KE.KDictCopyH
import KE.KSortKey
import HandS.Wide
import PyProof.EqKinds
import OpenK.KWalk
import PyProof.MeetsDictList
import HandS.HotCalls
import HandS.ExcValue
set_option Elab.async false
set_option linter.all false
set_option autoImplicit false
set_option maxRecDepth 100000
namespace K10HD
open PySem PySem.W PySem.Calls PyProof.Rows
noncomputable def seenP:Program:=view PySem.Challenge.pw_smallcount_k10_errors_apart [22]
def rest0:List PySem.Str:=["CountError","Wrong","NoDeed","BadDeed","BadStep","BadCall","BadProgram","NoMark","TooFew","TooMany","NotLoud","Nothing","BadEdit","NoText","NoCommand","_law_bag","_law_take","_law_value","_law_errors","_law_flags"]
def restN:List PySem.Str:=rest0
set_option hygiene false in
local macro_rules | `(tactic| o_headL $H:term) => `(tactic| ((refine PySem.W.holds_open (q := seenP) (loose := restN) (Xt := fun s => PySem.W.xlAt seenP [] s && PySem.W.recOk [] s) (XP := PySem.W.XL seenP []) (Yf := PySem.W.Hook.obs $H) (Ya := PySem.W.Hook.val $H) (YP := PySem.W.Hook.says $H) (N := 40000) ?hl (PySem.W.Hook.of $H) (PySem.W.Hook.keeps $H) (fun s e => PySem.W.xl_of s (Bool.and_eq_true_iff.mp e).1) PySem.W.XL.keeps (by rfl) (by rfl) (by rfl) (fun s e => PySem.W.recFacts_of (Bool.and_eq_true_iff.mp e).2) (by rfl) (by first | assumption | decide +kernel) (by decide +kernel) ⟨rfl, rfl, rfl, rfl, rfl, by decide +kernel⟩ ?hw ?hc); (case hl => refine HeadRun.left_oneK (M := 40000) (by kernel_rfl) (by rfl) (fun s => by kernel_rfl) (by rfl) ?_; intro w os; kernel_rfl)))
local macro_rules | `(tactic| k_head) => `(tactic| k_headL)
set_option maxHeartbeats 0 in
open_top hd for PySem.Challenge.rw_smallcount_k10_errors_apart
end K10HD
namespace DL
open PySem PySem.Spec PyProof.Rows L2
structure FnG (P:Program)(w:World)(K:PySem.W.Frag)(mg:Str→Option Value)(base:Heap)(cx:CXT)
  (k:Nat) (f:Addr) (fd:FuncData) (ps:List Str) (sp:Sp):Prop where
 len:∀ vs H Q E,sp vs H Q E→vs.length=ps.length
 run:∀ (A:Around) (out:List Env) (s:Shared) (H:Hp) (args:Args) (us:List Value) (vs:List V) (Q:VK) (E:XK),
  Room k A→A.guards=some []→Env0 P w K mg base A out s H→BindsTo s fd args (ps.zip us)→Vals vs us →
  sp vs H Q E→codeAny (model P w) A (.call (.ref f) args) (CR cx out P w H s Q E) s
theorem FnG.mono {P:Program}{w:World}{K:PySem.W.Frag}{mg:Str→Option Value}{base:Heap}{cx:CXT}
  {j k:Nat} {f:Addr} {fd:FuncData} {ps:List Str} {sp:Sp} (F:FnG P w K mg base cx j f fd ps sp) (h:j≤k) :
  FnG P w K mg base cx k f fd ps sp :=
 ⟨F.len,fun A o s H a us vs Q E hr=>F.run A o s H a us vs Q E (hr.mono h)⟩
theorem fnG_of {cx:CXT}{P:Program}{w:World}{K:PySem.W.Frag}{mg:Str→Option Value}{base:Heap}{k:Nat}
  {f:Addr} {name qual:Str} {params:Arguments} {body:List Stmt} {sc:Scope} {dV kV doc pm cdv ct oc:Value}
  {an od:Option Addr} {osl:Array (Option Value)} {N ps:List Str} {sp:Sp}
  (lk:K.lookup f=some ⟨oc,od,.func (PySem.W.fnOf name qual params body sc dV kV doc pm an cdv ct),osl⟩)
  (hcd:PySem.W.codeIn K cdv qual=true) (S:FnScope N ps sc)
  (len:∀ vs H Q E,sp vs H Q E→vs.length=ps.length)
  (hb:∀ (A:Around) (out:List Env) (s:Shared) (H:Hp) (vs:List V) (Q:VK) (E:XK),
   Room k (A.deeper (envOfC qual sc s.heap.objs.size f cdv))→A.guards=some []→sp vs H Q E →
   ∃ t,PSs (cxOf cx P w K mg base N qual sc f cdv A out s H E) body t ∧
    t { nx:=fun _ H'=>Q .non H',rt:=Q } (start N vs) H) :
  FnG P w K mg base cx (k+1) f (PySem.W.fnOf name qual params body sc dV kV doc pm an cdv ct) ps sp:=by
 refine⟨len,fun A out s H args us vs Q E hr hg e0 bd r hsp=>?_⟩
 have hl:=len _ _ _ _ hsp
 have stay:∀ b o,base.get? b=some o→s.heap.get? b=some o:=fun b o e=>(e0.bs b o e).1
 have KX:K.In s.heap:=e0.mod.kin.keeps stay
 have kinds:∀ y∈ps.zip us,sc.names.lookup y.1=some .local ∨
   (sc.names.lookup y.1=some .cell∧((cellsFrom (s.heap.objs.size+1) sc.names []).lookup y.1).isSome=true):=by
  rintro ⟨n,v⟩ hy
  refine(S.par n (List.of_mem_zip hy).1).imp id fun q=>⟨q,?_⟩
  exact PySem.W.cellsFrom_some _ _ _ (.inl q)
 refine codeAny_call_function hr.depth (KX _ _ lk) rfl S.co S.gen rfl (PySem.W.codeRec_of KX hcd) (bd _ _ _ _ ?_)
 refine wpAny_newFunctionEnv_cells S.kind kinds fun env he s1 x=>?_
 subst he
 refine⟨(e0.mod.nolimit.keeps stay).keeps x.toInCall.keep,codeAny_func ?_⟩
 obtain⟨t,ht,hq⟩:=hb A out s H vs Q E (hr.deeper _) hg hsp
 have I:=inv_start (cd:=cdv) (qual:=qual) (f:=f) (CX:=cx) (E:=E) S hr.hd e0 hl r x
 refine wpAny_mono (ht.run [] s1 (start N vs) H _ I hq) (fun fl s' hs=>?_) fun e s' hs=>hs
 match fl,hs with
 | .ret u,⟨v,_,H',J,rv,q⟩=>exact⟨v,H',J.os,J.bare,J.base,J.hok,rv,q⟩
 | .next,⟨_,H',J,q⟩=>exact⟨V.non,H',J.os,J.bare,J.base,J.hok,rfl,q⟩
 | .brk,⟨_,_,_,q⟩=>exact False.elim q
 | .cont,⟨_,_,_,q⟩=>exact False.elim q
section
variable {X:Cx}{cx:CXT}{k:Nat}{f:Addr}{fd:FuncData}{ps:List Str}{sp:Sp}{dvs:List V}{ds:List Value}
 {E:L2.St→XK} {x:Str} {p pos:Pos} {e:Expr} {es:List Expr} {t:TA}
theorem run_fnG {pins:List (Addr×Obj)}{σ:L2.St}{H:Hp}{s:Shared}{Q:VK}{us:List Value}{vs:List V}
  (F:FnG X.prog X.w X.K X.mg X.base cx k f fd ps sp) (hr:Room k X.A) (hgd:X.A.guards=some [])
  (hb:Binds X.K fd ps ds) (hd:Vals dvs ds) (hx:PassesAt cx X σ (E σ)) (I:Inv X pins σ H s) (r:Vals vs us)
  (h:sp (vs++dvs) H Q (E σ)):wpAny (model X.prog X.w) X.A (call (.ref f) us) (EP X pins σ Q) X.xe s:=by
 have r2:Vals (vs++dvs) (us++ds):=r.append hd
 have hl:(us++ds).length=ps.length:=r2.length▸F.len _ _ _ _ h
 have run:=F.run X.A X.stack s H ⟨us,[]⟩ (us++ds) (vs++dvs) Q (E σ) hr hgd I.env0 (hb s us I.kIn hl) r2 h
 refine wpAny_call (codeAny_mono run fun z s' hq=>?_)
 match z,hq with
 | .error e,hq=>exact hx pins H s e s' I hq
 | .ok (.ret u),hq=>exact I.after hq
 | .ok .next,hq=>exact hq.elim
 | .ok .brk,hq=>exact hq.elim
 | .ok .cont,hq=>exact hq.elim
theorem pe_callG (F:FnG X.prog X.w X.K X.mg X.base cx k f fd ps sp)(hr:Room k X.A)(hgd:X.A.guards=some [])
  (hg:Gl X x) (hm:X.mg x=some (.ref f)) (hk:PySem.W.keepIn X.K (.ref f)=true) (hb:Binds X.K fd ps ds)
  (hd:Vals dvs ds) (hx:∀ σ,PassesAt cx X σ (E σ)) (ha:PA X (e::es) t)
  (hdb:(x==("__debug__":Str))=false:=by decide)
  (he:starEach (e::es) X.env=(false,eval e X.env)::starEach es X.env:=by rfl)
  (hpl:(backTo pos (starEach es X.env)).any (·.1)=false:=by rfl) :
  PE X (.Call (.Name x p) (e::es) [] pos) (tCallSD sp dvs E t):=by
 refine⟨fun pins s σ H Q I h=>wpAny_Call_Name_kw (ld_glob I hg hm ?_ hdb)⟩
 refine PySem.W.callWith_K (h₀:=X.base) I.ok.mod.kin hk (thn (ha.run pos pins s σ H _ I h) ?_) he hpl
 rintro us s1 ⟨vs,H1,I1,r,q⟩
 exact⟨I1.kIn,run_fnG F hr hgd hb hd (hx σ) I1 r q⟩
end
theorem law_callG {P:Program}{w:World}{K:PySem.W.Frag}{mg mb:Str→Option Value}{cx:CXT}{k:Nat}
  {fa a:Addr} {fd:FuncData} {x:Str} {sp:Sp} {s₁:Shared} {vs:List Value} {ns:List Int}
  (KX:K.In s₁.heap) (hns:s₁.heap.Ns mainGlobals mg) (hb:s₁.heap.Ns builtinsNs mb)
  (hbb:∀ x:Str,x≠"__name__"→mb x=bootBuiltins x) (hlim:s₁.heap.NoLimit) (hg:s₁.gens=#[])
  (ha:s₁.heap.get? a=some { cls:=.type "list",data:=.seq vs.toArray }) (hi:IntsAre vs ns)
  (hl:ns.length≤sizeLine) (hr:Room k callerA)
  (F:∀ base:Heap,K.In base→base.Ns mainGlobals mg→FnG P w K mg base cx k fa fd [x] sp)
  (hbind:∀ (s:Shared) (u:Value),BindsTo s fd ⟨[u],[]⟩ [(x,u)])
  (hsp:∀ H:Hp,Only H→SqL K H a (ns.map V.int)→sp [.ref a] H (fun v _=>v=.bl true) fun _ _ _=>False)
  (hcx:∀ H e s',cx [] H s₁ (fun _ _ _=>False) e s'→False) :
  codeAny (model P w) callerA (.call (.ref fa) ⟨[.ref a],[]⟩)
   (fun r s'=>r=.ok (.ret (.bool true))∧OldK s₁.heap s'.heap∧s'.os=s₁.os∧AllBare s'.gens) s₁:=by
 have rv:=vals_ints hi
 have main:∀ H:Hp,Only H→SqL K H a (ns.map V.int)→HOk P w H s₁.heap→(∀ b,H b≠none→b=a) →
   (H a≠none→K.lookup a=none)→codeAny (model P w) callerA (.call (.ref fa) ⟨[.ref a],[]⟩)
   (fun r s'=>r=.ok (.ret (.bool true))∧OldK s₁.heap s'.heap∧s'.os=s₁.os∧AllBare s'.gens) s₁:=by
  intro H hO hS hok hA hK
  have onlyA:∀ {b:Addr} {u:HO},H b=some u→b=a:=fun {b u} q=>hA b (by rw[q];exact fun z=>nomatch z)
  have dictFree:∀ {b:Addr} {o:Obj} {es:Array DictEntry} {ep:Nat},
    s₁.heap.get? b=some o→o.data=.dict es ep→H b=none:=by
   intro b o es ep e d
   match q:H b with
   | none=>rfl
   | some u =>
    obtain rfl:=onlyA q
    rw[ha] at e
    obtain rfl:=Option.some.inj e
    exact nomatch (show Data.seq vs.toArray _=Data.dict es ep from d)
  have ns':∀ {b:Addr} {m:Str→Option Value},s₁.heap.Ns b m→(hidT s₁.heap H).Ns b m :=
   fun⟨o,es,ep,e,d,r⟩=>⟨o,es,ep,hidT_get e (dictFree e d),d,r⟩
  have kb:K.In (hidT s₁.heap H):=fun b o e=>hidT_get (KX b o e) (by
   match q:H b with
   | none=>rfl
   | some u =>
    obtain rfl:=onlyA q
    rw[hK (by rw[q];exact fun z=>nomatch z)] at e
    exact nomatch e)
  have md:Mod K mg (hidT s₁.heap H):=⟨kb,ns' hns,⟨mb,ns' hb,hbb⟩,by
   obtain⟨mc,h1,h2⟩:=hlim
   exact⟨mc,ns' h1,h2⟩⟩
  have nofr:∀ b:Addr,b∉frs []:=fun b z=>nomatch (show b∈([]:List Addr) from z)
  have e0:Env0 P w K mg (hidT s₁.heap H) callerA [] s₁ H :=
   ⟨rfl,md,fun b o e=>of_hidT e,Nat.le_of_eq (hidT_size _ _),trivial,fun b hb=>absurd hb (nofr b),hok,.of_eq hg⟩
  have run:=(F _ kb (ns' hns)).run callerA [] s₁ H ⟨[.ref a],[]⟩ [.ref a] [.ref a] _ _ hr rfl e0
   (hbind s₁ (.ref a)) (.cons rfl .nil) (hsp H hO hS)
  refine codeAny_mono run fun r s' h=>?_
  match r,h with
  | .error e,h=>exact(hcx H e s' h).elim
  | .ok .next,h=>exact h.elim
  | .ok .brk,h=>exact h.elim
  | .ok .cont,h=>exact h.elim
  | .ok (.ret u),⟨v,H',os,bare,un,hok',r',q⟩ =>
   obtain rfl:v=.bl true:=q
   obtain rfl:u=Value.bool true:=r'
   refine⟨rfl,OldK.of_keep fun b o e=>?_,os,bare⟩
   match q:H b with
   | none=>exact un.keep b o e q (nofr b) (fun z=>nomatch z)
   | some u =>
    match hO b with
    | .inl z=>rw[q] at z;exact nomatch z
    | .inr ⟨ob,xs,z⟩ =>
     have e1:=(hok b _ z).1
     rw[e] at e1
     obtain rfl:=Option.some.inj e1
     exact(hok' b _ (un.frzs b _ _ z)).1
 match hk:K.lookup a with
 | some o =>
  have e:=KX a o hk
  rw[ha] at e
  obtain rfl:=Option.some.inj e
  have hz:vs.toArray.size≤sizeLine:=by rw[List.size_toArray,hi.length];exact hl
  refine main (fun _=>none) (fun _=>.inl rfl) (.inr ⟨_,vs.toArray,_,hk,rfl,rfl,rfl,hz,by simpa using rv⟩) ?_ ?_ ?_
  ·exact fun b u z=>nomatch (show(none:Option HO)=some u from z)
  ·exact fun b z=>absurd rfl z
  ·exact fun z=>absurd rfl z
 | none =>
  let so:Obj:={ cls:=.type "list",data:=.seq vs.toArray }
  refine main (fun b=>if b=a then some (.frz so (.lst (ns.map V.int))) else none) (fun b=>?_)
   (.inl (.inr ⟨so,if_pos rfl⟩)) (fun b u z=>?_) (fun b z=>Classical.byContradiction fun hb=>z (if_neg hb)) fun _=>hk
  ·by_cases hb:b=a
   ·exact .inr ⟨_,_,if_pos hb⟩
   ·exact .inl (if_neg hb)
  ·by_cases hb:b=a
   ·have z':=(if_pos hb).symm.trans z
    obtain rfl:=Option.some.inj z'
    subst hb
    exact⟨ha,by rw[List.length_map];exact hl,vs,_,rv,ha⟩
   ·exact nomatch (if_neg hb).symm.trans z
theorem walk_ofG {l:PySem.W.OpenLaw}{n k:Nat}{q:Program}{loose:List Str}{XP:(Str→Option Value)→Heap→Prop}
  {YP:World→Heap→Prop} {d:DefRec} {K:Params→PySem.W.Frag} {cx:World→CXT} {sp:World→Sp} {x:Str}
  (hn:l.most=some n) (hn2:n≤sizeLine) (hdf:d.params.defaults=[]) (hr:Room k callerA)
  (hY:∀ (w:World) (h:Heap),YP w h→(K w.params).In h)
  (F:∀ (w:World) (mg:Str→Option Value) (fa:Addr) (h:Heap),(K w.params).In h→h.Ns mainGlobals mg →
   mg d.name=some (.ref fa)→∃ fd:FuncData,(∀ (s:Shared) (u:Value),BindsTo s fd ⟨[u],[]⟩ [(x,u)]) ∧
    ∀ base:Heap,(K w.params).In base→base.Ns mainGlobals mg →
     FnG l.prog w (K w.params) mg base (cx w) k fa fd [x] (sp w))
  (hsp:∀ (w:World) (H:Hp) (a:Addr) (ns:List Int),ns.length≤n→Only H →
   SqL (K w.params) H a (ns.map V.int)→sp w [.ref a] H (fun v _=>v=.bl true) fun _ _ _=>False)
  (hcx:∀ (w:World) (H:Hp) (s:Shared) (e:Value) (s':Shared),cx w [] H s (fun _ _ _=>False) e s'→False) :
  PySem.W.WalkO q loose XP YP l.row.toRowW d [] (fun f vs=>PySem.call f vs):=by
 refine Att.attach_call hn hdf fun w s₀ s₁ mg mb fa o pm cd doc a vs ns G Y ho hd hcd hmg hobj hints hlen hg=>?_
 obtain⟨fd,hb,hF⟩:=F w mg fa _ (hY w _ Y) G.T.g hmg
 exact law_callG (hY w _ Y) G.T.g G.T.b G.T.builtins G.T.nolimit hg hobj hints (Nat.le_trans hlen hn2) hr hF hb
  (fun H hO hS=>hsp w H a ns hlen hO hS) fun H e s'=>hcx w H s₁ e s'
abbrev Slots:=L2.St
def Ex (H H':Hp):Prop:=∀ a o,H a=some o→H' a=some o
theorem Ex.refl (H:Hp):Ex H H:=fun _ _ h=>h
theorem Ex.trans {H H1 H2:Hp}(a:Ex H H1)(b:Ex H1 H2):Ex H H2:=fun x o h=>b x o (a x o h)
theorem Ex.new {H:Hp}{p:Addr}{o:HO}(h:H p=none):Ex H (upd H p o):=fun a u e=>by
 rw[upd_ne (ne_of_none e h)];exact e
theorem ex_l {K:PySem.W.Frag}{H H':Hp}{a:Addr}{xs:List V}(e:Ex H H')(h:SqL K H a xs):SqL K H' a xs:=by
 rcases h with (h|⟨o,h⟩)|h
 ·exact .inl (.inl (e _ _ h))
 ·exact .inl (.inr ⟨o,e _ _ h⟩)
 ·exact .inr h
theorem ex_t {K:PySem.W.Frag}{H H':Hp}{a:Addr}{xs:List V}(e:Ex H H')(h:SqT K H a xs):SqT K H' a xs:=by
 rcases h with (h|⟨o,h⟩)|h
 ·exact .inl (.inl (e _ _ h))
 ·exact .inl (.inr ⟨o,e _ _ h⟩)
 ·exact .inr h
inductive Ky where
 | k (x:Key)|t (xs:List Key)
deriving DecidableEq
def entI (x:List Int×Addr×Value):DictEntry:=⟨reduceHash (Builtin.Tuple.tupleHashOf (x.1.map hashInt)),.ref x.2.1,x.2.2⟩
def TX (a:Addr)(es:Array DictEntry):HO:=.ext fun h=>∃ o ep,h.get? a=some o∧o.ExactDict∧o.data=.dict es ep
def DctIs (K:PySem.W.Frag)(G:Hp)(a:Addr)(o:HO)(ks:List Ky)(vs:List V):Prop :=
 (∃ kvs:List (Key×V),o=.dK kvs∧ks=kvs.map (fun p=>Ky.k p.1)∧vs=kvs.map (·.2)) ∨
 ∃ (es:Array DictEntry) (xs:List (List Int×Addr×Value)),xs≠[]∧o=TX a es∧es.toList=xs.map entI∧(xs.map (·.1)).Nodup∧(a==sysModules)=false∧xs.length≤sizeLine ∧
  ks=xs.map (fun p=>Ky.t (p.1.map Sum.inl))∧Vals vs (xs.map (·.2.2))∧∀ x∈xs,SqT K G x.2.1 (x.1.map V.int)
theorem DctIs.map {K:PySem.W.Frag}{G G':Hp}{a:Addr}{o:HO}{ks:List Ky}{vs:List V}(e:∀ b xs,SqT K G b xs→SqT K G' b xs)(h:DctIs K G a o ks vs):DctIs K G' a o ks vs:=by
 rcases h with h|⟨es,xs,h0,h1,h2,h3,h4,h5,h6,h7,h8⟩
 ·exact .inl h
 ·exact .inr ⟨es,xs,h0,h1,h2,h3,h4,h5,h6,h7,fun x hx=>e _ _ (h8 x hx)⟩
theorem DctIs.mono {K:PySem.W.Frag}{G G':Hp}{a:Addr}{o:HO}{ks:List Ky}{vs:List V}(e:Ex G G')(h:DctIs K G a o ks vs):DctIs K G' a o ks vs:=by
 rcases h with h|⟨es,xs,h0,h1,h2,h3,h4,h5,h6,h7,h8⟩
 ·exact .inl h
 ·exact .inr ⟨es,xs,h0,h1,h2,h3,h4,h5,h6,h7,fun x hx=>ex_t e (h8 x hx)⟩
def LkIs (K:PySem.W.Frag)(G:Hp)(a:Addr)(o:HO)(ks:List Ky)(vs:List V):Prop:=∃ od u,o=.frz od u∧DctIs K G a u ks vs
theorem LkIs.map {K:PySem.W.Frag}{G G':Hp}{a:Addr}{o:HO}{ks:List Ky}{vs:List V}(e:∀ b xs,SqT K G b xs→SqT K G' b xs)(h:LkIs K G a o ks vs):LkIs K G' a o ks vs :=
 let ⟨od,u,h1,h2⟩:=h;⟨od,u,h1,h2.map e⟩
theorem LkIs.mono {K:PySem.W.Frag}{G G':Hp}{a:Addr}{o:HO}{ks:List Ky}{vs:List V}(e:Ex G G')(h:LkIs K G a o ks vs):LkIs K G' a o ks vs :=
 let ⟨od,u,h1,h2⟩:=h;⟨od,u,h1,h2.mono e⟩
def ClsAt (K:PySem.W.Frag)(nm:Str)(C:Addr):Prop:=PySem.W.nsIn K mainGlobals nm=some (some (.ref C))
inductive D where
 | non|bl (b:Bool)|int (i:Int)|str (s:Str)|ty (n:String)|ref (a:Addr)
 | tup (xs:List D)|lst (xs:List D)|fro (xs:List D)|dct (kvs:List (Ky×D))|ins (nm:Str) (fs:List (Str×D))|err (a C d:Addr) (nm:Str) (fs:List (Str×D))|eo (nm:Str)
inductive DV where
 | dat (d:D)|loc (n:Nat)
inductive Pl where
 | lst (xs:List DV)|dct (kvs:List (Ky×DV))|lkd (kvs:List (Ky×DV))|lkl (xs:List DV)|tp (xs:List DV)|er (nm f:Str) (xs:List DV)|own|ins (nm:Str) (fs:List (Str×DV))|gone
inductive R where
 | dat (d:D)|loc (n:Nat)|nl (xs:List DV)|nk (kvs:List (Ky×DV))
abbrev Mem:=List Pl
abbrev Env:=List (Option DV)
abbrev Pm:=Nat→Option Addr
structure Xc where
 nm:Str
 fs:List (Str×D)
inductive Res (α:Type) where
 | ok (a:α) (μ:Mem)|exc (x:Xc) (μ:Mem)|bad
def Res.bind {α β:Type}(r:Res α)(k:α→Mem→Res β):Res β:=match r with
 | .ok a μ=>k a μ
 | .exc x μ=>.exc x μ
 | .bad=>.bad
@[simp] theorem Res.bind_ok {α β:Type}(a:α)(μ:Mem)(k:α→Mem→Res β):(Res.ok a μ).bind k=k a μ:=rfl
@[simp] theorem Res.bind_exc {α β:Type}(x:Xc)(μ:Mem)(k:α→Mem→Res β):(Res.exc x μ).bind k=.exc x μ:=rfl
@[simp] theorem Res.bind_bad {α β:Type}(k:α→Mem→Res β):(Res.bad).bind k=.bad:=rfl
def EX (a C:Addr)(od:Option Addr):HO:=.ext fun h=>∃ ox,h.get? a=some ox∧ox.cls=.ref C∧ox.dict=od∧∃ vs,ox.data=.fields vs
abbrev EO (a C d:Addr):HO:=EX a C (some d)
mutual
inductive Rp (K:PySem.W.Frag) (G:Hp):V→D→Prop
 | non:Rp K G .non .non
 | bl (b):Rp K G (.bl b) (.bl b)
 | int (i):Rp K G (.int i) (.int i)
 | str (s):Rp K G (.str s) (.str s)
 | ty (n):Rp K G (.ty n) (.ty n)
 | ref (a):Rp K G (.ref a) (.ref a)
 | tup {a vs ds}:SqT K G a vs→RpL K G vs ds→Rp K G (.ref a) (.tup ds)
 | lst {a vs ds}:G a=some (.lst vs)→RpL K G vs ds→Rp K G (.ref a) (.lst ds)
 | fro {a vs ds}:SqL K G a vs→RpL K G vs ds→Rp K G (.ref a) (.fro ds)
 | dct {a o u vs} {ds:List (Ky×D)}:G a=some (.frz o u)→DctIs K G a u (ds.map (·.1)) vs →
   RpL K G vs (ds.map (·.2))→Rp K G (.ref a) (.dct ds)
 | ins {a dx C nm} {vs:List (Str×V)} {ds:List (Str×D)}:ClsAt K nm C→G a=some (.ins C dx vs)→G dx=some (.own a) →
   vs.map (·.1)=ds.map (·.1)→RpL K G (vs.map (·.2)) (ds.map (·.2))→Rp K G (.ref a) (.ins nm ds)
 | er0 {a C d nm}:ClsAt K nm C→Rp K G (.ref a) (.err a C d nm [])
 | eo {a C d nm}:ClsAt K nm C→G a=some (EO a C d)→G d=some (.own a)→Rp K G (.ref a) (.eo nm)
 | err {a C d nm} {vs:List (Str×V)} {ds:List (Str×D)}:ClsAt K nm C→G d=some (.xd vs)→vs.map (·.1)=ds.map (·.1)→RpL K G (vs.map (·.2)) (ds.map (·.2))→Rp K G (.ref a) (.err a C d nm ds)
inductive RpL (K:PySem.W.Frag) (G:Hp):List V→List D→Prop
 | nil:RpL K G [] []
 | cons {v vs d ds}:Rp K G v d→RpL K G vs ds→RpL K G (v::vs) (d::ds)
end
section
variable {K:PySem.W.Frag}{G G' H H':Hp}{ρ ρ':Pm}
mutual
theorem Rp.mono (e:Ex G G'):∀ {v:V} {d:D},Rp K G v d→Rp K G' v d
 | _,_,.non=>.non
 | _,_,.bl b=>.bl b
 | _,_,.int i=>.int i
 | _,_,.str s=>.str s
 | _,_,.ty n=>.ty n
 | _,_,.ref a=>.ref a
 | _,_,.tup h r=>.tup (ex_t e h) (RpL.mono e r)
 | _,_,.lst h r=>.lst (e _ _ h) (RpL.mono e r)
 | _,_,.fro h r=>.fro (ex_l e h) (RpL.mono e r)
 | _,_,.dct h k r=>.dct (e _ _ h) (k.mono e) (RpL.mono e r)
 | _,_,.ins c h o k r=>.ins c (e _ _ h) (e _ _ o) k (RpL.mono e r)
 | _,_,.er0 c=>.er0 c
 | _,_,.eo c h o=>.eo c (e _ _ h) (e _ _ o)
 | _,_,.err c h k r=>.err c (e _ _ h) k (RpL.mono e r)
theorem RpL.mono (e:Ex G G'):∀ {vs:List V} {ds:List D},RpL K G vs ds→RpL K G' vs ds
 | _,_,.nil=>.nil
 | _,_,.cons a b=>.cons (Rp.mono e a) (RpL.mono e b)
end
theorem RpL.length:∀ {vs:List V} {ds:List D},RpL K G vs ds→vs.length=ds.length
 | _,_,.nil=>rfl
 | _,_,.cons _ b=>congrArg (·+1) (RpL.length b)
theorem RpL.get:∀ {vs:List V} {ds:List D} {i:Nat} {v:V},RpL K G vs ds→vs[i]?=some v→∃ d,ds[i]?=some d∧Rp K G v d
 | _,_,_,_,.nil,h=>by simp at h
 | _,_,0,_,.cons a _,h=>by cases h;exact⟨_,rfl,a⟩
 | _,_,i+1,v,.cons _ b,h=>RpL.get (i:=i) b h
theorem RpL.get':∀ {vs:List V} {ds:List D} {i:Nat} {d:D},RpL K G vs ds→ds[i]?=some d→∃ v,vs[i]?=some v∧Rp K G v d
 | _,_,_,_,.nil,h=>by simp at h
 | _,_,0,_,.cons a _,h=>by cases h;exact⟨_,rfl,a⟩
 | _,_,i+1,v,.cons _ b,h=>RpL.get' (i:=i) b h
theorem RpL.take:∀ {vs:List V} {ds:List D} (n:Nat),RpL K G vs ds→RpL K G (vs.take n) (ds.take n)
 | _,_,0,_=>.nil
 | _,_,_+1,.nil=>.nil
 | _,_,n+1,.cons a b=>.cons a (RpL.take n b)
theorem RpL.drop:∀ {vs:List V} {ds:List D} (n:Nat),RpL K G vs ds→RpL K G (vs.drop n) (ds.drop n)
 | _,_,0,r=>r
 | _,_,_+1,.nil=>.nil
 | _,_,n+1,.cons _ b=>RpL.drop n b
theorem RpL.append:∀ {vs ws:List V} {ds es:List D},RpL K G vs ds→RpL K G ws es→RpL K G (vs++ws) (ds++es)
 | _,_,_,_,.nil,r=>r
 | _,_,_,_,.cons a b,r=>.cons a (RpL.append b r)
def DvOk (K:PySem.W.Frag)(ρ:Pm)(G:Hp)(v:V):DV→Prop
 | .dat d=>Rp K G v d
 | .loc n=>∃ a,v=.ref a∧ρ n=some a
abbrev DvL (K:PySem.W.Frag)(ρ:Pm)(G:Hp):List V→List DV→Prop:=Paired (DvOk K ρ G)
def DV.below (n:Nat):DV→Prop
 | .dat _=>True
 | .loc m=>m<n
theorem DvOk.mono (e:Ex G G')(hρ:∀ n a,ρ n=some a→ρ' n=some a){v:V}:∀ {x:DV},DvOk K ρ G v x→DvOk K ρ' G' v x
 | .dat _,h=>Rp.mono e h
 | .loc _,⟨a,h,q⟩=>⟨a,h,hρ _ _ q⟩
theorem DvL.mono (e:Ex G G')(hρ:∀ n a,ρ n=some a→ρ' n=some a){vs:List V}{xs:List DV}(h:DvL K ρ G vs xs):DvL K ρ' G' vs xs :=
 Paired.mapP h fun _ _ q=>q.mono e hρ
def ErK (K:PySem.W.Frag)(G:Hp)(nm f:Str)(d:Addr×Option Addr)(vs:List V):Prop:=ClsAt K nm d.1∧(d.2=none∧vs=[]∨∃ q,d.2=some q∧G q=some (.xd (vs.map fun v=>(f,v))))
theorem ErK.mono {K:PySem.W.Frag}{G G':Hp}{nm f:Str}{d:Addr×Option Addr}{vs:List V}(h:ErK K G nm f d vs)(e:Ex G G'):ErK K G' nm f d vs:=⟨h.1,h.2.imp id fun⟨q,a,b⟩=>⟨q,a,e _ _ b⟩⟩
def PlOk (K:PySem.W.Frag)(ρ:Pm)(G H:Hp)(n:Nat):Pl→Prop
 | .lst xs=>(∀ x∈xs,x.below n)∧∃ a vs,ρ n=some a∧H a=some (.lst vs)∧DvL K ρ G vs xs
 | .dct kvs=>(∀ p∈kvs,p.2.below n)∧∃ (a:Addr) (o:HO) (vs:List V),ρ n=some a∧H a=some o ∧
   DctIs K G a o (kvs.map (·.1)) vs∧DvL K ρ G vs (kvs.map (·.2))
 | .lkd kvs=>(∀ p∈kvs,p.2.below n)∧∃ (a:Addr) (o:HO) (vs:List V),ρ n=some a∧H a=some o ∧
   LkIs K G a o (kvs.map (·.1)) vs∧DvL K ρ G vs (kvs.map (·.2))
 | .lkl xs=>(∀ x∈xs,x.below n)∧∃ a od vs,ρ n=some a∧H a=some (.frz od (.lst vs))∧DvL K ρ G vs xs
 | .tp xs=>(∀ x∈xs,x.below n)∧∃ (a:Addr) (_:Unit) (vs:List V),ρ n=some a∧H a=some (.tup vs)∧DvL K ρ G vs xs
 | .er nm f xs=>(∀ x∈xs,x.below n)∧∃ (a:Addr) (d:Addr×Option Addr) (vs:List V),ρ n=some a∧H a=some (EX a d.1 d.2)∧ErK K G nm f d vs∧DvL K ρ G vs xs
 | .own=>∃ a b,ρ n=some a∧H a=some (.own b)
 | .ins nm fs=>(∀ p∈fs,p.2.below n)∧∃ (a dx C:Addr) (vs:List (Str×V)) (m:Nat),(n=m+1∧ρ m=some dx)∧ρ n=some a∧H a=some (.ins C dx vs)∧ClsAt K nm C∧H dx=some (.own a) ∧
   vs.map (·.1)=fs.map (·.1)∧DvL K ρ G (vs.map (·.2)) (fs.map (·.2))
 | .gone=>ρ n=none
structure Rel (K:PySem.W.Frag)(ρ:Pm)(G H:Hp)(μ:Mem):Prop where
 ex:Ex G H
 inj:∀ m n a,ρ m=some a→ρ n=some a→m=n
 nG:∀ n a,ρ n=some a→G a=none
 lt:∀ n a,ρ n=some a→n<μ.length
 hs:∀ n a,ρ n=some a→H a≠none
 pl:∀ n p,μ[n]?=some p→PlOk K ρ G H n p
structure Tr (ρ:Pm)(G H G' H':Hp):Prop where
 exG:Ex G G'
 keep:∀ a o,(∀ n,ρ n≠some a)→H a=some o→H' a=some o
 th:∀ a,H' a=none→H a=none
 nG:∀ a,G' a≠none→G a≠none∨H a=none
 fz:∀ a od u,H a=some (.frz od u)→H' a=some (.frz od u)
theorem Tr.refl (ρ:Pm)(G H:Hp):Tr ρ G H G H:=⟨Ex.refl _,fun _ _ _ h=>h,fun _ h=>h,fun _ h=>.inl h,fun _ _ _ h=>h⟩
theorem Tr.trans {G1 H1 G2 H2:Hp}(a:Tr ρ G H G1 H1)(b:Tr ρ G1 H1 G2 H2):Tr ρ G H G2 H2 where
 exG:=a.exG.trans b.exG
 keep:=fun c o hc h=>b.keep c o hc (a.keep c o hc h)
 th:=fun c h=>a.th c (b.th c h)
 nG:=fun c h=>(b.nG c h).elim (a.nG c) fun q=>.inr (a.th c q)
 fz:=fun c od u h=>b.fz c od u (a.fz c od u h)
theorem Rel.pmono {G1:Hp}{μ:Mem}(r:Rel K ρ G H μ){n:Nat}{p:Pl}(h:PlOk K ρ G H n p)(e:Ex G G1):PlOk K ρ G1 H n p:=by
 cases p with
 | lst xs=>obtain⟨b,a,vs,h1,h2,h3⟩:=h;exact⟨b,a,vs,h1,h2,DvL.mono e (fun _ _ q=>q) h3⟩
 | dct kvs=>obtain⟨b,a,o,vs,h1,h2,h4,h3⟩:=h;exact⟨b,a,o,vs,h1,h2,h4.mono e,DvL.mono e (fun _ _ q=>q) h3⟩
 | lkd kvs=>obtain⟨b,a,o,vs,h1,h2,h4,h3⟩:=h;exact⟨b,a,o,vs,h1,h2,h4.mono e,DvL.mono e (fun _ _ q=>q) h3⟩
 | lkl xs=>obtain⟨b,a,o,vs,h1,h2,h3⟩:=h;exact⟨b,a,o,vs,h1,h2,DvL.mono e (fun _ _ q=>q) h3⟩
 | tp xs=>obtain⟨b,a,o,vs,h1,h2,h3⟩:=h;exact⟨b,a,o,vs,h1,h2,DvL.mono e (fun _ _ q=>q) h3⟩
 | er nm' f' xs=>obtain⟨b,a,o,vs,h1,h2,h3⟩:=h;exact⟨b,a,o,vs,h1,h2,⟨h3.1.mono e,DvL.mono e (fun _ _ q=>q) h3.2⟩⟩
 | own=>exact h
 | ins nm fs=>obtain⟨b,a,dx,C,vs,m,hm,h1,h2,c,h4,h5,h3⟩:=h;exact⟨b,a,dx,C,vs,m,hm,h1,h2,c,h4,h5,DvL.mono e (fun _ _ q=>q) h3⟩
 | gone=>exact h
theorem Rel.lay {μ:Mem}{p:Addr}{o:HO}(r:Rel K ρ G H μ)(hp:H p=none):Rel K ρ G (upd H p o) μ∧Tr ρ G H G (upd H p o):=by
 have nG:G p=none:=by
  cases q:G p with
  | none=>rfl
  | some u=>rw[r.ex _ _ q] at hp;cases hp
 have ne:∀ a u,H a=some u→a≠p:=fun a u h e=>by rw[e,hp] at h;cases h
 refine⟨⟨fun a u h=>?_,r.inj,r.nG,r.lt,fun n a h q=>?_,fun n q h=>?_⟩,⟨Ex.refl _,fun a u _ h=>?_,fun a h=>?_,fun a h=>.inl h,fun a od u h=>by rw[upd_ne (ne a _ h)];exact h⟩⟩
 ·rw[upd_ne (ne a u (r.ex a u h))];exact r.ex a u h
 ·have z:=r.hs n a h
  by_cases e:a=p
  ·rw[e] at z;exact z hp
  ·rw[upd_ne e] at q;exact z q
 ·have z:=r.pl n q h
  cases q with
  | lst xs=>obtain⟨b,a,vs,h1,h2,h3⟩:=z;exact⟨b,a,vs,h1,by rw[upd_ne (ne _ _ h2)];exact h2,h3⟩
  | dct kvs=>obtain⟨b,a,o,vs,h1,h2,h3⟩:=z;exact⟨b,a,o,vs,h1,by rw[upd_ne (ne _ _ h2)];exact h2,h3⟩
  | lkd kvs=>obtain⟨b,a,o,vs,h1,h2,h3⟩:=z;exact⟨b,a,o,vs,h1,by rw[upd_ne (ne _ _ h2)];exact h2,h3⟩
  | lkl xs=>obtain⟨b,a,o,vs,h1,h2,h3⟩:=z;exact⟨b,a,o,vs,h1,by rw[upd_ne (ne _ _ h2)];exact h2,h3⟩
  | tp xs=>obtain⟨b,a,o,vs,h1,h2,h3⟩:=z;exact⟨b,a,o,vs,h1,by rw[upd_ne (ne _ _ h2)];exact h2,h3⟩
  | er nm' f' xs=>obtain⟨b,a,o,vs,h1,h2,h3⟩:=z;exact⟨b,a,o,vs,h1,by rw[upd_ne (ne _ _ h2)];exact h2,h3⟩
  | own=>obtain⟨a,b,h1,h2⟩:=z;exact⟨a,b,h1,by rw[upd_ne (ne _ _ h2)];exact h2⟩
  | ins nm fs=>obtain⟨b,a,dx,C,vs,m,hm,h1,h2,c,h4,h3⟩:=z;exact⟨b,a,dx,C,vs,m,hm,h1,by rw[upd_ne (ne _ _ h2)];exact h2,c,by rw[upd_ne (ne _ _ h4)];exact h4,h3⟩
  | gone=>exact z
 ·rw[upd_ne (ne a u h)];exact h
 ·by_cases e:a=p
  ·rw[e];exact hp
  ·rw[upd_ne e] at h;exact h
theorem Rel.freeze {H0 G0:Hp}{μ:Mem}{p:Addr}{o:HO}(r:Rel K ρ G H μ)(t:Tr ρ G0 H0 G H)(h:H p=some o)(h0:H0 p=none)(hg:G p=none)(hn:∀ n,ρ n≠some p) :
  Rel K ρ (upd G p o) H μ∧Tr ρ G0 H0 (upd G p o) H∧Ex G (upd G p o):=by
 have ex:Ex G (upd G p o):=Ex.new hg
 refine⟨⟨fun a u q=>?_,r.inj,fun n a q=>?_,r.lt,r.hs,fun n q z=>r.pmono (r.pl n q z) ex⟩,⟨t.exG.trans ex,t.keep,t.th,fun a q=>?_,t.fz⟩,ex⟩
 ·by_cases e:a=p
  ·subst e;rw[upd_same] at q;cases q;exact h
  ·rw[upd_ne e] at q;exact r.ex a u q
 ·have e:a≠p:=fun e=>hn n (e▸q)
  rw[upd_ne e];exact r.nG n a q
 ·by_cases e:a=p
  ·subst e;exact .inr h0
  ·rw[upd_ne e] at q;exact t.nG a q
theorem Rel.layD {μ:Mem}{p:Addr}{o:HO}(r:Rel K ρ G H μ)(hp:H p=none):Rel K ρ (upd G p o) (upd H p o) μ∧Tr ρ G H (upd G p o) (upd H p o)∧Ex G (upd G p o):=by
 have nG:G p=none:=by
  cases q:G p with
  | none=>rfl
  | some u=>rw[r.ex _ _ q] at hp;cases hp
 obtain⟨r1,t1⟩:=r.lay (o:=o) hp
 exact r1.freeze t1 upd_same hp nG fun n q=>r.hs n p q hp
end
structure EnvOk (K:PySem.W.Frag)(ρ:Pm)(G:Hp)(σ:Slots)(δ:Env):Prop where
 len:σ.length=δ.length
 at_:∀ (i:Nat) (x:DV),δ[i]?=some (some x)→∃ v,σ[i]?=some (some v)∧DvOk K ρ G v x
def RpR (K:PySem.W.Frag)(ρ:Pm)(G H0 H:Hp)(v:V):R→Prop
 | .dat d=>Rp K G v d
 | .loc n=>∃ a,v=.ref a∧ρ n=some a
 | .nl xs=>∃ a vs,v=.ref a∧H a=some (.lst vs)∧DvL K ρ G vs xs∧G a=none∧(∀ n,ρ n≠some a)∧H0 a=none
 | .nk kvs=>∃ (a:Addr) (o:HO) (vs:List V),v=.ref a∧H a=some o∧DctIs K G a o (kvs.map (·.1)) vs ∧
   DvL K ρ G vs (kvs.map (·.2))∧G a=none∧(∀ n,ρ n≠some a)∧H0 a=none
def XcOk (K:PySem.W.Frag)(G H:Hp)(x:Xc)(cls:Value)(d:Option Addr):Prop :=
 (∃ C,ClsAt K x.nm C∧cls=.ref C)∧((x.fs=[]∧d=none)∨x.fs≠[]∧∃ (a:Addr) (vs:List (Str×V)),d=some a∧G a=some (.xd vs) ∧
  vs.map (·.1)=x.fs.map (·.1)∧RpL K G (vs.map (·.2)) (x.fs.map (·.2)))
def PostG {α β:Type}(K:PySem.W.Frag)(W:WX)(ρ:Pm)(G H:Hp)(σ:Slots)(rp:Hp→Hp→β→α→Prop)(Q:β→Hp→Prop):Res α→Prop
 | .ok r μ'=>∀ G' H' v,Tr ρ G H G' H'→Rel K ρ G' H' μ'→rp G' H' v r→Q v H'
 | .exc x μ'=>∀ G' H' cls d,Tr ρ G H G' H'→Rel K ρ G' H' μ'→XcOk K G' H' x cls d→W cls d σ H'
 | .bad=>False
def SndG {α β:Type}(K:PySem.W.Frag)(W:WX)(t:Slots→Hp→(β→Hp→Prop)→Prop)(f:Env→Mem→Res α)
  (rp:Pm→Hp→Hp→Hp→β→α→Prop):Prop :=
 ∀ (ρ:Pm) (G H:Hp) (σ:Slots) (δ:Env) (μ:Mem) (Q:β→Hp→Prop),Rel K ρ G H μ→EnvOk K ρ G σ δ →
  PostG K W ρ G H σ (fun G' H'=>rp ρ G' H H') Q (f δ μ)→t σ H Q
abbrev rpE (K:PySem.W.Frag):Pm→Hp→Hp→Hp→V→R→Prop:=fun ρ G' H H' v r=>RpR K ρ G' H H' v r
abbrev rpV (K:PySem.W.Frag):Pm→Hp→Hp→Hp→V→DV→Prop:=fun ρ G' _ _ v x=>DvOk K ρ G' v x
abbrev rpA (K:PySem.W.Frag):Pm→Hp→Hp→Hp→List V→List DV→Prop:=fun ρ G' _ _ v x=>DvL K ρ G' v x
abbrev rpT {α:Type}:Pm→Hp→Hp→Hp→α→α→Prop:=fun _ _ _ _ v x=>v=x
abbrev EM:=Env→Mem→Res R
abbrev VM:=Env→Mem→Res DV
abbrev AM:=Env→Mem→Res (List DV)
abbrev TM:=Env→Mem→Res Bool
abbrev SndE (K:PySem.W.Frag)(W:WX)(t:TE)(f:EM):Prop:=SndG K W t f (rpE K)
abbrev SndV (K:PySem.W.Frag)(W:WX)(t:TE)(f:VM):Prop:=SndG K W t f (rpV K)
abbrev SndA (K:PySem.W.Frag)(W:WX)(t:TA)(f:AM):Prop:=SndG K W t f (rpA K)
abbrev SndT (K:PySem.W.Frag)(W:WX)(t:TT)(f:TM):Prop:=SndG K W t f rpT
section
variable {K:PySem.W.Frag}{W:WX}{ρ:Pm}{G H G1 H1:Hp}{σ:Slots}{δ:Env}{μ:Mem}
theorem EnvOk.mono (e:EnvOk K ρ G σ δ)(x:Ex G G1):EnvOk K ρ G1 σ δ :=
 ⟨e.len,fun i d h=>let ⟨v,a,b⟩:=e.at_ i d h;⟨v,a,b.mono x fun _ _ q=>q⟩⟩
theorem RpR.back {G' H':Hp}{v:V}(h:∀ a,H1 a=none→H a=none):∀ {r:R},RpR K ρ G' H1 H' v r→RpR K ρ G' H H' v r
 | .dat _,q=>q
 | .loc _,q=>q
 | .nl _,⟨a,vs,h1,h2,h3,h4,h5,h6⟩=>⟨a,vs,h1,h2,h3,h4,h5,h a h6⟩
 | .nk _,⟨a,o,vs,h1,h2,h2',h3,h4,h5,h6⟩=>⟨a,o,vs,h1,h2,h2',h3,h4,h5,h a h6⟩
theorem PostG.shift {α β:Type}{rp rp1:Hp→Hp→β→α→Prop}{Q:β→Hp→Prop}{out:Res α}(t:Tr ρ G H G1 H1)
  (hr:∀ G' H' v r,rp1 G' H' v r→rp G' H' v r) (h:PostG K W ρ G H σ rp Q out):PostG K W ρ G1 H1 σ rp1 Q out:=by
 cases out with
 | ok r μ'=>exact fun G' H' v t' R' q=>h G' H' v (t.trans t') R' (hr _ _ _ _ q)
 | exc x μ'=>exact fun G' H' cls d t' R' q=>h G' H' cls d (t.trans t') R' q
 | bad=>exact h
theorem PostG.shiftE {Q:VK}{out:Res R}(t:Tr ρ G H G1 H1)(h:PostG K W ρ G H σ (fun G' H'=>rpE K ρ G' H H') Q out) :
  PostG K W ρ G1 H1 σ (fun G' H'=>rpE K ρ G' H1 H') Q out:=h.shift t fun _ _ _ _ q=>q.back t.th
theorem SndG.seq {α α' β β':Type}{t:Slots→Hp→(β→Hp→Prop)→Prop}{f:Env→Mem→Res α}{rp:Pm→Hp→Hp→Hp→β→α→Prop}
  (h:SndG K W t f rp) (R:Rel K ρ G H μ) (E:EnvOk K ρ G σ δ) {rp':Hp→Hp→β'→α'→Prop} {Q':β'→Hp→Prop} {k:α→Mem→Res α'}
  (hp:PostG K W ρ G H σ rp' Q' ((f δ μ).bind k)) {Q:β→Hp→Prop}
  (go:∀ r μ' G' H' v,Tr ρ G H G' H'→Rel K ρ G' H' μ'→EnvOk K ρ G' σ δ→rp ρ G' H H' v r→PostG K W ρ G H σ rp' Q' (k r μ')→Q v H'):t σ H Q:=by
 refine h ρ G H σ δ μ Q R E ?_
 cases e:f δ μ with
 | ok r μ'=>rw[e] at hp;exact fun G' H' v t' R' q=>go r μ' G' H' v t' R' (E.mono t'.exG) q hp
 | exc x μ'=>rw[e] at hp;exact hp
 | bad=>rw[e] at hp;exact hp
def allDat:List DV→Option (List D)
 | []=>some []
 | .dat d::xs=>(allDat xs).map (d::·)
 | .loc _::_=>none
def frz:R→Option DV
 | .dat d=>some (.dat d)
 | .loc n=>some (.loc n)
 | .nl xs=>(allDat xs).map fun ds=>.dat (.lst ds)
 | .nk _=>none
theorem allDat_map (ds:List D):allDat (ds.map DV.dat)=some ds:=by
 induction ds with
 | nil=>rfl
 | cons d r ih=>simp[allDat,ih]
theorem allDat_ok:∀ {xs:List DV} {ds:List D} {vs:List V},allDat xs=some ds→DvL K ρ G vs xs→RpL K G vs ds
 | [],_,_,h,r=>by cases h;cases r;exact .nil
 | .dat d::xs,ds,vs,h,r=>by
  cases r with
  | cons r1 r2 =>
   simp only[allDat] at h
   cases e:allDat xs with
   | none=>rw[e] at h;cases h
   | some es=>rw[e] at h;cases h;exact .cons r1 (allDat_ok e r2)
 | .loc _::_,_,_,h,_=>by cases h
def frzV (f:EM):VM:=fun δ μ=>(f δ μ).bind fun r μ'=>match frz r with
 | some x=>.ok x μ'
 | none=>.bad
theorem RpR.frz {G0 H0:Hp}{v:V}{r:R}{x:DV}(h:RpR K ρ G H0 H v r)(R:Rel K ρ G H μ)(t:Tr ρ G0 H0 G H)(e:frz r=some x) :
  ∃ G',Tr ρ G0 H0 G' H∧Rel K ρ G' H μ∧DvOk K ρ G' v x∧Ex G G':=by
 cases r with
 | dat d=>cases e;exact⟨G,t,R,h,Ex.refl _⟩
 | loc n=>cases e;exact⟨G,t,R,h,Ex.refl _⟩
 | nl xs =>
  obtain⟨a,vs,rfl,h2,h3,h4,h5,h6⟩:=h
  simp only[DL.frz] at e
  cases q:allDat xs with
  | none=>rw[q] at e;cases e
  | some ds =>
   rw[q] at e;cases e
   obtain⟨R',t',ex⟩:=R.freeze t h2 h6 h4 h5
   exact⟨_,t',R',Rp.lst upd_same (RpL.mono ex (allDat_ok q h3)),ex⟩
 | nk kvs=>cases e
theorem SndE.toV {t:TE}{f:EM}(h:SndE K W t f):SndV K W t (frzV f):=fun ρ G H σ δ μ Q R E hp=>by
 refine SndG.seq (t:=t) h R E hp fun r μ' G' H' v t' R' E' q hp'=>?_
 cases e:frz r with
 | none=>rw[e] at hp';exact hp'.elim
 | some x =>
  rw[e] at hp'
  obtain⟨G2,t2,R2,d2,_⟩:=RpR.frz q R' t' e
  exact hp' G2 H' v t2 R2 d2
def ofV (x:DV):R:=match x with
 | .dat d=>.dat d
 | .loc n=>.loc n
theorem RpR.ofV {H0:Hp}{v:V}{x:DV}(h:DvOk K ρ G v x):RpR K ρ G H0 H v (ofV x):=by
 cases x <;> exact h
end
structure PM (X:Cx)(W:WX)(e:Expr)(te:TE)(f:EM):Prop where
 pe:PE X e te
 sd:SndE X.K W te f
structure PMA (X:Cx)(W:WX)(es:List Expr)(ta:TA)(f:AM):Prop where
 pe:PA X es ta
 sd:SndA X.K W ta f
structure PMT (X:Cx)(W:WX)(e:Expr)(tt:TT)(f:TM):Prop where
 pe:PT X e tt
 sd:SndT X.K W tt f
section
variable {X:Cx}{W:WX}
def eVar (i:Nat):EM:=fun δ μ=>match δ[i]? with
 | some (some x)=>.ok (ofV x) μ
 | _=>.bad
def eD (d:D):EM:=fun _ μ=>.ok (.dat d) μ
theorem snd_var {K:PySem.W.Frag}(i:Nat):SndE K W (tVar i) (eVar i):=fun ρ G H σ δ μ Q R E hp=>by
 unfold eVar at hp
 match e:δ[i]? with
 | none=>rw[e] at hp;exact hp.elim
 | some none=>rw[e] at hp;exact hp.elim
 | some (some x) =>
  rw[e] at hp
  obtain⟨v,hv,d⟩:=E.at_ i x e
  exact⟨v,hv,hp G H v (Tr.refl _ _ _) R (RpR.ofV d)⟩
theorem snd_c {K:PySem.W.Frag}{v:V}{d:D}(h:∀ G,Rp K G v d):SndE K W (tC v) (eD d):=fun ρ G H σ δ μ Q R E hp =>
 hp G H v (Tr.refl _ _ _) R (h G)
theorem pm_var (i:Nat){x:Str}{pos:Pos}(hN:X.N[i]?=some x:=by rfl)(hv:Vis X.env.scope x:=by first|exact Or.inl rfl|exact Or.inr (Or.inl rfl)|exact Or.inr (Or.inr rfl))
  (hd:(x==("__debug__":Str))=false:=by decide) (hcd:(x==("__classdict__":Str))=false:=by decide):PM X W (.Name x pos) (tVar i) (eVar i):=⟨pe_var hN hv hd hcd,snd_var i⟩
theorem pm_int {i j pos}:PM X W (.Constant (.int i) j pos) (tC (.int i)) (eD (.int i)):=⟨pe_int,snd_c fun _=>.int i⟩
theorem pm_str {s j pos}:PM X W (.Constant (.str s) j pos) (tC (.str s)) (eD (.str s)):=⟨pe_str,snd_c fun _=>.str s⟩
theorem pm_bl {b j pos}:PM X W (.Constant (.bool b) j pos) (tC (.bl b)) (eD (.bl b)):=⟨pe_bl,snd_c fun _=>.bl b⟩
theorem pm_non {j pos}:PM X W (.Constant .none j pos) (tC .non) (eD .non):=⟨pe_non,snd_c fun _=>.non⟩
def aNil:AM:=fun _ μ=>.ok [] μ
def aCons (f:EM)(g:AM):AM:=fun δ μ=>(frzV f δ μ).bind fun x μ1=>(g δ μ1).bind fun xs μ2=>.ok (x::xs) μ2
theorem snd_nil {K:PySem.W.Frag}:SndA K W tNil aNil:=fun ρ G H σ δ μ Q R E hp=>hp G H [] (Tr.refl _ _ _) R .nil
theorem snd_cons {K:PySem.W.Frag}{t:TE}{ts:TA}{f:EM}{g:AM}(h:SndE K W t f)(hs:SndA K W ts g):SndA K W (tCons t ts) (aCons f g):=fun ρ G H σ δ μ Q R E hp=>by
 refine SndG.seq (t:=t) h.toV R E hp fun x μ1 G1 H1 v t1 R1 E1 d1 hp1=>?_
 refine SndG.seq (t:=ts) hs R1 E1 (hp1.shift t1 fun _ _ _ _ q=>q) fun xs μ2 G2 H2 vs t2 R2 E2 d2 hp2=>?_
 exact hp2 G2 H2 (v::vs) t2 R2 (.cons (d1.mono t2.exG fun _ _ q=>q) d2)
theorem pma_nil:PMA X W [] tNil aNil:=⟨pa_nil,snd_nil⟩
theorem pma_cons {e:Expr}{es:List Expr}{t:TE}{ts:TA}{f:EM}{g:AM}(h:PM X W e t f)(hs:PMA X W es ts g)(hst:starEach (e::es) X.env=(false,eval e X.env)::starEach es X.env:=by rfl):PMA X W (e::es) (tCons t ts) (aCons f g) :=
 ⟨pa_cons h.pe hs.pe hst,snd_cons h.sd hs.sd⟩
def eTup (g:AM):EM:=fun δ μ=>(g δ μ).bind fun xs μ1=>match allDat xs with
 | some ds=>if ds.length≤sizeLine then .ok (.dat (.tup ds)) μ1 else .bad
 | none=>.bad
def eLst (g:AM):EM:=fun δ μ=>(g δ μ).bind fun xs μ1=>if xs.length≤sizeLine then .ok (.nl xs) μ1 else .bad
theorem pm_tup {es:List Expr}{x1}{pos:Pos}{ts:TA}{g:AM}(h:PMA X W es ts g):PM X W (.Tuple es x1 pos) (tTup ts) (eTup g):=⟨pe_tup h.pe,fun ρ G H σ δ μ Q R E hp=>by
 refine SndG.seq (t:=ts) h.sd R E hp fun xs μ1 G1 H1 vs t1 R1 E1 d1 hp1=>?_
 match e:allDat xs with
 | none=>simp only[e] at hp1;exact hp1.elim
 | some ds =>
  simp only[e] at hp1
  have rl:=allDat_ok e d1
  by_cases hz:ds.length≤sizeLine
  ·rw[if_pos hz] at hp1
   refine⟨by rw[rl.length];exact hz,fun p hn=>?_⟩
   obtain⟨R2,t2,ex⟩:=R1.layD (o:=.tup vs) hn
   exact hp1 _ _ _ (t1.trans t2) R2 (Rp.tup (.inl (.inl upd_same)) (rl.mono ex))
  ·rw[if_neg hz] at hp1;exact hp1.elim⟩
theorem fresh_ne {K:PySem.W.Frag}{ρ:Pm}{G H:Hp}{μ:Mem}{p:Addr}(R:Rel K ρ G H μ)(hp:H p=none):G p=none∧∀ n,ρ n≠some p:=by
 refine⟨?_,fun n q=>R.hs n p q hp⟩
 cases q:G p with
 | none=>rfl
 | some u=>rw[R.ex _ _ q] at hp;cases hp
theorem paired_len {α β:Type}{P:α→β→Prop}:∀ {l:List α} {m:List β},Paired P l m→l.length=m.length
 | _,_,.nil=>rfl
 | _,_,.cons _ t=>congrArg (·+1) (paired_len t)
theorem new_list {K:PySem.W.Frag}{ρ:Pm}{G H G0 H0:Hp}{μ:Mem}{p:Addr}{vs:List V}{xs:List DV}{σ:Slots}{Q:VK}(R:Rel K ρ G H μ)(t:Tr ρ G0 H0 G H)(hn:H p=none)(d:DvL K ρ G vs xs)
  (hp:PostG K W ρ G0 H0 σ (fun G' H'=>rpE K ρ G' H0 H') Q (.ok (.nl xs) μ)):Q (.ref p) (upd H p (.lst vs)):=by
 obtain⟨R2,t2⟩:=R.lay (o:=.lst vs) hn
 obtain⟨n1,n2⟩:=fresh_ne R hn
 exact hp _ _ _ (t.trans t2) R2 ⟨p,vs,rfl,upd_same,d,n1,n2,t.th p hn⟩
theorem pm_lst {es:List Expr}{pos:Pos}{ts:TA}{g:AM}(h:PMA X W es ts g):PM X W (.List es pos) (tLst ts) (eLst g):=⟨pe_lst h.pe,fun ρ G H σ δ μ Q R E hp=>by
 refine SndG.seq (t:=ts) h.sd R E hp fun xs μ1 G1 H1 vs t1 R1 E1 d1 hp1=>?_
 by_cases hz:xs.length≤sizeLine
 ·rw[if_pos hz] at hp1
  exact⟨by rw[paired_len d1];exact hz,fun p hn=>new_list R1 t1 hn d1 hp1⟩
 ·rw[if_neg hz] at hp1;exact hp1.elim⟩
def OpD (K:PySem.W.Frag)(r:R2)(g:DV→DV→Mem→Res R):Prop:=∀ (W:WX) (ρ:Pm) (G H:Hp) (σ:Slots) (μ:Mem) (v w:V) (x y:DV) (Q:VK),Rel K ρ G H μ→DvOk K ρ G v x→DvOk K ρ G w y →
 PostG K W ρ G H σ (fun G' H'=>rpE K ρ G' H H') Q (g x y μ)→r v w H Q
def eOp (g:DV→DV→Mem→Res R)(fa fb:EM):EM:=fun δ μ=>(frzV fa δ μ).bind fun x μ1=>(frzV fb δ μ1).bind fun y μ2=>g x y μ2
theorem snd_op {K:PySem.W.Frag}{r:R2}{g:DV→DV→Mem→Res R}{ta tb:TE}{fa fb:EM}(ho:OpD K r g)(ha:SndE K W ta fa)(hb:SndE K W tb fb):SndE K W (tOp r ta tb) (eOp g fa fb):=fun ρ G H σ δ μ Q R E hp=>by
 refine SndG.seq (t:=ta) ha.toV R E hp fun x μ1 G1 H1 v t1 R1 E1 d1 hp1=>?_
 refine SndG.seq (t:=tb) hb.toV R1 E1 (hp1.shiftE t1) fun y μ2 G2 H2 w t2 R2 E2 d2 hp2=>?_
 exact ho W ρ G2 H2 σ μ2 v w x y Q R2 (d1.mono t2.exG fun _ _ q=>q) d2 (hp2.shiftE t2)
def CallD (K:PySem.W.Frag)(r:List V→Hp→VK→Prop)(g:List DV→Mem→Res R):Prop:=∀ (W:WX) (ρ:Pm) (G H:Hp) (σ:Slots) (μ:Mem) (vs:List V) (xs:List DV) (Q:VK),Rel K ρ G H μ→DvL K ρ G vs xs →
 PostG K W ρ G H σ (fun G' H'=>rpE K ρ G' H H') Q (g xs μ)→r vs H Q
def eCB (g:List DV→Mem→Res R)(fa:AM):EM:=fun δ μ=>(fa δ μ).bind fun xs μ1=>g xs μ1
theorem snd_cb {K:PySem.W.Frag}{r:List V→Hp→VK→Prop}{g:List DV→Mem→Res R}{ta:TA}{fa:AM}(ho:CallD K r g)(ha:SndA K W ta fa):SndE K W (tCB r ta) (eCB g fa):=fun ρ G H σ δ μ Q R E hp=>by
 refine SndG.seq (t:=ta) ha R E hp fun xs μ1 G1 H1 vs t1 R1 E1 d1 hp1=>?_
 exact ho W ρ G1 H1 σ μ1 vs xs Q R1 d1 (hp1.shiftE t1)
theorem pm_op {a b:Expr}{op:Operator}{r:R2}{g:DV→DV→Mem→Res R}{ta tb:TE}{fa fb:EM}{pos:Pos}(ho:OpR X (binaryOp op) r)(hd:OpD X.K r g)(ha:PM X W a ta fa)(hb:PM X W b tb fb):PM X W (.BinOp a op b pos) (tOp r ta tb) (eOp g fa fb) :=
 ⟨pe_op ho ha.pe hb.pe,snd_op hd ha.sd hb.sd⟩
theorem pm_cmp {a b:Expr}{op:CmpOp}{r:R2}{g:DV→DV→Mem→Res R}{ta tb:TE}{fa fb:EM}{pos:Pos}(ho:OpR X (compareOp op) r)(hd:OpD X.K r g)(ha:PM X W a ta fa)(hb:PM X W b tb fb)(hm:behindInMarks op b=false):PM X W (.Compare a [op] [b] pos) (tOp r ta tb) (eOp g fa fb) :=
 ⟨pe_cmpR ho ha.pe hb.pe hm,snd_op hd ha.sd hb.sd⟩
theorem pm_ix {a b:Expr}{r:R2}{g:DV→DV→Mem→Res R}{ta tb:TE}{fa fb:EM}{pos:Pos}(ho:IxR X r)(hd:OpD X.K r g)(ha:PM X W a ta fa)(hb:PM X W b tb fb)(hs:PlainIx b):PM X W (.Subscript a b pos) (tOp r ta tb) (eOp g fa fb) :=
 ⟨pe_ix ho ha.pe hb.pe hs,snd_op hd ha.sd hb.sd⟩
end
inductive Out where
 | next (δ:Env) (μ:Mem)|ret (r:R) (μ:Mem)|brk (δ:Env) (μ:Mem)|cnt (δ:Env) (μ:Mem)
 | exc (x:Xc) (δ:Env) (μ:Mem)|bad
abbrev SM:=Nat→Env→Mem→Out
structure TrS (N:Nat)(ρ:Pm)(G H:Hp)(ρ':Pm)(G' H':Hp):Prop where
 pre:∀ n,n<N→ρ' n=ρ n
 exG:Ex G G'
 keep:∀ a o,(∀ n,ρ n≠some a)→H a=some o→H' a=some o
 th:∀ a,H' a=none→H a=none
 nG:∀ a,G' a≠none→G a≠none∨H a=none∨∃ n,N≤n∧ρ n=some a
 nρ:∀ n a,ρ' n=some a→(ρ n=some a∨∃ m,N≤m∧ρ m=some a)∨H a=none
 fz:∀ a od u,H a=some (.frz od u)→H' a=some (.frz od u)
section
variable {K:PySem.W.Frag}{W:WX}{N:Nat}{ρ ρ1 ρ2:Pm}{G H G1 H1 G2 H2:Hp}{σ:Slots}{δ:Env}{μ:Mem}{D:Ends}
theorem TrS.refl (N:Nat)(ρ:Pm)(G H:Hp):TrS N ρ G H ρ G H:=⟨fun _ _=>rfl,Ex.refl _,fun _ _ _ h=>h,fun _ h=>h,fun _ h=>.inl h,fun _ _ h=>.inl (.inl h),fun _ _ _ h=>h⟩
theorem TrS.trans (a:TrS N ρ G H ρ1 G1 H1)(b:TrS N ρ1 G1 H1 ρ2 G2 H2):TrS N ρ G H ρ2 G2 H2 where
 pre:=fun n h=>(b.pre n h).trans (a.pre n h)
 exG:=a.exG.trans b.exG
 keep:=fun c o hc h=>b.keep c o (fun n q=>(a.nρ n c q).elim (fun z=>z.elim (hc n) fun⟨m,_,w⟩=>hc m w) fun z=>by rw[z] at h;cases h) (a.keep c o hc h)
 th:=fun c h=>a.th c (b.th c h)
 nG:=fun c h=>(b.nG c h).elim (a.nG c) fun q=>q.elim (fun q=>.inr (.inl (a.th c q))) fun⟨n,hn,q⟩=>(a.nρ n c q).elim (fun z=>.inr (.inr (z.elim (fun z=>⟨n,hn,z⟩) id))) fun z=>.inr (.inl z)
 nρ:=fun n c h=>(b.nρ n c h).elim (fun z=>z.elim (a.nρ n c) fun⟨m,hm,w⟩=>(a.nρ m c w).imp_left fun z=>.inr (z.elim (fun z=>⟨m,hm,z⟩) id)) fun q=>.inr (a.th c q)
 fz:=fun c od u h=>b.fz c od u (a.fz c od u h)
theorem Tr.toS (t:Tr ρ G H G1 H1):TrS N ρ G H ρ G1 H1 :=
 ⟨fun _ _=>rfl,t.exG,t.keep,t.th,fun a h=>(t.nG a h).elim .inl fun q=>.inr (.inl q),fun _ _ h=>.inl (.inl h),t.fz⟩
def PostS (K:PySem.W.Frag)(W:WX)(N:Nat)(ρ:Pm)(G H:Hp)(D:Ends):Out→Prop
 | .next δ' μ'=>∀ ρ' G' H' σ',TrS N ρ G H ρ' G' H'→Rel K ρ' G' H' μ'→EnvOk K ρ' G' σ' δ'→D.nx σ' H'
 | .ret r μ'=>∀ ρ' G' H' v,TrS N ρ G H ρ' G' H'→Rel K ρ' G' H' μ'→RpR K ρ' G' H H' v r→D.rt v H'
 | .brk δ' μ'=>∀ ρ' G' H' σ',TrS N ρ G H ρ' G' H'→Rel K ρ' G' H' μ'→EnvOk K ρ' G' σ' δ'→D.bk σ' H'
 | .cnt δ' μ'=>∀ ρ' G' H' σ',TrS N ρ G H ρ' G' H'→Rel K ρ' G' H' μ'→EnvOk K ρ' G' σ' δ'→D.ct σ' H'
 | .exc x δ' μ'=>∀ ρ' G' H' σ' cls d,TrS N ρ G H ρ' G' H'→Rel K ρ' G' H' μ'→EnvOk K ρ' G' σ' δ'→XcOk K G' H' x cls d→W cls d σ' H'
 | .bad=>False
def SndS (K:PySem.W.Frag)(W:WX)(t:TS)(g:SM):Prop :=
 ∀ (N:Nat) (ρ:Pm) (G H:Hp) (σ:Slots) (δ:Env) (μ:Mem) (D:Ends),Rel K ρ G H μ→EnvOk K ρ G σ δ →
  PostS K W N ρ G H D (g N δ μ)→t D σ H
theorem PostS.shift {out:Out}(t:TrS N ρ G H ρ1 G1 H1)(h:PostS K W N ρ G H D out):PostS K W N ρ1 G1 H1 D out:=by
 cases out with
 | next δ' μ'=>exact fun ρ' G' H' σ' t'=>h ρ' G' H' σ' (t.trans t')
 | ret r μ'=>exact fun ρ' G' H' v t' R' q=>h ρ' G' H' v (t.trans t') R' (q.back t.th)
 | brk δ' μ'=>exact fun ρ' G' H' σ' t'=>h ρ' G' H' σ' (t.trans t')
 | cnt δ' μ'=>exact fun ρ' G' H' σ' t'=>h ρ' G' H' σ' (t.trans t')
 | exc x δ' μ'=>exact fun ρ' G' H' σ' cls d t'=>h ρ' G' H' σ' cls d (t.trans t')
 | bad=>exact h
theorem SndG.stm {α β:Type}{t:Slots→Hp→(β→Hp→Prop)→Prop}{f:Env→Mem→Res α}{rp:Pm→Hp→Hp→Hp→β→α→Prop}
  (h:SndG K W t f rp) (R:Rel K ρ G H μ) (E:EnvOk K ρ G σ δ) {k:α→Mem→Out}
  (hp:PostS K W N ρ G H D (match f δ μ with | .ok r μ'=>k r μ' | .exc x μ'=>.exc x δ μ' | .bad=>.bad)) {Q:β→Hp→Prop}
  (go:∀ r μ' G' H' v,Tr ρ G H G' H'→Rel K ρ G' H' μ'→EnvOk K ρ G' σ δ→rp ρ G' H H' v r→PostS K W N ρ G H D (k r μ')→Q v H'):t σ H Q:=by
 refine h ρ G H σ δ μ Q R E ?_
 cases e:f δ μ with
 | ok r μ'=>rw[e] at hp;exact fun G' H' v t' R' q=>go r μ' G' H' v t' R' (E.mono t'.exG) q hp
 | exc x μ'=>rw[e] at hp;exact fun G' H' cls d t' R' q=>hp ρ G' H' σ cls d t'.toS R' (E.mono t'.exG) q
 | bad=>rw[e] at hp;exact hp
def lift {α:Type}(r:Res α)(δ:Env)(k:α→Mem→Out):Out:=match r with
 | .ok a μ=>k a μ
 | .exc x μ=>.exc x δ μ
 | .bad=>.bad
def gNext:SM:=fun _ δ μ=>.next δ μ
def gSeq (g h:SM):SM:=fun N δ μ=>match g N δ μ with
 | .next δ' μ'=>h N δ' μ'
 | .ret r μ'=>.ret r μ'
 | .brk δ' μ'=>.brk δ' μ'
 | .cnt δ' μ'=>.cnt δ' μ'
 | .exc x δ' μ'=>.exc x δ' μ'
 | .bad=>.bad
theorem snd_next:SndS K W tNext gNext:=fun N ρ G H σ δ μ D R E hp=>hp ρ G H σ (TrS.refl _ _ _ _) R E
theorem snd_seq {t u:TS}{g h:SM}(h1:SndS K W t g)(h2:SndS K W u h):SndS K W (tSeq t u) (gSeq g h):=fun N ρ G H σ δ μ D R E hp=>by
 refine h1 N ρ G H σ δ μ { D with nx:=u D } R E ?_
 unfold gSeq at hp
 cases e:g N δ μ with
 | next δ' μ'=>rw[e] at hp;exact fun ρ' G' H' σ' t' R' E'=>h2 N ρ' G' H' σ' δ' μ' D R' E' (hp.shift t')
 | ret r μ'=>rw[e] at hp;exact hp
 | brk δ' μ'=>rw[e] at hp;exact hp
 | cnt δ' μ'=>rw[e] at hp;exact hp
 | exc x δ' μ'=>rw[e] at hp;exact hp
 | bad=>rw[e] at hp;exact hp
theorem EnvOk.set {v:V}{x:DV}(i:Nat)(E:EnvOk K ρ G σ δ)(h:DvOk K ρ G v x):EnvOk K ρ G (σ.set i (some v)) (δ.set i (some x)):=by
 refine⟨by simp[E.len],fun j y hj=>?_⟩
 by_cases e:i=j
 ·subst e
  have hl:i<δ.length:=by
   by_cases hl:i<δ.length
   ·exact hl
   ·rw[List.getElem?_eq_none (by simp;omega)] at hj;cases hj
  rw[List.getElem?_set_self hl] at hj
  cases hj
  exact⟨v,List.getElem?_set_self (by rw[E.len];exact hl),h⟩
 ·rw[List.getElem?_set_ne e] at hj
  obtain⟨w,h1,h2⟩:=E.at_ j y hj
  exact⟨w,by rw[List.getElem?_set_ne e];exact h1,h2⟩
def gAsg (i:Nat)(f:EM):SM:=fun _ δ μ=>lift (frzV f δ μ) δ fun x μ'=>.next (δ.set i (some x)) μ'
theorem snd_asg {te:TE}{f:EM}(i:Nat)(h:SndE K W te f):SndS K W (tAsg te (gName i)) (gAsg i f):=fun N ρ G H σ δ μ D R E hp =>
 SndG.stm (t:=te) h.toV R E hp fun x μ' G' H' v t' R' E' d hp'=>hp' ρ G' H' _ t'.toS R' (E'.set i d)
def gDrop (f:EM):SM:=fun _ δ μ=>lift (f δ μ) δ fun _ μ'=>.next δ μ'
theorem snd_drop {te:TE}{f:EM}(h:SndE K W te f):SndS K W (tDrop te) (gDrop f):=fun N ρ G H σ δ μ D R E hp =>
 SndG.stm (t:=te) h R E hp fun x μ' G' H' v t' R' E' d hp'=>hp' ρ G' H' _ t'.toS R' E'
def gRet (f:EM):SM:=fun _ δ μ=>lift (f δ μ) δ fun r μ'=>.ret r μ'
theorem snd_ret {te:TE}{f:EM}(h:SndE K W te f):SndS K W (tRet te) (gRet f):=fun N ρ G H σ δ μ D R E hp =>
 SndG.stm (t:=te) h R E hp fun x μ' G' H' v t' R' E' d hp'=>hp' ρ G' H' _ t'.toS R' d
def gIf (f:TM)(g h:SM):SM:=fun N δ μ=>lift (f δ μ) δ fun b μ'=>if b=true then g N δ μ' else h N δ μ'
theorem snd_if {tc:TT}{t u:TS}{f:TM}{g h:SM}(hc:SndT K W tc f)(h1:SndS K W t g)(h2:SndS K W u h):SndS K W (tIfS tc t u) (gIf f g h):=fun N ρ G H σ δ μ D R E hp=>by
 refine SndG.stm (t:=tc) hc R E hp fun b μ' G' H' v t' R' E' d hp'=>?_
 subst d
 cases v with
 | true=>exact h1 N ρ G' H' σ δ μ' D R' E' (PostS.shift t'.toS hp')
 | false=>exact h2 N ρ G' H' σ δ μ' D R' E' (PostS.shift t'.toS hp')
theorem DvOk.below {v:V}{x:DV}(R:Rel K ρ G H μ)(h:DvOk K ρ G v x):x.below μ.length:=by
 cases x with
 | dat d=>trivial
 | loc n=>obtain⟨a,_,q⟩:=h;exact R.lt n a q
theorem DvL.below {vs:List V}{xs:List DV}(R:Rel K ρ G H μ)(h:DvL K ρ G vs xs):∀ x∈xs,x.below μ.length:=by
 intro x hx
 induction h with
 | nil=>cases hx
 | cons r _ ih =>
  rcases List.mem_cons.mp hx with e|e
  ·rw[e];exact DvOk.below R r
  ·exact ih e
def addP (ρ:Pm)(n:Nat)(a:Addr):Pm:=fun m=>if m=n then some a else ρ m
theorem Rel.alloc {ρ0:Pm}{G0 H0:Hp}{a:Addr}{p:Pl}(R:Rel K ρ G H μ)(hN:N≤μ.length)(t:TrS N ρ0 G0 H0 ρ G H)(hs:H a≠none)(hg:G a=none)(hn:∀ n,ρ n≠some a)(h0:H0 a=none)
  (hp:PlOk K (addP ρ μ.length a) G H μ.length p):Rel K (addP ρ μ.length a) G H (μ++[p])∧TrS N ρ0 G0 H0 (addP ρ μ.length a) G H∧(∀ n b,ρ n=some b→addP ρ μ.length a n=some b)∧addP ρ μ.length a μ.length=some a:=by
 have up:∀ n b,ρ n=some b→addP ρ μ.length a n=some b:=fun n b q=>by
  unfold addP;rw[if_neg (Nat.ne_of_lt (R.lt n b q))];exact q
 have dn:∀ n b,addP ρ μ.length a n=some b→(n=μ.length∧b=a)∨ρ n=some b:=fun n b q=>by
  unfold addP at q
  by_cases e:n=μ.length
  ·rw[if_pos e] at q;exact .inl ⟨e,(Option.some.inj q).symm⟩
  ·rw[if_neg e] at q;exact .inr q
 refine⟨⟨R.ex,fun m n b h1 h2=>?_,fun n b h=>?_,fun n b h=>?_,fun n b h=>?_,fun n q h=>?_⟩,⟨fun n h=>?_,t.exG,t.keep,t.th,t.nG,fun n b q=>?_,t.fz⟩,up,by unfold addP;rw[if_pos rfl]⟩
 ·rcases dn m b h1 with⟨e1,e2⟩|q1
  ·rcases dn n b h2 with⟨e3,_⟩|q2
   ·rw[e1,e3]
   ·exact absurd (e2▸q2) (hn n)
  ·rcases dn n b h2 with⟨_,e4⟩|q2
   ·exact absurd (e4▸q1) (hn m)
   ·exact R.inj m n b q1 q2
 ·rcases dn n b h with⟨_,e⟩|q
  ·rw[e];exact hg
  ·exact R.nG n b q
 ·rw[List.length_append,List.length_singleton]
  rcases dn n b h with⟨e,_⟩|q
  ·omega
  ·have:=R.lt n b q;omega
 ·rcases dn n b h with⟨_,e⟩|q
  ·rw[e];exact hs
  ·exact R.hs n b q
 ·by_cases e:n<μ.length
  ·rw[List.getElem?_append_left e] at h
   have z:=R.pl n q h
   cases q with
   | lst xs=>obtain⟨b,c,vs,h1,h2,h3⟩:=z;exact⟨b,c,vs,up _ _ h1,h2,DvL.mono (Ex.refl _) up h3⟩
   | dct xs=>obtain⟨b,c,o,vs,h1,h2,h4,h3⟩:=z;exact⟨b,c,o,vs,up _ _ h1,h2,h4,DvL.mono (Ex.refl _) up h3⟩
   | lkd xs=>obtain⟨b,c,o,vs,h1,h2,h4,h3⟩:=z;exact⟨b,c,o,vs,up _ _ h1,h2,h4,DvL.mono (Ex.refl _) up h3⟩
   | lkl xs=>obtain⟨b,c,o,vs,h1,h2,h3⟩:=z;exact⟨b,c,o,vs,up _ _ h1,h2,DvL.mono (Ex.refl _) up h3⟩
   | tp xs=>obtain⟨b,c,o,vs,h1,h2,h3⟩:=z;exact⟨b,c,o,vs,up _ _ h1,h2,DvL.mono (Ex.refl _) up h3⟩
   | er nm' f' xs=>obtain⟨b,c,o,vs,h1,h2,h3⟩:=z;exact⟨b,c,o,vs,up _ _ h1,h2,⟨h3.1.mono (Ex.refl _),DvL.mono (Ex.refl _) up h3.2⟩⟩
   | own=>obtain⟨a,b,h1,h2⟩:=z;exact⟨a,b,up _ _ h1,h2⟩
   | ins nm fs=>obtain⟨b,c,dx,C,vs,m,hm,h1,h2,cl,h4,h5,h3⟩:=z;exact⟨b,c,dx,C,vs,m,⟨hm.1,up _ _ hm.2⟩,up _ _ h1,h2,cl,h4,h5,DvL.mono (Ex.refl _) up h3⟩
   | gone=>show addP ρ μ.length a n=none;unfold addP;rw[if_neg (by omega)];exact z
  ·rw[List.getElem?_append_right (by omega)] at h
   have e2:n=μ.length:=by
    cases k:n - μ.length with
    | zero=>omega
    | succ j=>rw[k] at h;simp at h
   subst e2
   rw[Nat.sub_self] at h
   cases h
   exact hp
 ·unfold addP;rw[if_neg (by omega)];exact t.pre n h
 ·rcases dn n b q with⟨_,e⟩|q
  ·rw[e];exact .inr h0
  ·exact t.nρ n b q
def bindR (N i:Nat)(r:R)(δ:Env)(μ:Mem):Out:=match r with
 | .dat d=>.next (δ.set i (some (.dat d))) μ
 | .loc n=>.next (δ.set i (some (.loc n))) μ
 | .nl xs=>if N≤μ.length then .next (δ.set i (some (.loc μ.length))) (μ++[.lst xs]) else .bad
 | .nk kvs=>if N≤μ.length then .next (δ.set i (some (.loc μ.length))) (μ++[.dct kvs]) else .bad
theorem EnvOk.up (E:EnvOk K ρ G σ δ)(x:Ex G G1)(up:∀ n b,ρ n=some b→ρ1 n=some b):EnvOk K ρ1 G1 σ δ :=
 ⟨E.len,fun i y h=>let ⟨v,a,b⟩:=E.at_ i y h;⟨v,a,b.mono x up⟩⟩
theorem snd_bindR {r:R}{v:V}{G0 H0:Hp}(i:Nat)(R':Rel K ρ G H μ)(E':EnvOk K ρ G σ δ)(t':TrS N ρ G0 H0 ρ G H)(d:RpR K ρ G H0 H v r)
  (hp:PostS K W N ρ G0 H0 D (bindR N i r δ μ)):D.nx (σ.set i (some v)) H:=by
 cases r with
 | dat d'=>exact hp ρ G H _ t' R' (E'.set i (x:=.dat d') d)
 | loc n=>exact hp ρ G H _ t' R' (E'.set i (x:=.loc n) d)
 | nl xs =>
  obtain⟨a,vs,rfl,h2,h3,h4,h5,h6⟩:=d
  have up:∀ n b,ρ n=some b→addP ρ μ.length a n=some b:=fun n b q=>by
   unfold addP;rw[if_neg (Nat.ne_of_lt (R'.lt n b q))];exact q
  unfold bindR at hp
  by_cases hN:N≤μ.length
  case neg=>simp only[if_neg hN] at hp;exact hp.elim
  simp only[if_pos hN] at hp
  obtain⟨R2,t2,up,at_⟩:=R'.alloc (p:=.lst xs) hN t' (by rw[h2];simp) h4 h5 h6 ⟨DvL.below R' h3,a,vs,by unfold addP;rw[if_pos rfl],h2,DvL.mono (Ex.refl _) up h3⟩
  exact hp _ G H _ t2 R2 ((E'.up (Ex.refl _) up).set i (x:=.loc μ.length) ⟨a,rfl,at_⟩)
 | nk kvs =>
  obtain⟨a,o,vs,rfl,h2,hk,h3,h4,h5,h6⟩:=d
  have up:∀ n b,ρ n=some b→addP ρ μ.length a n=some b:=fun n b q=>by
   unfold addP;rw[if_neg (Nat.ne_of_lt (R'.lt n b q))];exact q
  have bl:∀ p∈kvs,p.2.below μ.length:=fun p hp=>DvL.below R' h3 p.2 (List.mem_map.mpr ⟨p,hp,rfl⟩)
  unfold bindR at hp
  by_cases hN:N≤μ.length
  case neg=>simp only[if_neg hN] at hp;exact hp.elim
  simp only[if_pos hN] at hp
  obtain⟨R2,t2,up,at_⟩:=R'.alloc (p:=.dct kvs) hN t' (by rw[h2];simp) h4 h5 h6 ⟨bl,a,o,vs,by unfold addP;rw[if_pos rfl],h2,hk,DvL.mono (Ex.refl _) up h3⟩
  exact hp _ G H _ t2 R2 ((E'.up (Ex.refl _) up).set i (x:=.loc μ.length) ⟨a,rfl,at_⟩)
def gNew (i:Nat)(f:EM):SM:=fun N δ μ=>lift (f δ μ) δ fun r μ'=>bindR N i r δ μ'
theorem snd_new {te:TE}{f:EM}(i:Nat)(h:SndE K W te f):SndS K W (tAsg te (gName i)) (gNew i f):=fun N ρ G H σ δ μ D R E hp =>
 SndG.stm (t:=te) h R E hp fun x μ' G' H' v t' R' E' d hp'=>snd_bindR i R' E' t'.toS d hp'
end
def cutV (M:Nat):Option DV→Option DV
 | some (.loc n)=>if n<M then some (.loc n) else none
 | some (.dat d)=>some (.dat d)
 | none=>none
def cut (M:Nat):List Bool→Env→Env
 | _,[]=>[]
 | [],_::δ=>none::cut M [] δ
 | b::bs,x::δ=>(if b=true then cutV M x else none)::cut M bs δ
def resP (M:Nat)(ρ:Pm):Pm:=fun n=>if n<M then ρ n else none
theorem cut_len (M:Nat):∀ (bs:List Bool) (δ:Env),(cut M bs δ).length=δ.length
 | [],[]=>rfl
 | _::_,[]=>rfl
 | [],_::δ=>congrArg (·+1) (cut_len M [] δ)
 | _::bs,_::δ=>congrArg (·+1) (cut_len M bs δ)
theorem cutV_some {M:Nat}{o:Option DV}{x:DV}(h:cutV M o=some x):o=some x∧x.below M:=by
 match o,h with
 | some (.dat d),h=>cases h;exact⟨rfl,trivial⟩
 | some (.loc n),h =>
  simp only[cutV] at h
  by_cases e:n<M
  ·rw[if_pos e] at h;cases h;exact⟨rfl,e⟩
  ·rw[if_neg e] at h;cases h
theorem cut_at (M:Nat):∀ (bs:List Bool) (δ:Env) (i:Nat) (x:DV),(cut M bs δ)[i]?=some (some x)→δ[i]?=some (some x)∧x.below M
 | [],[],i,x,h=>by simp[cut] at h
 | _::_,[],i,x,h=>by simp[cut] at h
 | [],_::δ,0,x,h=>by simp[cut] at h
 | [],_::δ,i+1,x,h=>cut_at M [] δ i x (by simpa [cut] using h)
 | b::bs,y::δ,0,x,h=>by
  simp only[cut,List.getElem?_cons_zero,Option.some.injEq] at h
  by_cases hb:b=true
  ·rw[if_pos hb] at h
   obtain⟨e,q⟩:=cutV_some h
   exact⟨by rw[e];rfl,q⟩
  ·rw[if_neg hb] at h;cases h
 | b::bs,y::δ,i+1,x,h=>cut_at M bs δ i x (by simpa [cut] using h)
section
variable {K:PySem.W.Frag}{W:WX}{N M:Nat}{ρ ρ0 ρ1 ρ2:Pm}{G H G0 H0 G1 H1 G2 H2:Hp}{σ:Slots}{δ:Env}{μ:Mem}{Dn:Ends}
theorem resP_some {n:Nat}{a:Addr}(h:resP M ρ n=some a):n<M∧ρ n=some a:=by
 unfold resP at h
 by_cases e:n<M
 ·rw[if_pos e] at h;exact⟨e,h⟩
 ·rw[if_neg e] at h;cases h
theorem resP_of {n:Nat}{a:Addr}(e:n<M)(h:ρ n=some a):resP M ρ n=some a:=by unfold resP;rw[if_pos e];exact h
theorem DvOk.res {v:V}{x:DV}(h:DvOk K ρ G v x)(b:x.below M):DvOk K (resP M ρ) G v x:=by
 cases x with
 | dat d=>exact h
 | loc n=>obtain⟨a,e,q⟩:=h;exact⟨a,e,resP_of b q⟩
theorem DvL.res {vs:List V}{xs:List DV}(h:DvL K ρ G vs xs)(b:∀ x∈xs,x.below M):DvL K (resP M ρ) G vs xs:=by
 induction h with
 | nil=>exact .nil
 | cons r _ ih=>exact .cons (r.res (b _ List.mem_cons_self)) (ih fun x hx=>b x (List.mem_cons_of_mem _ hx))
theorem DV.below.mono {m n:Nat}{x:DV}(h:x.below m)(e:m≤n):x.below n:=by
 cases x with
 | dat d=>trivial
 | loc k=>exact Nat.lt_of_lt_of_le h e
theorem Rel.cut (R:Rel K ρ G H μ)(M:Nat):Rel K (resP M ρ) G H (μ.take M):=by
 refine⟨R.ex,fun m n a h1 h2=>R.inj m n a (resP_some h1).2 (resP_some h2).2,fun n a h=>R.nG n a (resP_some h).2,fun n a h=>?_,fun n a h=>R.hs n a (resP_some h).2,fun n p h=>?_⟩
 ·obtain⟨e,q⟩:=resP_some h
  have:=R.lt n a q
  rw[List.length_take];omega
 ·have hn:n<M:=by
   by_cases e:n<M
   ·exact e
   ·rw[List.getElem?_eq_none (by rw[List.length_take];omega)] at h;cases h
  rw[List.getElem?_take_of_lt hn] at h
  have z:=R.pl n p h
  cases p with
  | lst xs=>obtain⟨b,a,vs,h1,h2,h3⟩:=z;exact⟨b,a,vs,resP_of hn h1,h2,h3.res fun x hx=>(b x hx).mono (Nat.le_of_lt hn)⟩
  | dct kvs =>
   obtain⟨b,a,o,vs,h1,h2,h4,h3⟩:=z
   refine⟨b,a,o,vs,resP_of hn h1,h2,h4,h3.res fun x hx=>?_⟩
   obtain⟨p,hp,rfl⟩:=List.mem_map.mp hx
   exact(b p hp).mono (Nat.le_of_lt hn)
  | lkd kvs =>
   obtain⟨b,a,o,vs,h1,h2,h4,h3⟩:=z
   refine⟨b,a,o,vs,resP_of hn h1,h2,h4,h3.res fun x hx=>?_⟩
   obtain⟨p,hp,rfl⟩:=List.mem_map.mp hx
   exact(b p hp).mono (Nat.le_of_lt hn)
  | lkl xs =>
   obtain⟨b,a,o,vs,h1,h2,h3⟩:=z
   refine⟨b,a,o,vs,resP_of hn h1,h2,h3.res fun x hx=>?_⟩
   exact(b x hx).mono (Nat.le_of_lt hn)
  | tp xs =>
   obtain⟨b,a,o,vs,h1,h2,h3⟩:=z
   refine⟨b,a,o,vs,resP_of hn h1,h2,h3.res fun x hx=>?_⟩
   exact(b x hx).mono (Nat.le_of_lt hn)
  | er nm' f' xs =>
   obtain⟨b,a,o,vs,h1,h2,h3⟩:=z
   refine⟨b,a,o,vs,resP_of hn h1,h2,h3.1,h3.2.res fun x hx=>?_⟩
   exact(b x hx).mono (Nat.le_of_lt hn)
  | ins nm fs =>
   obtain⟨b,a,dx,C,vs,m,hm,h1,h2,cl,h4,h5,h3⟩:=z
   refine⟨b,a,dx,C,vs,m,⟨hm.1,resP_of (by omega) hm.2⟩,resP_of hn h1,h2,cl,h4,h5,h3.res fun x hx=>?_⟩
   obtain⟨p,hp,rfl⟩:=List.mem_map.mp hx
   exact(b p hp).mono (Nat.le_of_lt hn)
  | own=>obtain⟨a,b,h1,h2⟩:=z;exact⟨a,b,resP_of hn h1,h2⟩
  | gone=>show resP M ρ n=none;unfold resP;rw[if_pos hn];exact z
theorem EnvOk.cut (E:EnvOk K ρ G σ δ)(M:Nat)(bs:List Bool):EnvOk K (resP M ρ) G σ (cut M bs δ) :=
 ⟨by rw[cut_len];exact E.len,fun i x h=>let ⟨h1,h2⟩:=cut_at M bs δ i x h;let ⟨v,a,b⟩:=E.at_ i x h1;⟨v,a,b.res h2⟩⟩
theorem TrS.cut (t:TrS N ρ0 G0 H0 ρ G H)(h:∀ n a,ρ0 n=some a→n<M):TrS N ρ0 G0 H0 (resP M ρ) G H where
 pre:=fun n hn=>by
  unfold resP
  by_cases e:n<M
  ·rw[if_pos e];exact t.pre n hn
  ·rw[if_neg e]
   cases q:ρ0 n with
   | none=>rfl
   | some a=>exact absurd (h n a q) e
 exG:=t.exG
 keep:=t.keep
 th:=t.th
 nG:=t.nG
 nρ:=fun n a q=>t.nρ n a (resP_some q).2
 fz:=t.fz
abbrev Fz (H H':Hp):Prop:=∀ a od u,H a=some (.frz od u)→H' a=some (.frz od u)
def ItOk (K:PySem.W.Frag)(G0 H0:Hp)(J:It)(xs:List D):Prop:=∀ (ρ:Pm) (G H:Hp) (μ:Mem),Rel K ρ G H μ→Ex G0 G→Fz H0 H →
 (∀ (i:Nat) (d:D),xs[i]?=some d→J.go i H∧∀ v H',J.yld i H v H'→∃ G',Tr ρ G H G' H'∧Rel K ρ G' H' μ∧Rp K G' v d)∧∀ i,xs.length≤i→J.stop i H
abbrev rpI (K:PySem.W.Frag):Pm→Hp→Hp→Hp→It→List D→Prop:=fun _ G' _ H' J xs=>ItOk K G' H' J xs
abbrev IM:=Env→Mem→Res (List D)
abbrev SndI (K:PySem.W.Frag)(W:WX)(t:TI)(f:IM):Prop:=SndG K W t f (rpI K)
theorem wipe_in {σ:Slots}{i:Nat}:∀ {vs:List Nat},i∈vs→i<σ.length→(wipe σ vs)[i]?=some none
 | v::vs,h,hl=>by
  show((wipe σ vs).set v none)[i]?=some none
  by_cases e:v=i
  ·subst e;exact List.getElem?_set_self (by rw[wipe_length];exact hl)
  ·rw[List.getElem?_set_ne e]
   exact wipe_in ((List.mem_cons.mp h).elim (fun q=>absurd q.symm e) id) hl
theorem wipe_ext {σ τ:Slots}{vs:List Nat}(hl:σ.length=τ.length)(h:∀ i,i∉vs→σ[i]?=τ[i]?):wipe σ vs=wipe τ vs:=by
 refine List.ext_getElem? fun i=>?_
 by_cases hi:i∈vs
 ·by_cases e:i<σ.length
  ·rw[wipe_in hi e,wipe_in hi (hl▸e)]
  ·rw[List.getElem?_eq_none (by rw[wipe_length];omega),List.getElem?_eq_none (by rw[wipe_length];omega)]
 ·rw[wipe_out hi,wipe_out hi];exact h i hi
def TgOk (K:PySem.W.Frag)(g:TG)(h:D→Env→Option Env)(ts:List Nat):Prop:=∀ (ρ:Pm) (G H:Hp) (μ:Mem) (σ:Slots) (δ δ':Env) (v:V) (d:D) (Q:Slots→Hp→Prop),Rel K ρ G H μ→EnvOk K ρ G σ δ→Rp K G v d→h d δ=some δ' →
 (∀ σ',EnvOk K ρ G σ' δ'→σ'.length=σ.length→(∀ i,i∉ts→σ'[i]?=σ[i]?)→Q σ' H)→g v σ H Q
def tgName (i:Nat):D→Env→Option Env:=fun d δ=>some (δ.set i (some (.dat d)))
theorem tg_name (i:Nat):TgOk K (gName i) (tgName i) [i]:=fun ρ G H μ σ δ δ' v d Q R E h e q=>by
 cases e;exact q _ (E.set i (x:=.dat d) h) List.length_set fun j hj=>List.getElem?_set_ne fun z=>hj (by simp[z])
def turnL (M:Nat)(ks:List Bool)(out:Out)(k:Env→Mem→Out):Out:=match out with
 | .next δ' μ'=>k (cut M ks δ') (μ'.take M)
 | .cnt δ' μ'=>k (cut M ks δ') (μ'.take M)
 | .brk δ' μ'=>.next (cut M ks δ') (μ'.take M)
 | .ret r μ'=>.ret r μ'
 | .exc x δ' μ'=>.exc x δ' μ'
 | .bad=>.bad
def forL (M:Nat)(ks:List Bool)(h:D→Env→Option Env)(gb:SM)(N:Nat):List D→Env→Mem→Out
 | [],δ,μ=>.next δ μ
 | d::ds,δ,μ=>match h d δ with
  | none=>.bad
  | some δ1=>turnL M ks (gb N δ1 μ) (forL M ks h gb N ds)
def gFor (ks:List Bool)(fi:IM)(h:D→Env→Option Env)(gb:SM):SM:=fun N δ μ=>lift (fi δ μ) δ fun xs μ'=>forL μ'.length ks h gb N xs δ μ'
theorem turn_ok {tb:TS}{gb:SM}{ks:List Bool}{k:Env→Mem→Out}{Nn:Slots→Hp→Prop}(hb:SndS K W tb gb)(t:TrS N ρ0 G0 H0 ρ G H)(R:Rel K ρ G H μ)(E:EnvOk K ρ G σ δ)(hM:∀ n a,ρ0 n=some a→n<M)(hM1:∀ n a,ρ n=some a→n<M)
  (hp:PostS K W N ρ0 G0 H0 Dn (turnL M ks (gb N δ μ) k))
  (go:∀ ρ' G' H' σ' δ' μ',TrS N ρ0 G0 H0 ρ' G' H'→Ex G G'→Rel K ρ' G' H' μ'→EnvOk K ρ' G' σ' δ'→(∀ n a,ρ' n=some a→n<M)→PostS K W N ρ0 G0 H0 Dn (k δ' μ')→Nn σ' H') :
  tb { nx:=Nn,rt:=Dn.rt,bk:=Dn.nx,ct:=Nn } σ H:=by
 refine hb N ρ G H σ δ μ _ R E ?_
 cases e:gb N δ μ with
 | next δ' μ' =>
  rw[e] at hp
  exact fun ρ' G' H' σ' t' R' E'=>go _ G' H' σ' _ _ ((t.trans t').cut hM) t'.exG (R'.cut M) (E'.cut M ks) (fun n a q=>(resP_some q).1) hp
 | cnt δ' μ' =>
  rw[e] at hp
  exact fun ρ' G' H' σ' t' R' E'=>go _ G' H' σ' _ _ ((t.trans t').cut hM) t'.exG (R'.cut M) (E'.cut M ks) (fun n a q=>(resP_some q).1) hp
 | brk δ' μ' =>
  rw[e] at hp
  exact fun ρ' G' H' σ' t' R' E'=>hp _ G' H' σ' ((t.trans t').cut hM) (R'.cut M) (E'.cut M ks)
 | ret r μ' =>
  rw[e] at hp
  exact fun ρ' G' H' v t' R' q=>hp ρ' G' H' v (t.trans t') R' (q.back t.th)
 | exc x δ' μ' =>
  rw[e] at hp
  exact fun ρ' G' H' σ' cls d t'=>hp ρ' G' H' σ' cls d (t.trans t')
 | bad=>rw[e] at hp;exact hp
theorem drop_cons {α:Type}{xs ds:List α}{i:Nat}{d:α}(h:xs.drop i=d::ds):xs[i]?=some d∧xs.drop (i+1)=ds∧i<xs.length:=by
 have hl:i<xs.length:=by
  by_cases e:i<xs.length
  ·exact e
  ·rw[List.drop_eq_nil_of_le (by omega)] at h;cases h
 rw[List.drop_eq_getElem_cons hl] at h
 injection h with h1 h2
 exact⟨by rw[List.getElem?_eq_getElem hl,h1],h2,hl⟩
theorem snd_for {wi:TI}{fi:IM}{g:TG}{h:D→Env→Option Env}{tb:TS}{gb:SM}(ks:List Bool){tv:List Nat}(hi:SndI K W wi fi)(hg:TgOk K g h tv)(hb:SndS K W tb gb):SndS K W (tFor wi g tb) (gFor ks fi h gb):=fun N ρ G H σ δ μ Dn R E hp=>by
 refine SndG.stm (t:=wi) hi R E hp fun xs μ0 G0 H0 J t0 R0 E0 it hp0=>?_
 have hp0:=PostS.shift (t0.toS (N:=N)) hp0
 refine⟨fun i m σ H=>∃ ρ1 G1 δ1 μ1,Ex G0 G1∧Fz H0 H∧Rel K ρ1 G1 H μ1∧EnvOk K ρ1 G1 σ δ1∧(∀ n a,ρ1 n=some a→n<μ0.length)∧m=xs.length-i∧i≤xs.length ∧
  PostS K W N ρ1 G1 H Dn (forL μ0.length ks h gb N (xs.drop i) δ1 μ1),⟨xs.length,ρ,G0,δ,μ0,Ex.refl _,fun _ _ _ h=>h,R0,E0,R0.lt,by omega,by omega,hp0⟩,fun i m σ H hW=>?_⟩
 obtain⟨ρ1,G1,δ1,μ1,x1,f1,R1,E1,hM1,em,hi',hp1⟩:=hW
 obtain⟨go,stop⟩:=it ρ1 G1 H μ1 R1 x1 f1
 cases e:xs.drop i with
 | nil =>
  rw[e] at hp1
  have hl:xs.length≤i:=by
   have:=congrArg List.length e
   rw[List.length_drop] at this
   simp at this;omega
  exact .inl ⟨stop i hl,hp1 ρ1 G1 H σ (TrS.refl _ _ _ _) R1 E1⟩
 | cons d ds =>
  rw[e] at hp1
  obtain⟨hd,hds,hlt⟩:=drop_cons e
  obtain⟨g1,g2⟩:=go i d hd
  refine .inr ⟨g1,fun σ' H'=>∃ m',m'<m∧_,fun σ' H' q=>q,fun v H' hy=>?_⟩
  obtain⟨G2,t2,R2,rp⟩:=g2 v H' hy
  unfold forL at hp1
  cases eh:h d δ1 with
  | none=>rw[eh] at hp1;exact hp1.elim
  | some δ2 =>
   rw[eh] at hp1
   refine hg ρ1 G2 H' μ1 σ δ1 δ2 v d _ R2 (E1.mono t2.exG) rp eh fun σ2 E2 _ _=>?_
   refine turn_ok hb t2.toS R2 E2 hM1 hM1 hp1 fun ρ3 G3 H3 σ3 δ3 μ3 t3 _ R3 E3 hM3 hp3=>?_
   refine⟨xs.length-(i+1),by omega,ρ3,G3,δ3,μ3,x1.trans t3.exG,fun a od u h=>t3.fz a od u (f1 a od u h),R3,E3,hM3,rfl,hlt,?_⟩
   rw[hds];exact PostS.shift t3 hp3
def whL (M:Nat)(ks:List Bool)(ft:TM)(gb:SM)(N:Nat):Nat→Env→Mem→Out
 | 0,_,_=>.bad
 | k+1,δ,μ=>lift (ft δ μ) δ fun b μ1=>if b=true then turnL M ks (gb N δ μ1) (whL M ks ft gb N k) else .next δ μ1
def gWh (fuel:Nat)(ks:List Bool)(ft:TM)(gb:SM):SM:=fun N δ μ=>whL μ.length ks ft gb N fuel δ μ
def belowA (N:Nat)(xs:List DV):Bool:=xs.all fun x=>match x with
 | .dat _=>true
 | .loc m=>decide (m<N)
theorem belowA_ok {xs:List DV}(h:belowA N xs=true):∀ x∈xs,x.below N:=fun x hx=>by
 have:=List.all_eq_true.mp h x hx
 cases x with
 | dat d=>trivial
 | loc m=>exact(of_decide_eq_true this:m<N)
def closeR (N:Nat)(r:R)(μ:Mem):Res R:=match r with
 | .dat d=>.ok (.dat d) (μ.take N)
 | .nl xs=>if belowA N xs=true then .ok (.nl xs) (μ.take N) else .bad
 | .nk kvs=>if belowA N (kvs.map (·.2))=true then .ok (.nk kvs) (μ.take N) else .bad
 | .loc n=>if n<N then .ok (.loc n) (μ.take N) else match μ[n]? with
  | some (.lst xs)=>if belowA N xs=true then .ok (.nl xs) (μ.take N) else .bad
  | some (.dct kvs)=>if belowA N (kvs.map (·.2))=true then .ok (.nk kvs) (μ.take N) else .bad
  | _=>.bad
def callF (g:SM)(m:Nat)(args:List DV)(μ:Mem):Res R:=match g μ.length (args.map some++List.replicate m none) μ with
 | .next _ μ'=>.ok (.dat .non) (μ'.take μ.length)
 | .ret r μ'=>closeR μ.length r μ'
 | .exc x _ μ'=>.exc x (μ'.take μ.length)
 | _=>.bad
def spF (K:PySem.W.Frag)(n:Nat)(F:List DV→Mem→Res R):Sp:=fun vs H Q E=>vs.length=n∧∃ ρ G μ xs,Rel K ρ G H μ∧DvL K ρ G vs xs ∧
 PostG K (fun cls d _ H=>E cls d H) ρ G H [] (fun G' H'=>rpE K ρ G' H H') Q (F xs μ)
theorem res_back (R:Rel K ρ G H μ)(t:TrS μ.length ρ G H ρ1 G1 H1):resP μ.length ρ1=ρ:=by
 funext n
 unfold resP
 by_cases e:n<μ.length
 ·rw[if_pos e];exact t.pre n e
 ·rw[if_neg e]
  cases q:ρ n with
  | none=>rfl
  | some a=>exact absurd (R.lt n a q) e
theorem tr_back (R:Rel K ρ G H μ)(t:TrS μ.length ρ G H ρ1 G1 H1):Tr ρ G H G1 H1 where
 exG:=t.exG
 keep:=t.keep
 th:=t.th
 nG:=fun a h=>(t.nG a h).elim .inl fun q=>q.elim .inr fun⟨n,hn,z⟩=>absurd (R.lt n a z) (by omega)
 fz:=t.fz
theorem RpR.close {μ1 μ2:Mem}{r r':R}{v:V}(R:Rel K ρ G H μ)(t:TrS μ.length ρ G H ρ1 G1 H1)(R1:Rel K ρ1 G1 H1 μ1)(h:RpR K ρ1 G1 H H1 v r)(e:closeR μ.length r μ1=.ok r' μ2) :
  RpR K ρ G1 H H1 v r'∧μ2=μ1.take μ.length:=by
 have eb:=res_back R t
 have lst:∀ {a:Addr} {vs:List V} {xs:List DV},H1 a=some (.lst vs)→DvL K ρ1 G1 vs xs→G1 a=none→(∀ n,ρ n≠some a)→H a=none→belowA μ.length xs=true→RpR K ρ G1 H H1 (.ref a) (.nl xs):=fun {a vs xs} h1 h2 h3 h4 h5 h6 =>
  ⟨a,vs,rfl,h1,by have z:=h2.res (belowA_ok h6);rw[eb] at z;exact z,h3,h4,h5⟩
 have dct:∀ {a:Addr} {o:HO} {vs:List V} {xs:List (Ky×DV)},H1 a=some o→DctIs K G1 a o (xs.map (·.1)) vs→DvL K ρ1 G1 vs (xs.map (·.2))→G1 a=none→(∀ n,ρ n≠some a)→H a=none→belowA μ.length (xs.map (·.2))=true→RpR K ρ G1 H H1 (.ref a) (.nk xs):=fun {a o vs xs} h1 hk h2 h3 h4 h5 h6 =>
  ⟨a,o,vs,rfl,h1,hk,by have z:=h2.res (belowA_ok h6);rw[eb] at z;exact z,h3,h4,h5⟩
 have noρ:∀ a,(∀ n,ρ1 n≠some a)→∀ n,ρ n≠some a:=fun a h n q=>h n ((t.pre n (R.lt n a q)).trans q)
 cases r with
 | dat d=>cases e;exact⟨h,rfl⟩
 | nl xs =>
  obtain⟨a,vs,rfl,h1,h2,h3,h4,h5⟩:=h
  simp only[closeR] at e
  by_cases hb:belowA μ.length xs=true
  ·rw[if_pos hb] at e;cases e
   exact⟨lst h1 h2 h3 (noρ a h4) h5 hb,rfl⟩
  ·rw[if_neg hb] at e;cases e
 | nk kvs =>
  obtain⟨a,o,vs,rfl,h1,hk,h2,h3,h4,h5⟩:=h
  simp only[closeR] at e
  by_cases hb:belowA μ.length (kvs.map (·.2))=true
  ·rw[if_pos hb] at e;cases e
   exact⟨dct h1 hk h2 h3 (noρ a h4) h5 hb,rfl⟩
  ·rw[if_neg hb] at e;cases e
 | loc n =>
  obtain⟨a,rfl,q⟩:=h
  simp only[closeR] at e
  by_cases hn:n<μ.length
  ·rw[if_pos hn] at e;cases e
   exact⟨⟨a,rfl,(t.pre n hn).symm.trans q⟩,rfl⟩
  ·rw[if_neg hn] at e
   have hne:∀ m,ρ m≠some a:=fun m z=>by
    have h1:=(t.pre m (R.lt m a z)).trans z
    have h2:=R1.inj m n a h1 q
    exact hn (h2▸R.lt m a z)
   have h0:H a=none:=(t.nρ n a q).elim (fun z=>z.elim (fun z=>absurd z (hne n)) fun⟨m,_,z⟩=>absurd z (hne m)) id
   have hg:G1 a=none:=R1.nG n a q
   match em:μ1[n]? with
   | none=>rw[em] at e;cases e
   | some .gone=>rw[em] at e;cases e
   | some (.lkd _)=>rw[em] at e;cases e
   | some (.lkl _)=>rw[em] at e;cases e
   | some (.tp _)=>rw[em] at e;cases e
   | some (.ins _ _)=>rw[em] at e;cases e
   | some .own=>rw[em] at e;cases e
   | some (.er _ _ _)=>rw[em] at e;cases e
   | some (.lst xs) =>
    rw[em] at e
    obtain⟨_,b,vs,k1,k2,k3⟩:=R1.pl n _ em
    rw[q] at k1;cases k1
    by_cases hb:belowA μ.length xs=true
    ·simp only[if_pos hb] at e;cases e
     exact⟨lst k2 k3 hg hne h0 hb,rfl⟩
    ·simp only[if_neg hb] at e;cases e
   | some (.dct kvs) =>
    rw[em] at e
    obtain⟨_,b,o,vs,k1,k2,kk,k3⟩:=R1.pl n _ em
    rw[q] at k1;cases k1
    by_cases hb:belowA μ.length (kvs.map (·.2))=true
    ·simp only[if_pos hb] at e;cases e
     exact⟨dct k2 kk k3 hg hne h0 hb,rfl⟩
    ·simp only[if_neg hb] at e;cases e
theorem body_ok {ts:TS}{g:SM}{Q:VK}{E:XK}{vs:List V}{Nm:List Str}{n:Nat}(hb:SndS K (fun cls d _ H=>E cls d H) ts g)(hn:n≤Nm.length)(h:spF K n (callF g (Nm.length-n)) vs H Q E) :
  ts { nx:=fun _ H'=>Q .non H',rt:=Q } (L2.start Nm vs) H:=by
 obtain⟨hl,ρ,G,μ,xs,R,d,hp⟩:=h
 have hx:xs.length=n:=by rw[←paired_len d];exact hl
 have env:EnvOk K ρ G (L2.start Nm vs) (xs.map some++List.replicate (Nm.length-n) none):=by
  refine⟨by simp[L2.start,hl,hx],fun i x hi=>?_⟩
  have hi1:i<xs.length:=by
   by_cases e:i<xs.length
   ·exact e
   ·rw[List.getElem?_append_right (by simpa using e),List.getElem?_replicate] at hi
    split at hi <;> cases hi
  rw[List.getElem?_append_left (by simpa using hi1),List.getElem?_map,List.getElem?_eq_getElem hi1] at hi
  simp only[Option.map_some,Option.some.injEq] at hi
  have key:∀ {vs:List V} {xs:List DV} {i:Nat} (d:DvL K ρ G vs xs) (hi:i<xs.length),∃ v,vs[i]?=some v∧DvOk K ρ G v xs[i]:=by
   intro vs xs i d
   induction d generalizing i with
   | nil=>intro hi;exact absurd hi (Nat.not_lt_zero _)
   | cons r _ ih =>
    intro hi
    cases i with
    | zero=>exact⟨_,rfl,r⟩
    | succ i=>exact ih (Nat.lt_of_succ_lt_succ hi)
  obtain⟨v,h1,h2⟩:=key d hi1
  refine⟨v,?_,hi▸h2⟩
  unfold L2.start
  have hv:i<vs.length:=by omega
  rw[List.getElem?_append_left (by simpa using hv),List.getElem?_map,h1]
  rfl
 refine hb μ.length ρ G H _ _ μ _ R env ?_
 unfold callF at hp
 cases e:g μ.length (xs.map some++List.replicate (Nm.length-n) none) μ with
 | next δ' μ' =>
  rw[e] at hp
  intro ρ' G' H' σ' t R' E'
  have z:=R'.cut μ.length
  rw[res_back R t] at z
  exact hp G' H' .non (tr_back R t) z Rp.non
 | ret r μ' =>
  rw[e] at hp
  intro ρ' G' H' v t R' q
  simp only at hp
  cases ec:closeR μ.length r μ' with
  | bad=>rw[ec] at hp;exact hp.elim
  | exc x μ2=>exact(by cases r <;> simp only[closeR] at ec <;> (repeat' split at ec) <;> cases ec)
  | ok r' μ2 =>
   rw[ec] at hp
   obtain⟨q',em⟩:=RpR.close R t R' q ec
   have z:=R'.cut μ.length
   rw[res_back R t,←em] at z
   exact hp G' H' v (tr_back R t) z q'
 | brk δ' μ'=>rw[e] at hp;exact hp.elim
 | cnt δ' μ'=>rw[e] at hp;exact hp.elim
 | exc x δ' μ' =>
  rw[e] at hp
  intro ρ' G' H' σ' cls d t R' E' q
  have z:=R'.cut μ.length
  rw[res_back R t] at z
  exact hp G' H' cls d (tr_back R t) z q
 | bad=>rw[e] at hp;exact hp.elim
end
structure PSM (X:Cx)(W:WX)(st:Stmt)(ts:TS)(g:SM):Prop where
 ps:PS X st ts
 sd:SndS X.K W ts g
structure PSMs (X:Cx)(W:WX)(st:List Stmt)(ts:TS)(g:SM):Prop where
 ps:PSs X st ts
 sd:SndS X.K W ts g
structure PMI (X:Cx)(W:WX)(tg e:Expr)(wi:TI)(f:IM):Prop where
 pi:PI X tg e wi
 sd:SndI X.K W wi f
structure PMG (X:Cx)(tg:Expr)(g:TG)(h:D→Env→Option Env)(ts:List Nat):Prop where
 pg:PG X tg g
 ok:TgOk X.K g h ts
section
variable {X:Cx}{W:WX}{pos:Pos}{te:TE}{f:EM}{tt:TT}{ft:TM}{t u:TS}{g h:SM}{st:Stmt}{rest body els:List Stmt}{e:Expr}
theorem ss_nil:PSMs X W [] tNext gNext:=⟨pss_nil,snd_next⟩
theorem ss_cons (h1:PSM X W st t g)(h2:PSMs X W rest u h):PSMs X W (st::rest) (tSeq t u) (gSeq g h):=⟨pss_cons h1.ps h2.ps,snd_seq h1.sd h2.sd⟩
theorem ss_one (h1:PSM X W st t g):PSMs X W [st] t g:=⟨pss_one h1.ps,h1.sd⟩
theorem sm_expr (h:PM X W e te f)(hs:swapsWith e none pos.line X.env=pure false:=by rfl):PSM X W (.Expr e pos) (tDrop te) (gDrop f):=⟨ps_expr h.pe hs,snd_drop h.sd⟩
theorem sm_ret (h:PM X W e te f):PSM X W (.Return (some e) pos) (tRet te) (gRet f):=⟨ps_ret h.pe,snd_ret h.sd⟩
theorem sm_if (hc:PMT X W e tt ft)(h1:PSMs X W body t g)(h2:PSMs X W els u h):PSM X W (.If e body els pos) (tIfS tt t u) (gIf ft g h):=⟨ps_if hc.pe h1.ps h2.ps,snd_if hc.sd h1.sd h2.sd⟩
theorem sm_asg {x:Str}{p:Pos}(i:Nat)(hN:X.N.Nodup)(h:PM X W e te f)(hi:X.N[i]?=some x:=by rfl)(hx:Loc X.env.scope x:=by first|exact Or.inl rfl|exact Or.inr rfl)
  (hf:X.fn x=true∨X.env.scope.names.lookup x=some .local:=by first|exact .inl rfl|exact .inr rfl)
  (a1:swapsWithSole [.Name x p] e pos.line X.env=pure false:=by rfl) (a2:swappedStores [.Name x p] e X.env=pure none:=by rfl) (a3:List.map (fun x=>x.snd) (assignEach [.Name x p] X.env)=[assign (.Name x p) X.env]:=by rfl) :
  PSM X W (.Assign [.Name x p] e pos) (tAsg te (gName i)) (gAsg i f):=⟨ps_asg h.pe (pg_name hN hi hx hf) a1 a2 a3,snd_asg i h.sd⟩
theorem sm_new {x:Str}{p:Pos}(i:Nat)(hN:X.N.Nodup)(h:PM X W e te f)(hi:X.N[i]?=some x:=by rfl)(hx:Loc X.env.scope x:=by first|exact Or.inl rfl|exact Or.inr rfl)
  (hf:X.fn x=true∨X.env.scope.names.lookup x=some .local:=by first|exact .inl rfl|exact .inr rfl)
  (a1:swapsWithSole [.Name x p] e pos.line X.env=pure false:=by rfl) (a2:swappedStores [.Name x p] e X.env=pure none:=by rfl) (a3:List.map (fun x=>x.snd) (assignEach [.Name x p] X.env)=[assign (.Name x p) X.env]:=by rfl) :
  PSM X W (.Assign [.Name x p] e pos) (tAsg te (gName i)) (gNew i f):=⟨ps_asg h.pe (pg_name hN hi hx hf) a1 a2 a3,snd_new i h.sd⟩
theorem pg_nm {x:Str}(i:Nat)(hN:X.N.Nodup)(hi:X.N[i]?=some x:=by rfl)(hx:Loc X.env.scope x:=by first|exact Or.inl rfl|exact Or.inr rfl)
  (hf:X.fn x=true∨X.env.scope.names.lookup x=some .local:=by first|exact .inl rfl|exact .inr rfl):PMG X (.Name x pos) (gName i) (tgName i) [i]:=⟨pg_name hN hi hx hf,tg_name i⟩
theorem sm_for {tg iter:Expr}{wi:TI}{fi:IM}{gt:TG}{ht:D→Env→Option Env}{tv:List Nat}(ks:List Bool)(hp:PassesOwn (model X.prog X.w) X.A X.env X.xe)(hc:X.calm=true)(hi:PMI X W tg iter wi fi)(hg:PMG X tg gt ht tv)(hb:PSMs X W body t g)
  (hs:∀ (x:Value),foldedSetIterable iter X.env x=pure x:=by intro _;rfl):PSM X W (.For tg iter body [] pos) (tFor wi gt t) (gFor ks fi ht g) :=
 ⟨ps_for hp hc hi.pi hg.pg hb.ps hs,snd_for ks hi.sd hg.ok hb.sd⟩
end
section
variable {X:Cx}{W:WX}{pos:Pos}{te ta tb:TE}{f fa fb:EM}{tt tu:TT}{ft fu:TM}{a b e:Expr}{rest:List Expr}
def tmB (f:EM):TM:=fun δ μ=>(f δ μ).bind fun r μ'=>match r with
 | .dat (.bl b)=>.ok b μ'
 | _=>.bad
theorem snd_tmB {K:PySem.W.Frag}{tt:TT}(h:SndE K W te f)(ht:∀ σ H Q,tB te σ H Q→tt σ H Q):SndT K W tt (tmB f):=fun ρ G H σ δ μ Q R E hp=>ht σ H Q (by
 refine SndG.seq (t:=te) h R E hp fun r μ' G' H' v t' R' E' q hp'=>?_
 match r,q,hp' with
 | .dat (.bl b),q,hp'=>cases q;exact⟨b,rfl,hp' G' H' b t' R' rfl⟩
 | .dat .non,_,hp'=>exact hp'.elim
 | .dat (.int _),_,hp'=>exact hp'.elim
 | .dat (.str _),_,hp'=>exact hp'.elim
 | .dat (.ty _),_,hp'=>exact hp'.elim
 | .dat (.ref _),_,hp'=>exact hp'.elim
 | .dat (.tup _),_,hp'=>exact hp'.elim
 | .dat (.lst _),_,hp'=>exact hp'.elim
 | .dat (.fro _),_,hp'=>exact hp'.elim
 | .dat (.dct _),_,hp'=>exact hp'.elim
 | .dat (.ins _ _),_,hp'=>exact hp'.elim
 | .dat (.err _ _ _ _ _),_,hp'=>exact hp'.elim
 | .loc _,_,hp'=>exact hp'.elim
 | .nl _,_,hp'=>exact hp'.elim
 | .nk _,_,hp'=>exact hp'.elim)
theorem pt_cmp {op:CmpOp}{r:R2}{g:DV→DV→Mem→Res R}(ho:OpR X (compareOp op) r)(hd:OpD X.K r g)(ha:PM X W a ta fa)(hb:PM X W b tb fb)(hm:behindInMarks op b=false):PMT X W (.Compare a [op] [b] pos) (tTest (tOp r ta tb)) (tmB (eOp g fa fb)) :=
 ⟨pt_cmpR ho ha.pe hb.pe hm,snd_tmB (snd_op hd ha.sd hb.sd) fun _ _ _ h=>h⟩
theorem pt_of (h:PM X W e te f)(he:∀ whole,isTrue e X.env whole=(do let v ←whole;standAt e.pos;holding [v] (truthy v)):=by intro _;rfl):PMT X W e (tB te) (tmB f) :=
 ⟨L2.pt_val h.pe he,snd_tmB h.sd fun _ _ _ h=>h⟩
def tmNot (f:TM):TM:=fun δ μ=>(f δ μ).bind fun b μ'=>.ok (!b) μ'
def tmAnd (f g:TM):TM:=fun δ μ=>(f δ μ).bind fun b μ'=>if b=true then g δ μ' else .ok false μ'
def tmOr (f g:TM):TM:=fun δ μ=>(f δ μ).bind fun b μ'=>if b=true then .ok true μ' else g δ μ'
theorem pt_no (h:PMT X W a tt ft):PMT X W (.UnaryOp .Not a pos) (tNot tt) (tmNot ft):=⟨L2.pt_not h.pe,fun ρ G H σ δ μ Q R E hp =>
 SndG.seq (t:=tt) h.sd R E hp fun b μ' G' H' v t' R' E' q hp'=>by subst q;exact hp' G' H' (!v) t' R' rfl⟩
structure PMW (X:Cx)(W:WX)(e:Expr)(tt:TT)(f:TM):Prop where
 pe:PW X e tt
 sd:SndT X.K W tt f
theorem PMW.t (h:PMW X W e tt ft):PMT X W e tt ft:=⟨h.pe.pt,h.sd⟩
theorem w_or1 (h:PMT X W a tt ft):PMW X W (.BoolOp .Or [a] pos) tt ft:=⟨pw_or1 h.pe,h.sd⟩
theorem w_or (h:PMT X W a tt ft)(hb:PMW X W (.BoolOp .Or (b::rest) pos) tu fu):PMW X W (.BoolOp .Or (a::b::rest) pos) (tOr tt tu) (tmOr ft fu):=⟨pw_or h.pe hb.pe,fun ρ G H σ δ μ Q R E hp=>by
 refine SndG.seq (t:=tt) h.sd R E hp fun b μ' G' H' v t' R' E' q hp'=>?_
 subst q
 cases v with
 | true=>exact hp' G' H' true t' R' rfl
 | false=>exact hb.sd ρ G' H' σ δ μ' Q R' E' (hp'.shift t' fun _ _ _ _ q=>q)⟩
def asB (r:R):Option Bool:=match r with
 | .dat (.bl b)=>some b
 | _=>none
def eAnd (f g:EM):EM:=fun δ μ=>(f δ μ).bind fun r μ'=>match asB r with
 | some true=>g δ μ'
 | some false=>.ok (.dat (.bl false)) μ'
 | none=>.bad
def eOr (f g:EM):EM:=fun δ μ=>(f δ μ).bind fun r μ'=>match asB r with
 | some true=>.ok (.dat (.bl true)) μ'
 | some false=>g δ μ'
 | none=>.bad
def eNot (f:EM):EM:=fun δ μ=>(f δ μ).bind fun r μ'=>match asB r with
 | some b=>.ok (.dat (.bl (!b))) μ'
 | none=>.bad
def eIf (f:TM)(g h:EM):EM:=fun δ μ=>(f δ μ).bind fun b μ'=>if b=true then g δ μ' else h δ μ'
end
def wipeE (δ:Env):List Nat→Env
 | []=>δ
 | v::vs=>(wipeE δ vs).set v none
def WF:WX:=fun _ _ _ _=>False
def lcL (h:D→Env→Option Env)(ft:TM)(fe:EM)(δ:Env):List D→Mem→Res (List DV)
 | [],μ=>.ok [] μ
 | d::ds,μ=>match h d δ with
  | none=>.bad
  | some δ1=>match ft δ1 μ with
   | .ok true μ1=>match frzV fe δ1 μ1 with
    | .ok y μ2=>(lcL h ft fe δ ds μ2).bind fun ys μ3=>.ok (y::ys) μ3
    | _=>.bad
   | .ok false μ1=>lcL h ft fe δ ds μ1
   | _=>.bad
def eLc (fi:IM)(h:D→Env→Option Env)(ft:TM)(fe:EM)(vs:List Nat):EM:=fun δ μ=>(fi δ μ).bind fun xs μ' =>
 if xs.length≤sizeLine then(lcL h ft fe (wipeE δ vs) xs μ').bind fun ys μ2=>.ok (.nl ys) μ2 else .bad
section
variable {K:PySem.W.Frag}{W:WX}{N M:Nat}{ρ ρ0 ρ1 ρ2:Pm}{G H G0 H0 G1 H1 G2 H2:Hp}{σ:Slots}{δ:Env}{μ:Mem}{Dn:Ends}
theorem EnvOk.wipe (E:EnvOk K ρ G σ δ):∀ vs:List Nat,EnvOk K ρ G (wipe σ vs) (wipeE δ vs)
 | []=>E
 | v::vs=>by
  have E':=EnvOk.wipe E vs
  refine⟨?_,fun i x hi=>?_⟩
  ·show((L2.wipe σ vs).set v none).length=((wipeE δ vs).set v none).length
   rw[List.length_set,List.length_set];exact E'.len
  ·have hi:((wipeE δ vs).set v none)[i]?=some (some x):=hi
   show ∃ w,((L2.wipe σ vs).set v none)[i]?=some (some w)∧_
   by_cases e:v=i
   ·subst e
    by_cases hl:v<(wipeE δ vs).length
    ·rw[List.getElem?_set_self hl] at hi;cases hi
    ·rw[List.getElem?_eq_none (by rw[List.length_set];omega)] at hi;cases hi
   ·rw[List.getElem?_set_ne e] at hi ⊢
    exact E'.at_ i x hi
theorem Rel.poke {p:Addr}{o:HO}(R:Rel K ρ G H μ)(hg:G p=none)(hn:∀ n,ρ n≠some p):Rel K ρ G (upd H p o) μ:=by
 refine⟨fun a u h=>?_,R.inj,R.nG,R.lt,fun n a h q=>?_,fun n q h=>?_⟩
 ·have e:a≠p:=fun e=>by rw[e,hg] at h;cases h
  rw[upd_ne e];exact R.ex a u h
 ·have e:a≠p:=fun e=>hn n (e▸h)
  rw[upd_ne e] at q;exact R.hs n a h q
 ·have z:=R.pl n q h
  cases q with
  | lst xs=>obtain⟨b,a,vs,h1,h2,h3⟩:=z;exact⟨b,a,vs,h1,by rw[upd_ne (show a≠p from fun e=>hn n (e▸h1))];exact h2,h3⟩
  | dct kvs=>obtain⟨b,a,o,vs,h1,h2,h3⟩:=z;exact⟨b,a,o,vs,h1,by rw[upd_ne (show a≠p from fun e=>hn n (e▸h1))];exact h2,h3⟩
  | lkd kvs=>obtain⟨b,a,o,vs,h1,h2,h3⟩:=z;exact⟨b,a,o,vs,h1,by rw[upd_ne (show a≠p from fun e=>hn n (e▸h1))];exact h2,h3⟩
  | lkl xs=>obtain⟨b,a,o,vs,h1,h2,h3⟩:=z;exact⟨b,a,o,vs,h1,by rw[upd_ne (show a≠p from fun e=>hn n (e▸h1))];exact h2,h3⟩
  | tp xs=>obtain⟨b,a,o,vs,h1,h2,h3⟩:=z;exact⟨b,a,o,vs,h1,by rw[upd_ne (show a≠p from fun e=>hn n (e▸h1))];exact h2,h3⟩
  | er nm' f' xs=>obtain⟨b,a,o,vs,h1,h2,h3⟩:=z;exact⟨b,a,o,vs,h1,by rw[upd_ne (show a≠p from fun e=>hn n (e▸h1))];exact h2,h3⟩
  | own=>obtain⟨a,b,h1,h2⟩:=z;exact⟨a,b,h1,by rw[upd_ne (show a≠p from fun e=>hn n (e▸h1))];exact h2⟩
  | ins nm fs=>obtain⟨b,a,dx,C,vs,m,hm,h1,h2,c,h4,h3⟩:=z;exact⟨b,a,dx,C,vs,m,hm,h1,by rw[upd_ne (show a≠p from fun e=>hn n (e▸h1))];exact h2,c,by rw[upd_ne (show dx≠p from fun e=>hn m (e▸hm.2))];exact h4,h3⟩
  | gone=>exact z
theorem Tr.poke {p:Addr}{o:HO}(t:Tr ρ G0 H0 G H)(h0:H0 p=none):Tr ρ G0 H0 G (upd H p o) where
 exG:=t.exG
 keep:=fun a u hn h=>by rw[upd_ne (ne_of_none h h0)];exact t.keep a u hn h
 th:=fun a h=>by
  by_cases e:a=p
  ·rw[e];exact h0
  ·rw[upd_ne e] at h;exact t.th a h
 nG:=t.nG
 fz:=fun a od u h=>by rw[upd_ne (ne_of_none h h0)];exact t.fz a od u h
theorem paired_snoc {α β:Type}{P:α→β→Prop}:∀ {l:List α} {m:List β} {a:α} {b:β},Paired P l m→P a b→Paired P (l++[a]) (m++[b])
 | _,_,_,_,.nil,h=>.cons h .nil
 | _,_,_,_,.cons r t,h=>.cons r (paired_snoc t h)
theorem snd_lc {wi:TI}{fi:IM}{g:TG}{h:D→Env→Option Env}{tv vs:List Nat}{tt:TT}{ft:TM}{te:TE}{fe:EM}(hi:SndI K W wi fi)(hg:TgOk K g h tv)(hv:∀ i∈tv,i∈vs)(ht:SndT K WF tt ft)(he:SndE K WF te fe) :
  SndE K W (tLc wi g tt te vs) (eLc fi h ft fe vs):=fun ρ G H σ δ μ Q R E hp=>by
 refine SndG.seq (t:=wi) hi R E hp fun xs μ0 G0 H0 J t0 R0 E0 it hp0=>?_
 by_cases hz:xs.length≤sizeLine
 case neg=>rw[if_neg hz] at hp0;exact hp0.elim
 rw[if_pos hz] at hp0
 intro Dl hD
 obtain⟨nG0,nρ0⟩:=fresh_ne R0 hD
 have hp0:=hp0.shiftE t0
 refine⟨fun i m H1=>∃ G1 μ1 accV pre,Tr ρ G0 H0 G1 H1∧Rel K ρ G1 H1 μ1∧G1 Dl=none∧H1 Dl=some (.lst accV)∧DvL K ρ G1 accV pre∧pre.length≤i∧m=xs.length-i∧i≤xs.length ∧
  PostG K W ρ G0 H0 σ (fun G' H'=>rpE K ρ G' H0 H') Q ((lcL h ft fe (wipeE δ vs) (xs.drop i) μ1).bind fun ys μ2=>.ok (.nl (pre++ys)) μ2),⟨xs.length,G0,μ0,[],[],(Tr.refl _ _ _).poke hD,R0.poke nG0 nρ0,nG0,upd_same,.nil,by simp,by omega,by omega,?_⟩,fun i m H1 hW=>?_⟩
 ·exact hp0
 obtain⟨G1,μ1,accV,pre,t1,R1,nG1,eD,dl,hlen,em,hle,hp1⟩:=hW
 obtain⟨go,stop⟩:=it ρ G1 H1 μ1 R1 t1.exG t1.fz
 cases e:xs.drop i with
 | nil =>
  rw[e] at hp1
  have hl:xs.length≤i:=by
   have:=congrArg List.length e
   rw[List.length_drop] at this
   simp at this;omega
  simp only[lcL,Res.bind_ok,List.append_nil] at hp1
  exact .inl ⟨stop i hl,hp1 G1 H1 _ t1 R1 ⟨Dl,accV,rfl,eD,dl,nG1,nρ0,hD⟩⟩
 | cons d ds =>
  rw[e] at hp1
  obtain⟨hd,hds,hlt⟩:=drop_cons e
  obtain⟨g1,g2⟩:=go i d hd
  refine .inr ⟨g1,fun H'=>∃ m',m'<m∧_,fun H' q=>q,fun v H2 hy=>?_⟩
  obtain⟨G2,t2,R2,rp⟩:=g2 v H2 hy
  have E2:EnvOk K ρ G2 (wipe σ vs) (wipeE δ vs):=(E0.mono (t1.exG.trans t2.exG)).wipe vs
  unfold lcL at hp1
  cases eh:h d (wipeE δ vs) with
  | none=>simp only[eh] at hp1;exact hp1.elim
  | some δ1 =>
   simp only[eh] at hp1
   refine hg ρ G2 H2 μ1 _ (wipeE δ vs) δ1 v d _ R2 E2 rp eh fun σ2 E3 hl hσ=>⟨?_,?_⟩
   ·refine(wipe_ext (τ:=wipe σ vs) hl fun i hi=>hσ i fun z=>hi (hv i z)).trans ?_
    exact wipe_ext (by rw[wipe_length]) fun i hi=>wipe_out hi
   have nG2:∀ {G' H'},Tr ρ G1 H1 G' H'→G' Dl=none:=fun {G' H'} t'=>by
    cases q:G' Dl with
    | none=>rfl
    | some o=>exact((t'.nG Dl (by rw[q];simp)).elim (fun z=>absurd nG1 z) fun z=>by rw[eD] at z;cases z)
   refine ht ρ G2 H2 σ2 δ1 μ1 _ R2 E3 ?_
   cases et:ft δ1 μ1 with
   | exc x μ'=>simp only[et] at hp1;exact hp1.elim
   | bad=>simp only[et] at hp1;exact hp1.elim
   | ok b μ2 =>
    intro G3 H3 bv t3 R3 eb
    subst eb
    simp only[et] at hp1
    have T3:=t2.trans t3
    cases bv with
    | false =>
     refine⟨xs.length-(i+1),by omega,G3,μ2,accV,pre,t1.trans T3,R3,nG2 T3,T3.keep _ _ nρ0 eD,DvL.mono T3.exG (fun _ _ q=>q) dl,by omega,rfl,hlt,?_⟩
     rw[hds];exact hp1
    | true =>
     refine he.toV ρ G3 H3 σ2 δ1 μ2 _ R3 (E3.mono t3.exG) ?_
     simp only at hp1
     cases ee:frzV fe δ1 μ2 with
     | exc x μ'=>simp only[ee] at hp1;exact hp1.elim
     | bad=>simp only[ee] at hp1;exact hp1.elim
     | ok y μ3 =>
      simp only[ee] at hp1
      intro G4 H4 yv t4 R4 dy
      have T4:=T3.trans t4
      refine⟨accV,T4.keep _ _ nρ0 eD,?_,xs.length-(i+1),by omega,G4,μ3,accV++[yv],pre++[y],(t1.trans T4).poke hD,R4.poke (nG2 T4) nρ0,nG2 T4,upd_same,paired_snoc (DvL.mono T4.exG (fun _ _ q=>q) dl) dy,?_,rfl,hlt,?_⟩
      ·rw[paired_len dl];omega
      ·rw[List.length_append,List.length_singleton];omega
      ·rw[hds]
       have z:((lcL h ft fe (wipeE δ vs) ds μ3).bind fun ys μ2=>Res.ok (DL.R.nl (pre++[y]++ys)) μ2)=(((lcL h ft fe (wipeE δ vs) ds μ3).bind fun ys μ3=>Res.ok (y::ys) μ3).bind fun ys μ2=>.ok (DL.R.nl (pre++ys)) μ2):=by
        cases lcL h ft fe (wipeE δ vs) ds μ3 <;> simp
       rw[z];exact hp1
theorem snd_yes:SndT K W tYes (fun _ μ=>.ok true μ):=fun ρ G H σ δ μ Q R E hp=>hp G H true (Tr.refl _ _ _) R rfl
end
section
variable {X:Cx}{W:WX}
structure PMTs (X:Cx)(W:WX)(ifs:List Expr)(tt:TT)(f:TM):Prop where
 pe:PTs X ifs tt
 sd:SndT X.K W tt f
def tmYes:TM:=fun _ μ=>.ok true μ
theorem ts_nil:PMTs X W [] tYes tmYes:=⟨pts_nil,snd_yes⟩
theorem pm_lc {elt tg iter:Expr}{ifs:List Expr}{scope:Scope}{own:List (Str×Nat)}{pos:Pos}{wi:TI}{fi:IM}{g:TG}{h:D→Env→Option Env}{tv:List Nat}{tt:TT}{ft:TM}{te:TE}{fe:EM}(hc:X.calm=true)(hN:X.N.Nodup)
  (hi:PMI X W tg iter wi fi) (ok:BlkOk X.N X.env.scope scope own)
  (hg:∀ (s:Shared) (H:Hp) (C:Addr) (cl:List (Str×Addr)) (fp:List Addr),PMG (X.blk s H scope (compEnvC scope cl C X.env) fp) tg g h tv)
  (hv:∀ i∈tv,i∈own.map (·.2))
  (ht:∀ (s:Shared) (H:Hp) (C:Addr) (cl:List (Str×Addr)) (fp:List Addr),PMTs (X.blk s H scope (compEnvC scope cl C X.env) fp) WF ifs tt ft)
  (he:∀ (s:Shared) (H:Hp) (C:Addr) (cl:List (Str×Addr)) (fp:List Addr),PM (X.blk s H scope (compEnvC scope cl C X.env) fp) WF elt te fe)
  (hs:∀ x,foldedSetIterable iter X.env x=pure x:=by intro _;rfl) :
  PM X W (.ListComp elt [⟨tg,iter,ifs,0⟩] scope pos) (tLc wi g tt te (own.map (·.2))) (eLc fi h ft fe (own.map (·.2))) :=
 ⟨pe_lc hc hN hi.pi ok (fun s H C cl fp=>(hg s H C cl fp).pg) (fun s H C cl fp=>(ht s H C cl fp).pe) (fun s H C cl fp=>(he s H C cl fp).pe) hs,
  snd_lc hi.sd (hg X.s_0 X.H_0 0 [] []).ok hv (ht X.s_0 X.H_0 0 [] []).sd (he X.s_0 X.H_0 0 [] []).sd⟩
abbrev EW (W:WX):Slots→XK:=fun σ cls d H=>W cls d σ H
theorem snd_call {K:PySem.W.Frag}{F:List DV→Mem→Res R}{n:Nat}{ta:TA}{fa:AM}(ha:SndA K W ta fa)(hn:∀ xs μ,F xs μ≠.bad→xs.length=n):SndE K W (tCallSD (spF K n F) [] (EW W) ta) (eCB F fa):=fun ρ G H σ δ μ Q R E hp=>by
 refine SndG.seq (t:=ta) ha R E hp fun xs μ1 G1 H1 vs t1 R1 E1 d1 hp1=>?_
 have hp2:=hp1.shiftE t1
 have hb:F xs μ1≠.bad:=fun e=>by rw[e] at hp2;exact hp2
 show spF K n F (vs++[]) H1 Q (EW W σ)
 rw[List.append_nil]
 refine⟨by rw[paired_len d1];exact hn xs μ1 hb,ρ,G1,μ1,xs,R1,d1,?_⟩
 cases e:F xs μ1 with
 | ok r μ'=>rw[e] at hp2;exact hp2
 | exc x μ'=>rw[e] at hp2;exact hp2
 | bad=>exact hb e
structure FnD (P:Program)(w:World)(K:PySem.W.Frag)(mg:Str→Option Value)(base:Heap)(cx:CXT)(k:Nat)(x:Str)(n:Nat)(F:List DV→Mem→Res R):Prop where
 ar:∀ xs μ,F xs μ≠.bad→xs.length=n
 ex:∃ (f:Addr) (fd:FuncData) (ps:List Str),ps.length=n∧FnG P w K mg base cx k f fd ps (spF K n F)∧mg x=some (.ref f)∧PySem.W.keepIn K (.ref f)=true∧Binds K fd ps []
theorem pm_call {cx:CXT}{k n:Nat}{x:Str}{F:List DV→Mem→Res R}{e:Expr}{es:List Expr}{ta:TA}{fa:AM}{p pos:Pos}(Fn:FnD X.prog X.w X.K X.mg X.base cx k x n F)(hr:Room k X.A)(hgd:X.A.guards=some [])(hg:Gl X x)
  (hx:∀ σ,PassesAt cx X σ (EW W σ)) (ha:PMA X W (e::es) ta fa) (hdb:(x==("__debug__":Str))=false:=by decide)
  (he:starEach (e::es) X.env=(false,eval e X.env)::starEach es X.env:=by rfl) (hpl:(backTo pos (starEach es X.env)).any (·.1)=false:=by rfl) :
  PM X W (.Call (.Name x p) (e::es) [] pos) (tCallSD (spF X.K n F) [] (EW W) ta) (eCB F fa):=by
 obtain⟨f,fd,ps,hn,G,hm,hk,hb⟩:=Fn.ex
 exact⟨pe_callG G hr hgd hg hm hk hb .nil hx ha.pe hdb he hpl,snd_call ha.sd Fn.ar⟩
def callD (g:SM)(n m:Nat):List DV→Mem→Res R:=fun xs μ=>if xs.length=n then callF g m xs μ else .bad
theorem callD_ar {g:SM}{n m:Nat}(xs:List DV)(μ:Mem)(h:callD g n m xs μ≠.bad):xs.length=n:=by
 unfold callD at h
 by_cases e:xs.length=n
 ·exact e
 ·rw[if_neg e] at h;exact absurd rfl h
theorem sp_callD {K:PySem.W.Frag}{g:SM}{n m:Nat}{vs:List V}{H:Hp}{Q:VK}{E:XK}(h:spF K n (callD g n m) vs H Q E):spF K n (callF g m) vs H Q E:=by
 obtain⟨hl,ρ,G,μ,xs,R,d,hp⟩:=h
 refine⟨hl,ρ,G,μ,xs,R,d,?_⟩
 unfold callD at hp
 rw[if_pos (by rw[←paired_len d];exact hl)] at hp
 exact hp
variable {P:Program}{w:World}{K:PySem.W.Frag}{mg:Str→Option Value}{base:Heap}
theorem fn_ok {x qual:Str}{st:Stmt}{f:Addr}{fd:FuncData}{Nm ps:List Str}{k n m:Nat}{g:SM}(F:Fun K x qual st f fd)(S:FnScope Nm ps (defScope st))(hm:mg x=some (.ref f))(hn:ps.length=n)(hmn:Nm.length=n+m)
  (hb:∀ (kV doc pm:Value) (an:Option Addr) (cdv ct:Value) (us:List Value),us.length=ps.length→bindArgs (PySem.W.fnOf x qual (defArgs st) (defBody st) (defScope st) .none kV doc pm an cdv ct) ⟨us,[]⟩=pure (ps.zip us))
  (body:∀ (cdv:Value) (A:Around) (out:List PySem.Env) (s:Shared) (H:Hp) (E:XK),Room k (A.deeper (envOfC qual (defScope st) s.heap.objs.size f cdv))→A.guards=some [] →
   ∃ ts,PSMs (cxOf CX0 P w K mg base Nm qual (defScope st) f cdv A out s H E).nox (fun cls d _ H=>E cls d H) (defBody st) ts g) :
  FnD P w K mg base CX0 (k+1) x n (callD g n m):=by
 refine⟨callD_ar,f,fd,ps,hn,?_,hm,F.kp,F.binds hb⟩
 obtain⟨oc,od,kV,doc,pm,an,cdv,ct,osl,rfl,lk,hcd⟩:=F.ex
 refine fnG_of lk hcd S (fun vs H Q E h=>by rw[h.1,hn]) fun A out s H vs Q E hr hg hsp=>?_
 obtain⟨ts,b⟩:=body cdv A out s H E hr hg
 refine⟨ts,b.ps.nox,?_⟩
 have e:Nm.length-n=m:=by omega
 exact body_ok (n:=n) b.sd (by omega) (by rw[e];exact sp_callD hsp)
theorem pass_0 {X:Cx}{E:Slots→XK}(σ:Slots):PassesAt CX0 X σ (E σ):=fun _ _ _ _ _ _ h=>h.elim
end
theorem OpR.or {X:Cx}{f:Value→Value→Sem Value}{r r':R2}(h:OpR X f r)(h':OpR X f r'):OpR X f (fun x y H Q=>r x y H Q∨r' x y H Q) :=
 fun pins s σ H x y v u Q I rx ry q=>q.elim (h pins s σ H x y v u Q I rx ry) (h' pins s σ H x y v u Q I rx ry)
theorem CallR.or {X:Cx}{f:Value}{r r':List V→Hp→VK→Prop}(h:CallR X f r)(h':CallR X f r'):CallR X f (fun x H Q=>r x H Q∨r' x H Q) :=
 fun pins s σ H x v Q I rx q=>q.elim (h pins s σ H x v Q I rx) (h' pins s σ H x v Q I rx)
theorem SlR.or {X:Cx}{r r':V→Option Int→Option Int→Hp→VK→Prop}(h:SlR X r)(h':SlR X r'):SlR X (fun x lo hi H Q=>r x lo hi H Q∨r' x lo hi H Q) :=
 fun pins s σ H x v vl vu lo hi sl Q I rx a b c q=>q.elim (h pins s σ H x v vl vu lo hi sl Q I rx a b c) (h' pins s σ H x v vl vu lo hi sl Q I rx a b c)
def asL (μ:Mem):DV→Option (List DV)
 | .dat (.lst ds)=>some (ds.map DV.dat)
 | .dat (.fro ds)=>some (ds.map DV.dat)
 | .loc n=>match μ[n]? with
  | some (.lst xs)=>some xs
  | _=>none
 | _=>none
def asM (μ:Mem):DV→Option (List DV)
 | .dat (.lst ds)=>some (ds.map DV.dat)
 | .loc n=>match μ[n]? with
  | some (.lst xs)=>some xs
  | _=>none
 | _=>none
def asT:DV→Option (List D)
 | .dat (.tup ds)=>some ds
 | _=>none
def asS (μ:Mem)(x:DV):Option (List DV):=match asL μ x with
 | some xs=>some xs
 | none=>(asT x).map fun ds=>ds.map DV.dat
section
variable {K:PySem.W.Frag}{W:WX}{N M:Nat}{ρ:Pm}{G H:Hp}{σ:Slots}{δ:Env}{μ:Mem}{Q:VK}{v:V}{x:DV}
theorem RpL.dv {vs:List V}{ds:List D}:RpL K G vs ds→DvL K ρ G vs (ds.map DV.dat)
 | .nil=>.nil
 | .cons a b=>.cons a (RpL.dv b)
theorem asL_ok {xs:List DV}(R:Rel K ρ G H μ)(h:DvOk K ρ G v x)(e:asL μ x=some xs):∃ a vs,v=.ref a∧SqL K H a vs∧DvL K ρ G vs xs:=by
 unfold asL at e
 split at e
 ·cases e
  cases h with
  | lst h r=>exact⟨_,_,rfl,.inl (.inl (R.ex _ _ h)),r.dv⟩
 ·cases e
  cases h with
  | fro h r=>exact⟨_,_,rfl,ex_l R.ex h,r.dv⟩
 ·rename_i n
  split at e
  ·rename_i q
   cases e
   obtain⟨a,rfl,hn⟩:=h
   obtain⟨_,b,vs,h1,h2,h3⟩:=R.pl n _ q
   rw[hn] at h1;cases h1
   exact⟨a,vs,rfl,.inl (.inl h2),h3⟩
  ·cases e
 ·cases e
theorem asM_ok {xs:List DV}(R:Rel K ρ G H μ)(h:DvOk K ρ G v x)(e:asM μ x=some xs):∃ a vs,v=.ref a∧H a=some (.lst vs)∧DvL K ρ G vs xs:=by
 unfold asM at e
 split at e
 ·cases e
  cases h with
  | lst h r=>exact⟨_,_,rfl,R.ex _ _ h,r.dv⟩
 ·rename_i n
  split at e
  ·rename_i q
   cases e
   obtain⟨a,rfl,hn⟩:=h
   obtain⟨_,b,vs,h1,h2,h3⟩:=R.pl n _ q
   rw[hn] at h1;cases h1
   exact⟨a,vs,rfl,h2,h3⟩
  ·cases e
 ·cases e
theorem asT_ok {ds:List D}(R:Rel K ρ G H μ)(h:DvOk K ρ G v x)(e:asT x=some ds):∃ a vs,v=.ref a∧SqT K H a vs∧RpL K G vs ds:=by
 unfold asT at e
 split at e
 ·cases e
  cases h with
  | tup h r=>exact⟨_,_,rfl,ex_t R.ex h,r⟩
 ·cases e
theorem asT_eq {ds:List D}(e:asT x=some ds):x=.dat (.tup ds):=by
 unfold asT at e
 split at e
 ·cases e;rfl
 ·cases e
theorem new_tup {G0 H0:Hp}{p:Addr}{vs:List V}{ds:List D}(R:Rel K ρ G H μ)(t:Tr ρ G0 H0 G H)(hn:H p=none)(r:RpL K G vs ds)
  (hp:PostG K W ρ G0 H0 σ (fun G' H'=>rpE K ρ G' H0 H') Q (.ok (.dat (.tup ds)) μ)):Q (.ref p) (upd H p (.tup vs)):=by
 obtain⟨R2,t2,ex⟩:=R.layD (o:=.tup vs) hn
 exact hp _ _ _ (t.trans t2) R2 (Rp.tup (.inl (.inl upd_same)) (r.mono ex))
theorem asS_ok {xs:List DV}(R:Rel K ρ G H μ)(h:DvOk K ρ G v x)(e:asS μ x=some xs):∃ a vs,v=.ref a∧(SqL K H a vs∨SqT K H a vs)∧DvL K ρ G vs xs:=by
 unfold asS at e
 split at e
 ·rename_i q
  cases e
  obtain⟨a,vs,h1,h2,h3⟩:=asL_ok R h q
  exact⟨a,vs,h1,.inl h2,h3⟩
 ·cases q:asT x with
  | none=>rw[q] at e;cases e
  | some ds =>
   rw[q] at e;cases e
   obtain⟨a,vs,h1,h2,h3⟩:=asT_ok R h q
   exact⟨a,vs,h1,.inr h2,h3.dv⟩
theorem DvL.get':∀ {vs:List V} {xs:List DV} {i:Nat} {y:DV},DvL K ρ G vs xs→xs[i]?=some y→∃ w,vs[i]?=some w∧DvOk K ρ G w y
 | _,_,_,_,.nil,h=>by simp at h
 | _,_,0,_,.cons a _,h=>by cases h;exact⟨_,rfl,a⟩
 | _,_,i+1,v,.cons _ b,h=>DvL.get' (i:=i) b h
theorem DvL.take {vs:List V}{xs:List DV}(h:DvL K ρ G vs xs)(n:Nat):DvL K ρ G (vs.take n) (xs.take n):=by
 induction h generalizing n with
 | nil=>simp;exact .nil
 | cons a _ ih =>
  cases n with
  | zero=>exact .nil
  | succ n=>exact .cons a (ih n)
theorem DvL.drop {vs:List V}{xs:List DV}(h:DvL K ρ G vs xs)(n:Nat):DvL K ρ G (vs.drop n) (xs.drop n):=by
 induction h generalizing n with
 | nil=>simp;exact .nil
 | cons a b ih =>
  cases n with
  | zero=>exact .cons a b
  | succ n=>exact ih n
theorem DvL.append {vs ws:List V}{xs ys:List DV}(h:DvL K ρ G vs xs)(h':DvL K ρ G ws ys):DvL K ρ G (vs++ws) (xs++ys):=by
 induction h with
 | nil=>exact h'
 | cons a _ ih=>exact .cons a ih
theorem PostG.okD {d:D}(h:PostG K W ρ G H σ (fun G' H'=>rpE K ρ G' H H') Q (.ok (.dat d) μ))(R:Rel K ρ G H μ)(r:Rp K G v d):Q v H:=h G H v (Tr.refl _ _ _) R r
theorem PostG.okV {y:DV}(h:PostG K W ρ G H σ (fun G' H'=>rpE K ρ G' H H') Q (.ok (ofV y) μ))(R:Rel K ρ G H μ)(r:DvOk K ρ G v y):Q v H:=h G H v (Tr.refl _ _ _) R (RpR.ofV r)
def asI:DV→Option Int
 | .dat (.int i)=>some i
 | _=>none
def asStr:DV→Option Str
 | .dat (.str i)=>some i
 | _=>none
def asBl:DV→Option Bool
 | .dat (.bl i)=>some i
 | _=>none
theorem asI_ok {i:Int}(h:DvOk K ρ G v x)(e:asI x=some i):v=.int i:=by
 unfold asI at e
 split at e
 ·cases e;cases h;rfl
 ·cases e
theorem asStr_ok {i:Str}(h:DvOk K ρ G v x)(e:asStr x=some i):v=.str i:=by
 unfold asStr at e
 split at e
 ·cases e;cases h;rfl
 ·cases e
theorem asBl_ok {i:Bool}(h:DvOk K ρ G v x)(e:asBl x=some i):v=.bl i:=by
 unfold asBl at e
 split at e
 ·cases e;cases h;rfl
 ·cases e
def d2I (C:Int→Int→Bool)(g:Int→Int→D)(x y:DV)(μ:Mem):Res R:=match asI x with
 | none=>.bad
 | some i=>match asI y with
  | none=>.bad
  | some j=>if C i j=true then .ok (.dat (g i j)) μ else .bad
theorem od_I {C:Int→Int→Prop}{Cb:Int→Int→Bool}{g:Int→Int→V}{gd:Int→Int→D}(hC:∀ i j,Cb i j=true→C i j)(hg:∀ G i j,Rp K G (g i j) (gd i j)):OpD K (rI C g) (d2I Cb gd):=fun W ρ G H σ μ v w x y Q R hx hy hp=>by
 unfold d2I at hp
 cases e1:asI x with
 | none=>rw[e1] at hp;exact hp.elim
 | some i =>
  rw[e1] at hp
  cases e2:asI y with
  | none=>rw[e2] at hp;exact hp.elim
  | some j =>
   rw[e2] at hp
   by_cases c:Cb i j=true
   ·simp only[if_pos c] at hp;exact⟨i,j,asI_ok hx e1,asI_ok hy e2,hC i j c,hp.okD R (hg G i j)⟩
   ·simp only[if_neg c] at hp;exact hp.elim
theorem od_I0 {g:Int→Int→V}{gd:Int→Int→D}(hg:∀ G i j,Rp K G (g i j) (gd i j)):OpD K (rI0 g) (d2I (fun _ _=>true) gd):=fun W ρ G H σ μ v w x y Q R hx hy hp=>by
 obtain⟨i,j,h1,h2,_,q⟩:=od_I (C:=fun _ _=>True) (fun _ _ _=>trivial) hg W ρ G H σ μ v w x y Q R hx hy hp
 exact⟨i,j,h1,h2,q⟩
abbrev dSub:DV→DV→Mem→Res R:=d2I (fun _ _=>true) fun i j=>.int (i-j)
def cMul (i j:Int):Bool:=decide (-2^64<i∧i<2^64)||decide (-2^64<j∧j<2^64)
abbrev dMul:DV→DV→Mem→Res R:=d2I cMul fun i j=>.int (i*j)
abbrev dMod:DV→DV→Mem→Res R:=d2I (fun _ j=>decide (0<j)) fun i j=>.int (i % j)
abbrev dDiv:DV→DV→Mem→Res R:=d2I (fun _ j=>decide (0<j∧j<1073741824)) fun i j=>.int (i / j)
abbrev dLt:DV→DV→Mem→Res R:=d2I (fun _ _=>true) fun i j=>.bl (decide (i<j))
abbrev dLe:DV→DV→Mem→Res R:=d2I (fun _ _=>true) fun i j=>.bl (decide (i≤j))
abbrev dGt:DV→DV→Mem→Res R:=d2I (fun _ _=>true) fun i j=>.bl (decide (j<i))
abbrev dGe:DV→DV→Mem→Res R:=d2I (fun _ _=>true) fun i j=>.bl (decide (j≤i))
theorem od_mul:OpD K (rI CMul fun i j=>V.int (i*j)) dMul:=od_I (fun i j h=>by
 unfold cMul at h
 rw[Bool.or_eq_true,decide_eq_true_eq,decide_eq_true_eq] at h
 exact h) fun _ _ _=>.int _
theorem od_mod:OpD K (rI (fun _ j=>0<j) fun i j=>V.int (i % j)) dMod:=od_I (fun i j h=>of_decide_eq_true h) fun _ _ _=>.int _
theorem od_div:OpD K (rI CDiv fun i j=>V.int (i / j)) dDiv:=od_I (fun i j h=>by
 have:=of_decide_eq_true h
 exact⟨by omega,by omega⟩) fun _ _ _=>.int _
theorem od_lt:OpD K (rI0 fun i j=>V.bl (decide (i<j))) dLt:=od_I0 fun _ _ _=>.bl _
theorem od_gt:OpD K (rI0 fun i j=>V.bl (decide (j<i))) dGt:=od_I0 fun _ _ _=>.bl _
theorem od_ge:OpD K (rI0 fun i j=>V.bl (decide (j≤i))) dGe:=od_I0 fun _ _ _=>.bl _
def rPlus (K:PySem.W.Frag):R2:=fun x y H Q=>(rI0 (fun i j=>V.int (i+j)) x y H Q∨rCat x y H Q) ∨
 (rCatA K x y H Q∨∃ i j,x=V.str i∧y=V.str j∧i.length+j.length≤sizeLine∧Q (V.str (i++j)) H)
theorem op_plus {X:Cx}:OpR X (binaryOp .Add) (rPlus X.K):=OpR.or (OpR.or op_add op_cat) (OpR.or op_catA op_add_str)
def dAdd (x y:DV)(μ:Mem):Res R:=match asI x,asI y with
 | some i,some j=>.ok (.dat (.int (i+j))) μ
 | _,_=>match asStr x,asStr y with
  | some i,some j=>if i.length+j.length≤sizeLine then .ok (.dat (.str (i++j))) μ else .bad
  | _,_=>match asT x,asT y with
   | some a,some b=>if a.length+b.length≤sizeLine then .ok (.dat (.tup (a++b))) μ else .bad
   | _,_=>match asM μ x,asM μ y with
    | some a,some b=>if a.length+b.length≤sizeLine then .ok (.nl (a++b)) μ else .bad
    | _,_=>.bad
theorem od_add:OpD K (rPlus K) dAdd:=fun W ρ G H σ μ v w x y Q R hx hy hp=>by
 unfold dAdd at hp
 split at hp
 ·rename_i i j e1 e2
  exact .inl (.inl ⟨i,j,asI_ok hx e1,asI_ok hy e2,hp.okD R (.int _)⟩)
 split at hp
 ·rename_i i j e1 e2
  by_cases c:i.length+j.length≤sizeLine
  ·rw[if_pos c] at hp;exact .inr (.inr ⟨i,j,asStr_ok hx e1,asStr_ok hy e2,c,hp.okD R (.str _)⟩)
  ·rw[if_neg c] at hp;exact hp.elim
 split at hp
 ·rename_i a b e1 e2
  by_cases c:a.length+b.length≤sizeLine
  ·rw[if_pos c] at hp
   obtain⟨p,vs,rfl,h2,h3⟩:=asT_ok R hx e1
   obtain⟨q,ws,rfl,k2,k3⟩:=asT_ok R hy e2
   refine .inr (.inl ⟨p,q,vs,ws,rfl,rfl,h2,k2,by rw[h3.length,k3.length];exact c,fun z=>?_,fun _ z=>?_,fun _ _ t ht=>?_⟩)
   ·subst z
    cases h3
    rw[asT_eq e2] at hy
    exact hp.okD R hy
   ·subst z
    cases k3
    rw[List.append_nil] at hp
    rw[asT_eq e1] at hx
    exact hp.okD R hx
   ·exact new_tup R (Tr.refl _ _ _) ht (h3.append k3) hp
  ·rw[if_neg c] at hp;exact hp.elim
 split at hp
 ·rename_i a b e1 e2
  by_cases c:a.length+b.length≤sizeLine
  ·rw[if_pos c] at hp
   obtain⟨p,vs,rfl,h2,h3⟩:=asM_ok R hx e1
   obtain⟨q,ws,rfl,k2,k3⟩:=asM_ok R hy e2
   exact .inl (.inr ⟨p,q,vs,ws,rfl,rfl,h2,k2,by rw[paired_len h3,paired_len k3];exact c,fun t ht=>new_list R (Tr.refl _ _ _) ht (h3.append k3) hp⟩)
  ·rw[if_neg c] at hp;exact hp.elim
 exact hp.elim
def dIx (x y:DV)(μ:Mem):Res R:=match asI y with
 | none=>.bad
 | some i=>match asS μ x with
  | some xs=>match atI xs i with
   | some z=>.ok (ofV z) μ
   | none=>.bad
  | none=>match asStr x with
   | some z=>if z.length≤sizeLine then match atI z.cps.toList i with
     | some c=>.ok (.dat (.str ⟨#[c]⟩)) μ
     | none=>.bad
    else .bad
   | none=>.bad
theorem atI_dv {vs:List V}{xs:List DV}{i:Int}{y:DV}(h:DvL K ρ G vs xs)(e:atI xs i=some y):∃ w,atI vs i=some w∧DvOk K ρ G w y:=by
 unfold atI at e ⊢
 rw[paired_len h]
 cases q:ixN xs.length i with
 | none=>rw[q] at e;cases e
 | some j=>rw[q] at e;exact DvL.get' h e
theorem od_ix:OpD K (rIx K) dIx:=fun W ρ G H σ μ v w x y Q R hx hy hp=>by
 unfold dIx at hp
 cases e1:asI y with
 | none=>rw[e1] at hp;exact hp.elim
 | some i =>
  rw[e1] at hp
  have ew:=asI_ok hy e1
  cases e2:asS μ x with
  | some xs =>
   simp only[e2] at hp
   obtain⟨a,vs,rfl,h2,h3⟩:=asS_ok R hx e2
   cases e3:atI xs i with
   | none=>rw[e3] at hp;exact hp.elim
   | some z =>
    rw[e3] at hp
    obtain⟨u,q1,q2⟩:=atI_dv h3 e3
    rcases h2 with h2|h2
    ·exact .inl ⟨a,vs,i,u,rfl,ew,h2,q1,hp.okV R q2⟩
    ·exact .inr (.inl ⟨a,vs,i,u,rfl,ew,h2,q1,hp.okV R q2⟩)
  | none =>
   simp only[e2] at hp
   cases e3:asStr x with
   | none=>rw[e3] at hp;exact hp.elim
   | some z =>
    simp only[e3] at hp
    by_cases c:z.length≤sizeLine
    ·rw[if_pos c] at hp
     cases e4:atI z.cps.toList i with
     | none=>rw[e4] at hp;exact hp.elim
     | some k=>rw[e4] at hp;exact .inr (.inr ⟨z,i,k,asStr_ok hx e3,ew,c,e4,hp.okD R (.str _)⟩)
    ·rw[if_neg c] at hp;exact hp.elim
def cutL {α:Type}(xs:List α)(lo hi:Option Int):List α:=(xs.drop (HT.sIx xs.length 0 lo)).take (HT.sIx xs.length xs.length hi-HT.sIx xs.length 0 lo)
def rSl (K:PySem.W.Frag):V→Option Int→Option Int→Hp→VK→Prop:=fun x lo hi H Q=>(rSlL K x lo hi H Q∨rSlA K x lo hi H Q)∨rSlS x lo hi H Q
theorem sl_any {X:Cx}:SlR X (rSl X.K):=SlR.or (SlR.or sl_list sl_tupA) sl_str
def dSl (x:DV)(lo hi:Option Int)(μ:Mem):Res R:=match asL μ x with
 | some xs=>.ok (.nl (cutL xs lo hi)) μ
 | none=>match asT x with
  | some ds=>.ok (.dat (.tup (cutL ds lo hi))) μ
  | none=>match asStr x with
   | some z=>if z.length≤sizeLine then .ok (.dat (.str (cutS z lo hi))) μ else .bad
   | none=>.bad
theorem cutL_full {α:Type}{xs:List α}{lo hi:Option Int}(h:HT.sIx xs.length 0 lo=0∧HT.sIx xs.length xs.length hi=xs.length):cutL xs lo hi=xs:=by
 unfold cutL;rw[h.1,h.2];simp
theorem dvl_cut {vs:List V}{xs:List DV}{lo hi:Option Int}(h:DvL K ρ G vs xs):DvL K ρ G (L2.cutV vs lo hi) (cutL xs lo hi):=by
 unfold L2.cutV cutL
 rw[paired_len h]
 exact(h.drop _).take _
theorem rpl_cut {vs:List V}{xs:List D}{lo hi:Option Int}(h:RpL K G vs xs):RpL K G (L2.cutV vs lo hi) (cutL xs lo hi):=by
 unfold L2.cutV cutL
 rw[h.length]
 exact(h.drop _).take _
theorem od_sl {lo hi:Option Int}(R:Rel K ρ G H μ)(hx:DvOk K ρ G v x)(hp:PostG K W ρ G H σ (fun G' H'=>rpE K ρ G' H H') Q (dSl x lo hi μ)):rSl K v lo hi H Q:=by
 unfold dSl at hp
 split at hp
 ·rename_i xs e
  obtain⟨a,vs,rfl,h2,h3⟩:=asL_ok R hx e
  exact .inl (.inl ⟨a,vs,rfl,h2,fun p hn=>new_list R (Tr.refl _ _ _) hn (dvl_cut h3) hp⟩)
 split at hp
 ·rename_i ds e
  obtain⟨a,vs,rfl,h2,h3⟩:=asT_ok R hx e
  refine .inl (.inr ⟨a,vs,rfl,h2,fun z=>?_,fun _ p hn=>new_tup R (Tr.refl _ _ _) hn (rpl_cut h3) hp⟩)
  rw[h3.length] at z
  rw[cutL_full z] at hp
  rw[asT_eq e] at hx
  exact hp.okD R hx
 split at hp
 ·rename_i z e
  by_cases c:z.length≤sizeLine
  ·rw[if_pos c] at hp;exact .inr ⟨z,asStr_ok hx e,c,hp.okD R (.str _)⟩
  ·rw[if_neg c] at hp;exact hp.elim
 exact hp.elim
abbrev OM:=Env→Mem→Res (Option Int)
abbrev SndO (K:PySem.W.Frag)(W:WX)(t:TO)(f:OM):Prop:=SndG K W t f rpT
def oNone:OM:=fun _ μ=>.ok none μ
def oSome (f:EM):OM:=fun δ μ=>(frzV f δ μ).bind fun x μ'=>match asI x with
 | some i=>.ok (some i) μ'
 | none=>.bad
def eSl (f:EM)(lo hi:OM):EM:=fun δ μ=>(frzV f δ μ).bind fun x μ1=>(lo δ μ1).bind fun l μ2=>(hi δ μ2).bind fun u μ3=>dSl x l u μ3
end
structure PMO (X:Cx)(W:WX)(e:Option Expr)(t:TO)(f:OM):Prop where
 po:PO X e t
 sd:SndO X.K W t f
section
variable {X:Cx}{W:WX}{pos p2:Pos}{e:Expr}{lo hi:Option Expr}{te:TE}{tl th:TO}{f:EM}{fl fh:OM}
theorem mo_none:PMO X W none tNoPart oNone:=⟨po_none,fun ρ G H σ δ μ Q R E hp=>hp G H none (Tr.refl _ _ _) R rfl⟩
theorem mo_some (h:PM X W e te f):PMO X W (some e) (tPart te) (oSome f):=⟨po_some h.pe,fun ρ G H σ δ μ Q R E hp=>by
 refine SndG.seq (t:=te) h.sd.toV R E hp fun x μ1 G1 H1 v t1 R1 E1 d1 hp1=>?_
 cases e:asI x with
 | none=>rw[e] at hp1;exact hp1.elim
 | some i=>rw[e] at hp1;exact⟨i,asI_ok d1 e,hp1 G1 H1 _ t1 R1 rfl⟩⟩
theorem pm_sl (h:PM X W e te f)(hl:PMO X W lo tl fl)(hh:PMO X W hi th fh):PM X W (.Subscript e (.Slice lo hi none p2) pos) (tSl (rSl X.K) te tl th) (eSl f fl fh):=⟨pe_slice sl_any h.pe hl.po hh.po,fun ρ G H σ δ μ Q R E hp=>by
 refine SndG.seq (t:=te) h.sd.toV R E hp fun x μ1 G1 H1 v t1 R1 E1 d1 hp1=>?_
 refine SndG.seq (t:=tl) hl.sd R1 E1 (hp1.shiftE t1) fun l μ2 G2 H2 lv t2 R2 E2 d2 hp2=>?_
 refine SndG.seq (t:=th) hh.sd R2 E2 (hp2.shiftE t2) fun u μ3 G3 H3 uv t3 R3 E3 d3 hp3=>?_
 subst d2 d3
 exact od_sl R3 (d1.mono (t2.exG.trans t3.exG) fun _ _ q=>q) (hp3.shiftE t3)⟩
theorem pm_add {a b:Expr}{ta tb:TE}{fa fb:EM}(ha:PM X W a ta fa)(hb:PM X W b tb fb):PM X W (.BinOp a .Add b pos) (tOp (rPlus X.K) ta tb) (eOp dAdd fa fb):=pm_op op_plus od_add ha hb
theorem pm_mul {a b:Expr}{ta tb:TE}{fa fb:EM}(ha:PM X W a ta fa)(hb:PM X W b tb fb):PM X W (.BinOp a .Mult b pos) (tOp (rI CMul fun i j=>V.int (i*j)) ta tb) (eOp dMul fa fb):=pm_op op_mul od_mul ha hb
theorem pm_mod {a b:Expr}{ta tb:TE}{fa fb:EM}(ha:PM X W a ta fa)(hb:PM X W b tb fb):PM X W (.BinOp a .Mod b pos) (tOp (rI (fun _ j=>0<j) fun i j=>V.int (i % j)) ta tb) (eOp dMod fa fb):=pm_op op_mod od_mod ha hb
theorem pm_div {a b:Expr}{ta tb:TE}{fa fb:EM}(ha:PM X W a ta fa)(hb:PM X W b tb fb):PM X W (.BinOp a .FloorDiv b pos) (tOp (rI CDiv fun i j=>V.int (i / j)) ta tb) (eOp dDiv fa fb):=pm_op op_fdiv od_div ha hb
theorem pm_idx {a b:Expr}{ta tb:TE}{fa fb:EM}(ha:PM X W a ta fa)(hb:PM X W b tb fb)(hs:PlainIx b):PM X W (.Subscript a b pos) (tOp (rIx X.K) ta tb) (eOp dIx fa fb):=pm_ix ix_seq od_ix ha hb hs
end
mutual
def toPy:D→Option PyData
 | .non=>some .none
 | .bl b=>some (.bool b)
 | .int i=>some (.int i)
 | .str s=>some (.str s)
 | .tup xs=>(toPyL xs).map .tuple
 | .lst xs=>(toPyL xs).map .list
 | .fro xs=>(toPyL xs).map .list
 | .ty _=>none
 | .ref _=>none
 | .dct _=>none
 | .ins _ _=>none
 | .err _ _ _ _ _=>none
 | .eo _=>none
def toPyL:List D→Option (List PyData)
 | []=>some []
 | x::xs=>match toPy x with
  | none=>none
  | some p=>(toPyL xs).map (p::·)
end
def peekL (f:DV→Option D):List DV→Option (List D)
 | []=>some []
 | x::xs=>match f x with
  | none=>none
  | some d=>(peekL f xs).map (d::·)
def peekK:Nat→Mem→DV→Option D
 | _,_,.dat d=>some d
 | 0,_,.loc _=>none
 | k+1,μ,.loc n=>match μ[n]? with
  | some (.lst xs)=>(peekL (peekK k μ) xs).map .lst
  | some (.tp xs)=>(peekL (peekK k μ) xs).map .tup
  | _=>none
def peek (μ:Mem)(x:DV):Option D:=peekK 5 μ x
def peekPy (μ:Mem)(x:DV):Option PyData:=(peek μ x).bind toPy
section
variable {K:PySem.W.Frag}{W:WX}{N M:Nat}{ρ:Pm}{G H:Hp}{σ:Slots}{δ:Env}{μ:Mem}{Q:VK}{v w:V}{x y:DV}
mutual
theorem Rp.dp:∀ {v:V} {d:D} {p:PyData},Rp K G v d→toPy d=some p→Dp K G v p
 | _,_,_,.non,e=>by cases e;exact .non
 | _,_,_,.bl b,e=>by cases e;exact .bl b
 | _,_,_,.int i,e=>by cases e;exact .int i
 | _,_,_,.str s,e=>by cases e;exact .str s
 | _,_,_,.ty n,e=>by cases e
 | _,_,_,.ref a,e=>by cases e
 | _,_,_,.tup (ds:=ds) h r,e=>by
  simp only[toPy] at e
  cases q:toPyL ds with
  | none=>rw[q] at e;cases e
  | some ps=>rw[q] at e;cases e;exact .tup h (RpL.dp r q)
 | _,_,_,.lst (ds:=ds) h r,e=>by
  simp only[toPy] at e
  cases q:toPyL ds with
  | none=>rw[q] at e;cases e
  | some ps=>rw[q] at e;cases e;exact .lst (.inl (.inl h)) (RpL.dp r q)
 | _,_,_,.fro (ds:=ds) h r,e=>by
  simp only[toPy] at e
  cases q:toPyL ds with
  | none=>rw[q] at e;cases e
  | some ps=>rw[q] at e;cases e;exact .lst h (RpL.dp r q)
 | _,_,_,.dct _ _ _,e=>by cases e
 | _,_,_,.ins _ _ _ _ _,e=>by cases e
 | _,_,_,.er0 _,e=>by cases e
 | _,_,_,.eo _ _ _,e=>by cases e
 | _,_,_,.err _ _ _ _,e=>by cases e
theorem RpL.dp:∀ {vs:List V} {ds:List D} {ps:List PyData},RpL K G vs ds→toPyL ds=some ps→DpAll K G vs ps
 | _,_,_,.nil,e=>by cases e;exact .nil
 | _,_,_,.cons (d:=d) (ds:=ds) a b,e=>by
  simp only[toPyL] at e
  cases q:toPy d with
  | none=>rw[q] at e;cases e
  | some p =>
   rw[q] at e
   cases q2:toPyL ds with
   | none=>rw[q2] at e;cases e
   | some ps=>rw[q2] at e;cases e;exact .cons (Rp.dp a q) (RpL.dp b q2)
end
theorem peekL_ok {f:DV→Option D}(hf:∀ v x d,DvOk K ρ G v x→f x=some d→Rp K H v d):∀ {vs:List V} {xs:List DV} {ds:List D},DvL K ρ G vs xs→peekL f xs=some ds→RpL K H vs ds
 | _,_,_,.nil,e=>by cases e;exact .nil
 | _,x::xs,ds,.cons a b,e=>by
  unfold peekL at e
  cases q:f x with
  | none=>rw[q] at e;cases e
  | some d =>
   rw[q] at e
   cases q2:peekL f xs with
   | none=>rw[q2] at e;cases e
   | some es=>rw[q2] at e;cases e;exact .cons (hf _ _ _ a q) (peekL_ok hf b q2)
theorem peekK_ok (R:Rel K ρ G H μ):∀ (k:Nat) (v:V) (x:DV) (d:D),DvOk K ρ G v x→peekK k μ x=some d→Rp K H v d
 | k,v,.dat d',d,h,e=>by
  have:peekK k μ (.dat d')=some d':=by cases k <;> rfl
  rw[this] at e;cases e;exact Rp.mono R.ex h
 | 0,v,.loc n,d,h,e=>by cases e
 | k+1,v,.loc n,d,h,e=>by
  unfold peekK at e
  split at e
  ·rename_i xs q
   cases qa:peekL (peekK k μ) xs with
   | none=>rw[qa] at e;cases e
   | some ds =>
    rw[qa] at e;cases e
    obtain⟨a,rfl,hn⟩:=h
    obtain⟨_,b,vs,h1,h2,h3⟩:=R.pl n _ q
    rw[hn] at h1;cases h1
    exact Rp.lst h2 (peekL_ok (fun v x d=>peekK_ok R k v x d) h3 qa)
  ·rename_i xs q
   cases qa:peekL (peekK k μ) xs with
   | none=>rw[qa] at e;cases e
   | some ds =>
    rw[qa] at e;cases e
    obtain⟨a,rfl,hn⟩:=h
    obtain⟨_,b,_,vs,h1,h2,h3⟩:=R.pl n _ q
    rw[hn] at h1;cases h1
    exact Rp.tup (.inl (.inl h2)) (peekL_ok (fun v x d=>peekK_ok R k v x d) h3 qa)
  ·cases e
theorem peek_ok {d:D}(R:Rel K ρ G H μ)(h:DvOk K ρ G v x)(e:peek μ x=some d):Rp K H v d:=peekK_ok R 5 v x d h e
theorem peekPy_ok {p:PyData}(R:Rel K ρ G H μ)(h:DvOk K ρ G v x)(e:peekPy μ x=some p):Dp K H v p:=by
 unfold peekPy at e
 cases q:peek μ x with
 | none=>rw[q] at e;cases e
 | some d=>rw[q] at e;exact Rp.dp (peek_ok R h q) e
def dEqB (b:Bool)(x y:DV)(μ:Mem):Res R:=match peekPy μ x with
 | none=>.bad
 | some p=>match peekPy μ y with
  | none=>.bad
  | some q=>if SeqAt.shaped p=true∧SeqAt.shaped q=true then .ok (.dat (.bl (PyData.eqv p q==b))) μ else .bad
def dEqS (b:Bool)(x y:DV)(μ:Mem):Res R:=match asStr x with
 | none=>dEqB b x y μ
 | some s=>match asStr y with
  | none=>dEqB b x y μ
  | some t=>.ok (.dat (.bl (decide (s=t)==b))) μ
abbrev dEq:DV→DV→Mem→Res R:=dEqS true
abbrev dNe:DV→DV→Mem→Res R:=dEqS false
def rEqQ (K:PySem.W.Frag):R2:=fun x y H Q=>rEq x y H Q∨rEqD K x y H Q
theorem op_eqQ {X:Cx}(h:X.A.units+64<cLine):OpR X (compareOp .Eq) (rEqQ X.K):=OpR.or op_eq (op_eqD h)
theorem od_eqB (b:Bool)(R:Rel K ρ G H μ)(hx:DvOk K ρ G v x)(hy:DvOk K ρ G w y)(hp:PostG K W ρ G H σ (fun G' H'=>rpE K ρ G' H H') Q (dEqB b x y μ)) :
  ∃ d e,Dp K H v d∧Dp K H w e∧SeqAt.shaped d=true∧SeqAt.shaped e=true∧Q (.bl (PyData.eqv d e==b)) H:=by
 unfold dEqB at hp
 cases e1:peekPy μ x with
 | none=>rw[e1] at hp;exact hp.elim
 | some p =>
  rw[e1] at hp
  cases e2:peekPy μ y with
  | none=>rw[e2] at hp;exact hp.elim
  | some q =>
   rw[e2] at hp
   by_cases c:SeqAt.shaped p=true∧SeqAt.shaped q=true
   ·simp only[if_pos c] at hp
    exact⟨p,q,peekPy_ok R hx e1,peekPy_ok R hy e2,c.1,c.2,hp.okD R (.bl _)⟩
   ·simp only[if_neg c] at hp;exact hp.elim
theorem od_eqS (b:Bool)(R:Rel K ρ G H μ)(hx:DvOk K ρ G v x)(hy:DvOk K ρ G w y)(hp:PostG K W ρ G H σ (fun G' H' v r=>rpE K ρ G' H H' v r) Q (dEqS b x y μ)) :
  (scal v w=true∧Q (.bl (decide (v=w)==b)) H)∨∃ d e,Dp K H v d∧Dp K H w e∧SeqAt.shaped d=true∧SeqAt.shaped e=true∧Q (.bl (PyData.eqv d e==b)) H:=by
 unfold dEqS at hp
 cases e1:asStr x with
 | none=>rw[e1] at hp;exact .inr (od_eqB b R hx hy hp)
 | some s =>
  rw[e1] at hp
  cases e2:asStr y with
  | none=>rw[e2] at hp;exact .inr (od_eqB b R hx hy hp)
  | some t =>
   rw[e2] at hp
   rw[asStr_ok hx e1,asStr_ok hy e2]
   have:decide (V.str s=V.str t)=decide (s=t):=by rw[Bool.eq_iff_iff];simp
   exact .inl ⟨rfl,by rw[this];exact hp G H _ (Tr.refl _ _ _) R (Rp.bl _)⟩
theorem od_eq:OpD K (rEqQ K) dEq:=fun W ρ G H σ μ v w x y Q R hx hy hp=>by
 rcases od_eqS true R hx hy hp with⟨h1,h2⟩|⟨d,e,h1,h2,h3,h4,h5⟩
 ·exact .inl ⟨h1,by simpa using h2⟩
 ·exact .inr ⟨d,e,h1,h2,h3,h4,by simpa using h5⟩
def isNon:DV→Bool
 | .dat .non=>true
 | _=>false
def eIsN (f:EM):EM:=fun δ μ=>(frzV f δ μ).bind fun x μ'=>.ok (.dat (.bl (isNon x))) μ'
def eNotN (f:EM):EM:=fun δ μ=>(frzV f δ μ).bind fun x μ'=>.ok (.dat (.bl (!isNon x))) μ'
def flat:DV→Option V
 | .dat .non=>some .non
 | .dat (.bl b)=>some (.bl b)
 | .dat (.int i)=>some (.int i)
 | .dat (.str s)=>some (.str s)
 | _=>none
def flats:List DV→Option (List V)
 | []=>some []
 | x::xs=>match flat x with
  | none=>none
  | some v=>(flats xs).map (v::·)
def dIn (neg:Bool)(x y:DV)(μ:Mem):Res R:=match flat x with
 | none=>.bad
 | some u=>match asS μ y with
  | none=>.bad
  | some ys=>match flats ys with
   | none=>.bad
   | some us=>.ok (.dat (.bl (if neg=true then !inV u us else inV u us))) μ
theorem DvL.one {vs:List V}(h:DvL K ρ G vs [x]):∃ v,vs=[v]∧DvOk K ρ G v x:=by
 cases h with
 | cons a b=>cases b;exact⟨_,rfl,a⟩
theorem DvL.two {vs:List V}(h:DvL K ρ G vs [x,y]):∃ v w,vs=[v,w]∧DvOk K ρ G v x∧DvOk K ρ G w y:=by
 cases h with
 | cons a b=>cases b with
  | cons c d=>cases d;exact⟨_,_,rfl,a,c⟩
def d1 (g:DV→Mem→Res R)(xs:List DV)(μ:Mem):Res R:=match xs with
 | [x]=>g x μ
 | _=>.bad
theorem cd_1 {r:List V→Hp→VK→Prop}{g:DV→Mem→Res R}(h:∀ (W:WX) (ρ:Pm) (G H:Hp) (σ:Slots) (μ:Mem) (v:V) (x:DV) (Q:VK),Rel K ρ G H μ→DvOk K ρ G v x→PostG K W ρ G H σ (fun G' H'=>rpE K ρ G' H H') Q (g x μ)→r [v] H Q) :
  CallD K r (d1 g):=fun W ρ G H σ μ vs xs Q R hx hp=>by
 match xs,hx,hp with
 | [x],hx,hp =>
  obtain⟨v,rfl,d⟩:=hx.one
  exact h W ρ G H σ μ v x Q R d hp
 | [],_,hp=>exact hp.elim
 | _::_::_,_,hp=>exact hp.elim
def dLen (x:DV)(μ:Mem):Res R:=match asS μ x with
 | some xs=>.ok (.dat (.int xs.length)) μ
 | none=>match asStr x with
  | some z=>if z.length≤sizeLine then .ok (.dat (.int z.length)) μ else .bad
  | none=>.bad
theorem cd_len:CallD K (fun xs H Q=>∃ x n,xs=[x]∧LenV K x H n∧Q (.int (n:Nat)) H) (d1 dLen):=cd_1 fun W ρ G H σ μ v x Q R hx hp=>by
 unfold dLen at hp
 split at hp
 ·rename_i xs e
  obtain⟨a,vs,rfl,h2,h3⟩:=asS_ok R hx e
  refine⟨_,vs.length,rfl,?_,?_⟩
  ·rcases h2 with h2|h2
   ·exact .inl ⟨vs,h2,rfl⟩
   ·exact .inr ⟨vs,h2,rfl⟩
  ·rw[paired_len h3];exact hp.okD R (.int _)
 split at hp
 ·rename_i z e
  by_cases c:z.length≤sizeLine
  ·rw[if_pos c] at hp
   have ev:=asStr_ok hx e
   subst ev
   exact⟨_,z.length,rfl,⟨c,rfl⟩,hp.okD R (.int _)⟩
  ·rw[if_neg c] at hp;exact hp.elim
 exact hp.elim
def dInt (x:DV)(μ:Mem):Res R:=match asI x with
 | some i=>.ok (.dat (.int i)) μ
 | none=>match asBl x with
  | some b=>.ok (.dat (.int (if b=true then 1 else 0))) μ
  | none=>.bad
theorem cd_int:CallD K (fun xs H Q=>(∃ i,xs=[V.int i]∧Q (V.int i) H)∨∃ k,xs=[V.bl k]∧Q (V.int (if k=true then 1 else 0)) H) (d1 dInt):=cd_1 fun W ρ G H σ μ v x Q R hx hp=>by
 unfold dInt at hp
 split at hp
 ·rename_i i e
  have ev:=asI_ok hx e
  subst ev
  exact .inl ⟨i,rfl,hp.okD R (.int _)⟩
 split at hp
 ·rename_i b e
  have ev:=asBl_ok hx e
  subst ev
  exact .inr ⟨b,rfl,hp.okD R (.int _)⟩
 exact hp.elim
def dAbs (x:DV)(μ:Mem):Res R:=match asI x with
 | some i=>.ok (.dat (.int (if i<0 then -i else i))) μ
 | none=>.bad
theorem cd_abs:CallD K (fun xs H Q=>∃ i,xs=[V.int i]∧Q (V.int (if i<0 then -i else i)) H) (d1 dAbs):=cd_1 fun W ρ G H σ μ v x Q R hx hp=>by
 unfold dAbs at hp
 split at hp
 ·rename_i i e
  have ev:=asI_ok hx e
  subst ev
  exact⟨i,rfl,hp.okD R (.int _)⟩
 exact hp.elim
def dList (x:DV)(μ:Mem):Res R:=match asS μ x with
 | some xs=>.ok (.nl xs) μ
 | none=>.bad
def dTuple (x:DV)(μ:Mem):Res R:=match asL μ x with
 | some xs=>match allDat xs with
  | some ds=>.ok (.dat (.tup ds)) μ
  | none=>.bad
 | none=>match asT x with
  | some ds=>.ok (.dat (.tup ds)) μ
  | none=>.bad
end
set_option maxHeartbeats 1000000 in
theorem meets_enum_tup (l:Addr)(its:Array Value)(n:Nat)(dct:Option Addr)(sl:Array (Option Value)) :
  Meets (Builtin.«enumerate.__new__» ⟨[.type "enumerate",.ref l],[]⟩) (fun _ R s=>s.heap.get? l=some { cls:=.type "tuple",dict:=dct,data:=.seq its n,slots:=sl } ∧
   R (.ok (.ret (.ref (s.heap.push { cls:=.type "tuple_iterator",data:=.fields #[.ref l,.int 0 0] }).objs.size)))
    { s with heap:=(s.heap.push { cls:=.type "tuple_iterator",data:=.fields #[.ref l,.int 0 0] }).push { cls:=.type "enumerate",data:=.fields #[.none,.bool false,.ref s.heap.objs.size,rawInt 0,.none,.none] } }) :=
 .of_wp fun prog w A R s h=>by
  obtain⟨hp,g,d,tk,os⟩:=s
  obtain⟨hl,h⟩:=h
  have hsub:=sub_enumerate
  have hT:Heap.IsTuple (Shared.heap ⟨hp,g,d,tk,os⟩) l its:=⟨_,hl,rfl,n,rfl⟩
  wp_walk using AutoSeq1.wpAny_loadPart' hl
  refine wpAny_stack_any fun st=>wpAny_pure ?_
  split
  ·rename_i c _ _ _ _ _
   cases (c==Value.type "enumerate")
   all_goals
    wp_walk using AutoSeq1.wpAny_loadPart' hl,wpAny_pyIter_tuple hT
    exact⟨_,rfl,h⟩
  ·wp_walk using AutoSeq1.wpAny_loadPart' hl,wpAny_pyIter_tuple hT
   exact⟨_,rfl,h⟩
theorem call_enum_tup {prog:Program}{w:World}{A:Around}{E:Value→Shared→Prop}{s:Shared}{l:Addr}{its:Array Value}{Q:Value→Shared→Prop}(hL:s.heap.IsTuple l its)
  (h:∀ h',IsEnum h' (s.heap.objs.size+1) s.heap.objs.size 0 .none→h'.IsTupleIter s.heap.objs.size l 0 →
   (∀ b o,s.heap.get? b=some o→h'.get? b=some o)→Q (.ref (s.heap.objs.size+1)) { s with heap:=h' }) :
  wpAny (model prog w) A (call (.type "enumerate") [.ref l]) Q E s:=by
 obtain⟨⟨c,dct,dt,sl⟩,hl,hc,n,hd⟩:=hL
 obtain rfl:c=.type "tuple":=hc
 obtain rfl:dt=.seq its n:=hd
 refine callType_new F.called_enumerate (by decide) (F.typeCall_enumerate_1 _) (F.newCall_enumerate_1 _) (fun obj=>F.args_object_init_2 obj _) F.entry_enumerate_new (meets_enum_tup l its n dct sl) ⟨hl,?_⟩
 have hz:(s.heap.push { cls:=.type "tuple_iterator",data:=.fields #[.ref l,.int 0 0] }).objs.size=s.heap.objs.size+1:=Heap.size_push ..
 show _∧_
 rw[hz]
 have he:IsEnum ((s.heap.push { cls:=.type "tuple_iterator",data:=.fields #[.ref l,.int 0 0] }).push
   { cls:=.type "enumerate",data:=.fields #[.none,.bool false,.ref s.heap.objs.size,rawInt 0,.none,.none] }) (s.heap.objs.size+1) s.heap.objs.size 0 .none:=by
  have q:=Heap.get?_push_size (s.heap.push { cls:=.type "tuple_iterator",data:=.fields #[.ref l,.int 0 0] })
   (o:={ cls:=.type "enumerate",data:=.fields #[.none,.bool false,.ref s.heap.objs.size,rawInt 0,.none,.none] }) rfl
  rw[hz] at q;exact q
 exact⟨⟨_,he,rfl⟩,h _ he ⟨_,Heap.get?_push_of_some _ (Heap.get?_push_size _ rfl),rfl,rfl⟩ fun b o x=>Heap.get?_push_of_some _ (Heap.get?_push_of_some _ x)⟩
def ItE (K:PySem.W.Frag)(a:Addr):It :=
 ⟨fun i H=>∃ (xs:List V) (x:V),SqT K H a xs∧xs[i]?=some x,
  fun i H v H'=>∃ T x,v=.ref T∧H T=none∧H'=upd H T (.tup [.int (i:Nat),x])∧∀ xs,SqT K H a xs→xs[i]?=some x,
  fun i H=>∃ xs:List V,SqT K H a xs∧xs.length≤i⟩
section
variable {prog:Program}{w:World}{A:Around}{E:Value→Shared→Prop}{s:Shared}
theorem next_enum_tup_end {e it a:Addr}{its:Array Value}{n:Nat}{i:Int}{old:Value}{Q:Option Value→Shared→Prop}(hh:A.handled=none)(he:IsEnum s.heap e it i old)(hit:s.heap.IsTupleIter it a n)(ht:s.heap.IsTuple a its)(hle:its.size≤n)
  (hQ:∀ h',Heap.ExtBut it s.heap h'→Q none { s with heap:=h' }):wpAny (model prog w) A (pyNext (.ref e)) Q E s:=by
 have hT:s.TypeIs (.ref e) "enumerate":=⟨_,he,rfl⟩
 unfold pyNext
 refine wpAny_bind (wpAny_attempt (wpAny_callSpecial?_slot (name:=Str.ofString "__next__") hT F.slot_enumerate_next (wpAny_call_entry F.slot_enumerate_next hT F.entry_enumerate_next ?_ (F.args_enumerate_next_1 _))))
 show wpAny _ _ (field (.ref e) 2 >>= _) _ _ _
 refine wpAny_bind (wpAny_field he rfl (x:=.ref it) rfl (wpAny_bind (wpAny_nextOf_tuple_end hh hit ht (Array.getElem?_eq_none hle) fun h' x ext hx=>?_)))
 obtain⟨o,ho,hc⟩:=hx
 exact wpAny_bind (wpAny_isInstance (T:="StopIteration") (b:=true) ⟨o,ho,hc⟩ isSubtype_stop (wpAny_pure (hQ _ ext)))
end
theorem tup_ne_iter {h:Heap}{a it:Addr}{its:Array Value}{n:Nat}(ht:h.IsTuple a its)(hi:h.IsTupleIter it a n):a≠it:=by
 intro e
 obtain⟨o,ho,hc,_⟩:=ht
 obtain⟨o2,ho2,hc2,_⟩:=hi
 rw[←e,ho] at ho2
 cases ho2
 rw[hc] at hc2
 exact absurd (Value.type.inj hc2) (by decide)
theorem turn_enumT {P:Program}{w:World}{K:PySem.W.Frag}{elts:List Expr}{kk:Nat}{tpos:Pos}(a e it:Addr) :
  Turn P w K (.Tuple elts kk tpos) (ItE K a) [e,it] e (fun i h=>(∃ old,IsEnum h e it ((i:Nat):Int) old)∧h.IsTupleIter it a i∧e≠it) where
 mem:=by simp
 obj:=fun i h st b hb=>by
  obtain⟨⟨old,he⟩,⟨o,ho,hc,hd⟩,_⟩:=st
  rcases(by simpa using hb:b=e∨b=it) with rfl|rfl
  ·exact⟨_,he,fun v q=>nomatch q⟩
  ·exact⟨o,ho,fun v q=>by rw[hd] at q;cases q⟩
 keep:=fun i h h' st k=>by
  obtain⟨⟨old,he⟩,hi,hne⟩:=st
  exact⟨⟨old,k e (by simp) _ he⟩,hi.at fun o q=>k it (by simp) o q,hne⟩
 item:=by
  intro X hP hw hK hc i pins s σ H E I hf st hg
  subst hP hw hK
  obtain⟨⟨old,he⟩,hit,hne⟩:=st
  obtain⟨xs,x,hq,hx⟩:=hg
  obtain⟨its,rv,p,hz⟩:=I.tuple hq
  have ht:s.heap.IsTuple a its.toArray:=p
  obtain⟨u,hu,ru⟩:=rv.get hx
  have hui:i<its.toArray.size:=by
   rw[List.size_toArray]
   exact(List.getElem?_eq_some_iff.mp hu).1
  have hel:e<s.heap.objs.size:=Heap.lt_size he
  have hil:it<s.heap.objs.size:=by obtain⟨_,q,_⟩:=hit;exact Heap.lt_size q
  have hai:=tup_ne_iter ht hit
  have hae:e≠a:=fun z=>by
   obtain⟨o,ho,hcl,_⟩:=ht
   rw[←z,he] at ho
   cases ho
   exact absurd (Value.type.inj hcl) (by decide)
  refine wpAny_pyNext_enum_itemD (Draws.tuple (A:=X.A.in1) (I.ok.hd hc) it a hai its.toArray) he ⟨hit,ht⟩ hui hne (by simp[hne,hae]) fun x' h' tk hP ho st' hT hsz hk=>?_
  have ex:x'=u:=by
   have q:its.toArray[i]?=some x':=hP
   rw[List.getElem?_toArray,hu] at q
   exact(Option.some.inj q).symm
  subst ex
  refine⟨_,rfl,wpAny_letOwnedTupleGo_enum (s:={ s with heap:=h',toks:=tk+1 }) ho fun h'' he' sb=>?_⟩
  have hT2:h''.get? s.heap.objs.size=some { cls:=.type "tuple",data:=.seq #[.int i tk,x'] }:=(sb.2 _ (Nat.ne_of_gt hel)).trans hT
  have new:ObjOk X.prog X.w (upd H s.heap.objs.size (.tup [.int (i:Nat),x])) h'' s.heap.objs.size (.tup [.int (i:Nat),x]) :=
   ⟨by show 2≤sizeLine;decide,[.int i tk,x'],.cons ⟨_,rfl⟩ (.cons ru .nil),⟨_,hT2,rfl,_,rfl⟩⟩
  have I1:L2.Inv X pins σ (upd H s.heap.objs.size (.tup [.int (i:Nat),x])) { s with heap:=h'',toks:=tk+1 } :=
   I.turnedNew (ch:=[e,it]) (fun b ob hb q=>(sb.2 b (fun z=>hb (by simp[z]))).trans (hk b ob (fun z=>hb (by simp[z])) (fun z=>hb (by simp[z])) q)) hf (Nat.le_refl _) new
  refine⟨.ref s.heap.objs.size,_,I1,rfl,⟨_,x,rfl,I.hok.fresh (Nat.le_refl _),rfl,fun ys hy=>by rw[I.tuple_inj hy hq];exact hx⟩,⟨⟨x',?_⟩,st'.1.at fun o q=>(sb.2 it (Ne.symm hne)).trans q,hne⟩,fun b hb=>?_⟩
  ·rw[show((i+1:Nat):Int)=(i:Int)+1 by omega];exact he'
  ·have hb':b<s.heap.objs.size:=by
    rcases(by simpa using hb:b=e∨b=it) with z|z
    ·rw[z];exact hel
    ·rw[z];exact hil
   rw[upd_ne (Nat.ne_of_lt hb')]
   exact(hf b hb).1
 done:=by
  intro X hP hw hK hc i pins s σ H E I hf st hg
  subst hP hw hK
  obtain⟨⟨old,he⟩,hit,hne⟩:=st
  obtain⟨xs,hq,hx⟩:=hg
  obtain⟨its,rv,p,hz⟩:=I.tuple hq
  obtain⟨f0,f1,f2,f3,f4,f5⟩:=hf it (by simp)
  have hl:=rv.length
  exact next_enum_tup_end (I.ok.hd hc) he hit (show s.heap.IsTuple a its.toArray from p) (by simp;omega) fun h' eb=>⟨rfl,I.turned (t':=s.toks) (fun b o hb q=>eb b o hb q) f0 f1 f3 f4 f5⟩
 self:=fun A i s Q E st h=>let ⟨⟨_,he⟩,_⟩:=st;wpAny_pyIter_enum he h
def iEnumS (K:PySem.W.Frag)(ta:TA):TI:=fun σ H R=>ta σ H fun vs H1=>∃ a xs,vs=[.ref a]∧(SqL K H1 a xs∧R (Ite K a) H1∨SqT K H1 a xs∧R (ItE K a) H1)
theorem pi_enumS {X:Cx} {e:Expr} {ta:TA} {p pos tpos:Pos} {elts:List Expr} {kk:Nat} (hg:Gl X "enumerate") (hm:X.mg "enumerate"=none) (ha:PA X [e] ta) (hs:starEach [e] X.env=[(false,eval e X.env)]:=by rfl) :
  PI X (.Tuple elts kk tpos) (.Call (.Name "enumerate" p) [e] [] pos) (iEnumS X.K ta):=by
 refine⟨fun pins s σ H R I h=>Call_ (ld_blt I hg hm boot_enumerate (PyProof.Rows.callWith_type1 (thn (ha.run pos pins s σ H _ I h) ?_) hs rfl))⟩
 rintro us s1 ⟨vs,H1,I1,r1,a,xs,rfl,q1⟩
 obtain⟨u,rfl,ru⟩:∃ u,us=[u]∧L2.RelV (.ref a) u:=by
  cases r1 with
  | cons r rr=>cases rr;exact⟨_,rfl,r⟩
 cases ru
 have fr:∀ b,b=s1.heap.objs.size+1∨b=s1.heap.objs.size→FpOk X pins H1 b:=fun b z=>by
  have hle:s1.heap.objs.size≤b:=by
   rcases z with z|z <;> rw[z]
   ·exact Nat.le_add_right _ _
   ·exact Nat.le_refl _
  exact I1.fpOk hle (I1.hok.fresh hle)
 rcases q1 with⟨hq,q⟩|⟨hq,q⟩
 ·obtain⟨its,rv,p',hz⟩:=I1.list hq
  refine call_enumerate_list p'.isList fun h' he hit hsz hk=>wpAny_pyIter_enum he ?_
  exact⟨s1.heap.objs.size+1,[s1.heap.objs.size+1,s1.heap.objs.size],_,_,H1,rfl,I1.kept (t':=s1.toks) hk,turn_enum a (s1.heap.objs.size+1) s1.heap.objs.size,⟨⟨.none,he⟩,hit,Nat.succ_ne_self _⟩,fun b hb=>fr b (by simpa using hb),q⟩
 ·obtain⟨its,rv,p',hz⟩:=I1.tuple hq
  refine call_enum_tup (show s1.heap.IsTuple a its.toArray from p') fun h' he hit hk=>wpAny_pyIter_enum he ?_
  exact⟨s1.heap.objs.size+1,[s1.heap.objs.size+1,s1.heap.objs.size],_,_,H1,rfl,I1.kept (t':=s1.toks) hk,turn_enumT a (s1.heap.objs.size+1) s1.heap.objs.size,⟨⟨.none,he⟩,hit,Nat.succ_ne_self _⟩,fun b hb=>fr b (by simpa using hb),q⟩
def iSeq (K:PySem.W.Frag)(tl:TE):TI:=fun σ H R=>tl σ H fun x H1=>∃ a,x=.ref a∧((∃ xs,SqL K H1 a xs)∧R (Itl K a) H1∨(∃ xs,SqT K H1 a xs)∧R (Itt K a) H1)
theorem pi_seq {X:Cx}{tg l:Expr}{tl:TE}(hl:PE X l tl):PI X tg l (iSeq X.K tl):=by
 refine⟨fun pins s σ H R I h=>thn (hl.run pins s σ H _ I h) ?_⟩
 rintro v s1 ⟨x,H1,I1,r1,a,rfl,q1⟩
 cases r1
 have fr:FpOk X pins H1 s1.heap.objs.size:=I1.fpOk (Nat.le_refl _) (I1.hok.fresh (Nat.le_refl _))
 rcases q1 with⟨⟨xs,hq⟩,q⟩|⟨⟨xs,hq⟩,q⟩
 ·obtain⟨its,rv,p,hz⟩:=I1.list hq
  refine wpAny_pyIter_list p.isList ⟨s1.heap.objs.size,[s1.heap.objs.size],_,_,H1,rfl,I1.kept (t':=s1.toks) fun b o e=>Heap.get?_push_of_some _ e,turn_list a _,⟨_,Heap.get?_push_size _ rfl,rfl,rfl⟩,fun b hb=>?_,q⟩
  rw[show b=s1.heap.objs.size by simpa using hb];exact fr
 ·obtain⟨its,rv,p,hz⟩:=I1.tuple hq
  refine wpAny_pyIter_tuple (show s1.heap.IsTuple a its.toArray from p) ⟨s1.heap.objs.size,[s1.heap.objs.size],_,_,H1,rfl,I1.kept (t':=s1.toks) fun b o e=>Heap.get?_push_of_some _ e,turn_tuple a _,⟨_,Heap.get?_push_size _ rfl,rfl,rfl⟩,fun b hb=>?_,q⟩
  rw[show b=s1.heap.objs.size by simpa using hb];exact fr
section
variable {K:PySem.W.Frag}{W:WX}{N M:Nat}{ρ:Pm}{G H:Hp}{σ:Slots}{δ:Env}{μ:Mem}{Q:VK}{v w:V}{x y:DV}
theorem it_list {H0:Hp}{a:Addr}{vs:List V}{ds:List D}(h:SqL K G a vs)(r:RpL K G vs ds):ItOk K G H0 (Itl K a) ds:=fun ρ G1 H μ R x _=>by
 have hq:SqL K H a vs:=ex_l (x.trans R.ex) h
 refine⟨fun i d e=>?_,fun i hi=>⟨vs,hq,by rw[r.length];exact hi⟩⟩
 obtain⟨u,h1,h2⟩:=r.get' e
 refine⟨⟨vs,u,hq,h1⟩,fun v H' hy=>?_⟩
 obtain⟨rfl,q⟩:=hy
 have e2:=q vs hq
 rw[h1] at e2;cases e2
 exact⟨G1,Tr.refl _ _ _,R,h2.mono x⟩
theorem it_tup {H0:Hp}{a:Addr}{vs:List V}{ds:List D}(h:SqT K G a vs)(r:RpL K G vs ds):ItOk K G H0 (Itt K a) ds:=fun ρ G1 H μ R x _=>by
 have hq:SqT K H a vs:=ex_t (x.trans R.ex) h
 refine⟨fun i d e=>?_,fun i hi=>⟨vs,hq,by rw[r.length];exact hi⟩⟩
 obtain⟨u,h1,h2⟩:=r.get' e
 refine⟨⟨vs,u,hq,h1⟩,fun v H' hy=>?_⟩
 obtain⟨rfl,q⟩:=hy
 have e2:=q vs hq
 rw[h1] at e2;cases e2
 exact⟨G1,Tr.refl _ _ _,R,h2.mono x⟩
def enumD:Nat→List D→List D
 | _,[]=>[]
 | i,d::ds=>.tup [.int i,d]::enumD (i+1) ds
def seqD:DV→Option (List D)
 | .dat (.lst ds)=>some ds
 | .dat (.fro ds)=>some ds
 | .dat (.tup ds)=>some ds
 | _=>none
theorem seqD_ok {ds:List D}(h:DvOk K ρ G v x)(e:seqD x=some ds):∃ a vs,v=.ref a∧(SqL K G a vs∨SqT K G a vs)∧RpL K G vs ds:=by
 unfold seqD at e
 split at e
 ·cases e;cases h with|lst h r=>exact⟨_,_,rfl,.inl (.inl (.inl h)),r⟩
 ·cases e;cases h with|fro h r=>exact⟨_,_,rfl,.inl h,r⟩
 ·cases e;cases h with|tup h r=>exact⟨_,_,rfl,.inr h,r⟩
 ·cases e
def imSeq (f:EM):IM:=fun δ μ=>(frzV f δ μ).bind fun x μ'=>match seqD x with
 | some ds=>.ok ds μ'
 | none=>.bad
theorem snd_iseq {te:TE}{f:EM}(h:SndE K W te f):SndI K W (iSeq K te) (imSeq f):=fun ρ G H σ δ μ Q R E hp=>by
 refine SndG.seq (t:=te) h.toV R E hp fun x μ1 G1 H1 v t1 R1 E1 d1 hp1=>?_
 cases e:seqD x with
 | none=>rw[e] at hp1;exact hp1.elim
 | some ds =>
  rw[e] at hp1
  obtain⟨a,vs,rfl,hs,r⟩:=seqD_ok d1 e
  refine⟨a,rfl,?_⟩
  rcases hs with hs|hs
  ·exact .inl ⟨⟨vs,ex_l R1.ex hs⟩,hp1 G1 H1 _ t1 R1 (it_list hs r)⟩
  ·exact .inr ⟨⟨vs,ex_t R1.ex hs⟩,hp1 G1 H1 _ t1 R1 (it_tup hs r)⟩
def imEnum (f:AM):IM:=fun δ μ=>(f δ μ).bind fun xs μ'=>match xs with
 | [x]=>match seqD x with
  | some ds=>.ok (enumD 0 ds) μ'
  | none=>.bad
 | _=>.bad
def rngD (lo:Int)(n:Nat):List D:=(List.range n).map fun i=>.int (lo+(i:Nat))
theorem it_rng {H0:Hp}(lo:Int)(n:Nat):ItOk K G H0 (Itr lo n) (rngD lo n):=fun ρ G1 H μ R x _=>by
 refine⟨fun i d e=>?_,fun i hi=>?_⟩
 ·unfold rngD at e
  rw[List.getElem?_map] at e
  cases q:(List.range n)[i]? with
  | none=>rw[q] at e;cases e
  | some j =>
   rw[q] at e
   simp only[Option.map_some,Option.some.injEq] at e
   obtain⟨hi,ej⟩:=List.getElem?_eq_some_iff.mp q
   rw[List.getElem_range] at ej
   rw[List.length_range] at hi
   refine⟨hi,fun v H' hy=>?_⟩
   obtain⟨rfl,rfl⟩:=hy
   subst ej
   exact⟨G1,Tr.refl _ _ _,R,e▸Rp.int _⟩
 ·show n≤i
  simpa [rngD] using hi
def imRng (f:AM):IM:=fun δ μ=>(f δ μ).bind fun xs μ'=>match xs with
 | [x]=>match asI x with
  | some j=>if -2^62≤j∧j<2^62 then .ok (rngD 0 j.toNat) μ' else .bad
  | none=>.bad
 | _=>.bad
theorem snd_irng {ta:TA}{f:AM}(h:SndA K W ta f):SndI K W (iRng1 ta) (imRng f):=fun ρ G H σ δ μ Q R E hp=>by
 refine SndG.seq (t:=ta) h R E hp fun xs μ1 G1 H1 vs t1 R1 E1 d1 hp1=>?_
 match xs,d1,hp1 with
 | [],_,hp1=>exact hp1.elim
 | _::_::_,_,hp1=>exact hp1.elim
 | [x],d1,hp1 =>
  obtain⟨v,rfl,d⟩:=d1.one
  simp only at hp1
  cases e:asI x with
  | none=>rw[e] at hp1;exact hp1.elim
  | some j =>
   rw[e] at hp1
   by_cases c:-2^62≤j∧j<2^62
   ·simp only[if_pos c] at hp1
    rw[asI_ok d e]
    exact⟨j,rfl,c.1,c.2,hp1 G1 H1 _ t1 R1 (it_rng 0 _)⟩
   ·simp only[if_neg c] at hp1;exact hp1.elim
def imRng2 (f:AM):IM:=fun δ μ=>(f δ μ).bind fun xs μ'=>match xs with
 | [x,y]=>match asI x,asI y with
  | some i,some j=>if -2^62≤i∧i<2^62∧-2^62≤j∧j<2^62 then .ok (rngD i (j-i).toNat) μ' else .bad
  | _,_=>.bad
 | _=>.bad
def TgsOk (K:PySem.W.Frag)(g:TGs)(h:List D→Env→Option Env)(ts:List Nat):Prop:=∀ (ρ:Pm) (G H:Hp) (μ:Mem) (σ:Slots) (δ δ':Env) (vs:List V) (ds:List D) (Q:Slots→Hp→Prop),Rel K ρ G H μ→EnvOk K ρ G σ δ→RpL K G vs ds→h ds δ=some δ' →
 (∀ σ',EnvOk K ρ G σ' δ'→σ'.length=σ.length→(∀ i,i∉ts→σ'[i]?=σ[i]?)→Q σ' H)→g vs σ H Q
end
section
variable {X:Cx}{W:WX}{pos p tpos:Pos}{tg e:Expr}{te:TE}{f:EM}{ta:TA}{fa:AM}{a b:Expr}
theorem mi_seq (h:PM X W e te f):PMI X W tg e (iSeq X.K te) (imSeq f):=⟨pi_seq h.pe,snd_iseq h.sd⟩
theorem mi_rng1 (hg:Gl X "range") (hm:X.mg "range"=none) (h:PMA X W [a] ta fa) (hs:starEach [a] X.env=[(false,eval a X.env)]:=by rfl):PMI X W tg (.Call (.Name "range" p) [a] [] pos) (iRng1 ta) (imRng fa):=⟨pi_range1 hg hm h.pe hs,snd_irng h.sd⟩
structure PMGs (X:Cx)(es:List Expr)(g:TGs)(h:List D→Env→Option Env)(ts:List Nat):Prop where
 pg:PGs X es g
 ok:TgsOk X.K g h ts
end
section
variable {K:PySem.W.Frag}{W:WX}{N M:Nat}{ρ:Pm}{G H:Hp}{σ:Slots}{δ:Env}{μ:Mem}{Q:VK}{v w:V}{x y:DV}
theorem Rel.setL {n:Nat}{a:Addr}{vs':List V}{xs' ys:List DV}(R:Rel K ρ G H μ)(hn:ρ n=some a)(hm:μ[n]?=some (.lst ys))(hb:∀ x∈xs',x.below n)(hd:DvL K ρ G vs' xs') :
  Rel K ρ G (upd H a (.lst vs')) (μ.set n (.lst xs'))∧Tr ρ G H G (upd H a (.lst vs')):=by
 have hlt:n<μ.length:=R.lt n a hn
 refine⟨⟨fun b o h=>?_,R.inj,R.nG,fun m b h=>by rw[List.length_set];exact R.lt m b h,fun m b h q=>?_,fun m q h=>?_⟩,⟨Ex.refl _,fun b o hb h=>?_,fun b h=>?_,fun b h=>.inl h,fun b od u h=>?_⟩⟩
 ·have e:b≠a:=fun e=>by rw[e,R.nG n a hn] at h;cases h
  rw[upd_ne e];exact R.ex b o h
 ·by_cases e:b=a
  ·rw[e,upd_same] at q;cases q
  ·rw[upd_ne e] at q;exact R.hs m b h q
 ·by_cases e:m=n
  ·subst e
   rw[List.getElem?_set_self hlt] at h
   cases h
   exact⟨hb,a,vs',hn,upd_same,hd⟩
  ·rw[List.getElem?_set_ne (fun z=>e z.symm)] at h
   have z:=R.pl m q h
   have ne:∀ b,ρ m=some b→b≠a:=fun b hb z=>e (R.inj m n a (z▸hb) hn)
   cases q with
   | lst xs=>obtain⟨b,c,vs,h1,h2,h3⟩:=z;exact⟨b,c,vs,h1,by rw[upd_ne (ne c h1)];exact h2,h3⟩
   | dct kvs=>obtain⟨b,c,o,vs,h1,h2,h3⟩:=z;exact⟨b,c,o,vs,h1,by rw[upd_ne (ne c h1)];exact h2,h3⟩
   | lkd kvs=>obtain⟨b,c,o,vs,h1,h2,h3⟩:=z;exact⟨b,c,o,vs,h1,by rw[upd_ne (ne c h1)];exact h2,h3⟩
   | lkl xs=>obtain⟨b,c,o,vs,h1,h2,h3⟩:=z;exact⟨b,c,o,vs,h1,by rw[upd_ne (ne c h1)];exact h2,h3⟩
   | tp xs=>obtain⟨b,c,o,vs,h1,h2,h3⟩:=z;exact⟨b,c,o,vs,h1,by rw[upd_ne (ne c h1)];exact h2,h3⟩
   | er nm' f' xs=>obtain⟨b,c,o,vs,h1,h2,h3⟩:=z;exact⟨b,c,o,vs,h1,by rw[upd_ne (ne c h1)];exact h2,h3⟩
   | own=>obtain⟨b,c,h1,h2⟩:=z;exact⟨b,c,h1,by rw[upd_ne (ne b h1)];exact h2⟩
   | ins nm fs =>
    obtain⟨b,c,dx,C,vs,k,hk,h1,h2,cl,h4,h3⟩:=z
    have nd:dx≠a:=fun e=>by
     obtain⟨_,a',vs',k1,k2,_⟩:=R.pl n _ hm
     rw[hn] at k1;cases k1;rw[e,k2] at h4;cases h4
    exact⟨b,c,dx,C,vs,k,hk,h1,by rw[upd_ne (ne c h1)];exact h2,cl,by rw[upd_ne nd];exact h4,h3⟩
   | gone=>exact z
 ·have e:b≠a:=fun e=>hb n (e▸hn)
  rw[upd_ne e];exact h
 ·by_cases e:b=a
  ·rw[e,upd_same] at h;cases h
  ·rw[upd_ne e] at h;exact h
 ·rw[upd_ne (fun e=>by
   obtain⟨_,a',vs',k1,k2,_⟩:=R.pl n _ hm
   rw[hn] at k1;cases k1;rw[e,k2] at h;cases h)]
  exact h
def MtD (K:PySem.W.Frag)(r:V→List V→Hp→VK→Prop)(g:DV→List DV→Mem→Res R):Prop:=∀ (W:WX) (ρ:Pm) (G H:Hp) (σ:Slots) (μ:Mem) (v:V) (vs:List V) (x:DV) (xs:List DV) (Q:VK),Rel K ρ G H μ→DvOk K ρ G v x→DvL K ρ G vs xs →
 PostG K W ρ G H σ (fun G' H'=>rpE K ρ G' H H') Q (g x xs μ)→r v vs H Q
def TyD (K:PySem.W.Frag)(T:String)(c:DV→Mem→Bool):Prop:=∀ (ρ:Pm) (G H:Hp) (μ:Mem) (v:V) (x:DV),Rel K ρ G H μ→DvOk K ρ G v x→c x μ=true→tyV K T v H
def tyL (x:DV)(μ:Mem):Bool:=(asL μ x).isSome
def tyS (x:DV)(_:Mem):Bool:=(asStr x).isSome
theorem td_list:TyD K "list" tyL:=fun ρ G H μ v x R h e=>by
 unfold tyL at e
 cases q:asL μ x with
 | none=>rw[q] at e;cases e
 | some xs =>
  obtain⟨a,vs,rfl,h2,_⟩:=asL_ok R h q
  exact .inl ⟨rfl,vs,h2⟩
def eBM (c:DV→Mem→Bool)(g:DV→List DV→Mem→Res R)(f:EM)(fa:AM):EM:=fun δ μ=>(frzV f δ μ).bind fun x μ1=>if c x μ1=true then(fa δ μ1).bind fun xs μ2=>g x xs μ2 else .bad
def eBM0 (c:DV→Mem→Bool)(g:DV→List DV→Mem→Res R)(f:EM):EM:=fun δ μ=>(frzV f δ μ).bind fun x μ1=>if c x μ1=true then g x [] μ1 else .bad
theorem snd_bm {T:String}{c:DV→Mem→Bool}{r:V→List V→Hp→VK→Prop}{g:DV→List DV→Mem→Res R}{to:TE}{ta:TA}{f:EM}{fa:AM}(hT:TyD K T c)(hm:MtD K r g)(h:SndE K W to f)(ha:SndA K W ta fa):SndE K W (tBM K T r to ta) (eBM c g f fa):=fun ρ G H σ δ μ Q R E hp=>by
 refine SndG.seq (t:=to) h.toV R E hp fun x μ1 G1 H1 v t1 R1 E1 d1 hp1=>?_
 by_cases hc:c x μ1=true
 case neg=>rw[if_neg hc] at hp1;exact hp1.elim
 rw[if_pos hc] at hp1
 refine⟨hT ρ G1 H1 μ1 v x R1 d1 hc,?_⟩
 refine SndG.seq (t:=ta) ha R1 E1 (hp1.shiftE t1) fun xs μ2 G2 H2 vs t2 R2 E2 d2 hp2=>?_
 exact hm W ρ G2 H2 σ μ2 v vs x xs Q R2 (d1.mono t2.exG fun _ _ q=>q) d2 (hp2.shiftE t2)
def atPl (μ:Mem):DV→Option (Nat×List DV)
 | .loc n=>match μ[n]? with
  | some (.lst xs)=>some (n,xs)
  | _=>none
 | .dat _=>none
theorem atPl_ok {n:Nat}{xs:List DV}(R:Rel K ρ G H μ)(h:DvOk K ρ G v x)(e:atPl μ x=some (n,xs)):∃ a vs,v=.ref a∧ρ n=some a∧H a=some (.lst vs)∧DvL K ρ G vs xs∧μ[n]?=some (.lst xs)∧∀ x∈xs,x.below n:=by
 unfold atPl at e
 split at e
 ·rename_i m
  split at e
  ·rename_i ys q
   cases e
   obtain⟨a,rfl,hn⟩:=h
   obtain⟨b,c,vs,h1,h2,h3⟩:=R.pl _ _ q
   rw[hn] at h1;cases h1
   exact⟨a,vs,rfl,hn,h2,h3,q,b⟩
  ·cases e
 ·cases e
def belowB (n:Nat):DV→Bool
 | .dat _=>true
 | .loc m=>decide (m<n)
theorem belowB_ok {n:Nat}(h:belowB n x=true):x.below n:=by
 cases x with
 | dat d=>trivial
 | loc m=>exact(of_decide_eq_true h:m<n)
def dAppend (x:DV)(xs:List DV)(μ:Mem):Res R:=match atPl μ x with
 | none=>.bad
 | some (n,ys)=>match xs with
  | [y]=>if ys.length<sizeLine∧belowB n y=true then .ok (.dat .non) (μ.set n (.lst (ys++[y]))) else .bad
  | _=>.bad
theorem below_app {n:Nat}{xs ys:List DV}(h1:∀ x∈xs,x.below n)(h2:∀ x∈ys,x.below n):∀ x∈xs++ys,x.below n:=fun x hx=>(List.mem_append.mp hx).elim (h1 x) (h2 x)
theorem md_append:MtD K rAppend dAppend:=fun W ρ G H σ μ v vs x xs Q R hx hs hp=>by
 unfold dAppend at hp
 cases e:atPl μ x with
 | none=>rw[e] at hp;exact hp.elim
 | some q =>
  obtain⟨n,ys⟩:=q
  rw[e] at hp
  obtain⟨a,ws,rfl,hn,hH,hd,hm,hb⟩:=atPl_ok R hx e
  match xs,hs,hp with
  | [],_,hp=>exact hp.elim
  | _::_::_,_,hp=>exact hp.elim
  | [y],hs,hp =>
   obtain⟨u,rfl,du⟩:=hs.one
   simp only at hp
   by_cases c:ys.length<sizeLine∧belowB n y=true
   ·rw[if_pos c] at hp
    obtain⟨R2,t2⟩:=R.setL hn hm (below_app hb fun x hx=>by rw[List.mem_singleton.mp hx];exact belowB_ok c.2) (hd.append (.cons du .nil))
    exact⟨a,ws,u,rfl,rfl,hH,by rw[paired_len hd];exact c.1,hp _ _ _ t2 R2 Rp.non⟩
   ·rw[if_neg c] at hp;exact hp.elim
end
section
variable {X:Cx}{W:WX}{o e:Expr}{es:List Expr}{to:TE}{ta:TA}{name:Str}{apos cpos:Pos}{T id:String}{r:V→List V→Hp→VK→Prop}{c:DV→Mem→Bool}{g:DV→List DV→Mem→Res R}{f:EM}{fa:AM}
theorem pm_bm (hp:PlainAttrs T) (hsl:Slot T name id) (hty:typeOf (Value.builtin id)=pure (Value.type "method_descriptor")) (hm:MtR X id r) (hT:TyD X.K T c) (hd:MtD X.K r g) (ho:PM X W o to f) (ha:PMA X W (e::es) ta fa)
  (h1:attributeBase o name X.env (eval o X.env)=eval o X.env:=by rfl)
  (h2:(((((backTo cpos (starEach (e::es) X.env)).all fun x=>!x.fst)&&(backToKw cpos (keywordEach [] X.env)).all fun x=>x.fst.isSome)&&decide (((e::es).length+([]:List Keyword).length+if([]:List Keyword).isEmpty=true then 0 else 1)<30))=true):=by rfl)
  (h3:(apos.endLine==cpos.line)=true:=by rfl) (h4:starEach (e::es) X.env=(false,eval e X.env)::starEach es X.env:=by rfl) (h5:((backTo cpos (starEach es X.env)).any fun x=>x.fst)=false:=by rfl) :
  PM X W ((o.Attribute name apos).Call (e::es) [] cpos) (tBM X.K T r to ta) (eBM c g f fa):=⟨pe_bm hp hsl hty hm ho.pe ha.pe h1 h2 h3 h4 h5,snd_bm hT hd ho.sd ha.sd⟩
end
def rGetL (K:PySem.W.Frag):V→V→Hp→VK→Prop:=fun o i H Q=>∃ p xs k v,o=.ref p∧i=.int k∧SqL K H p xs∧0≤k∧k<2^63∧xs[k.toNat]?=some v∧Q v H
theorem pget_list {X:Cx}:PGet X (rGetL X.K):=by
 intro pins s σ H o i ov iv Q I ro ri h
 obtain⟨p,xs,k,v,rfl,rfl,hq,h0,h1,hx,q⟩:=h
 cases ro
 obtain⟨t,rfl⟩:=ri
 obtain⟨its,rv,pl,hz⟩:=I.list hq
 obtain⟨u,hu,ru⟩:=rv.get hx
 exact wpAny_getItem_list pl.isList h0 h1 (by simpa using hu) ⟨v,H,I,ru,q⟩
section
variable {K:PySem.W.Frag}{W:WX}{N M:Nat}{ρ:Pm}{G H:Hp}{σ:Slots}{δ:Env}{μ:Mem}{Q:VK}{v w:V}{x y:DV}
theorem DvL.set {vs:List V}{xs:List DV}(h:DvL K ρ G vs xs)(k:Nat)(d:DvOk K ρ G v x):DvL K ρ G (vs.set k v) (xs.set k x):=by
 induction h generalizing k with
 | nil=>exact .nil
 | cons a b ih =>
  cases k with
  | zero=>exact .cons d b
  | succ k=>exact .cons a (ih k)
def setPl (μ:Mem)(x i y:DV):Option Mem:=match atPl μ x with
 | none=>none
 | some (n,ys)=>match asI i with
  | none=>none
  | some k=>match ixN ys.length k with
   | some j=>if belowB n y=true then some (μ.set n (.lst (ys.set j y))) else none
   | none=>none
theorem setPl_ok {i:DV}{vi:V}{μ':Mem}{Qh:Hp→Prop}(R:Rel K ρ G H μ)(hx:DvOk K ρ G v x)(hi:DvOk K ρ G vi i)(hy:DvOk K ρ G w y)(e:setPl μ x i y=some μ')
  (go:∀ H',Tr ρ G H G H'→Rel K ρ G H' μ'→Qh H'):rSetL v vi w H Qh:=by
 unfold setPl at e
 cases e1:atPl μ x with
 | none=>rw[e1] at e;cases e
 | some q =>
  obtain⟨n,ys⟩:=q
  simp only[e1] at e
  obtain⟨a,ws,rfl,hn,hH,hd,hm,hb⟩:=atPl_ok R hx e1
  cases e2:asI i with
  | none=>rw[e2] at e;cases e
  | some k =>
   simp only[e2] at e
   cases e3:ixN ys.length k with
   | none=>rw[e3] at e;cases e
   | some j =>
    simp only[e3] at e
    by_cases c:belowB n y=true
    ·rw[if_pos c] at e;cases e
     obtain⟨R2,t2⟩:=R.setL hn hm (fun x hx=>(List.mem_or_eq_of_mem_set hx).elim (hb x) fun z=>by rw[z];exact belowB_ok c) (hd.set j hy)
     exact⟨a,ws,k,j,rfl,asI_ok hi e2,hH,by rw[paired_len hd];exact e3,go _ t2 R2⟩
    ·rw[if_neg c] at e;cases e
def gSet (fo fi fe:EM):SM:=fun _ δ μ=>lift ((frzV fe δ μ).bind fun y μ1=>(frzV fo δ μ1).bind fun x μ2=>(frzV fi δ μ2).bind fun i μ3=>match setPl μ3 x i y with
 | some μ4=>.ok () μ4
 | none=>.bad) δ fun _ μ4=>.next δ μ4
theorem SndG.stm2 {α β γ:Type}{t:Slots→Hp→(β→Hp→Prop)→Prop}{f:Env→Mem→Res α}{rp:Pm→Hp→Hp→Hp→β→α→Prop}{Dn:Ends}
  (h:SndG K W t f rp) (R:Rel K ρ G H μ) (E:EnvOk K ρ G σ δ) {k:α→Mem→Res γ} {kk:γ→Mem→Out}
  (hp:PostS K W N ρ G H Dn (lift ((f δ μ).bind k) δ kk)) {Q:β→Hp→Prop}
  (go:∀ r μ' G' H' v,Tr ρ G H G' H'→Rel K ρ G' H' μ'→EnvOk K ρ G' σ δ→rp ρ G' H H' v r→PostS K W N ρ G' H' Dn (lift (k r μ') δ kk)→Q v H'):t σ H Q:=by
 refine h ρ G H σ δ μ Q R E ?_
 cases e:f δ μ with
 | ok r μ'=>rw[e] at hp;exact fun G' H' v t' R' q=>go r μ' G' H' v t' R' (E.mono t'.exG) q (PostS.shift t'.toS hp)
 | exc x μ'=>rw[e] at hp;exact fun G' H' cls d t' R' q=>hp ρ G' H' σ cls d t'.toS R' (E.mono t'.exG) q
 | bad=>rw[e] at hp;exact hp
theorem snd_set {to ti te:TE}{fo fi fe:EM}(ho:SndE K W to fo)(hi:SndE K W ti fi)(he:SndE K W te fe):SndS K W (tAsg te (gSub to ti rSetL)) (gSet fo fi fe):=fun N ρ G H σ δ μ Dn R E hp=>by
 refine SndG.stm2 (t:=te) he.toV R E hp fun y μ1 G1 H1 w t1 R1 E1 d1 hp1=>?_
 refine SndG.stm2 (t:=to) ho.toV R1 E1 hp1 fun x μ2 G2 H2 v t2 R2 E2 d2 hp2=>?_
 refine SndG.stm2 (t:=ti) hi.toV R2 E2 hp2 fun i μ3 G3 H3 vi t3 R3 E3 d3 hp3=>?_
 cases e:setPl μ3 x i y with
 | none=>rw[e] at hp3;exact hp3.elim
 | some μ4 =>
  rw[e] at hp3
  exact setPl_ok R3 (d2.mono t3.exG fun _ _ q=>q) d3 (d1.mono (t2.exG.trans t3.exG) fun _ _ q=>q) e fun H' t4 R4=>hp3 ρ G3 H' σ t4.toS R4 E3
def getPl (μ:Mem)(x i:DV):Option Int:=match asL μ x with
 | none=>none
 | some xs=>match asI i with
  | none=>none
  | some k=>if 0≤k∧k<2^63 then match xs[k.toNat]? with
    | some y=>asI y
    | none=>none
   else none
def gAugS (op:Int→Int→Int)(fo fi fe:EM):SM:=fun _ δ μ=>lift ((frzV fo δ μ).bind fun x μ1=>(frzV fi δ μ1).bind fun i μ2=>match getPl μ2 x i with
 | none=>.bad
 | some a=>(frzV fe δ μ2).bind fun y μ3=>match asI y with
  | none=>.bad
  | some b=>match setPl μ3 x i (.dat (.int (op a b))) with
   | some μ4=>.ok () μ4
   | none=>.bad) δ fun _ μ4=>.next δ μ4
theorem snd_augS {to ti te:TE}{fo fi fe:EM}{op:Int→Int→Int}(ho:SndE K W to fo)(hi:SndE K W ti fi)(he:SndE K W te fe):SndS K W (tAugS to ti te (rGetL K) (ipI op) rSetL) (gAugS op fo fi fe):=fun N ρ G H σ δ μ Dn R E hp=>by
 refine SndG.stm2 (t:=to) ho.toV R E hp fun x μ1 G1 H1 v t1 R1 E1 d1 hp1=>?_
 refine SndG.stm2 (t:=ti) hi.toV R1 E1 hp1 fun i μ2 G2 H2 vi t2 R2 E2 d2 hp2=>?_
 cases eg:getPl μ2 x i with
 | none=>rw[eg] at hp2;exact hp2.elim
 | some a =>
  simp only[eg] at hp2
  have d1':=d1.mono t2.exG fun _ _ q=>q
  unfold getPl at eg
  cases e1:asL μ2 x with
  | none=>rw[e1] at eg;cases eg
  | some xs =>
   simp only[e1] at eg
   cases e2:asI i with
   | none=>rw[e2] at eg;cases eg
   | some k =>
    simp only[e2] at eg
    by_cases c:0≤k∧k<2^63
    case neg=>rw[if_neg c] at eg;cases eg
    rw[if_pos c] at eg
    cases e3:xs[k.toNat]? with
    | none=>rw[e3] at eg;cases eg
    | some z =>
     simp only[e3] at eg
     obtain⟨p,vs,rfl,hq,hd⟩:=asL_ok R2 d1' e1
     obtain⟨u,h1,h2⟩:=DvL.get' hd e3
     refine⟨p,vs,k,u,rfl,asI_ok d2 e2,hq,c.1,c.2,h1,?_⟩
     rw[asI_ok h2 eg]
     refine SndG.stm2 (t:=te) he.toV R2 E2 hp2 fun y μ3 G3 H3 w t3 R3 E3 d3 hp3=>?_
     cases e4:asI y with
     | none=>rw[e4] at hp3;exact hp3.elim
     | some b =>
      simp only[e4] at hp3
      refine⟨a,b,rfl,asI_ok d3 e4,?_⟩
      cases e5:setPl μ3 x i (.dat (.int (op a b))) with
      | none=>rw[e5] at hp3;exact hp3.elim
      | some μ4 =>
       rw[e5] at hp3
       exact setPl_ok R3 (d1'.mono t3.exG fun _ _ q=>q) (d2.mono t3.exG fun _ _ q=>q) (y:=.dat (.int (op a b))) (Rp.int _) e5 fun H' t4 R4=>hp3 ρ G3 H' σ t4.toS R4 E3
def gAug (i:Nat)(op:Int→Int→Int)(fe:EM):SM:=fun _ δ μ=>match δ[i]? with
 | some (some x)=>match asI x with
  | some a=>lift (frzV fe δ μ) δ fun y μ'=>match asI y with
   | some b=>.next (δ.set i (some (.dat (.int (op a b))))) μ'
   | none=>.bad
  | none=>.bad
 | _=>.bad
def gPar (i j:Nat)(fa:AM):SM:=fun _ δ μ=>lift (fa δ μ) δ fun xs μ'=>match xs with
 | [x,y]=>.next ((δ.set i (some x)).set j (some y)) μ'
 | _=>.bad
def gPar2 (i j:Nat)(f g:EM):SM:=fun N δ μ=>lift (f δ μ) δ fun r μ1=>match bindR N i r δ μ1 with
 | .next δ1 μ2=>lift (g δ μ2) δ fun r2 μ3=>bindR N j r2 δ1 μ3
 | _=>.bad
end
section
variable {X:Cx}{W:WX}{pos p tpos px py pt pt2:Pos}{e o i a b:Expr}{te to ti:TE}{f fo fi:EM}{ta:TA}{fa:AM}
theorem sm_set (ho:PM X W o to fo)(hi:PM X W i ti fi)(he:PM X W e te f)
  (hs:∀ (v:Value),assign (o.Subscript i p) X.env v=(do
        let ov ←holding [v] (eval o X.env)
        let iv ←holding [v,ov] (eval i X.env)
        standAt p
        holding [v,ov,iv] (setItem ov iv v)
        release [v,ov,iv] []):=by intro _;rfl)
  (a1:swapsWithSole [o.Subscript i p] e pos.line X.env=pure false:=by rfl) (a2:swappedStores [o.Subscript i p] e X.env=pure none:=by rfl) (a3:List.map (fun x=>x.snd) (assignEach [o.Subscript i p] X.env)=[assign (o.Subscript i p) X.env]:=by rfl) :
  PSM X W (.Assign [o.Subscript i p] e pos) (tAsg te (gSub to ti rSetL)) (gSet fo fi f):=⟨ps_asg he.pe (pg_sub ho.pe hi.pe set_list hs) a1 a2 a3,snd_set ho.sd hi.sd he.sd⟩
theorem sm_augS (ho:PM X W o to fo)(hi:PM X W i ti fi)(he:PM X W e te f)
  (hs:∀ (ov iv new:Value),augStore i ov iv new=(do
           holding [new,ov,iv] (setItem ov iv new)
           release [new,ov,iv] []
           pure Flow.next):=by intro _ _ _;rfl) :
  PSM X W (.AugAssign (o.Subscript i tpos) .Add e pos) (tAugS to ti te (rGetL X.K) (ipI fun i j=>i+j) rSetL) (gAugS (fun i j=>i+j) fo fi f):=⟨ps_augS ho.pe hi.pe pget_list he.pe ip_add set_list hs,snd_augS ho.sd hi.sd he.sd⟩
theorem pm_cb {x:Str}{es:List Expr}{id:String}{r:List V→Hp→VK→Prop}{g:List DV→Mem→Res R}(hr:CallR X (.builtin id) r)(hd:CallD X.K r g)(hg:Gl X x)(hm:X.mg x=none)(hv:bootBuiltins x=some (.builtin id))(ha:PMA X W (e::es) ta fa)
  (hn:x≠"__name__":=by decide) (hdb:(x==("__debug__":Str))=false:=by decide) (he:starEach (e::es) X.env=(false,eval e X.env)::starEach es X.env:=by rfl) (hpl:(backTo pos (starEach es X.env)).any (·.1)=false:=by rfl) :
  PM X W (.Call (.Name x p) (e::es) [] pos) (tCB r ta) (eCB g fa):=⟨pe_callB hr hg hm hv ha.pe hn hdb he hpl,snd_cb hd ha.sd⟩
end
section
variable {K:PySem.W.Frag}{W:WX}{N M:Nat}{ρ:Pm}{G H:Hp}{σ:Slots}{δ:Env}{μ:Mem}{Q:VK}{v w:V}{x y:DV}
theorem bindR_ok {r:R}{i:Nat}{G0 H0:Hp}{δ1:Env}{μ2:Mem}(R':Rel K ρ G H μ)(t':TrS N ρ G0 H0 ρ G H)(d:RpR K ρ G H0 H v r)(e:bindR N i r δ μ=.next δ1 μ2) :
  ∃ ρ1 x,TrS N ρ G0 H0 ρ1 G H∧Rel K ρ1 G H μ2∧(∀ n b,ρ n=some b→ρ1 n=some b)∧DvOk K ρ1 G v x∧δ1=δ.set i (some x):=by
 cases r with
 | dat d'=>cases e;exact⟨ρ,.dat d',t',R',fun _ _ q=>q,d,rfl⟩
 | loc n=>cases e;exact⟨ρ,.loc n,t',R',fun _ _ q=>q,d,rfl⟩
 | nl xs =>
  obtain⟨a,vs,rfl,h2,h3,h4,h5,h6⟩:=d
  have up:∀ n b,ρ n=some b→addP ρ μ.length a n=some b:=fun n b q=>by
   unfold addP;rw[if_neg (Nat.ne_of_lt (R'.lt n b q))];exact q
  unfold bindR at e
  by_cases hN:N≤μ.length
  case neg=>simp only[if_neg hN] at e;cases e
  simp only[if_pos hN] at e
  cases e
  obtain⟨R2,t2,up,at_⟩:=R'.alloc (p:=.lst xs) hN t' (by rw[h2];simp) h4 h5 h6 ⟨DvL.below R' h3,a,vs,by unfold addP;rw[if_pos rfl],h2,DvL.mono (Ex.refl _) up h3⟩
  exact⟨_,.loc μ.length,t2,R2,up,⟨a,rfl,at_⟩,rfl⟩
 | nk kvs =>
  obtain⟨a,o,vs,rfl,h2,hk,h3,h4,h5,h6⟩:=d
  have up:∀ n b,ρ n=some b→addP ρ μ.length a n=some b:=fun n b q=>by
   unfold addP;rw[if_neg (Nat.ne_of_lt (R'.lt n b q))];exact q
  have bl:∀ p∈kvs,p.2.below μ.length:=fun p hp=>DvL.below R' h3 p.2 (List.mem_map.mpr ⟨p,hp,rfl⟩)
  unfold bindR at e
  by_cases hN:N≤μ.length
  case neg=>simp only[if_neg hN] at e;cases e
  simp only[if_pos hN] at e
  cases e
  obtain⟨R2,t2,up,at_⟩:=R'.alloc (p:=.dct kvs) hN t' (by rw[h2];simp) h4 h5 h6 ⟨bl,a,o,vs,by unfold addP;rw[if_pos rfl],h2,hk,DvL.mono (Ex.refl _) up h3⟩
  exact⟨_,.loc μ.length,t2,R2,up,⟨a,rfl,at_⟩,rfl⟩
def eChain (g g':DV→DV→Mem→Res R)(fa fb fc:EM):EM:=fun δ μ=>(frzV fa δ μ).bind fun x μ1=>(frzV fb δ μ1).bind fun y μ2=>(g x y μ2).bind fun r μ3=>match asB r with
 | some true=>(frzV fc δ μ3).bind fun z μ4=>g' y z μ4
 | some false=>.ok (.dat (.bl false)) μ3
 | none=>.bad
end
section
variable {X:Cx}{W:WX}{pos p tpos px py pt pt2 spos:Pos}{e o i a b c:Expr}{te to ti ta tb tc:TE}{f fo fi fa fb fc:EM}{tA:TA}{fA:AM}
theorem pm_ct {x:Str}{es:List Expr}{T:String}{r:List V→Hp→VK→Prop}{g:List DV→Mem→Res R}(hr:CallR X (.type T) r)(hd:CallD X.K r g)(hg:Gl X x)(hm:X.mg x=none)(hv:bootBuiltins x=some (.type T))(ha:PMA X W (e::es) tA fA)
  (hn:x≠"__name__":=by decide) (hdb:(x==("__debug__":Str))=false:=by decide) (he:starEach (e::es) X.env=(false,eval e X.env)::starEach es X.env:=by rfl) (hpl:(backTo pos (starEach es X.env)).any (·.1)=false:=by rfl) :
  PM X W (.Call (.Name x p) (e::es) [] pos) (tCB r tA) (eCB g fA):=⟨pe_callTy hr hg hm hv ha.pe hn hdb he hpl,snd_cb hd ha.sd⟩
end
section
variable {K:PySem.W.Frag}{W:WX}{N M:Nat}{ρ:Pm}{G H:Hp}{σ:Slots}{δ:Env}{μ:Mem}{Q:VK}{v w:V}{x y:DV}
def gTgt (h:D→Env→Option Env)(f:EM):SM:=fun _ δ μ=>lift (frzV f δ μ) δ fun x μ'=>match x with
 | .dat d=>match h d δ with
  | some δ'=>.next δ' μ'
  | none=>.bad
 | .loc _=>.bad
def newPl (N:Nat)(r:R)(μ:Mem):Option (DV×Mem):=match r with
 | .dat d=>some (.dat d,μ)
 | .loc n=>some (.loc n,μ)
 | .nl xs=>if N≤μ.length then some (.loc μ.length,μ++[.lst xs]) else none
 | .nk kvs=>if N≤μ.length then some (.loc μ.length,μ++[.dct kvs]) else none
theorem newPl_ok {r:R}{G0 H0:Hp}{μ2:Mem}(R':Rel K ρ G H μ)(t':TrS N ρ G0 H0 ρ G H)(d:RpR K ρ G H0 H v r)(e:newPl N r μ=some (x,μ2)) :
  ∃ ρ1,TrS N ρ G0 H0 ρ1 G H∧Rel K ρ1 G H μ2∧(∀ n b,ρ n=some b→ρ1 n=some b)∧DvOk K ρ1 G v x:=by
 have key:bindR N 0 r [none] μ=.next [some x] μ2:=by
  cases r with
  | dat d=>cases e;rfl
  | loc n=>cases e;rfl
  | nl xs =>
   simp only[newPl] at e
   by_cases h:N≤μ.length
   ·rw[if_pos h] at e;cases e;exact if_pos h
   ·rw[if_neg h] at e;cases e
  | nk xs =>
   simp only[newPl] at e
   by_cases h:N≤μ.length
   ·rw[if_pos h] at e;cases e;exact if_pos h
   ·rw[if_neg h] at e;cases e
 obtain⟨ρ1,y,h1,h2,h3,h4,h5⟩:=bindR_ok R' t' d key
 cases h5
 exact⟨ρ1,h1,h2,h3,h4⟩
abbrev NM:=Nat→Env→Mem→Res (List DV)
def nNil:NM:=fun _ _ μ=>.ok [] μ
def nCons (f:EM)(g:NM):NM:=fun N δ μ=>(f δ μ).bind fun r μ1=>match newPl N r μ1 with
 | none=>.bad
 | some (x,μ2)=>(g N δ μ2).bind fun xs μ3=>.ok (x::xs) μ3
def SndN (K:PySem.W.Frag)(W:WX)(t:TA)(f:NM):Prop:=∀ (N:Nat) (ρ:Pm) (G H:Hp) (σ:Slots) (δ:Env) (μ:Mem) (Q:List V→Hp→Prop),Rel K ρ G H μ→EnvOk K ρ G σ δ →
 (match f N δ μ with
  | .ok xs μ'=>∀ ρ' G' H' vs,TrS N ρ G H ρ' G' H'→Rel K ρ' G' H' μ'→(∀ n b,ρ n=some b→ρ' n=some b)→DvL K ρ' G' vs xs→Q vs H'
  | .exc x μ'=>∀ ρ' G' H' cls d,TrS N ρ G H ρ' G' H'→Rel K ρ' G' H' μ'→(∀ n b,ρ n=some b→ρ' n=some b)→XcOk K G' H' x cls d→W cls d σ H'
  | .bad=>False)→t σ H Q
def gDisp (i:Nat)(f:NM):SM:=fun N δ μ=>match f N δ μ with
 | .ok xs μ1=>if xs.length≤sizeLine then bindR N i (.nl xs) δ μ1 else .bad
 | .exc x μ1=>.exc x δ μ1
 | .bad=>.bad
def dNeg (x:DV)(μ:Mem):Res R:=match asI x with
 | some i=>.ok (.dat (.int (-i))) μ
 | none=>.bad
def eUn (g:DV→Mem→Res R)(f:EM):EM:=fun δ μ=>(frzV f δ μ).bind fun x μ'=>g x μ'
theorem snd_neg {ta:TE}{f:EM}(h:SndE K W ta f):SndE K W (tUn (rU fun i=>.int (-i)) ta) (eUn dNeg f):=fun ρ G H σ δ μ Q R E hp=>by
 refine SndG.seq (t:=ta) h.toV R E hp fun x μ1 G1 H1 v t1 R1 E1 d1 hp1=>?_
 unfold dNeg at hp1
 split at hp1
 ·rename_i i e
  exact⟨i,asI_ok d1 e,hp1 G1 H1 _ t1 R1 (Rp.int _)⟩
 ·exact hp1.elim
def eInK (neg:Bool)(ks:List Str)(f:EM):EM:=fun δ μ=>(frzV f δ μ).bind fun x μ'=>match asStr x with
 | some z=>.ok (.dat (.bl (if neg=true then !(ks.any fun k=>decide (k=z)) else ks.any fun k=>decide (k=z)))) μ'
 | none=>.bad
end
structure PMN (X:Cx)(W:WX)(es:List Expr)(ta:TA)(f:NM):Prop where
 pe:PA X es ta
 sd:SndN X.K W ta f
section
variable {X:Cx}{W:WX}{pos p:Pos}{e a tg:Expr}{es:List Expr}{te ta:TE}{f fa:EM}{tA:TA}{fN:NM}
theorem pm_neg (ha:PM X W a ta fa):PM X W (.UnaryOp .USub a pos) (tUn (rU fun i=>.int (-i)) ta) (eUn dNeg fa):=⟨pe_un un_neg ha.pe,snd_neg ha.sd⟩
end
section
variable {X:Cx}{W:WX}{pos p p2 q tpos apos cpos:Pos}{a b e o i:Expr}{es:List Expr}{lo hi:Option Expr}{te ta tb to ti:TE}{tA:TA}{fA:AM}{tl th:TO}{f fa fb fo fi:EM}{fl fh:OM}
theorem op_eqK (K:PySem.W.Frag)(h:X.A.units+64<cLine)(hK:X.K=K:=by rfl):OpR X (compareOp .Eq) (rEqQ K):=by subst hK;exact op_eqQ h
theorem pm_cmpK {op:CmpOp}{r:R2}{g:DV→DV→Mem→Res R}{K:PySem.W.Frag}(ho:OpR X (compareOp op) r)(hd:OpD K r g)(ha:PM X W a ta fa)(hb:PM X W b tb fb)(hm:behindInMarks op b=false)(hK:X.K=K:=by rfl):PM X W (.Compare a [op] [b] pos) (tOp r ta tb) (eOp g fa fb):=by
 subst hK;exact pm_cmp ho hd ha hb hm
theorem pt_cmpK {op:CmpOp}{r:R2}{g:DV→DV→Mem→Res R}{K:PySem.W.Frag}(ho:OpR X (compareOp op) r)(hd:OpD K r g)(ha:PM X W a ta fa)(hb:PM X W b tb fb)(hm:behindInMarks op b=false)(hK:X.K=K:=by rfl):PMT X W (.Compare a [op] [b] pos) (tTest (tOp r ta tb)) (tmB (eOp g fa fb)):=by
 subst hK;exact pt_cmp ho hd ha hb hm
theorem call_lenK (K:PySem.W.Frag)(hK:X.K=K:=by rfl):CallR X (.builtin "len") (fun xs H Q=>∃ x n,xs=[x]∧LenV K x H n∧Q (V.int ↑n) H):=by subst hK;exact call_len
theorem pm_cbK {x:Str}{id:String}{r:List V→Hp→VK→Prop}{g:List DV→Mem→Res R}{K:PySem.W.Frag}(hr:CallR X (.builtin id) r)(hd:CallD K r g)(hg:Gl X x)(hm:X.mg x=none)(hv:bootBuiltins x=some (.builtin id))(ha:PMA X W (e::es) tA fA)(hK:X.K=K:=by rfl)
  (hn:x≠"__name__":=by decide) (hdb:(x==("__debug__":Str))=false:=by decide) (he:starEach (e::es) X.env=(false,eval e X.env)::starEach es X.env:=by rfl) (hpl:(backTo pos (starEach es X.env)).any (·.1)=false:=by rfl) :
  PM X W (.Call (.Name x p) (e::es) [] pos) (tCB r tA) (eCB g fA):=by subst hK;exact pm_cb hr hd hg hm hv ha hn hdb he hpl
theorem pm_ctK {x:Str}{T:String}{r:List V→Hp→VK→Prop}{g:List DV→Mem→Res R}{K:PySem.W.Frag}(hr:CallR X (.type T) r)(hd:CallD K r g)(hg:Gl X x)(hm:X.mg x=none)(hv:bootBuiltins x=some (.type T))(ha:PMA X W (e::es) tA fA)(hK:X.K=K:=by rfl)
  (hn:x≠"__name__":=by decide) (hdb:(x==("__debug__":Str))=false:=by decide) (he:starEach (e::es) X.env=(false,eval e X.env)::starEach es X.env:=by rfl) (hpl:(backTo pos (starEach es X.env)).any (·.1)=false:=by rfl) :
  PM X W (.Call (.Name x p) (e::es) [] pos) (tCB r tA) (eCB g fA):=by subst hK;exact pm_ct hr hd hg hm hv ha hn hdb he hpl
theorem pm_callK {P:Program}{w:World}{K:PySem.W.Frag}{mg:Str→Option Value}{base:Heap}{cx:CXT}{k n:Nat}{x:Str}{F:List DV→Mem→Res R}(Fn:FnD P w K mg base cx k x n F)(hr:Room k X.A)(hgd:X.A.guards=some [])(hg:Gl X x)
  (hx:∀ σ,PassesAt cx X σ (EW W σ)) (ha:PMA X W (e::es) tA fA) (h1:X.prog=P:=by rfl) (h2:X.w=w:=by rfl) (h3:X.K=K:=by rfl) (h4:X.mg=mg:=by rfl) (h5:X.base=base:=by rfl) (hdb:(x==("__debug__":Str))=false:=by decide)
  (he:starEach (e::es) X.env=(false,eval e X.env)::starEach es X.env:=by rfl) (hpl:(backTo pos (starEach es X.env)).any (·.1)=false:=by rfl) :
  PM X W (.Call (.Name x p) (e::es) [] pos) (tCallSD (spF K n F) [] (EW W) tA) (eCB F fA):=by subst h1 h2 h3 h4 h5;exact pm_call Fn hr hgd hg hx ha hdb he hpl
theorem pm_slK (K:PySem.W.Frag)(h:PM X W e te f)(hl:PMO X W lo tl fl)(hh:PMO X W hi th fh)(hK:X.K=K:=by rfl):PM X W (.Subscript e (.Slice lo hi none p2) pos) (tSl (rSl K) te tl th) (eSl f fl fh):=by subst hK;exact pm_sl h hl hh
theorem pm_addK (K:PySem.W.Frag)(ha:PM X W a ta fa)(hb:PM X W b tb fb)(hK:X.K=K:=by rfl):PM X W (.BinOp a .Add b pos) (tOp (rPlus K) ta tb) (eOp dAdd fa fb):=by subst hK;exact pm_add ha hb
theorem pm_idxK (K:PySem.W.Frag)(ha:PM X W a ta fa)(hb:PM X W b tb fb)(hs:PlainIx b)(hK:X.K=K:=by rfl):PM X W (.Subscript a b pos) (tOp (rIx K) ta tb) (eOp dIx fa fb):=by subst hK;exact pm_idx ha hb hs
theorem mi_seqK (K:PySem.W.Frag){tg:Expr}(h:PM X W e te f)(hK:X.K=K:=by rfl):PMI X W tg e (iSeq K te) (imSeq f):=by subst hK;exact mi_seq h
theorem pm_bmK (K:PySem.W.Frag) {name:Str} {T id:String} {r:V→List V→Hp→VK→Prop} {c:DV→Mem→Bool} {g:DV→List DV→Mem→Res R} (hp:PlainAttrs T) (hsl:Slot T name id) (hty:typeOf (Value.builtin id)=pure (Value.type "method_descriptor")) (hm:MtR X id r) (hT:TyD K T c) (hd:MtD K r g) (ho:PM X W o to f) (ha:PMA X W (e::es) tA fA) (hK:X.K=K:=by rfl)
  (h1:attributeBase o name X.env (eval o X.env)=eval o X.env:=by rfl)
  (h2:(((((backTo cpos (starEach (e::es) X.env)).all fun x=>!x.fst)&&(backToKw cpos (keywordEach [] X.env)).all fun x=>x.fst.isSome)&&decide (((e::es).length+([]:List Keyword).length+if([]:List Keyword).isEmpty=true then 0 else 1)<30))=true):=by rfl)
  (h3:(apos.endLine==cpos.line)=true:=by rfl) (h4:starEach (e::es) X.env=(false,eval e X.env)::starEach es X.env:=by rfl) (h5:((backTo cpos (starEach es X.env)).any fun x=>x.fst)=false:=by rfl) :
  PM X W ((o.Attribute name apos).Call (e::es) [] cpos) (tBM K T r to tA) (eBM c g f fA):=by subst hK;exact pm_bm hp hsl hty hm hT hd ho ha h1 h2 h3 h4 h5
theorem sm_augSK (K:PySem.W.Frag)(ho:PM X W o to fo)(hi:PM X W i ti fi)(he:PM X W e te f)(hK:X.K=K:=by rfl)
  (hs:∀ (ov iv new:Value),augStore i ov iv new=(do
           holding [new,ov,iv] (setItem ov iv new)
           release [new,ov,iv] []
           pure Flow.next):=by intro _ _ _;rfl) :
  PSM X W (.AugAssign (o.Subscript i tpos) .Add e pos) (tAugS to ti te (rGetL K) (ipI fun i j=>i+j) rSetL) (gAugS (fun i j=>i+j) fo fi f):=by subst hK;exact sm_augS ho hi he hs
end
section
variable {X:Cx}{cx:CXT}{k:Nat}{f C:Addr}{fd:FuncData}{ps:List Str}{sp:Sp}{E:L2.St→XK}{x m:Str}{p pos apos:Pos}{e o:Expr}{es:List Expr}{ta:TE}{t:TA}
end
def insAt (μ:Mem):DV→Option (Str×List (Str×DV))
 | .dat (.ins nm fs)=>some (nm,fs.map fun p=>(p.1,.dat p.2))
 | .loc n=>match μ[n]? with
  | some (.ins nm fs)=>some (nm,fs)
  | _=>none
 | _=>none
theorem ClsAt.uniq {K:PySem.W.Frag}{nm:Str}{C C':Addr}(a:ClsAt K nm C)(b:ClsAt K nm C'):C=C':=by
 unfold ClsAt at a b;rw[a] at b;cases b;rfl
section
variable {K:PySem.W.Frag}{W:WX}{ρ:Pm}{G H:Hp}{μ:Mem}{σ:Slots}{δ:Env}
def isI (nm m:Str)(x:DV)(μ:Mem):Bool:=match insAt μ x with
 | some (nm',fs)=>decide (nm'=nm)&&(fs.lookup m).isNone
 | none=>false
def eMeth (nm m:Str)(F:List DV→Mem→Res R)(f:EM)(fa:AM):EM:=fun δ μ=>(frzV f δ μ).bind fun x μ1=>if isI nm m x μ1=true then(fa δ μ1).bind fun xs μ2=>F (x::xs) μ2 else .bad
structure MthD (P:Program)(w:World)(K:PySem.W.Frag)(mg:Str→Option Value)(base:Heap)(cx:CXT)(k:Nat)(nm m:Str)(n:Nat)(F:List DV→Mem→Res R):Prop where
 ar:∀ xs μ,F xs μ≠.bad→xs.length=n
 ex:∃ (C f:Addr) (fd:FuncData) (ps:List Str),ps.length=n∧ClsAt K nm C∧FnG P w K mg base cx k f fd ps (spF K n F)∧Cls K C∧Meth K C m f∧Binds K fd ps []
def eFld (nms:List Str)(m:Str)(f:EM):EM:=fun δ μ=>(frzV f δ μ).bind fun x μ1=>match insAt μ1 x with
 | some (nm,fs)=>if nm∈nms then match fs.lookup m with
   | some y=>.ok (ofV y) μ1
   | none=>.bad
  else .bad
 | none=>.bad
theorem Rel.setP {n:Nat}{a:Addr}{o':HO}{p p':Pl}(R:Rel K ρ G H μ)(hn:ρ n=some a)(hm:μ[n]?=some p)(hno:p≠.own)(hp':PlOk K ρ G (upd H a o') n p')(hnl:∀ kvs,p≠.lkd kvs:=by intro _ z;cases z)(hnl2:∀ xs,p≠.lkl xs:=by intro _ z;cases z) :
  Rel K ρ G (upd H a o') (μ.set n p')∧Tr ρ G H G (upd H a o'):=by
 have hlt:n<μ.length:=R.lt n a hn
 have nown:∀ b,H a≠some (.own b):=fun b e=>by
  have z:=R.pl n p hm
  cases p with
  | lst xs=>obtain⟨_,b,vs,h1,h2,_⟩:=z;rw[hn] at h1;cases h1;rw[e] at h2;cases h2
  | dct kvs=>obtain⟨_,b,o,vs,h1,h2,h3,_⟩:=z;rw[hn] at h1;cases h1;rw[e] at h2;cases h2;rcases h3 with⟨_,h,_⟩|⟨_,_,_,h,_⟩ <;> cases h
  | lkd kvs=>exact hnl kvs rfl
  | lkl xs=>exact hnl2 xs rfl
  | tp xs=>obtain⟨_,b,o,vs,h1,h2,_⟩:=z;rw[hn] at h1;cases h1;rw[e] at h2;cases h2
  | er nm' f' xs=>obtain⟨_,b,o,vs,h1,h2,_⟩:=z;rw[hn] at h1;cases h1;unfold EX at h2;rw[e] at h2;cases h2
  | ins nm fs=>obtain⟨_,b,dx,C,vs,m,_,h1,h2,_⟩:=z;rw[hn] at h1;cases h1;rw[e] at h2;cases h2
  | own=>exact hno rfl
  | gone=>rw[show ρ n=none from z] at hn;cases hn
 have nfrz:∀ od u,H a≠some (.frz od u):=fun od u e=>by
  have z:=R.pl n p hm
  cases p with
  | lst xs=>obtain⟨_,b,vs,h1,h2,_⟩:=z;rw[hn] at h1;cases h1;rw[e] at h2;cases h2
  | dct kvs=>obtain⟨_,b,o,vs,h1,h2,h3,_⟩:=z;rw[hn] at h1;cases h1;rw[e] at h2;cases h2;rcases h3 with⟨_,h,_⟩|⟨_,_,_,h,_⟩ <;> cases h
  | lkd kvs=>exact hnl kvs rfl
  | lkl xs=>exact hnl2 xs rfl
  | tp xs=>obtain⟨_,b,o,vs,h1,h2,_⟩:=z;rw[hn] at h1;cases h1;rw[e] at h2;cases h2
  | er nm' f' xs=>obtain⟨_,b,o,vs,h1,h2,_⟩:=z;rw[hn] at h1;cases h1;unfold EX at h2;rw[e] at h2;cases h2
  | ins nm fs=>obtain⟨_,b,dx,C,vs,m,_,h1,h2,_⟩:=z;rw[hn] at h1;cases h1;rw[e] at h2;cases h2
  | own=>exact hno rfl
  | gone=>rw[show ρ n=none from z] at hn;cases hn
 refine⟨⟨fun b o h=>?_,R.inj,R.nG,fun m b h=>by rw[List.length_set];exact R.lt m b h,fun m b h q=>?_,fun m q h=>?_⟩,⟨Ex.refl _,fun b o hb h=>?_,fun b h=>?_,fun b h=>.inl h,fun b od u h=>by rw[upd_ne (show b≠a from fun e=>nfrz od u (by rw[←e];exact h))];exact h⟩⟩
 ·have e:b≠a:=fun e=>by rw[e,R.nG n a hn] at h;cases h
  rw[upd_ne e];exact R.ex b o h
 ·by_cases e:b=a
  ·rw[e,upd_same] at q;cases q
  ·rw[upd_ne e] at q;exact R.hs m b h q
 ·by_cases e:m=n
  ·subst e
   rw[List.getElem?_set_self hlt] at h
   cases h
   exact hp'
  ·rw[List.getElem?_set_ne (fun z=>e z.symm)] at h
   have z:=R.pl m q h
   have ne:∀ b,ρ m=some b→b≠a:=fun b hb z=>e (R.inj m n a (z▸hb) hn)
   cases q with
   | lst xs=>obtain⟨b,c,vs,h1,h2,h3⟩:=z;exact⟨b,c,vs,h1,by rw[upd_ne (ne c h1)];exact h2,h3⟩
   | dct kvs=>obtain⟨b,c,o,vs,h1,h2,h3⟩:=z;exact⟨b,c,o,vs,h1,by rw[upd_ne (ne c h1)];exact h2,h3⟩
   | lkd kvs=>obtain⟨b,c,o,vs,h1,h2,h3⟩:=z;exact⟨b,c,o,vs,h1,by rw[upd_ne (ne c h1)];exact h2,h3⟩
   | lkl xs=>obtain⟨b,c,o,vs,h1,h2,h3⟩:=z;exact⟨b,c,o,vs,h1,by rw[upd_ne (ne c h1)];exact h2,h3⟩
   | tp xs=>obtain⟨b,c,o,vs,h1,h2,h3⟩:=z;exact⟨b,c,o,vs,h1,by rw[upd_ne (ne c h1)];exact h2,h3⟩
   | er nm' f' xs=>obtain⟨b,c,o,vs,h1,h2,h3⟩:=z;exact⟨b,c,o,vs,h1,by rw[upd_ne (ne c h1)];exact h2,h3⟩
   | own=>obtain⟨b,c,h1,h2⟩:=z;exact⟨b,c,h1,by rw[upd_ne (ne b h1)];exact h2⟩
   | ins nm fs =>
    obtain⟨b,c,dx,C,vs,k,hk,h1,h2,cl,h4,h3⟩:=z
    exact⟨b,c,dx,C,vs,k,hk,h1,by rw[upd_ne (ne c h1)];exact h2,cl,by rw[upd_ne (show dx≠a from fun e=>nown c (e▸h4))];exact h4,h3⟩
   | gone=>exact z
 ·have e:b≠a:=fun e=>hb n (e▸hn)
  rw[upd_ne e];exact h
 ·by_cases e:b=a
  ·rw[e,upd_same] at h;cases h
  ·rw[upd_ne e] at h;exact h
def putD (f:Str)(v:DV):List (Str×DV)→List (Str×DV)
 | []=>[(f,v)]
 | (g,x)::r=>if g=f then(g,v)::r else(g,x)::putD f v r
def setFld (nms:List Str)(μ:Mem)(x:DV)(m:Str)(y:DV):Option Mem:=match x with
 | .loc n=>match μ[n]? with
  | some (.ins nm fs)=>if nm∈nms∧fs.length<1000∧belowB n y=true then some (μ.set n (.ins nm (putD m y fs))) else none
  | _=>none
 | .dat _=>none
def gFld (nms:List Str)(m:Str)(fo fe:EM):SM:=fun _ δ μ=>lift ((frzV fe δ μ).bind fun y μ1=>(frzV fo δ μ1).bind fun x μ2=>match setFld nms μ2 x m y with
 | some μ3=>.ok () μ3
 | none=>.bad) δ fun _ μ3=>.next δ μ3
def mkEnd (N:Nat)(μ2:Mem):Res R:=match μ2[N+1]? with
 | some (.ins nm fs)=>match allDat (fs.map (·.2)) with
  | some ds=>.ok (.dat (.ins nm ((fs.map (·.1)).zip ds))) (μ2.take N)
  | none=>.bad
 | _=>.bad
def mkRun (F:List DV→Mem→Res R)(nm:Str)(xs:List DV)(μ1:Mem):Res R:=match F (.loc (μ1.length+1)::xs) (μ1++[.own]++[.ins nm []]) with
 | .ok (.dat .non) μ2=>mkEnd μ1.length μ2
 | .exc x μ2=>.exc x (μ2.take μ1.length)
 | _=>.bad
def eMake (nm:Str)(F:List DV→Mem→Res R)(fa:AM):EM:=fun δ μ=>(fa δ μ).bind fun xs μ1=>mkRun F nm xs μ1
structure MakD (P:Program)(w:World)(K:PySem.W.Frag)(mg:Str→Option Value)(base:Heap)(cx:CXT)(k:Nat)(nm:Str)(n:Nat)(F:List DV→Mem→Res R):Prop where
 ar:∀ xs μ,F xs μ≠.bad→xs.length=n
 ex:∃ (C f:Addr) (fd:FuncData) (ps:List Str),ps.length=n∧ClsAt K nm C∧mg nm=some (.ref C)∧FnG P w K mg base cx k f fd ps (spF K n F)∧Mk K C f∧Binds K fd ps []
end
section
variable {X:Cx}{W:WX}{P:Program}{w:World}{K:PySem.W.Frag}{mg:Str→Option Value}{base:Heap}{cx:CXT}{k n:Nat}{nm m x:Str}{F:List DV→Mem→Res R}{e o:Expr}{es:List Expr}{tA:TA}{fA:AM}{to te:TE}{fo fe:EM}{p pos apos:Pos}
end
inductive Kd where
 | b (t:String)|c (nm:Str)|x (nm:Str)
def kindOf (μ:Mem):DV→Option Kd
 | .dat .non=>some (.b "NoneType")
 | .dat (.bl _)=>some (.b "bool")
 | .dat (.int _)=>some (.b "int")
 | .dat (.str _)=>some (.b "str")
 | .dat (.tup _)=>some (.b "tuple")
 | .dat (.lst _)=>some (.b "list")
 | .dat (.fro _)=>some (.b "list")
 | .dat (.dct _)=>some (.b "dict")
 | .dat (.ins nm _)=>some (.c nm)
 | .dat (.ty _)=>none
 | .dat (.ref _)=>none
 | .dat (.err _ _ _ _ _)=>none
 | .dat (.eo nm)=>some (.x nm)
 | .loc n=>match μ[n]? with
  | some (.lst _)=>some (.b "list")
  | some (.dct _)=>some (.b "dict")
  | some (.lkd _)=>some (.b "dict")
  | some (.ins nm _)=>some (.c nm)
  | some (.er nm _ _)=>some (.x nm)
  | _=>none
structure ClsTy (K:PySem.W.Frag)(nm:Str):Prop where
 ex:∃ C,ClsAt K nm C∧Cls K C∧PySem.W.findIn K (.ref C) "__class__"=some (some (.builtin "object.__class__"))∧PySem.W.mroIn K C (.type "object")=some true
structure EoC (K:PySem.W.Frag)(C:Addr):Prop where
 hcl:(PySem.W.clsIn K C).isSome=true
 ga:PySem.W.findIn K (.ref C) "__getattribute__"=some (some (.builtin "BaseException.__getattribute__"))
 gg:PySem.W.findIn K (.ref C) "__getattr__"=some none
 sb:PySem.W.subIn K (.ref C) (.type "BaseException")=some true
 cc:PySem.W.findIn K (.ref C) "__class__"=some (some (.builtin "object.__class__"))
 mo:PySem.W.mroIn K C (.type "object")=some true
def EoTy (K:PySem.W.Frag)(nm:Str):Prop:=∃ C,ClsAt K nm C∧EoC K C
theorem get_class (K:PySem.W.Frag):PySem.W.specialIn K (.builtin "object.__class__") "__get__"=some (some (.builtin "getset_descriptor.__get__"))∧PySem.W.takesIn K (.builtin "object.__class__")=some true:=by
 constructor <;> kernel_rfl
def KdIs (K:PySem.W.Frag):Kd→Value→Prop
 | .b s,t=>t=.type s
 | .c nm,t=>∃ C,ClsAt K nm C∧t=.ref C
 | .x nm,t=>∃ C,ClsAt K nm C∧t=.ref C
section
variable {K:PySem.W.Frag}{W:WX}{ρ:Pm}{G H:Hp}{μ:Mem}{σ:Slots}{δ:Env}
theorem ty_tup {a:Addr} {xs:List V} (h:SqT K H a xs):TyX K H (.ref a) (.type "tuple"):=by
 rcases h with (h|⟨o,h⟩)|⟨o,its,n,h1,h2,_⟩
 ·exact .base (.tup h)
 ·exact .fTuple h
 ·exact .kTuple h1 h2
theorem ty_lst {a:Addr} {xs:List V} (h:SqL K H a xs):TyX K H (.ref a) (.type "list"):=by
 rcases h with (h|⟨o,h⟩)|⟨o,its,n,h1,h2,_⟩
 ·exact .base (.lst h)
 ·exact .base (.frz h)
 ·exact .kList h1 h2
def ErD (H:Hp)(a:Addr)(od:Option Addr):Prop:=od=none∨∃ d,od=some d∧(H d=some (.own a)∨∃ vs,H d=some (.xd vs))
theorem ErD.mono {H H':Hp}{a:Addr}{od:Option Addr}(h:ErD H a od)(e:Ex H H'):ErD H' a od:=h.imp id fun⟨d,k,h⟩=>⟨d,k,h.elim (fun q=>.inl (e _ _ q)) fun⟨vs,q⟩=>.inr ⟨vs,e _ _ q⟩⟩
def TyZ (K:PySem.W.Frag)(H:Hp)(v:V)(t:Value):Prop:=TyX K H v t∨(∃ a es,v=.ref a∧Rd H a (TX a es)∧t=.type "dict")∨∃ (a C:Addr) (d:Option Addr),v=.ref a∧H a=some (EX a C d)∧ErD H a d∧t=.ref C∧EoC K C
theorem kind_ok {v:V}{x:DV}{kd:Kd}(R:Rel K ρ G H μ)(h:DvOk K ρ G v x)(cs:∀ nm,kd=.c nm→ClsTy K nm)(xs':∀ nm,kd=.x nm→EoTy K nm)(e:kindOf μ x=some kd):∃ t,KdIs K kd t∧TyZ K H v t:=by
 have ins:∀ {a dx C nm fs},H a=some (.ins C dx fs)→ClsAt K nm C→ClsTy K nm→TyZ K H (.ref a) (.ref C):=fun {a dx C nm fs} h1 h2 ⟨C',c1,c2,c3,c4⟩=>by
  cases h2.uniq c1
  exact .inl (.base (.ins h1 c2 c3 (get_class K).1 (get_class K).2 c4))
 cases x with
 | dat d =>
  cases d with
  | non=>cases e;cases h;exact⟨_,rfl,.inl (.base .non)⟩
  | bl b=>cases e;cases h;exact⟨_,rfl,.inl (.base (.bl b))⟩
  | int i=>cases e;cases h;exact⟨_,rfl,.inl (.base (.int i))⟩
  | str s=>cases e;cases h;exact⟨_,rfl,.inl (.base (.str s))⟩
  | tup ds=>cases e;cases h with|tup h1 h2=>exact⟨_,rfl,.inl (ty_tup (ex_t R.ex h1))⟩
  | lst ds=>cases e;cases h with|lst h1 h2=>exact⟨_,rfl,.inl (.base (.lst (R.ex _ _ h1)))⟩
  | fro ds=>cases e;cases h with|fro h1 h2=>exact⟨_,rfl,.inl (ty_lst (ex_l R.ex h1))⟩
  | dct ds =>
   cases e
   cases h with
   | dct h1 h2 h3 =>
    rcases h2 with⟨kvs,rfl,_⟩|⟨es,xs,_,rfl,_⟩
    ·exact⟨_,rfl,.inl (.fDict (R.ex _ _ h1))⟩
    ·exact⟨_,rfl,.inr (.inl ⟨_,es,rfl,.inr ⟨_,R.ex _ _ h1⟩,rfl⟩)⟩
  | ins nm ds=>cases e;cases h with|ins c h1 h2 h3 h4=>exact⟨_,⟨_,c,rfl⟩,ins (R.ex _ _ h1) c (cs nm rfl)⟩
  | ty n=>cases e
  | ref a=>cases e
  | err _ _ _ _ _=>cases e
  | eo nm =>
   cases e
   cases h with
   | eo c h1 h2 =>
    obtain⟨C',c2,f⟩:=xs' nm rfl
    cases c.uniq c2
    exact⟨_,⟨_,c,rfl⟩,.inr (.inr ⟨_,_,some _,rfl,R.ex _ _ h1,.inr ⟨_,rfl,.inl (R.ex _ _ h2)⟩,rfl,f⟩)⟩
 | loc n =>
  obtain⟨a,rfl,q⟩:=h
  unfold kindOf at e
  match em:μ[n]? with
  | none=>simp only[em] at e;cases e
  | some .own=>simp only[em] at e;cases e
  | some .gone=>simp only[em] at e;cases e
  | some (.lkl _)=>simp only[em] at e;cases e
  | some (.tp _)=>simp only[em] at e;cases e
  | some (.lkd kvs) =>
   simp only[em] at e;cases e
   obtain⟨_,b,o,vs,h1,h2,⟨od,u,rfl,h3⟩,_⟩:=R.pl n _ em
   rw[q] at h1;cases h1
   rcases h3 with⟨kvs,rfl,_⟩|⟨es,xs,_,rfl,_⟩
   ·exact⟨_,rfl,.inl (.fDict h2)⟩
   ·exact⟨_,rfl,.inr (.inl ⟨_,es,rfl,.inr ⟨_,h2⟩,rfl⟩)⟩
  | some (.lst xs) =>
   simp only[em] at e;cases e
   obtain⟨_,b,vs,h1,h2,_⟩:=R.pl n _ em
   rw[q] at h1;cases h1
   exact⟨_,rfl,.inl (.base (.lst h2))⟩
  | some (.dct kvs) =>
   simp only[em] at e;cases e
   obtain⟨_,b,o,vs,h1,h2,h3,_⟩:=R.pl n _ em
   rw[q] at h1;cases h1
   rcases h3 with⟨kvs,rfl,_⟩|⟨es,xs,_,rfl,_⟩
   ·exact⟨_,rfl,.inl (.base (.dK h2))⟩
   ·exact⟨_,rfl,.inr (.inl ⟨_,es,rfl,.inl h2,rfl⟩)⟩
  | some (.er nm f xs) =>
   simp only[em] at e;cases e
   obtain⟨_,b,d,vs,h1,h2,⟨c,h4⟩,_⟩:=R.pl n _ em
   rw[q] at h1;cases h1
   obtain⟨C',c2,g⟩:=xs' nm rfl
   cases c.uniq c2
   exact⟨_,⟨_,c,rfl⟩,.inr (.inr ⟨_,_,d.2,rfl,h2,h4.imp (fun z=>z.1) fun⟨q,z1,z2⟩=>⟨q,z1,.inr ⟨_,R.ex _ _ z2⟩⟩,rfl,g⟩)⟩
  | some (.ins nm fs) =>
   simp only[em] at e;cases e
   obtain⟨_,b,dx,C,vs,k,hk,h1,h2,c,_⟩:=R.pl n _ em
   rw[q] at h1;cases h1
   exact⟨_,⟨_,c,rfl⟩,ins h2 c (cs nm rfl)⟩
end
section
variable {X:Cx}{pins:List (Addr×Obj)}{σ:L2.St}{H:Hp}{s:Shared}
theorem kit_ofZ {x:V} {u t:Value} (I:Inv X pins σ H s) (rx:RelV x u) (ty:TyZ X.K H x t):∃ P:Heap→Prop,PySem.W.KitX X.K u t P∧P s.heap∧u≠.builtin "__main__.__loader__#opaque":=by
 rcases ty with ty|⟨a,es,rfl,ea,rfl⟩|⟨a,C,d,rfl,ea,ed,rfl,f⟩
 ·exact kit_of I rx ty
 ·cases (show u=Value.ref a from rx)
  obtain⟨⟨o,ep,h1,h2,_⟩,_⟩:=(show ObjOk X.prog X.w H s.heap a (TX a es) from ea.ok I.hok)
  exact⟨_,PySem.W.kitx_dict,⟨o,h1,h2.1⟩,fun z=>nomatch z⟩
 ·cases (show u=Value.ref a from rx)
  obtain⟨⟨ox,h1,h2,h3,vs,h4⟩,_⟩:=(show ObjOk X.prog X.w H s.heap a (EX a C d) from I.hok a _ ea)
  rcases ed with rfl|⟨d,rfl,ed⟩
  ·exact⟨_,PySem.W.kitx_exc (x:=a) (ox:=ox) (od:=none) f.hcl f.ga f.gg f.sb f.cc (get_class X.K).1 (get_class X.K).2 f.mo,⟨h1,h2,by unfold PySem.W.notCls;rw[h4],by rw[h3];trivial⟩,fun z=>nomatch z⟩
  obtain⟨o,hd⟩:∃ o,s.heap.get? d=some o:=by
   rcases ed with ed|⟨vs,ed⟩
   ·exact(show ObjOk X.prog X.w H s.heap d (.own a) from I.hok d _ ed)
   ·obtain⟨mA,⟨o,_,_,q,_⟩,_⟩:=(show ObjOk X.prog X.w H s.heap d (.xd vs) from I.hok d _ ed)
    exact⟨o,q⟩
  exact⟨_,PySem.W.kitx_exc (x:=a) (ox:=ox) (od:=some o) f.hcl f.ga f.gg f.sb f.cc (get_class X.K).1 (get_class X.K).2 f.mo,⟨h1,h2,by unfold PySem.W.notCls;rw[h4],by rw[h3];exact hd⟩,fun z=>nomatch z⟩
def rIsiZ (K:PySem.W.Frag):List V→Hp→VK→Prop:=fun xs H Q=>∃ (x c:V) (t u:Value) (b:Bool),xs=[x,c]∧ClsV c u∧TyZ K H x t∧PySem.W.kitOne K t u=some b∧Q (.bl b) H
theorem call_isiZ:CallR X (.builtin "isinstance") (rIsiZ X.K):=by
 intro pins s σ H xs us Q I r h
 obtain⟨x,c,t,u,b,rfl,k,ty,e,q⟩:=h
 obtain⟨u1,u2,rfl,r1,r2⟩:=vals2 r
 have e2:=k.eq r2
 subst e2
 obtain⟨P,Z,p,hx⟩:=kit_ofZ I r1 ty
 exact PySem.W.kia_one Z I.kIn p e hx fun tk=>⟨.bl b,H,I.tok tk,rfl,q⟩
end
section
variable {K:PySem.W.Frag}{W:WX}{ρ:Pm}{G H:Hp}{μ:Mem}{σ:Slots}{δ:Env}
def dIsi (tab:Kd→Option Bool)(x:DV)(μ:Mem):Res R:=match kindOf μ x with
 | some kd=>match tab kd with
  | some b=>.ok (.dat (.bl b)) μ
  | none=>.bad
 | none=>.bad
structure TabOk (K:PySem.W.Frag)(tab:Kd→Option Bool)(ans:Value→Bool→Prop):Prop where
 ok:∀ kd b t,tab kd=some b→KdIs K kd t→ans t b
 cl:∀ nm b,tab (.c nm)=some b→ClsTy K nm
 xl:∀ nm b,tab (.x nm)=some b→EoTy K nm:=by exact fun _ _ e=>nomatch e
theorem isi_ok {tab:Kd→Option Bool}{ans:Value→Bool→Prop}{x:DV}{v:V}{Q:VK}{G0 H0:Hp}(T:TabOk K tab ans)(R:Rel K ρ G H μ)(t0:Tr ρ G0 H0 G H)(d:DvOk K ρ G v x)(hp:PostG K W ρ G0 H0 σ (fun G' H'=>rpE K ρ G' H0 H') Q (dIsi tab x μ)) :
  ∃ t b,TyZ K H v t∧ans t b∧Q (.bl b) H:=by
 unfold dIsi at hp
 cases ek:kindOf μ x with
 | none=>rw[ek] at hp;exact hp.elim
 | some kd =>
  rw[ek] at hp
  simp only at hp
  cases et:tab kd with
  | none=>rw[et] at hp;exact hp.elim
  | some b =>
   rw[et] at hp
   obtain⟨t,k1,k2⟩:=kind_ok R d (fun nm e=>T.cl nm b (e▸et)) (fun nm e=>T.xl nm b (e▸et)) ek
   exact⟨t,b,k2,T.ok kd b t et k1,hp G H (.bl b) t0 R (Rp.bl b)⟩
theorem snd_isi {tab:Kd→Option Bool}{te:TE}{f:EM}{c:V}{u:Value}(k:ClsV c u)(T:TabOk K tab fun t b=>PySem.W.kitOne K t u=some b)(h:SndE K W te f):SndE K W (tCB (rIsiZ K) (tCons te (tCons (tC c) tNil))) (eUn (dIsi tab) f):=fun ρ G H σ δ μ Q R E hp=>by
 refine SndG.seq (t:=te) h.toV R E hp fun x μ1 G1 H1 v t1 R1 E1 d1 hp1=>?_
 obtain⟨t,b,h1,h2,h3⟩:=isi_ok T R1 t1 d1 hp1
 exact⟨v,c,t,u,b,rfl,k,h1,h2,h3⟩
theorem TyZ.ext {H':Hp}{v:V}{t:Value}(e:Ex H H')(h:TyZ K H v t):TyZ K H' v t:=by
 rcases h with h|⟨a,es,rfl,h,rfl⟩|⟨a,C,d,rfl,h,hd,rfl,f⟩
 ·refine .inl ?_
  cases h with
  | base b =>
   refine .base ?_
   cases b with
   | non=>exact .non
   | bl x=>exact .bl x
   | int x=>exact .int x
   | str x=>exact .str x
   | flt x=>exact .flt x
   | lst h=>exact .lst (e _ _ h)
   | frz h=>exact .frz (e _ _ h)
   | tup h=>exact .tup (e _ _ h)
   | dK h=>exact .dK (e _ _ h)
   | dT h=>exact .dT (e _ _ h)
   | ins h a b c d f=>exact .ins (e _ _ h) a b c d f
  | byt b=>exact .byt b
  | set h=>exact .set (e _ _ h)
  | kList h c=>exact .kList h c
  | kTuple h c=>exact .kTuple h c
  | kDict h c=>exact .kDict h c
  | fTuple h=>exact .fTuple (e _ _ h)
  | fDict h=>exact .fDict (e _ _ h)
 ·refine .inr (.inl ⟨a,es,rfl,?_,rfl⟩)
  rcases h with h|⟨o,h⟩
  ·exact .inl (e _ _ h)
  ·exact .inr ⟨o,e _ _ h⟩
 ·exact .inr (.inr ⟨a,C,d,rfl,e _ _ h,hd.mono e,rfl,f⟩)
end
section
variable {X:Cx}{W:WX}{e c1 c2:Expr}{te:TE}{f:EM}{p pos p1 p2:Pos}
theorem pm_isi (K:PySem.W.Frag) {tab:Kd→Option Bool} {c:V} {u:Value} (hg:Gl X "isinstance") (hm:X.mg "isinstance"=none) (k:ClsV c u) (T:TabOk K tab fun t b=>PySem.W.kitOne K t u=some b) (h:PM X W e te f) (hc:PE X c1 (tC c)) (hK:X.K=K:=by rfl)
  (hs:starEach (e::[c1]) X.env=(false,eval e X.env)::starEach [c1] X.env:=by rfl) (hs1:starEach [c1] X.env=(false,eval c1 X.env)::starEach [] X.env:=by rfl) (hpl:(backTo pos (starEach [c1] X.env)).any (·.1)=false:=by rfl) :
  PM X W (.Call (.Name "isinstance" p) [e,c1] [] pos) (tCB (rIsiZ K) (tCons te (tCons (tC c) tNil))) (eUn (dIsi tab) f):=by
 subst hK
 exact⟨pe_callB call_isiZ hg hm (by decide +kernel) (pa_cons h.pe (pa_cons hc pa_nil hs1) hs) (he:=hs) (hpl:=hpl),snd_isi k T h.sd⟩
theorem pe_tyN {T:String} {x:Str} (hg:Gl X x) (hm:X.mg x=none) (hv:bootBuiltins x=some (.type T)) (hn:x≠"__name__":=by decide) (hdb:(x==("__debug__":Str))=false:=by decide):PE X (.Name x pos) (tC (.ty T)):=pe_bltn (v:=.ty T) hg hm hv rfl hn hdb
def tabT (T:String)(cls:List Str):Kd→Option Bool
 | .b t=>kitB t T
 | .c nm=>if nm∈cls then some false else none
 | .x _=>none
def tabT2 (T U:String)(cls:List Str):Kd→Option Bool
 | .b t=>match kitB t T with
  | some true=>some true
  | some false=>kitB t U
  | none=>none
 | .c nm=>if nm∈cls then some false else none
 | .x _=>none
def tabC (nm0:Str)(others:List Str):Kd→Option Bool
 | .b t=>if t∈["NoneType","bool","int","str","tuple","list","dict"] then some false else none
 | .c nm=>if nm=nm0 then some true else if nm∈others then some false else none
 | .x _=>none
def NoSub (K:PySem.W.Frag)(nm:Str)(T:String):Prop:=∃ C,ClsAt K nm C∧PySem.W.kitOne K (.ref C) (.type T)=some false
theorem tabT_ok {K:PySem.W.Frag}{T:String}{cls:List Str}(h:∀ nm∈cls,ClsTy K nm∧NoSub K nm T):TabOk K (tabT T cls) fun t b=>PySem.W.kitOne K t (.type T)=some b where
 ok:=fun kd b t e k=>by
  cases kd with
  | x nm=>simp[tabT] at e
  | b s=>cases k;exact kit_ty e
  | c nm =>
   obtain⟨C,c1,rfl⟩:=k
   simp only[tabT] at e
   by_cases hn:nm∈cls
   ·rw[if_pos hn] at e;cases e
    obtain⟨C',c2,h2⟩:=(h nm hn).2
    cases c1.uniq c2;exact h2
   ·rw[if_neg hn] at e;cases e
 cl:=fun nm b e=>by
  simp only[tabT] at e
  by_cases hn:nm∈cls
  ·exact(h nm hn).1
  ·rw[if_neg hn] at e;cases e
end
section
variable {X:Cx}{cx:CXT}{k:Nat}{f C:Addr}{fd:FuncData}{ps:List Str}{sp:Sp}{E:XK}{pins:List (Addr×Obj)}{σ:L2.St}{H:Hp}{s:Shared}{Q:VK}{us:List Value}{vs:List V}
end
section
variable {K:PySem.W.Frag}{W:WX}{F:List DV→Mem→Res R}{n:Nat}{nm:Str}{C:Addr}
def eLenO (nm:Str)(F:List DV→Mem→Res R)(f:EM):EM:=fun δ μ=>(frzV f δ μ).bind fun x μ1=>if isI nm "" x μ1=true then match F [x] μ1 with
  | .ok (.dat (.int n)) μ2=>if 0≤n∧n<2^63 then .ok (.dat (.int n)) μ2 else .bad
  | _=>.bad
 else .bad
def boolR:Res R→Res R
 | .ok (.dat (.bl b)) μ=>.ok (.dat (.bl b)) μ
 | _=>.bad
def eEqO (nm:Str)(others:List Str)(F:List DV→Mem→Res R)(fa fb:EM):EM:=fun δ μ=>(frzV fa δ μ).bind fun x μ1=>(frzV fb δ μ1).bind fun y μ2=>if isI nm "" x μ2=true∧((kindOf μ2 y).bind (tabC nm others)).isSome=true then boolR (F [x,y] μ2) else .bad
def negR (neg:Bool):Res R→Res R
 | .ok (.dat (.bl b)) μ=>.ok (.dat (.bl (b != neg))) μ
 | _=>.bad
def eInO (nm:Str)(neg:Bool)(F:List DV→Mem→Res R)(fa fb:EM):EM:=fun δ μ=>(frzV fa δ μ).bind fun y μ1=>(frzV fb δ μ1).bind fun x μ2=>if isI nm "" x μ2=true then negR neg (F [x,y] μ2) else .bad
end
section
variable {X:Cx}{W:WX}{P:Program}{w:World}{K:PySem.W.Frag}{mg:Str→Option Value}{base:Heap}{k n:Nat}{nm:Str}{F:List DV→Mem→Res R}{a b e:Expr}{ta tb te:TE}{fa fb f:EM}{p pos:Pos}
end
section
variable {K:PySem.W.Frag}{W:WX}{ρ:Pm}{G H:Hp}{μ:Mem}{σ:Slots}{δ:Env}
def d2 (g:DV→DV→Mem→Res R)(xs:List DV)(μ:Mem):Res R:=match xs with
 | [x,y]=>g x y μ
 | _=>.bad
def dMM (f:Int→Int→Int)(x y:DV)(μ:Mem):Res R:=match asI x with
 | none=>.bad
 | some i=>match asI y with
  | none=>.bad
  | some j=>.ok (.dat (.int (f i j))) μ
end
section
variable {X:Cx}{W:WX}{a b:Expr}{ta tb:TE}{fa fb:EM}{pos:Pos}
end
section
variable {X:Cx}{W:WX}{P:Program}{w:World}{K:PySem.W.Frag}{mg:Str→Option Value}{base:Heap}{k n:Nat}{nm:Str}{F:List DV→Mem→Res R}{a b e:Expr}{ta tb te:TE}{fa fb f:EM}{p pos:Pos}
end
section
variable {P:Program}{w:World}{K:PySem.W.Frag}{mg:Str→Option Value}{base:Heap}
end
section
variable {K:PySem.W.Frag}{W:WX}{ρ:Pm}{G H:Hp}{μ:Mem}{σ:Slots}{δ:Env}{N n:Nat}{a:Addr}
end
def dval {α:Type}(kvs:List (Ky×α))(k:Ky):Option α:=(kvs.find? fun p=>decide (p.1=k)).map (·.2)
def dput {α:Type}(kvs:List (Ky×α))(k:Ky)(v:α):List (Ky×α) :=
 if(kvs.any fun p=>decide (p.1=k))=true then kvs.map (fun p=>if p.1=k then(p.1,v) else p) else kvs++[(k,v)]
def Ky.isK:Ky→Bool
 | .k _=>true
 | .t _=>false
def allK {α:Type}(kvs:List (Ky×α)):Bool:=kvs.all fun p=>p.1.isK
def keyD:DV→Option Key
 | .dat (.int i)=>some (.inl i)
 | .dat (.str s)=>some (.inr s)
 | _=>none
def datP (ds:List (Ky×D)):List (Ky×DV):=ds.map fun p=>(p.1,.dat p.2)
def dctOf (x:DV)(μ:Mem):Option (List (Ky×DV)):=match x with
 | .dat (.dct ds)=>some (datP ds)
 | .dat _=>none
 | .loc n=>match μ[n]? with
  | some (.dct kvs)=>some kvs
  | some (.lkd kvs)=>some kvs
  | _=>none
section
variable {K:PySem.W.Frag}{W:WX}{ρ:Pm}{G H G0 H0:Hp}{μ:Mem}{σ:Slots}{δ:Env}
theorem RpL.paired:∀ {vs:List V} {ds:List D},RpL K G vs ds→DvL K ρ G vs (ds.map DV.dat)
 | _,_,.nil=>.nil
 | _,_,.cons a b=>.cons a (RpL.paired b)
theorem Rel.swap {p:Addr}{o o':HO}(r:Rel K ρ G H μ)(t:Tr ρ G0 H0 G H)(h:H p=some o)(hg:G p=none)(hn:∀ n,ρ n≠some p)(h0:H0 p=none):Rel K ρ G (upd H p o') μ∧Tr ρ G0 H0 G (upd H p o'):=by
 have neG:∀ a u,G a=some u→a≠p:=fun a u e z=>by rw[z,hg] at e;cases e
 have neP:∀ n a,ρ n=some a→a≠p:=fun n a e z=>hn n (z▸e)
 refine⟨⟨fun a u e=>?_,r.inj,r.nG,r.lt,fun n a e q=>?_,fun n q e=>?_⟩,⟨t.exG,fun a u k e=>?_,fun a e=>?_,t.nG,fun a od u e=>by rw[upd_ne (fun z=>by rw[z,h0] at e;cases e)];exact t.fz a od u e⟩⟩
 ·rw[upd_ne (neG a u e)];exact r.ex a u e
 ·rw[upd_ne (neP n a e)] at q;exact r.hs n a e q
 ·have z:=r.pl n q e
  cases q with
  | lst xs=>obtain⟨b,a,vs,h1,h2,h3⟩:=z;exact⟨b,a,vs,h1,by rw[upd_ne (neP _ _ h1)];exact h2,h3⟩
  | dct kvs=>obtain⟨b,a,o,vs,h1,h2,h3⟩:=z;exact⟨b,a,o,vs,h1,by rw[upd_ne (neP _ _ h1)];exact h2,h3⟩
  | lkd kvs=>obtain⟨b,a,o,vs,h1,h2,h3⟩:=z;exact⟨b,a,o,vs,h1,by rw[upd_ne (neP _ _ h1)];exact h2,h3⟩
  | lkl xs=>obtain⟨b,a,o,vs,h1,h2,h3⟩:=z;exact⟨b,a,o,vs,h1,by rw[upd_ne (neP _ _ h1)];exact h2,h3⟩
  | tp xs=>obtain⟨b,a,o,vs,h1,h2,h3⟩:=z;exact⟨b,a,o,vs,h1,by rw[upd_ne (neP _ _ h1)];exact h2,h3⟩
  | er nm' f' xs=>obtain⟨b,a,o,vs,h1,h2,h3⟩:=z;exact⟨b,a,o,vs,h1,by rw[upd_ne (neP _ _ h1)];exact h2,h3⟩
  | own=>obtain⟨a,b,h1,h2⟩:=z;exact⟨a,b,h1,by rw[upd_ne (neP _ _ h1)];exact h2⟩
  | ins nm fs=>obtain⟨b,a,dx,C,vs,m,hm,h1,h2,c,h4,h3⟩:=z;exact⟨b,a,dx,C,vs,m,hm,h1,by rw[upd_ne (neP _ _ h1)];exact h2,c,by rw[upd_ne (neP _ _ hm.2)];exact h4,h3⟩
  | gone=>exact z
 ·have q:=t.keep a u k e
  rw[upd_ne (fun z=>by rw[z,h0] at e;cases e)];exact q
 ·by_cases z:a=p
  ·rw[z,upd_same] at e;cases e
  ·rw[upd_ne z] at e;exact t.th a e
theorem datP_1 (ds:List (Ky×D)):(datP ds).map (·.1)=ds.map (·.1):=by unfold datP;rw[List.map_map];rfl
theorem datP_2 (ds:List (Ky×D)):(datP ds).map (·.2)=(ds.map (·.2)).map DV.dat:=by unfold datP;rw[List.map_map,List.map_map];rfl
theorem keyD_ok {v:V}{x:DV}{k:Key}(h:DvOk K ρ G v x)(e:keyD x=some k):v=kV k:=by
 cases x with
 | loc n=>cases e
 | dat d=>cases d with
  | int i=>cases e;cases h;rfl
  | str s=>cases e;cases h;rfl
  | _=>cases e
theorem dctOf_ok {v:V}{x:DV}{kvs:List (Ky×DV)}(R:Rel K ρ G H μ)(h:DvOk K ρ G v x)(e:dctOf x μ=some kvs) :
  ∃ a o vs,v=.ref a∧Rd H a o∧DctIs K G a o (kvs.map (·.1)) vs∧DvL K ρ G vs (kvs.map (·.2)):=by
 cases x with
 | dat d=>cases d with
  | dct ds =>
   cases e
   cases h with
   | dct h1 h2 h3=>exact⟨_,_,_,rfl,.inr ⟨_,R.ex _ _ h1⟩,by rw[datP_1];exact h2,by rw[datP_2];exact h3.paired⟩
  | _=>cases e
 | loc n =>
  obtain⟨a,rfl,q⟩:=h
  simp only[dctOf] at e
  match em:μ[n]? with
  | none=>simp only[em] at e;cases e
  | some (.lst _)=>simp only[em] at e;cases e
  | some .own=>simp only[em] at e;cases e
  | some (.er _ _ _)=>simp only[em] at e;cases e
  | some .gone=>simp only[em] at e;cases e
  | some (.lkl _)=>simp only[em] at e;cases e
  | some (.tp _)=>simp only[em] at e;cases e
  | some (.ins _ _)=>simp only[em] at e;cases e
  | some (.dct ks) =>
   simp only[em] at e;cases e
   obtain⟨_,b,o,vs,h1,h2,h3,h4⟩:=R.pl n _ em
   rw[q] at h1;cases h1
   exact⟨_,_,_,rfl,.inl h2,h3,h4⟩
  | some (.lkd ks) =>
   simp only[em] at e;cases e
   obtain⟨_,b,o,vs,h1,h2,⟨od,u,rfl,h3⟩,h4⟩:=R.pl n _ em
   rw[q] at h1;cases h1
   exact⟨_,_,_,rfl,.inr ⟨_,h2⟩,h3,h4⟩
abbrev PrL (K:PySem.W.Frag)(ρ:Pm)(G:Hp):List (Key×V)→List (Ky×DV)→Prop:=Paired fun p q=>q.1=Ky.k p.1∧DvOk K ρ G p.2 q.2
theorem prl_of:∀ {ls:List (Key×V)} {kvs:List (Ky×DV)},kvs.map (·.1)=ls.map (fun p=>Ky.k p.1)→DvL K ρ G (ls.map (·.2)) (kvs.map (·.2))→PrL K ρ G ls kvs
 | [],[],_,_=>.nil
 | [],_::_,h,_=>by cases h
 | _::_,[],h,_=>by cases h
 | p::ls,q::kvs,h,d=>by
  simp only[List.map_cons,List.cons.injEq] at h
  cases d with
  | cons a b=>exact .cons ⟨h.1,a⟩ (prl_of h.2 b)
theorem prl_to:∀ {ls:List (Key×V)} {kvs:List (Ky×DV)},PrL K ρ G ls kvs→kvs.map (·.1)=ls.map (fun p=>Ky.k p.1)∧DvL K ρ G (ls.map (·.2)) (kvs.map (·.2))
 | _,_,.nil=>⟨rfl,.nil⟩
 | _,_,.cons a b=>by
  obtain⟨h1,h2⟩:=prl_to b
  exact⟨by simp only[List.map_cons];rw[h1,a.1],.cons a.2 h2⟩
theorem dK_of {a:Addr}{o:HO}{kvs:List (Ky×DV)}{vs:List V}(h:DctIs K G a o (kvs.map (·.1)) vs)(d:DvL K ρ G vs (kvs.map (·.2)))(hk:allK kvs=true):∃ ls,o=.dK ls∧PrL K ρ G ls kvs:=by
 rcases h with⟨ls,rfl,h2,rfl⟩|⟨es,ls,hne,rfl,_,_,_,_,h2,_⟩
 ·exact⟨ls,rfl,prl_of h2 d⟩
 ·cases ls with
  | nil=>exact(hne rfl).elim
  | cons p ls =>
   cases kvs with
   | nil=>cases h2
   | cons q kvs =>
    simp only[List.map_cons,List.cons.injEq] at h2
    simp only[allK,List.all_cons,Bool.and_eq_true] at hk
    rw[h2.1] at hk
    cases hk.1
theorem prl_dK {a:Addr}{ls:List (Key×V)}{kvs:List (Ky×DV)}(h:PrL K ρ G ls kvs):DctIs K G a (.dK ls) (kvs.map (·.1)) (ls.map (·.2))∧DvL K ρ G (ls.map (·.2)) (kvs.map (·.2)) :=
 ⟨.inl ⟨ls,rfl,(prl_to h).1,rfl⟩,(prl_to h).2⟩
theorem prl_val {k:Key}:∀ {ls:List (Key×V)} {kvs:List (Ky×DV)},PrL K ρ G ls kvs→(valV ls k=none∧dval kvs (.k k)=none)∨∃ v x,valV ls k=some v∧dval kvs (.k k)=some x∧DvOk K ρ G v x
 | _,_,.nil=>.inl ⟨rfl,rfl⟩
 | p::ls,q::kvs,.cons a b=>by
  by_cases e:p.1=k
  ·refine .inr ⟨p.2,q.2,valV_pos e,?_,a.2⟩
   unfold dval
   rw[List.find?_cons_of_pos (by rw[a.1,e];simp)]
   rfl
  ·rw[valV_neg e]
   have:dval (q::kvs) (.k k)=dval kvs (.k k):=by
    unfold dval
    rw[List.find?_cons_of_neg (by rw[a.1];simpa using e)]
   rw[this]
   exact prl_val b
theorem prl_any {k:Key}:∀ {ls:List (Key×V)} {kvs:List (Ky×DV)},PrL K ρ G ls kvs→(ls.any fun p=>decide (p.1=k))=kvs.any fun p=>decide (p.1=Ky.k k)
 | _,_,.nil=>rfl
 | p::ls,q::kvs,.cons a b=>by
  simp only[List.any_cons]
  rw[prl_any b,a.1]
  congr 1
  simp
theorem prl_put {k:Key}{v:V}{x:DV}{ls:List (Key×V)}{kvs:List (Ky×DV)}(h:PrL K ρ G ls kvs)(d:DvOk K ρ G v x):PrL K ρ G (putK ls k v) (dput kvs (.k k) x):=by
 unfold putK dput
 rw[←prl_any h]
 by_cases e:(ls.any fun p=>decide (p.1=k))=true
 ·rw[if_pos e,if_pos e]
  clear e
  induction h with
  | nil=>exact .nil
  | cons a b ih =>
   refine .cons ?_ ih
   rename_i p q _ _
   show((if q.1=Ky.k k then(q.1,x) else q):Ky×DV).1=Ky.k ((if p.1=k then(p.1,v) else p):Key×V).1∧DvOk K ρ G ((if p.1=k then(p.1,v) else p):Key×V).2 ((if q.1=Ky.k k then(q.1,x) else q):Ky×DV).2
   by_cases e:p.1=k
   ·rw[if_pos e,if_pos (by rw[a.1,e])];exact⟨a.1,d⟩
   ·rw[if_neg e,if_neg (by rw[a.1];simpa using e)];exact a
 ·rw[if_neg e,if_neg e]
  clear e
  induction h with
  | nil=>exact .cons ⟨rfl,d⟩ .nil
  | cons a b ih=>exact .cons a ih
end
def dGet (x y:DV)(μ:Mem):Res R:=match dctOf x μ,keyD y with
 | some kvs,some k=>if allK kvs=true then match dval kvs (.k k) with
   | some z=>.ok (ofV z) μ
   | none=>.bad
  else .bad
 | _,_=>.bad
section
variable {X:Cx}{W:WX}
def dInD (neg:Bool)(y x:DV)(μ:Mem):Res R:=match dctOf x μ,keyD y with
 | some kvs,some k=>if allK kvs=true then .ok (.dat (.bl ((dval kvs (.k k)).isSome != neg))) μ else .bad
 | _,_=>.bad
def dGet1 (x y:DV)(μ:Mem):Res R:=match dctOf x μ,keyD y with
 | some kvs,some k=>if allK kvs=true then match dval kvs (.k k) with
   | some z=>.ok (ofV z) μ
   | none=>.ok (.dat .non) μ
  else .bad
 | _,_=>.bad
def isDct (x:DV)(μ:Mem):Bool:=match dctOf x μ with
 | some kvs=>allK kvs
 | none=>false
def eDGet1 (fd fy:EM):EM:=fun δ μ=>(frzV fd δ μ).bind fun x μ1=>if isDct x μ1=true then(frzV fy δ μ1).bind fun y μ2=>dGet1 x y μ2 else .bad
def allDatK:List (Ky×DV)→Option (List (Ky×D))
 | []=>some []
 | (k,.dat d)::r=>match allDatK r with
  | some ds=>some ((k,d)::ds)
  | none=>none
 | (_,.loc _)::_=>none
def eLk (f:EM):EM:=fun δ μ=>(f δ μ).bind fun r μ1=>match r with
 | .nk kvs=>match allDatK kvs with
  | some ds=>.ok (.dat (.dct ds)) μ1
  | none=>.bad
 | _=>.bad
end
def kyD:Key→D
 | .inl i=>.int i
 | .inr s=>.str s
def Ky.dat:Ky→D
 | .k x=>kyD x
 | .t xs=>.tup (xs.map kyD)
def mergeD {α:Type}(kvs more:List (Ky×α)):List (Ky×α):=more.foldl (fun acc p=>dput acc p.1 p.2) kvs
section
variable {K:PySem.W.Frag}{W:WX}{N:Nat}{ρ:Pm}{G H G0 H0:Hp}{μ:Mem}{σ:Slots}{δ:Env}{Q:VK}
theorem prl_merge:∀ {more:List (Key×V)} {more':List (Ky×DV)} {ls:List (Key×V)} {kvs:List (Ky×DV)},PrL K ρ G more more'→PrL K ρ G ls kvs→PrL K ρ G (mergeK ls more) (mergeD kvs more')
 | _,_,_,_,.nil,h=>h
 | _,_,_,_,.cons a b,h=>by
  rename_i p q _ _
  show PrL K ρ G (mergeK (putK _ p.1 p.2) _) (mergeD (dput _ q.1 q.2) _)
  rw[a.1]
  exact prl_merge b (prl_put h a.2)
def eDNew:EM:=fun _ μ=>.ok (.nk []) μ
abbrev PsM:=Env→Mem→Res (List (Ky×DV))
def psNil:PsM:=fun _ μ=>.ok [] μ
def psCons (fk fv:EM)(r:PsM):PsM:=fun δ μ=>(frzV fk δ μ).bind fun k μ1=>(frzV fv δ μ1).bind fun v μ2=>(r δ μ2).bind fun ps μ3=>match keyD k with
 | some kk=>.ok ((.k kk,v)::ps) μ3
 | none=>.bad
abbrev rpP (K:PySem.W.Frag):Pm→Hp→Hp→Hp→List (V×V)→List (Ky×DV)→Prop:=fun ρ G' _ _ vs ps=>∃ ls:List (Key×V),vs=ls.map (fun kv=>(kV kv.1,kv.2))∧PrL K ρ G' ls ps
abbrev SndP (K:PySem.W.Frag)(W:WX)(trs:List (TE×TE))(f:PsM):Prop:=SndG K W (tPairs trs) f (rpP K)
theorem snd_psNil:SndP K W [] psNil:=fun ρ G H σ δ μ Q R E hp=>hp G H [] (Tr.refl _ _ _) R ⟨[],rfl,.nil⟩
theorem PostG.shiftP {Q:List (V×V)→Hp→Prop}{out:Res (List (Ky×DV))}{G1 H1:Hp}(t:Tr ρ G H G1 H1)(h:PostG K W ρ G H σ (fun G' H'=>rpP K ρ G' H H') Q out) :
  PostG K W ρ G1 H1 σ (fun G' H'=>rpP K ρ G' H1 H') Q out:=h.shift t fun _ _ _ _ q=>q
theorem snd_psCons {tk tv:TE}{trs:List (TE×TE)}{fk fv:EM}{r:PsM}(hk:SndE K W tk fk)(hv:SndE K W tv fv)(hr:SndP K W trs r):SndP K W ((tk,tv)::trs) (psCons fk fv r):=fun ρ G H σ δ μ Q R E hp=>by
 refine SndG.seq (t:=tk) hk.toV R E hp fun x μ1 G1 H1 v t1 R1 E1 d1 hp1=>?_
 refine SndG.seq (t:=tv) hv.toV R1 E1 (hp1.shiftP t1) fun y μ2 G2 H2 w t2 R2 E2 d2 hp2=>?_
 refine SndG.seq (t:=tPairs trs) hr R2 E2 (hp2.shiftP t2) fun ps μ3 G3 H3 ws t3 R3 E3 d3 hp3=>?_
 cases e:keyD x with
 | none=>simp only[e] at hp3;exact hp3.elim
 | some kk =>
  simp only[e] at hp3
  obtain⟨ls,rfl,hl⟩:=d3
  have ek:=keyD_ok d1 e
  subst ek
  exact hp3 G3 H3 _ t3 R3 ⟨(kk,w)::ls,rfl,.cons ⟨rfl,d2.mono t3.exG fun _ _ q=>q⟩ hl⟩
def eDisK (f:PsM):EM:=fun δ μ=>(f δ μ).bind fun ps μ1=>if ps.length≤15 then .ok (.nk (mergeD [] ps)) μ1 else .bad
theorem snd_disK {trs:List (TE×TE)}{f:PsM}(h:SndP K W trs f):SndE K W (tDisp trs) (eDisK f):=fun ρ G H σ δ μ Q R E hp p hn=>by
 obtain⟨R2,t2⟩:=R.lay (o:=.dK []) hn
 obtain⟨n1,n2⟩:=fresh_ne R hn
 refine h ρ G _ σ δ μ _ R2 E ?_
 unfold eDisK at hp
 cases e:f δ μ with
 | bad=>rw[e] at hp;exact hp
 | exc x μ1=>rw[e] at hp;exact fun G1 H1 cls d t1 R1 q=>hp G1 H1 cls d (t2.trans t1) R1 q
 | ok ps μ1 =>
  rw[e] at hp
  intro G1 H1 ws t1 R1 d1
  obtain⟨ls,rfl,hl⟩:=d1
  have k1:=t1.keep p _ n2 upd_same
  have g1:G1 p=none:=by
   cases q:G1 p with
   | none=>rfl
   | some u =>
    rcases t1.nG p (by rw[q];exact fun z=>nomatch z) with z|z
    ·exact(z n1).elim
    ·rw[upd_same] at z;cases z
  simp only[Res.bind_ok] at hp
  by_cases hz:ps.length≤15
  ·rw[if_pos hz] at hp
   refine⟨k1,ls,rfl,by rw[paired_len hl];exact hz,?_⟩
   obtain⟨R3,t3⟩:=R1.swap (o':=.dK (mergeK [] ls)) (t2.trans t1) k1 g1 n2 hn
   obtain⟨q1,q2⟩:=prl_dK (prl_merge hl (.nil:PrL K ρ G1 [] []))
   exact hp G1 _ (.ref p) t3 R3 ⟨p,_,_,rfl,upd_same,q1,q2,g1,n2,hn⟩
  ·rw[if_neg hz] at hp;exact hp.elim
def dLenK (x:DV)(μ:Mem):Res R:=match dctOf x μ with
 | some kvs=>if allK kvs=true then .ok (.dat (.int kvs.length)) μ else .bad
 | none=>.bad
def keysD {α:Type}(kvs:List (Ky×α)):List D:=kvs.map fun p=>p.1.dat
def dListK (x:DV)(μ:Mem):Res R:=match dctOf x μ with
 | some kvs=>if allK kvs=true then .ok (.nl ((keysD kvs).map DV.dat)) μ else .bad
 | none=>.bad
def pairsOf (ds:List (Ky×D)):List D:=ds.map fun p=>.tup [p.1.dat,p.2]
def allKD (ds:List (Ky×D)):Bool:=ds.all fun p=>p.1.isK
def imKeys (f:EM):IM:=fun δ μ=>(frzV f δ μ).bind fun x μ'=>match x with
 | .dat (.dct ds)=>if allKD ds=true then .ok (keysD ds) μ' else .bad
 | _=>.bad
def imItems (f:EM):IM:=fun δ μ=>(frzV f δ μ).bind fun x μ'=>match x with
 | .dat (.dct ds)=>if allKD ds=true then .ok (pairsOf ds) μ' else .bad
 | _=>.bad
end
end DL
namespace DL
open PySem PySem.Spec PyProof.Rows L2 RZ
def setDct (μ:Mem)(x i y:DV):Option Mem:=match x with
 | .dat _=>none
 | .loc n=>match μ[n]?,keyD i with
  | some (.dct kvs),some k=>if allK kvs=true∧kvs.length<sizeLine∧belowB n y=true then some (μ.set n (.dct (dput kvs (.k k) y))) else none
  | _,_=>none
def gDPut (fo fi fe:EM):SM:=fun _ δ μ=>lift ((frzV fe δ μ).bind fun y μ1=>(frzV fo δ μ1).bind fun x μ2=>(frzV fi δ μ2).bind fun i μ3=>match setDct μ3 x i y with
 | some μ4=>.ok () μ4
 | none=>.bad) δ fun _ μ4=>.next δ μ4
section
variable {K:PySem.W.Frag}{W:WX}{N:Nat}{ρ:Pm}{G H G0 H0:Hp}{μ:Mem}{σ:Slots}{δ:Env}{Q:VK}{v w:V}{x y:DV}
theorem dput_mem {α:Type}{kvs:List (Ky×α)}{k:Ky}{z:α}{p:Ky×α}(h:p∈dput kvs k z):p∈kvs∨p.2=z:=by
 unfold dput at h
 split at h
 ·obtain⟨q,hq,e⟩:=List.mem_map.mp h
  by_cases c:q.1=k
  ·rw[if_pos c] at e;exact .inr (by rw[←e])
  ·rw[if_neg c] at e;exact .inl (e▸hq)
 ·rcases List.mem_append.mp h with h|h
  ·exact .inl h
  ·exact .inr (by rw[List.mem_singleton.mp h])
theorem setDct_ok {i:DV}{vi:V}{μ':Mem}(R:Rel K ρ G H μ)(hx:DvOk K ρ G v x)(hi:DvOk K ρ G vi i)(hy:DvOk K ρ G w y)(e:setDct μ x i y=some μ') :
  ∃ a H',v=.ref a∧DPut H a vi w H'∧Tr ρ G H G H'∧Rel K ρ G H' μ':=by
 cases x with
 | dat d=>cases e
 | loc n =>
  obtain⟨a,rfl,ha⟩:=hx
  simp only[setDct] at e
  match em:μ[n]?,ek:keyD i with
  | none,_=>simp only[em] at e;cases e
  | some (.lst _),_=>simp only[em] at e;cases e
  | some .own,_=>simp only[em] at e;cases e
  | some (.er _ _ _),_=>simp only[em] at e;cases e
  | some (.lkd _),_=>simp only[em] at e;cases e
  | some (.lkl _),_=>simp only[em] at e;cases e
  | some (.tp _),_=>simp only[em] at e;cases e
  | some .gone,_=>simp only[em] at e;cases e
  | some (.ins _ _),_=>simp only[em] at e;cases e
  | some (.dct kvs),none=>simp only[em,ek] at e;cases e
  | some (.dct kvs),some k =>
   simp only[em,ek] at e
   by_cases c:allK kvs=true∧kvs.length<sizeLine∧belowB n y=true
   case neg=>rw[if_neg c] at e;cases e
   rw[if_pos c] at e;cases e
   obtain⟨hb,a',o,vs,h1,h2,h3,h4⟩:=R.pl n _ em
   rw[ha] at h1;cases h1
   obtain⟨ls,rfl,hl⟩:=dK_of h3 h4 c.1
   have ei:=keyD_ok hi ek
   subst ei
   have hp:=prl_put (k:=k) hl hy
   obtain⟨q1,q2⟩:=prl_dK hp
   obtain⟨R2,t2⟩:=R.setP (o':=.dK (putK ls k w)) (p':=.dct (dput kvs (.k k) y)) ha em (fun z=>nomatch z)
    ⟨fun p hm=>(dput_mem hm).elim (hb p) fun z=>by rw[z];exact belowB_ok c.2.2,a,_,_,ha,upd_same,q1,q2⟩
   exact⟨a,_,rfl,.inl ⟨ls,k,h2,rfl,by rw[paired_len hl];exact c.2.1,rfl⟩,t2,R2⟩
theorem snd_dput {to ti te:TE}{fo fi fe:EM}(ho:SndE K W to fo)(hi:SndE K W ti fi)(he:SndE K W te fe):SndS K W (sDPut to ti te) (gDPut fo fi fe):=fun N ρ G H σ δ μ Dn R E hp=>by
 refine SndG.stm2 (t:=te) he.toV R E hp fun y μ1 G1 H1 w t1 R1 E1 d1 hp1=>?_
 refine SndG.stm2 (t:=to) ho.toV R1 E1 hp1 fun x μ2 G2 H2 v t2 R2 E2 d2 hp2=>?_
 refine SndG.stm2 (t:=ti) hi.toV R2 E2 hp2 fun i μ3 G3 H3 vi t3 R3 E3 d3 hp3=>?_
 cases e:setDct μ3 x i y with
 | none=>rw[e] at hp3;exact hp3.elim
 | some μ4 =>
  rw[e] at hp3
  obtain⟨a,H',h1,h2,t4,R4⟩:=setDct_ok R3 (d2.mono t3.exG fun _ _ q=>q) d3 (d1.mono (t2.exG.trans t3.exG) fun _ _ q=>q) e
  exact⟨a,H',h1,h2,hp3 ρ G3 H' σ t4.toS R4 E3⟩
end
end DL
namespace DL
open PySem PySem.Spec PyProof.Rows L2
section
variable {K:PySem.W.Frag}{W:WX}
def eKGet (tab:List (Str×Str))(f:EM):EM:=fun δ μ=>(frzV f δ μ).bind fun x μ'=>match asStr x with
 | some z=>match tab.lookup z with
  | some y=>.ok (.dat (.str y)) μ'
  | none=>.ok (.dat .non) μ'
 | none=>.bad
end
end DL
namespace DL
open PySem PySem.Spec PyProof.Rows L2 RZ
section
variable {X:Cx}{W:WX}{a b o i e:Expr}{td ty te:TE}{fd fy fe:EM}{pos pos' p:Pos}
structure PMP (X:Cx)(W:WX)(pos:Pos)(keys:List (Option Expr))(values:List Expr)(trs:List (TE×TE))(f:PsM):Prop where
 pp:PPs X pos keys values trs
 sd:SndP X.K W trs f
theorem pp_nil:PMP X W pos [] [] [] psNil:=⟨pps_nil,snd_psNil⟩
theorem pp_cons {ks:List (Option Expr)}{vs:List Expr}{trs:List (TE×TE)}{f:PsM}(hk:PM X W i ty fy)(hv:PM X W e te fe)(hr:PMP X W pos ks vs trs f):PMP X W pos (some i::ks) (e::vs) ((ty,te)::trs) (psCons fy fe f) :=
 ⟨pps_cons hk.pe hv.pe hr.pp,snd_psCons hk.sd hv.sd hr.sd⟩
theorem pm_disK {ks:List (Option Expr)}{vs:List Expr}{trs:List (TE×TE)}{f:PsM}(h:PMP X W pos ks vs trs f)(hall:ks.all (·.isSome)=true:=by rfl)(hl:ks.length=vs.length:=by rfl)(h0:ks≠[]:=by exact fun z=>nomatch z)(h15:ks.length≤15:=by decide) :
  PM X W (.Dict ks vs pos) (tDisp trs) (eDisK f):=⟨pe_disp h.pp hall hl h0 h15,snd_disK h.sd⟩
theorem sm_dput {fo fi:EM}{to ti:TE}(hu:X.A.units+1<cLine)(ho:PM X W o to fo)(hi:PM X W i ti fi)(hv:PM X W e te fe)(hs:swapsWith e (some (.Subscript o i pos')) pos.line X.env=pure false:=by rfl) :
  PSM X W (.Assign [.Subscript o i pos'] e pos) (sDPut to ti te) (gDPut fo fi fe):=⟨ps_dput hu ho.pe hi.pe hv.pe hs,snd_dput ho.sd hi.sd he⟩
 where he:=hv.sd
end
section
variable {X:Cx}{W:WX}{tg e:Expr}{te:TE}{f:EM}
end
end DL
namespace DL
open PySem PySem.Spec PyProof.Rows L2
abbrev T3:=List Int×Addr×Value
def kI (k:List Int):List Key:=k.map Sum.inl
def upK (xs:List T3):List (List Key×Addr×Value):=xs.map fun x=>(kI x.1,x.2.1,x.2.2)
theorem kI_inj {a b:List Int}:kI a=kI b↔a=b:=by
 unfold kI
 constructor
 ·intro h
  induction a generalizing b with
  | nil=>cases b with
   | nil=>rfl
   | cons=>cases h
  | cons x a ih=>cases b with
   | nil=>cases h
   | cons y b =>
    simp only[List.map_cons,List.cons.injEq] at h
    rw[Sum.inl.inj h.1,ih h.2]
 ·intro h;rw[h]
theorem ent_up (P:Program)(w:World)(xs:List T3):(upK xs).map (entryOfKey (tupleKind (mixKind P w)))=xs.map entI:=by
 unfold upK
 rw[List.map_map]
 refine List.map_congr_left fun x _=>?_
 show(⟨tupleKeyHash (mixKind P w) (kI x.1),.ref x.2.1,x.2.2⟩:DictEntry)=⟨_,.ref x.2.1,x.2.2⟩
 have e:tupleKeyHash (mixKind P w) (kI x.1)=reduceHash (Builtin.Tuple.tupleHashOf (x.1.map hashInt)):=by
  unfold tupleKeyHash kI
  rw[List.map_map];rfl
 rw[e]
theorem keys_up (xs:List T3):((upK xs).map (·.1)).Nodup↔(xs.map (·.1)).Nodup:=by
 have e:(upK xs).map (·.1)=(xs.map (·.1)).map kI:=by unfold upK;rw[List.map_map,List.map_map];rfl
 rw[e]
 unfold List.Nodup
 rw[List.pairwise_map]
 constructor
 ·exact fun h=>h.imp fun n z=>n (by rw[z])
 ·exact fun h=>h.imp fun n z=>n (kI_inj.mp z)
structure TIs (K:PySem.W.Frag)(H:Hp)(a:Addr)(es:Array DictEntry)(xs:List T3):Prop where
 es:es.toList=xs.map entI
 nd:(xs.map (·.1)).Nodup
 sm:(a==sysModules)=false
 sz:xs.length≤sizeLine
 ks:∀ x∈xs,SqT K H x.2.1 (x.1.map V.int)
section
variable {X:Cx}{pins:List (Addr×Obj)}{σ:L2.St}{H:Hp}{s:Shared}{a b:Addr}{y v:V}{u r:Value}{A:Around}{E:Value→Shared→Prop}{es:Array DictEntry}{xs:List T3}{k:List Int}
theorem key_T (I:Inv X pins σ H s)(h:SqT X.K H b (k.map V.int)):(tupleKind (mixKind X.prog X.w)).is s.heap (kI k) b:=by
 obtain⟨its,r,⟨o,h1,h2,n,h3⟩,_⟩:=I.tuple h
 refine⟨o,its.toArray,n,h1,h2,h3,?_⟩
 have r':Vals ((kI k).map kV) its:=by unfold kI;rw[List.map_map];exact r
 simpa using items_are (P:=X.prog) (w:=X.w) r'
theorem TIs.of (I:Inv X pins σ H s)(hr:Rd H a (TX a es))(t:TIs X.K H a es xs):s.heap.DictOfH (tupleKind (mixKind X.prog X.w)) a (upK xs):=by
 obtain⟨⟨o,ep,h1,h2,h3⟩,_⟩:=(show ObjOk X.prog X.w H s.heap a (TX a es) from hr.ok I.hok)
 refine⟨o,es,ep,h1,h2,h3,by rw[ent_up];exact t.es,fun x hx=>?_,(keys_up xs).mpr t.nd⟩
 unfold upK at hx
 obtain⟨z,hz,rfl⟩:=List.mem_map.mp hx
 exact key_T I (t.ks z hz)
end
section
variable {X:Cx}{o i e value ke ve:Expr}{pos pos' tpos:Pos}{td ty tv tk:TE}
end
def intsD:List D→Option (List Int)
 | []=>some []
 | .int i::r=>(intsD r).map (i::·)
 | _::_=>none
def keyT:DV→Option (List Int)
 | .dat (.tup ds)=>intsD ds
 | _=>none
def isT {α:Type}:List (Ky×α)→Bool
 | (.t _,_)::_=>true
 | _=>false
section
variable {K:PySem.W.Frag}{W:WX}{N:Nat}{ρ:Pm}{G H G0 H0:Hp}{μ:Mem}{σ:Slots}{δ:Env}{Q:VK}
abbrev TrL (K:PySem.W.Frag)(ρ:Pm)(G:Hp):List T3→List (Ky×DV)→Prop:=Paired fun x q=>q.1=Ky.t (kI x.1)∧∃ v,RelV v x.2.2∧DvOk K ρ G v q.2
theorem trl_to:∀ {xs:List T3} {kvs:List (Ky×DV)},TrL K ρ G xs kvs→kvs.map (·.1)=xs.map (fun p=>Ky.t (kI p.1))∧∃ vs,Vals vs (xs.map (·.2.2))∧DvL K ρ G vs (kvs.map (·.2))
 | _,_,.nil=>⟨rfl,[],.nil,.nil⟩
 | _,_,.cons ⟨a,v,b,c⟩ r=>by
  obtain⟨h1,vs,h2,h3⟩:=trl_to r
  exact⟨by simp only[List.map_cons];rw[h1,a],v::vs,.cons b h2,.cons c h3⟩
theorem dct_T {a:Addr}{es:Array DictEntry}{xs:List T3}{kvs:List (Ky×DV)}(hne:xs≠[])(t:TIs K G a es xs)(r:TrL K ρ G xs kvs):∃ vs,DctIs K G a (TX a es) (kvs.map (·.1)) vs∧DvL K ρ G vs (kvs.map (·.2)):=by
 obtain⟨h1,vs,h2,h3⟩:=trl_to r
 exact⟨vs,.inr ⟨es,xs,hne,rfl,t.es,t.nd,t.sm,t.sz,h1,h2,t.ks⟩,h3⟩
theorem TIs.up {a:Addr}{es:Array DictEntry}{xs:List T3}(e:Ex G H)(t:TIs K G a es xs):TIs K H a es xs:=⟨t.es,t.nd,t.sm,t.sz,fun x hx=>ex_t e (t.ks x hx)⟩
def dGetT (x y:DV)(μ:Mem):Res R:=match dctOf x μ,keyT y with
 | some kvs,some k=>if isT kvs=true then match dval kvs (.t (kI k)) with
   | some z=>.ok (ofV z) μ
   | none=>.bad
  else .bad
 | _,_=>.bad
def eTGet (fd fy:EM):EM:=eOp dGetT fd fy
def dInT (neg:Bool)(y x:DV)(μ:Mem):Res R:=match dctOf x μ,keyT y with
 | some kvs,some k=>if isT kvs=true then .ok (.dat (.bl ((dval kvs (.t (kI k))).isSome != neg))) μ else .bad
 | _,_=>.bad
def eTIn (neg:Bool)(fy fd:EM):EM:=eOp (dInT neg) fy fd
def setDctT (μ:Mem)(x i y:DV):Option Mem:=match x with
 | .dat _=>none
 | .loc n=>match μ[n]?,keyT i with
  | some (.dct kvs),some k=>if(isT kvs||kvs.isEmpty)=true∧kvs.length<sizeLine∧belowB n y=true then some (μ.set n (.dct (dput kvs (.t (kI k)) y))) else none
  | _,_=>none
def gTPut (fo fi fe:EM):SM:=fun _ δ μ=>lift ((frzV fe δ μ).bind fun y μ1=>(frzV fo δ μ1).bind fun x μ2=>(frzV fi δ μ2).bind fun i μ3=>match setDctT μ3 x i y with
 | some μ4=>.ok () μ4
 | none=>.bad) δ fun _ μ4=>.next δ μ4
def fPair (fk fv:EM):Env→Mem→Res (DV×DV):=fun δ μ=>(frzV fk δ μ).bind fun k μ1=>(frzV fv δ μ1).bind fun v μ2=>.ok (k,v) μ2
def eDisT (fk fv:EM):EM:=fun δ μ=>(fPair fk fv δ μ).bind fun p μ2=>match keyT p.1 with
 | some kk=>.ok (.nk [(.t (kI kk),p.2)]) μ2
 | none=>.bad
end
section
variable {X:Cx}{pins:List (Addr×Obj)}{σ:L2.St}{H:Hp}{s:Shared}{d:Addr}{o:Obj}{es:Array DictEntry}{xs:List T3}
end
section
variable {P:Program}{w:World}{K:PySem.W.Frag}{tg:Expr}{d:Addr}{o:Obj}{es:Array DictEntry}{ep:Nat}{xs:List T3}
end
section
variable {X:Cx}{tg e:Expr}{td:TE}{apos cpos:Pos}
end
section
variable {K:PySem.W.Frag}{W:WX}{N:Nat}{ρ:Pm}{G H G0 H0:Hp}{μ:Mem}{σ:Slots}{δ:Env}{Q:VK}
def imKeysT (f:EM):IM:=fun δ μ=>(frzV f δ μ).bind fun x μ'=>match x with
 | .dat (.dct ds)=>if isT ds=true then .ok (keysD ds) μ' else .bad
 | _=>.bad
def imItemsT (f:EM):IM:=fun δ μ=>(frzV f δ μ).bind fun x μ'=>match x with
 | .dat (.dct ds)=>if isT ds=true then .ok (pairsOf ds) μ' else .bad
 | _=>.bad
end
section
variable {X:Cx}{W:WX}{a b o i e:Expr}{td ty te:TE}{fd fy fe f:EM}{pos pos' p apos cpos:Pos}{tg:Expr}
end
end DL
set_option maxHeartbeats 2000000
namespace DX
open PySem PySem.W PySem.Calls PyProof.Rows PySem.HandSPX
def eArgs (f:Str)(p1 p2:Pos):Arguments:={ posonlyargs:=[],args:=[{ arg:="self",annotation:=none,pos:=p1 },{ arg:=f,annotation:=none,pos:=p2 }],vararg:=none,kwonlyargs:=[],kw_defaults:=[],kwarg:=none,defaults:=[] }
def eBody (f:Str)(q1 q2 q3 q4 q5 q6 q7 q8 q9 q10:Pos):List Stmt :=
 [.Expr (.Call (.Attribute (.Call (.Name "super" q1) [] [] q2) "__init__" q3) [.Name f q4] [] q5) q6,.Assign [.Attribute (.Name "self" q7) f q8] (.Name f q9) q10]
def eScope (f:Str):Scope:={ kind:=.function,names:=[(PySem.Str.ofString "self",.local),(f,.local),(PySem.Str.ofString "__class__",.free),(PySem.Str.ofString "super",.globalImplicit)],isGenerator:=false,isCoroutine:=false,more:=[] }
structure ErrTxt (prog:Program)(K:Frag)(mg:Str→Option Value)(nm f:Str)(C fI:Addr):Prop where
 gC:mg nm=some (.ref C)
 cls:∃ nm q N bs bm sn sub ab col dd k0 k1 k2 k3 k5,K.lookup C=some (excClassObj nm q C N bs bm true sn sub ab col dd k0 k1 k2 k3 k5 "ValueError.__new__")∧refsVE bm=true
 sa:findIn K (.ref C) "__setattr__"=some (some (.builtin "object.__setattr__"))
 ga:findIn K (.ref C) "__getattribute__"=some (some (.builtin "BaseException.__getattribute__"))
 gg:findIn K (.ref C) "__getattr__"=some none
 noN:findIn K (.ref C) f=some none
 iC:findIn K (.ref C) "__init__"=some (some (.ref fI))
 tC:typeIn K (.ref fI)=some (.type "function")
 kC:keepIn K (.ref C)=true
 exC:subIn K (.ref C) (.type "BaseException")=some true
 exV:subIn K (.ref C) (.type "ValueError")=some true
 tyC:typeIn K (.ref C)=some (.type "type")
 hdC:hasDictIn K C=true
 su:ks_superIn K C C "__init__"=some (some (.builtin "ValueError.__init__"))
 mr:mroIn K C (.ref C)=some true
 op:nsIn K cStatics "thirdparty.any"=some none
 ms:mg "super"=none
 top:(prog.main.scope.names.lookup ("super":Str)).isSome=false
 fs:(f==("self":Str))=false
 fd:(f==("__debug__":Str))=false
 lf:(eScope f).names.lookup f=some .local
 lc:(eScope f).names.lookup ("__class__":Str)=some .free
 ls:(eScope f).names.lookup ("super":Str)=some .globalImplicit
 bd:∀ (qual:Str) (p1 p2:Pos) (bo:List Stmt) (doc pm:Value) (an:Option Addr) (cd ct:Value) (cc:Addr) (a b:Value),bindArgs (ksFn "__init__" qual (eArgs f p1 p2) bo (eScope f) .none .none doc pm an cd ct cc) ⟨[a,b],[]⟩=pure [(PySem.Str.ofString "self",a),(f,b)]
 fn:∃ (oc:Value) (od:Option Addr) (doc pm:Value) (an:Option Addr) (ct:Value) (osl:Array (Option Value)) (qual:Str) (p1 p2 q1 q2 q3 q4 q5 q6 q7 q8 q9 q10:Pos) (cda cc:Addr) (ccl cl:Value) (cdd cld:Option Addr) (vs:Array Value) (ccs csl:Array (Option Value)) (file:Str) (tf:Tok) (pl:Sem Bool),
  K.lookup fI=some ⟨oc,od,.func (ksFn "__init__" qual (eArgs f p1 p2) (eBody f q1 q2 q3 q4 q5 q6 q7 q8 q9 q10) (eScope f) .none .none doc pm an (.ref cda) ct cc),osl⟩∧codeIn K (.ref cda) qual=true ∧
  K.lookup cda=some ⟨ccl,cdd,.fields vs,ccs⟩∧vs[2]?=some (.str file tf)∧((prog.main.file:Str)==file)=true∧K.lookup cc=some ⟨cl,cld,.cell (some (.ref C)),csl⟩ ∧
  (∀ env:Env,eval (.Call (.Attribute (.Call (.Name "super" q1) [] [] q2) "__init__" q3) [.Name f q4] [] q5) env=(do
   let ov ←attributeBase (.Call (.Name "super" q1) [] [] q2) "__init__" env (eval (.Call (.Name "super" q1) [] [] q2) env)
   standAt q3.atName
   let (f1,first) ←holding [ov] (getMethod ov "__init__" pl)
   callWith q5 f1 first (backTo q5 (starEach [.Name f q4] env)) [])) ∧
  (∀ env:Env,swapsWith (.Call (.Attribute (.Call (.Name "super" q1) [] [] q2) "__init__" q3) [.Name f q4] [] q5) none q6.line env=pure false) ∧
  (∀ env:Env,swapsWith (.Name f q9) (some (.Attribute (.Name "self" q7) f q8)) q10.line env=pure false)
structure InitEnd (h h':Heap)(f:Str)(x C dx t1:Addr)(v:Value):Prop where
 keep:∀ b o,b≠x→h.get? b=some o→h'.get? b=some o
 obj:h'.get? x=some { cls:=.ref C,dict:=some dx,data:=.fields #[.ref t1,.none,.none,.none,.bool false,.none] }
 dbig:h.objs.size≤dx
 dne:dx≠x
 ns:h'.Ns1 dx (fun y=>if y=f then some v else none)
section
variable {prog:Program}{w:World}{A:Around}{E:Value→Shared→Prop}{R:Result→Shared→Prop}{s:Shared}{K:Frag}{mg:Str→Option Value}{nm f:Str}{C fI:Addr}
theorem call_mw {h:Heap}{g:Array GenState}{d:Drawn}{t:Nat}{os:OsState}{nm q:Str}{C N:Addr}{bs bm:List Value}{hdct:Bool}{sn:List Str}{sub:List Value}{ab:Bool}{col:Option Bool}{dd:Option Addr}{k0 k1 k2 k3 k5:Option Value}{u e t0:Addr}{rest:List Value}{Q:Value→Shared→Prop}
  (hC:h.get? C=some (excClassObj nm q C N bs bm hdct sn sub ab col dd k0 k1 k2 k3 k5 "ValueError.__new__")) (he:h.get? e=some (excO C t0)) (hu:h.get? u=some (kxs_mw "ValueError.__init__" e)) (hrest:rest.length≤sizeLine)
  (hq:∀ h' t1,(∀ b o,b≠e→h.get? b=some o→h'.get? b=some o)→h'.get? e=some (excO C t1)→Q .none ⟨h',g,d,t,os⟩) :
  wpAny (model prog w) A (call (.ref u) rest) Q E ⟨h,g,d,t,os⟩:=by
 have hm:(Value.type "method-wrapper"==Value.type "method"||Value.type "method-wrapper"==Value.type "builtin_function_or_method"||Value.type "method-wrapper"==Value.type "method-wrapper")=true:=by decide
 refine wpAny_call (codeAny_of_tree ?_)
 show wpAny _ (Around.in1 A) (callAny (Value.ref u) { pos:=rest,kw:=[] }) _ _ _
 simp only[callAny]
 refine wpAny_bind (wpAny_load hu ?_)
 simp only[kxs_mw,hm,if_true]
 refine KFB.if_so (by decide) (wpAny_bind (ESX.check_bound F.excBase_ValueError hC he rfl (wpAny_bind (wpAny_pure (wpAny_pure ?_)))))
 refine And.intro (Code.quiet_builtin _ (by decide +kernel)) (codeAny_builtin F.excBase_ValueError.initEntry ?_)
 rw[Around.under_plainId F.excBase_ValueError.init.plain _]
 wp_walk
 refine hq _ h.objs.size (fun b o nb ob=>?_) ?_
 ·rw[Heap.get?_update_other _ _ (Ne.symm nb)];exact Heap.get?_push_of_some _ ob
 ·rw[Heap.get?_update_self _ (Heap.get?_push_of_some _ he) rfl];rfl
theorem init_ok (T:ErrTxt prog K mg nm f C fI) {x t0:Addr} {v:Value} (X:K.In s.heap) (hlim:s.heap.NoLimit) (G:s.heap.Ns mainGlobals mg) (hb:∃ mb,s.heap.Ns builtinsNs mb∧∀ x:Str,x≠"__name__"→mb x=bootBuiltins x) (hx:s.heap.get? x=some (excO C t0)) (hnx:K.lookup x=none) (hroom:A.depth<recursionLimit)
  (hq:∀ h' tk dx t1,InitEnd s.heap h' f x C dx t1 v→R (.ok (.ret .none)) { s with heap:=h',toks:=tk }) :
  codeAny (model prog w) A (.call (.ref fI) ⟨[.ref x,v],[]⟩) R s:=by
 obtain⟨oc,od,doc,pm,an,ct,osl,qual,p1,p2,q1,q2,q3,q4,q5,q6,q7,q8,q9,q10,cda,cc,ccl,cl,cdd,cld,vs,ccs,csl,file,tf,pl,ho,hcd,hcode,hvs,hfile,hcell,hev,hsw,hsw2⟩:=T.fn
 obtain⟨nm',q,N,bs,bm,sn,sub,ab,col,dd,k0,k1,k2,k3,k5,hC,hbm⟩:=T.cls
 have hcl:clsIn K C=some { name:=nm',bases:=bs,mro:=.ref C::bm,ns:=N,qualname:=q,hasDict:=true,slotNames:=sn,subclasses:=sub,abstract:=ab,collection:=col,hasDel:=false }:=by unfold clsIn;rw[hC] <;> rfl
 have lf:=T.lf
 refine ks_codeAny_call_defAt (binds:=[("self",.ref x),(f,v)]) hroom (X _ _ ho) rfl hlim (codeRec_of X hcd) rfl ?_ ?_ ?_ (fun h₁ hns k₁=>?_)
 ·exact BindsTo.of_eq (T.bd _ _ _ _ _ _ _ _ _ _ _ _)
 ·intro y hy
  have hy':y∈(eScope f).names:=hy
  simp only[eScope,List.mem_cons,List.not_mem_nil,or_false] at hy'
  rcases hy' with rfl|rfl|rfl|rfl <;> exact fun z=>by cases z
 ·intro y hy
  simp only[List.mem_cons,List.not_mem_nil,or_false] at hy
  rcases hy with rfl|rfl
  ·rfl
  ·exact lf
 have X₁:K.In h₁:=X.keeps k₁
 have hx₁:=k₁ _ _ hx
 have I₁:InstAt h₁ x (excO C t0) C none:=⟨hx₁,rfl,rfl,trivial⟩
 have mx:(fun y=>([("self",Value.ref x),(f,v)]:List (Str×Value)).reverse.lookup y) f=some v:=by simp[List.lookup]
 have ms:(fun y=>([("self",Value.ref x),(f,v)]:List (Str×Value)).reverse.lookup y) ("self":Str)=some (.ref x):=by
  have:((PySem.Str.ofString "self")==f)=false:=by
   have:=T.fs
   rw[Bool.eq_false_iff] at this ⊢
   intro z;exact this (by simpa using (eq_of_beq z).symm)
  simp[List.lookup,this]
 refine ks_wpAt_execs_cons (ks_wpAt_Expr_any (ks_wpAt_MethodCall ?_ (hev _)) rfl (hsw _))
 refine ks_wpAt_super_base (f:=fI) (cc:=cda) T.ls T.lc rfl rfl (X₁ _ _ ho) rfl rfl rfl (X₁ _ _ hcode) rfl hvs hfile T.top ?_
 obtain⟨mb,g1,g2⟩:=hb
 refine ks_loadName_global rfl T.ls (loadGlobal_builtin (G.keeps k₁) T.ms (g1.keeps k₁) ((g2 "super" (by decide)).trans (by decide +kernel)) ⟨rfl,?_⟩)
 refine wpAny_loadName_free rfl T.lc rfl ⟨_,X₁ _ _ hcell,rfl⟩ ?_
 refine wpAny_loadName_local rfl rfl hns ms ?_
 refine ks_wpAny_isType_cls (X₁ _ _ hC) rfl ⟨rfl,?_⟩
 refine ks_wpAny_call_super (X₁ _ _ hC) rfl hx₁ rfl (fun c e=>by cases e) (looks_mroIn X₁ T.mr) (fun h₂ e₂ k₂=>?_)
 have X₂:K.In h₂:=X₁.keeps k₂
 have hx₂:=k₂ _ _ hx₁
 have I₂:InstAt h₂ x (excO C t0) C none:=⟨hx₂,rfl,rfl,trivial⟩
 have su:=T.su
 unfold ks_superIn at su
 rw[hcl] at su
 refine kxs_getMethod kxs_ValueError e₂ (looks_opaque X₂ T.op) (l₀:=.ref C::bm) ?_ rfl X₂ su (I₂.type.andThen (looks_subIn X₂ T.exV)) (ks_ne X₂ I₂ hcl) rfl ?_
 ·exact fun A Q E s k q=>wpAny_bind ((looks_clsIn X₂ hcl) A _ E s k (wpAny_pure q))
 have k₃:∀ b o,h₂.get? b=some o→(h₂.push (kxs_mw "ValueError.__init__" x)).get? b=some o:=fun b o e=>Heap.get?_push_of_some _ e
 have X₃:=X₂.keeps k₃
 have hx₃:=k₃ _ _ hx₂
 have hns₃:=(hns.keeps k₂).keeps k₃
 refine kxs_callWith (i:="ValueError.__init__") (x:=x) rfl (evalArgs_plain (x:=eval (.Name f q4) _) (rest:=[]) (Calls.spliced_cons (wpAny_Name (wpAny_loadName_local rfl T.lf hns₃ mx (Calls.spliced_nil ⟨Heap.get?_push_at rfl rfl,?_⟩)) T.fd)))
 have hC₃:=X₃ _ _ hC
 refine call_mw (e:=x) (t0:=t0) hC₃ hx₃ (Heap.get?_push_at rfl rfl) (show [v].length≤sizeLine by rw[sizeLine_eq];exact(by decide:1≤16777216)) (fun h₄ t1 k₄ hx₄=>?_)
 have hxL:s.heap.objs.size≠x:=Nat.ne_of_gt (Heap.lt_size hx)
 have hns₄:h₄.Ns s.heap.objs.size (fun y=>([("self",Value.ref x),(f,v)]:List (Str×Value)).reverse.lookup y):=let ⟨o,es,ep,ho,r⟩:=hns₃;⟨o,es,ep,k₄ _ o hxL ho,r⟩
 show PySem.wpAt _ _ _ (execs _ _) _ _ _
 refine ks_wpAt_execs_cons (wpAt_of_wpAny (plainObj_wpAny_Assign_Attribute ?_ (hsw2 _)))
 refine wpAny_Name (wpAny_loadName_local rfl T.lf hns₄ mx ?_) T.fd
 refine wpAny_Name (wpAny_loadName_local rfl rfl hns₄ ms ?_) (by decide)
 have X₄:K.In h₄:=fun a o e=>k₄ a o (fun z=>by rw[z,hnx] at e;cases e) (X₃ a o e)
 refine set_plain X₄ (ox:=excO C t1) (od:=none) ⟨hx₄,rfl,rfl,trivial⟩ T.sa ?_
 refine exc_osa X₄ hx₄ hcl (show refsVE (.ref C::bm)=true from hbm) rfl T.noN (fun h₅ tk₅ dx k₅ dn dne hx₅ hn₅=>?_)
 have z:s.heap.objs.size<h₁.objs.size:=hns.lt
 have z2:s.heap.objs.size<h₄.objs.size:=hns₄.lt
 refine wpAt_of_wpAny (wpAny_execs_nil ?_)
 exact hq h₅ tk₅ dx t1 ⟨fun b o hb e=>k₅ b o hb (k₄ b o hb (k₃ b o (k₂ b o (k₁ b o e)))),hx₅,Nat.le_of_lt (Nat.lt_of_lt_of_le z2 dn),dne,hn₅⟩
end
end DX
set_option maxHeartbeats 2000000
namespace DX
open PySem PySem.W PySem.Calls PyProof.Rows PySem.HandSPX
structure OwnMade (h h':Heap)(f:Str)(e C d:Addr)(v:Value):Prop where
 keep:∀ b o,h.get? b=some o→h'.get? b=some o
 new:h.objs.size≤e
 obj:∃ oe vs,h'.get? e=some oe∧oe.cls=.ref C∧oe.dict=some d∧oe.data=.fields vs∧vs[1]?=some .none
 dbig:h.objs.size≤d
 dne:d≠e
 ns:h'.Ns1 d (fun y=>if y=f then some v else none)
section
variable {prog:Program}{w:World}{A:Around}{E:Value→Shared→Prop}{R:Result→Shared→Prop}{s:Shared}{K:Frag}{mg:Str→Option Value}{nm f:Str}{C fI:Addr}
theorem made_ok (T:ErrTxt prog K mg nm f C fI) {v:Value} (X:K.In s.heap) (hlim:s.heap.NoLimit) (G:s.heap.Ns mainGlobals mg) (hb:∃ mb,s.heap.Ns builtinsNs mb∧∀ x:Str,x≠"__name__"→mb x=bootBuiltins x) (hroom:A.depth+1<recursionLimit)
  (hq:∀ h' tk e d,OwnMade s.heap h' f e C d v→R (.ok (.ret (.ref e))) { s with heap:=h',toks:=tk }) :
  codeAny (model prog w) A (.call (.ref C) ⟨[v],[]⟩) R s:=by
 obtain⟨nm',q,N,bs,bm,sn,sub,ab,col,dd,k0,k1,k2,k3,k5,hC,hbm⟩:=T.cls
 obtain⟨hp,g,dr,tk,os⟩:=s
 have k:∀ b o,hp.get? b=some o→((hp.push (kdv_tup [v])).push (excO C hp.objs.size)).get? b=some o:=fun b o e=>Heap.get?_push_of_some _ (Heap.get?_push_of_some _ e)
 have hget:((hp.push (kdv_tup [v])).push (excO C hp.objs.size)).get? (hp.objs.size+1)=some (excO C hp.objs.size):=by heap_get
 have hnx:K.lookup (hp.objs.size+1)=none:=by
  cases e:K.lookup (hp.objs.size+1) with
  | none=>rfl
  | some o =>
   have z:hp.get? (hp.objs.size+1)=some o:=X _ _ e
   exact absurd (Nat.lt_of_succ_lt (Heap.lt_size z)) (Nat.lt_irrefl _)
 refine call_own F.excBase_ValueError (fun X=>refsVE_contains X bm hbm) (X _ _ hC) (looks_findIn X T.iC) (fun self=>bind_fn X self T.tC) (show [v].length≤sizeLine by rw[sizeLine_eq];exact(by decide:1≤16777216)) ?_
 have hb':∃ mb,((hp.push (kdv_tup [v])).push (excO C hp.objs.size)).Ns builtinsNs mb∧∀ x:Str,x≠"__name__"→mb x=bootBuiltins x:=by
  obtain⟨mb,b1,b2⟩:=hb
  exact⟨mb,Heap.Ns.keeps b1 k,b2⟩
 refine init_ok (s:=⟨(hp.push (kdv_tup [v])).push (excO C hp.objs.size),g,dr,tk,os⟩) T (X.keeps k) (hlim.keeps k) (Heap.Ns.keeps G k) hb' hget hnx ?_ fun h' tk' dx t1 ⟨k',hx,dn,dne,hns⟩=>?_
 ·show A.depth+1<recursionLimit
  exact hroom
 ·have old:∀ b o,hp.get? b=some o→h'.get? b=some o:=fun b o e=>k' b o (Nat.ne_of_lt (Nat.lt_succ_of_lt (Heap.lt_size e))) (k b o e)
  have z:hp.objs.size+1+1≤dx:=by
   first
    | (simpa only[Heap.size_push] using dn)
    | exact dn
    | (have q:=dn;rw[Heap.size_push,Heap.size_push] at q;exact q)
  exact⟨rfl,hq h' tk' (hp.objs.size+1) dx ⟨old,Nat.le_succ _,⟨_,_,hx,rfl,rfl,rfl,rfl⟩,Nat.le_trans (Nat.le_trans (Nat.le_succ _) (Nat.le_succ _)) z,dne,hns⟩⟩
end
end DX
namespace DL
open PySem PySem.Spec PyProof.Rows L2
theorem relO_one {v:V}{v':Value}(r:L2.RelV v v')(g f:Str):RelO (List.lookup f [(g,v)]) (if f=g then some v' else none):=by
 by_cases hw:f=g
 ·subst hw
  rw[if_pos rfl]
  have q:List.lookup f [(f,v)]=some v:=by simp[List.lookup]
  rw[q]
  exact r
 ·rw[if_neg hw]
  have qw:(f==g)=false:=by simpa using hw
  have q2:List.lookup f [(g,v)]=none:=by simp[List.lookup,qw]
  rw[q2]
  trivial
section
variable {X:Cx}{C fI:Addr}{nm f:Str}
end
def gRaise (nm f:Str)(fe:EM):SM:=fun _ δ μ=>lift (frzV fe δ μ) δ fun x μ'=>match x with
 | .dat d=>.exc ⟨nm,[(f,d)]⟩ δ μ'
 | .loc _=>.bad
section
variable {K:PySem.W.Frag}{W:WX}{C:Addr}{nm f:Str}
end
def errAt (i:Nat)(δ:Env):Option (Addr×Addr×Addr×Str×List (Str×D)):=match δ[i]? with
 | some (some (.dat (.err a C d nm (f::fs))))=>some (a,C,d,nm,f::fs)
 | _=>none
section
variable {K:PySem.W.Frag}{W:WX}{ρ:Pm}{G H:Hp}{σ:Slots}{δ:Env}{μ:Mem}
def eIsE (i:Nat)(a C d:Addr)(tab:List (Str×Bool)):EM:=fun δ μ=>match errAt i δ with
 | some (a',C',d',nm,_)=>if a'=a∧C'=C∧d'=d then match tab.lookup nm with
   | some b=>.ok (.dat (.bl b)) μ
   | none=>.bad
  else .bad
 | none=>.bad
def TabE (K:PySem.W.Frag)(cv:Value)(tab:List (Str×Bool)):Prop:=∀ nm b,tab.lookup nm=some b→∀ C,ClsAt K nm C→ExcC K C∧PySem.W.kitOne K (.ref C) cv=some b
def eXf (i:Nat)(a C d:Addr)(nm0 f:Str):EM:=fun δ μ=>match errAt i δ with
 | some (a',C',d',nm,fs)=>if a'=a∧C'=C∧d'=d∧nm=nm0 then match fs.lookup f with
   | some v=>.ok (.dat v) μ
   | none=>.bad
  else .bad
 | none=>.bad
end
def unset (i:Nat):Out→Out
 | .next δ μ=>.next (δ.set i none) μ
 | .brk δ μ=>.brk (δ.set i none) μ
 | .cnt δ μ=>.cnt (δ.set i none) μ
 | .ret r μ=>.ret r μ
 | .exc _ _ _=>.bad
 | .bad=>.bad
open Classical in
noncomputable def suiteOut (i:Nat)(k:Addr→Addr→Addr→Out):Out:=if h:∃ o,∀ a C d,k a C d=o then unset i h.choose else .bad
theorem suiteOut_of {i:Nat}{k:Addr→Addr→Addr→Out}{o:Out}(h:∀ a C d,k a C d=o):suiteOut i k=unset i o:=by
 have e:∃ o,∀ a C d,k a C d=o:=⟨o,h⟩
 unfold suiteOut
 rw[dif_pos e]
 rw[←e.choose_spec 0 0 0,h 0 0 0]
noncomputable def gTry (cat:List (Str×Bool))(i:Nat)(gb:SM)(gs:Addr→Addr→Addr→SM):SM:=fun N δ μ=>match gb N δ μ with
 | .exc x δ' μ'=>match cat.lookup x.nm with
  | some true=>if x.fs≠[] then suiteOut i fun a C d=>gs a C d N (δ'.set i (some (.dat (.err a C d x.nm x.fs)))) μ' else .bad
  | some false=>.exc x δ' μ'
  | none=>.bad
 | o=>o
section
variable {K:PySem.W.Frag}{W:WX}{ρ:Pm}{G H:Hp}{σ:Slots}{δ:Env}{μ:Mem}
theorem EnvOk.unset (i:Nat)(E:EnvOk K ρ G σ δ):EnvOk K ρ G (σ.set i none) (δ.set i none):=by
 refine⟨by rw[List.length_set,List.length_set];exact E.len,fun j x h=>?_⟩
 by_cases e:i=j
 ·subst e
  by_cases hl:i<δ.length
  ·rw[List.getElem?_set_self hl] at h;cases h
  ·rw[List.getElem?_eq_none (by rw[List.length_set];omega)] at h;cases h
 ·rw[List.getElem?_set_ne e] at h
  obtain⟨v,h1,h2⟩:=E.at_ j x h
  exact⟨v,by rw[List.getElem?_set_ne e];exact h1,h2⟩
theorem PostS.unset {N:Nat}{D:Ends}{o:Out}(i:Nat)(h:PostS K W N ρ G H D (unset i o)) :
  PostS K W N ρ G H { nx:=fun σ' H'=>D.nx (σ'.set i none) H',rt:=D.rt,bk:=fun σ' H'=>D.bk (σ'.set i none) H',ct:=fun σ' H'=>D.ct (σ'.set i none) H' } o:=by
 cases o with
 | next δ' μ'=>exact fun ρ' G' H' σ' t R E=>h ρ' G' H' _ t R (E.unset i)
 | ret r μ'=>exact h
 | brk δ' μ'=>exact fun ρ' G' H' σ' t R E=>h ρ' G' H' _ t R (E.unset i)
 | cnt δ' μ'=>exact fun ρ' G' H' σ' t R E=>h ρ' G' H' _ t R (E.unset i)
 | exc x δ' μ'=>exact h.elim
 | bad=>exact h
end
structure Bg where
 a:Int
 b:Int
 c:Int
 cs:List Int
def Bg.pl (B:Bg):Pl:=.lst [.dat (.int B.a),.dat (.int B.b),.dat (.int B.c),.dat (.lst (B.cs.map D.int))]
structure Bg.ok (B:Bg):Prop where
 a:0≤B.a
 b:0≤B.b
 b':B.b<2147483647
 c:0≤B.c
 cs:∀ z∈B.cs,0≤z
def Bg.cell (B:Bg):Int:=if B.c<B.cs.length then B.cs.getD B.c.toNat 0 else 0
def Bg.fill (B:Bg):Bg:=if B.a=0 then⟨if 1000000000000000000≤B.cell then B.cell else 0,(B.b*48271+B.cell % 2147483647+7919*(B.c+1)) % 2147483647,B.c+1,B.cs⟩ else B
def Bg.low (B:Bg)(m:Int):Int:=((B.b+1)*39373 % 1000000007*((B.b+1)*39373 % 1000000007) % 998244353*30011) % 998244353 / 7 % m
def takeB (B:Bg)(m:Int):Int×Bg:=if 0<B.fill.a then(B.fill.a % m,{ B.fill with a:=B.fill.a / m }) else(B.fill.low m,B.fill)
def gTake:SM :=
  (gSeq (gIf (tmB (eOp dEq (eOp dIx (eVar 0) (eD (.int 0))) (eD (.int 0)))) (gSeq (gAsg 2 (eD (.int 0)))
  (gSeq (gIf (tmB (eOp dLt (eOp dIx (eVar 0) (eD (.int 2))) (eCB (d1 dLen) (aCons (eOp dIx (eVar 0) (eD (.int 3))) aNil)))) (gAsg 2 (eOp dIx (eOp dIx (eVar 0) (eD (.int 3))) (eOp dIx (eVar 0) (eD (.int 2))))) gNext)
  (gSeq (gAugS (fun i j=>i+j) (eVar 0) (eD (.int 2)) (eD (.int 1)))
  (gSeq (gIf (tmB (eOp dGe (eVar 2) (eD (.int 1000000000000000000)))) (gSet (eVar 0) (eD (.int 0)) (eVar 2)) gNext)
  (gSeq (gAsg 3 (eOp dAdd (eOp dAdd (eOp dMul (eOp dIx (eVar 0) (eD (.int 1))) (eD (.int 48271))) (eOp dMod (eCB (d1 dInt) (aCons (eVar 2) aNil)) (eD (.int 2147483647)))) (eOp dMul (eD (.int 7919)) (eOp dIx (eVar 0) (eD (.int 2))))))
  (gSet (eVar 0) (eD (.int 1)) (eOp dMod (eCB (d1 dInt) (aCons (eVar 3) aNil)) (eD (.int 2147483647))))))))) gNext)
  (gSeq (gIf (tmB (eOp dGt (eOp dIx (eVar 0) (eD (.int 0))) (eD (.int 0)))) (gSeq (gAsg 4 (eOp dMod (eCB (d1 dInt) (aCons (eOp dIx (eVar 0) (eD (.int 0))) aNil)) (eVar 1)))
  (gSeq (gSet (eVar 0) (eD (.int 0)) (eOp dDiv (eCB (d1 dInt) (aCons (eOp dIx (eVar 0) (eD (.int 0))) aNil)) (eVar 1)))
  (gRet (eVar 4)))) gNext)
  (gSeq (gAsg 5 (eOp dMod (eCB (d1 dInt) (aCons (eOp dMul (eOp dAdd (eOp dIx (eVar 0) (eD (.int 1))) (eD (.int 1))) (eD (.int 39373))) aNil)) (eD (.int 1000000007))))
  (gSeq (gAsg 6 (eOp dMod (eCB (d1 dInt) (aCons (eOp dMul (eOp dMod (eCB (d1 dInt) (aCons (eOp dMul (eVar 5) (eVar 5)) aNil)) (eD (.int 998244353))) (eD (.int 30011))) aNil)) (eD (.int 998244353))))
  (gRet (eOp dMod (eCB (d1 dInt) (aCons (eOp dDiv (eVar 6) (eD (.int 7))) aNil)) (eVar 1)))))))
theorem dEqB_int (b:Bool)(i j:Int)(μ:Mem):dEqS b (.dat (.int i)) (.dat (.int j)) μ=.ok (.dat (.bl ((i==j)==b))) μ:=by
 simp[dEqS,asStr,dEqB,peekPy,peek,peekK,toPy,SeqAt.shaped,PyData.eqv,PyData.canLay0,PyData.depth]
theorem frz_ofV (x:DV):frz (ofV x)=some x:=by cases x <;> rfl
theorem fill_ok {B:Bg}(h:B.ok):B.fill.ok:=by
 unfold Bg.fill
 split
 ·rename_i e
  have hc:0≤B.cell:=by
   unfold Bg.cell
   split
   ·rw[List.getD_eq_getElem?_getD]
    cases q:B.cs[B.c.toNat]? with
    | none=>exact Int.le_refl 0
    | some z=>exact h.cs z (List.mem_of_getElem? q)
   ·exact Int.le_refl 0
  exact⟨by dsimp only;split <;> omega,by dsimp only;omega,by dsimp only;omega,by dsimp only;have:=h.c;omega,h.cs⟩
 ·exact h
theorem takeB_ok {B:Bg}(h:B.ok){m:Int}(hm:0<m):(takeB B m).2.ok∧0≤(takeB B m).1∧(takeB B m).1<m:=by
 have f:=fill_ok h
 unfold takeB
 split
 ·exact⟨⟨Int.ediv_nonneg f.a (by omega),f.b,f.b',f.c,f.cs⟩,Int.emod_nonneg _ (by omega),Int.emod_lt_of_pos _ hm⟩
 ·exact⟨f,Int.emod_nonneg _ (by omega),Int.emod_lt_of_pos _ hm⟩
def gFill:SM:=(gIf (tmB (eOp dEq (eOp dIx (eVar 0) (eD (.int 0))) (eD (.int 0)))) (gSeq (gAsg 2 (eD (.int 0)))
  (gSeq (gIf (tmB (eOp dLt (eOp dIx (eVar 0) (eD (.int 2))) (eCB (d1 dLen) (aCons (eOp dIx (eVar 0) (eD (.int 3))) aNil)))) (gAsg 2 (eOp dIx (eOp dIx (eVar 0) (eD (.int 3))) (eOp dIx (eVar 0) (eD (.int 2))))) gNext)
  (gSeq (gAugS (fun i j=>i+j) (eVar 0) (eD (.int 2)) (eD (.int 1)))
  (gSeq (gIf (tmB (eOp dGe (eVar 2) (eD (.int 1000000000000000000)))) (gSet (eVar 0) (eD (.int 0)) (eVar 2)) gNext)
  (gSeq (gAsg 3 (eOp dAdd (eOp dAdd (eOp dMul (eOp dIx (eVar 0) (eD (.int 1))) (eD (.int 48271))) (eOp dMod (eCB (d1 dInt) (aCons (eVar 2) aNil)) (eD (.int 2147483647)))) (eOp dMul (eD (.int 7919)) (eOp dIx (eVar 0) (eD (.int 2))))))
  (gSet (eVar 0) (eD (.int 1)) (eOp dMod (eCB (d1 dInt) (aCons (eVar 3) aNil)) (eD (.int 2147483647))))))))) gNext)
theorem pl_lt {μ:Mem}{n:Nat}{p:Pl}(h:μ[n]?=some p):n<μ.length:=(List.getElem?_eq_some_iff.mp h).1
theorem asL_loc {μ:Mem}{n:Nat}{xs:List DV}(h:μ[n]?=some (.lst xs)):asL μ (.loc n)=some xs:=by simp[asL,h]
theorem dIx_loc {μ:Mem}{n:Nat}{xs:List DV}{i:Int}{x:DV}(h:μ[n]?=some (.lst xs))(hx:atI xs i=some x):dIx (.loc n) (.dat (.int i)) μ=.ok (ofV x) μ:=by
 simp[dIx,asI,asS,asL,h,hx]
theorem dIx_lst {μ:Mem}{ds:List D}{i:Int}{d:D}(h:atI ds i=some d):dIx (.dat (.lst ds)) (.dat (.int i)) μ=.ok (.dat d) μ:=by
 have:atI (ds.map DV.dat) i=some (.dat d):=by
  unfold atI at h ⊢
  rw[List.length_map]
  cases q:ixN ds.length i with
  | none=>rw[q] at h;cases h
  | some j=>rw[q] at h;simp only[Option.bind_some] at h ⊢;rw[List.getElem?_map,h];rfl
 simp[dIx,asI,asS,asL,this,ofV]
theorem atI_nat {α:Type}{xs:List α}{k:Nat}{x:α}(h:xs[k]?=some x):atI xs (k:Int)=some x:=by
 have:k<xs.length:=(List.getElem?_eq_some_iff.mp h).1
 unfold atI ixN
 rw[if_pos (by omega),if_pos (by omega)]
 simpa using h
theorem ev_var {δ:Env}{i:Nat}{x:DV}{μ:Mem}(h:δ[i]?=some (some x)):eVar i δ μ=.ok (ofV x) μ:=by unfold eVar;rw[h]
theorem fz_var {δ:Env}{i:Nat}{x:DV}{μ:Mem}(h:δ[i]?=some (some x)):frzV (eVar i) δ μ=.ok x μ:=by unfold frzV;rw[ev_var h];simp[Res.bind,frz_ofV]
theorem fz_D {δ:Env}{d:D}{μ:Mem}:frzV (eD d) δ μ=.ok (.dat d) μ:=rfl
theorem fz_of {f:EM}{δ:Env}{μ μ':Mem}{x:DV}(h:f δ μ=.ok (ofV x) μ'):frzV f δ μ=.ok x μ':=by unfold frzV;rw[h];simp[Res.bind,frz_ofV]
theorem fz_ofD {f:EM}{δ:Env}{μ μ':Mem}{x:D}(h:f δ μ=.ok (.dat x) μ'):frzV f δ μ=.ok (.dat x) μ':=fz_of (x:=.dat x) h
theorem ev_op {g:DV→DV→Mem→Res R}{f h:EM}{δ:Env}{μ μ1 μ2:Mem}{x y:DV}{r:Res R}(h1:frzV f δ μ=.ok x μ1)(h2:frzV h δ μ1=.ok y μ2)(h3:g x y μ2=r):eOp g f h δ μ=r:=by unfold eOp;rw[h1];simp only[Res.bind];rw[h2];exact h3
theorem ev_cb1 {g:List DV→Mem→Res R}{f:EM}{δ:Env}{μ μ1:Mem}{x:DV}{r:Res R}(h1:frzV f δ μ=.ok x μ1)(h2:g [x] μ1=r):eCB g (aCons f aNil) δ μ=r:=by unfold eCB aCons aNil;rw[h1];simp only[Res.bind];exact h2
theorem sq_next {g h:SM}{N:Nat}{δ δ':Env}{μ μ':Mem}{o:Out}(e:g N δ μ=.next δ' μ')(k:h N δ' μ'=o):gSeq g h N δ μ=o:=by unfold gSeq;rw[e];exact k
theorem sq_ret {g h:SM}{N:Nat}{δ:Env}{μ μ':Mem}{r:R}(e:g N δ μ=.ret r μ'):gSeq g h N δ μ=.ret r μ':=by unfold gSeq;rw[e]
theorem tm_of {f:EM}{δ:Env}{μ μ':Mem}{b:Bool}(h:f δ μ=.ok (.dat (.bl b)) μ'):tmB f δ μ=.ok b μ':=by unfold tmB;rw[h];rfl
theorem if_true {ft:TM}{g h:SM}{N:Nat}{δ:Env}{μ μ':Mem}{o:Out}(e:ft δ μ=.ok true μ')(k:g N δ μ'=o):gIf ft g h N δ μ=o:=by unfold gIf;rw[e];exact k
theorem if_false {ft:TM}{g h:SM}{N:Nat}{δ:Env}{μ μ':Mem}{o:Out}(e:ft δ μ=.ok false μ')(k:h N δ μ'=o):gIf ft g h N δ μ=o:=by unfold gIf;rw[e];exact k
theorem asg_ok {f:EM}{i:Nat}{N:Nat}{δ:Env}{μ μ':Mem}{x:DV}(e:frzV f δ μ=.ok x μ'):gAsg i f N δ μ=.next (δ.set i (some x)) μ':=by unfold gAsg;rw[e];rfl
theorem ret_ok {f:EM}{N:Nat}{δ:Env}{μ μ':Mem}{r:R}(e:f δ μ=.ok r μ'):gRet f N δ μ=.ret r μ':=by unfold gRet;rw[e];rfl
theorem set_lp {μ:Mem}{n:Nat}{xs:List DV}{k:Int}{j:Nat}{y:DV}(h:μ[n]?=some (.lst xs))(hk:ixN xs.length k=some j)(hb:belowB n y=true):setPl μ (.loc n) (.dat (.int k)) y=some (μ.set n (.lst (xs.set j y))):=by
 simp[setPl,atPl,h,asI,hk,hb]
theorem set_at {μ:Mem}{n:Nat}{p q:Pl}(h:μ[n]?=some p):(μ.set n q)[n]?=some q:=by rw[List.getElem?_set_self (pl_lt h)]
theorem mul_ok {i j:Int}{μ:Mem}(h:cMul i j=true):dMul (.dat (.int i)) (.dat (.int j)) μ=.ok (.dat (.int (i*j))) μ:=by simp[d2I,asI,h]
theorem mod_ok {i j:Int}{μ:Mem}(h:0<j):dMod (.dat (.int i)) (.dat (.int j)) μ=.ok (.dat (.int (i % j))) μ:=by simp[d2I,asI,h]
theorem div_ok {i j:Int}{μ:Mem}(h:0<j)(h':j<1073741824):dDiv (.dat (.int i)) (.dat (.int j)) μ=.ok (.dat (.int (i / j))) μ:=by simp[d2I,asI,h,h']
theorem add_ok {i j:Int}{μ:Mem}:dAdd (.dat (.int i)) (.dat (.int j)) μ=.ok (.dat (.int (i+j))) μ:=by simp[dAdd,asI]
theorem lt_ok {i j:Int}{μ:Mem}:dLt (.dat (.int i)) (.dat (.int j)) μ=.ok (.dat (.bl (decide (i<j)))) μ:=by simp[d2I,asI]
theorem ge_ok {i j:Int}{μ:Mem}:dGe (.dat (.int i)) (.dat (.int j)) μ=.ok (.dat (.bl (decide (j≤i)))) μ:=by simp[d2I,asI]
theorem gt_ok {i j:Int}{μ:Mem}:dGt (.dat (.int i)) (.dat (.int j)) μ=.ok (.dat (.bl (decide (j<i)))) μ:=by simp[d2I,asI]
theorem int_ok {i:Int}{μ:Mem}:d1 dInt [.dat (.int i)] μ=.ok (.dat (.int i)) μ:=rfl
theorem cMul_r {i j:Int}(h:-2^64<j∧j<2^64):cMul i j=true:=by unfold cMul;rw[decide_eq_true (p:=_∧_) h];simp
theorem cMul_l {i j:Int}(h:-2^64<i∧i<2^64):cMul i j=true:=by unfold cMul;rw[decide_eq_true (p:=_∧_) h];simp
theorem ev_int {f:EM}{δ:Env}{μ μ1:Mem}{i:Int}(h:frzV f δ μ=.ok (.dat (.int i)) μ1):frzV (eCB (d1 dInt) (aCons f aNil)) δ μ=.ok (.dat (.int i)) μ1:=fz_ofD (ev_cb1 h int_ok)
theorem ixN_nat {n k:Nat}(h:k<n):ixN n (k:Int)=some k:=by unfold ixN;rw[if_pos (by omega),if_pos (by omega)];simp
theorem bag_at {μ:Mem}{n:Nat}{xs:List DV}{d:D}{δ:Env}{i:Int}(k:Nat)(h:μ[n]?=some (.lst xs))(hd:δ[0]?=some (some (.loc n)))(hk:xs[k]?=some (.dat d))(hi:i=(k:Int):=by rfl):frzV (eOp dIx (eVar 0) (eD (.int i))) δ μ=.ok (.dat d) μ:=by
 subst hi;exact fz_ofD (ev_op (fz_var hd) fz_D (dIx_loc h (atI_nat hk)))
theorem gset_ok {fe:EM}{δ:Env}{μ μ1:Mem}{n N:Nat}{xs:List DV}{y:D}{i:Int}(k:Nat)(e:frzV fe δ μ=.ok (.dat y) μ1)(h:μ1[n]?=some (.lst xs))(hd:δ[0]?=some (some (.loc n)))(hk:k<xs.length)(hi:i=(k:Int):=by rfl):gSet (eVar 0) (eD (.int i)) fe N δ μ=.next δ (μ1.set n (.lst (xs.set k (.dat y)))):=by
 subst hi
 unfold gSet
 rw[e];simp only[Res.bind];rw[fz_var hd];simp only[Res.bind];rw[fz_D];simp only[]
 rw[set_lp (j:=k) h (ixN_nat hk) rfl];rfl
theorem faug_ok {δ:Env}{μ:Mem}{n N:Nat}{xs:List DV}{i j ki:Int}(k:Nat)(h:μ[n]?=some (.lst xs))(hd:δ[0]?=some (some (.loc n)))(hk:xs[k]?=some (.dat (.int i)))(hk3:k<2^63)(hi:ki=(k:Int):=by rfl):gAugS (fun i j=>i+j) (eVar 0) (eD (.int ki)) (eD (.int j)) N δ μ=.next δ (μ.set n (.lst (xs.set k (.dat (.int (i+j)))))):=by
 subst hi
 have hl:k<xs.length:=(List.getElem?_eq_some_iff.mp hk).1
 have g:getPl μ (.loc n) (.dat (.int k))=some i:=by
  have:(0:Int)≤(k:Int)∧(k:Int)<2^63:=⟨by omega,by exact_mod_cast hk3⟩
  simp[getPl,asL,h,asI,this,hk];omega
 unfold gAugS
 rw[fz_var hd];simp only[Res.bind];rw[fz_D];simp only[];rw[g];simp only[];rw[fz_D];simp only[asI]
 rw[set_lp (j:=k) h (ixN_nat hl) rfl];rfl
theorem fill_spec {B:Bg}(hB:B.ok){μ:Mem}{n N:Nat}{m:DV}(h:μ[n]?=some B.pl):∃ y z,gFill N [some (.loc n),some m,none,none,none,none,none] μ=.next [some (.loc n),some m,y,z,none,none,none] (μ.set n B.fill.pl):=by
 have e0:eOp dEq (eOp dIx (eVar 0) (eD (.int 0))) (eD (.int 0)) [some (.loc n),some m,none,none,none,none,none] μ=.ok (.dat (.bl ((B.a==0)==true))) μ:=ev_op (bag_at 0 h rfl rfl) fz_D (dEqB_int _ _ _ _)
 unfold gFill
 by_cases ha:B.a=0
 ·have e1:((B.a==0)==true)=true:=by simp[ha]
  rw[e1] at e0
  have e2:gIf (tmB (eOp dLt (eOp dIx (eVar 0) (eD (.int 2))) (eCB (d1 dLen) (aCons (eOp dIx (eVar 0) (eD (.int 3))) aNil)))) (gAsg 2 (eOp dIx (eOp dIx (eVar 0) (eD (.int 3))) (eOp dIx (eVar 0) (eD (.int 2))))) gNext N [some (.loc n),some m,some (.dat (.int 0)),none,none,none,none] μ =
    .next [some (.loc n),some m,some (.dat (.int B.cell)),none,none,none,none] μ:=by
   have l:eCB (d1 dLen) (aCons (eOp dIx (eVar 0) (eD (.int 3))) aNil) [some (.loc n),some m,some (.dat (.int 0)),none,none,none,none] μ=.ok (.dat (.int B.cs.length)) μ :=
    ev_cb1 (bag_at 3 h rfl rfl) (by simp[d1,dLen,asS,asL])
   have t:eOp dLt (eOp dIx (eVar 0) (eD (.int 2))) (eCB (d1 dLen) (aCons (eOp dIx (eVar 0) (eD (.int 3))) aNil)) [some (.loc n),some m,some (.dat (.int 0)),none,none,none,none] μ=.ok (.dat (.bl (decide (B.c<B.cs.length)))) μ :=
    ev_op (bag_at 2 h rfl rfl) (fz_ofD l) lt_ok
   by_cases c:B.c<B.cs.length
   ·rw[decide_eq_true c] at t
    have hc:=hB.c
    have hl:B.c.toNat<B.cs.length:=by omega
    have g:B.cs[B.c.toNat]?=some B.cell:=by
     unfold Bg.cell;rw[if_pos c,List.getD_eq_getElem?_getD,List.getElem?_eq_getElem hl];rfl
    have w:dIx (.dat (.lst (B.cs.map D.int))) (.dat (.int B.c)) μ=.ok (.dat (.int B.cell)) μ:=by
     have:B.c=((B.c.toNat:Nat):Int):=by omega
     rw[this]
     exact dIx_lst (atI_nat (by rw[List.getElem?_map,g];rfl))
    exact if_true (tm_of t) (asg_ok (fz_ofD (ev_op (bag_at 3 h rfl rfl) (bag_at 2 h rfl rfl) w)))
   ·rw[decide_eq_false c] at t
    have:B.cell=0:=by unfold Bg.cell;rw[if_neg c]
    rw[this]
    exact if_false (tm_of t) rfl
  have h2:=set_at (q:=.lst [.dat (.int B.a),.dat (.int B.b),.dat (.int (B.c+1)),.dat (.lst (B.cs.map D.int))]) h
  have e3:gIf (tmB (eOp dGe (eVar 2) (eD (.int 1000000000000000000)))) (gSet (eVar 0) (eD (.int 0)) (eVar 2)) gNext N [some (.loc n),some m,some (.dat (.int B.cell)),none,none,none,none] (μ.set n (.lst [.dat (.int B.a),.dat (.int B.b),.dat (.int (B.c+1)),.dat (.lst (B.cs.map D.int))])) =
    .next [some (.loc n),some m,some (.dat (.int B.cell)),none,none,none,none] (μ.set n (.lst [.dat (.int (if 1000000000000000000≤B.cell then B.cell else 0)),.dat (.int B.b),.dat (.int (B.c+1)),.dat (.lst (B.cs.map D.int))])):=by
   have t:eOp dGe (eVar 2) (eD (.int 1000000000000000000)) [some (.loc n),some m,some (.dat (.int B.cell)),none,none,none,none] (μ.set n (.lst [.dat (.int B.a),.dat (.int B.b),.dat (.int (B.c+1)),.dat (.lst (B.cs.map D.int))]))=.ok (.dat (.bl (decide (1000000000000000000≤B.cell)))) (μ.set n (.lst [.dat (.int B.a),.dat (.int B.b),.dat (.int (B.c+1)),.dat (.lst (B.cs.map D.int))])) :=
    ev_op (fz_var (i:=2) rfl) fz_D ge_ok
   by_cases c:1000000000000000000≤B.cell
   ·rw[decide_eq_true c] at t
    rw[if_pos c]
    refine if_true (tm_of t) ((gset_ok 0 (fz_var (i:=2) (x:=.dat (.int B.cell)) rfl) h2 rfl (by simp)).trans ?_)
    rw[List.set_set];rfl
   ·rw[decide_eq_false c] at t
    rw[if_neg c]
    rw[ha] at t ⊢
    exact if_false (tm_of t) rfl
  have h3:=set_at (q:=.lst [.dat (.int (if 1000000000000000000≤B.cell then B.cell else 0)),.dat (.int B.b),.dat (.int (B.c+1)),.dat (.lst (B.cs.map D.int))]) h
  refine⟨some (.dat (.int B.cell)),some (.dat (.int (B.b*48271+B.cell % 2147483647+7919*(B.c+1)))),?_⟩
  refine if_true (tm_of e0) (sq_next (asg_ok fz_D) (sq_next e2 (sq_next (faug_ok 2 h rfl rfl (by decide)) (sq_next e3 ?_))))
  have fe:B.fill.pl=.lst [.dat (.int (if 1000000000000000000≤B.cell then B.cell else 0)),.dat (.int ((B.b*48271+B.cell % 2147483647+7919*(B.c+1)) % 2147483647)),.dat (.int (B.c+1)),.dat (.lst (B.cs.map D.int))]:=by
   unfold Bg.fill;rw[if_pos ha];rfl
  rw[fe]
  generalize hz:μ.set n (.lst [.dat (.int (if 1000000000000000000≤B.cell then B.cell else 0)),.dat (.int B.b),.dat (.int (B.c+1)),.dat (.lst (B.cs.map D.int))])=μ3 at h3
  refine sq_next (asg_ok (x:=.dat (.int (B.b*48271+B.cell % 2147483647+7919*(B.c+1)))) (fz_ofD (ev_op (fz_ofD (ev_op (fz_ofD (ev_op (bag_at 1 h3 rfl rfl) fz_D (mul_ok (cMul_r (by decide)))))
   (fz_ofD (ev_op (ev_int (fz_var (i:=2) (x:=.dat (.int B.cell)) rfl)) fz_D (mod_ok (by decide)))) add_ok)) (fz_ofD (ev_op fz_D (bag_at 2 h3 rfl rfl) (mul_ok (cMul_l (by decide))))) add_ok))) ?_
  refine(gset_ok 1 (fz_ofD (ev_op (ev_int (fz_var (i:=3) (x:=.dat (.int (B.b*48271+B.cell % 2147483647+7919*(B.c+1)))) rfl)) fz_D (mod_ok (by decide)))) h3 rfl (by simp)).trans ?_
  rw[←hz,List.set_set];rfl
 ·have e1:((B.a==0)==true)=false:=by simp[ha]
  rw[e1] at e0
  refine⟨none,none,if_false (tm_of e0) ?_⟩
  unfold Bg.fill;rw[if_neg ha]
  show Out.next _ μ=_
  rw[show μ.set n B.pl=μ from by
   apply List.ext_getElem?
   intro i
   by_cases c:n=i
   ·subst c;rw[set_at h,h]
   ·rw[List.getElem?_set_ne c]]
theorem take_len {μ:Mem}{n:Nat}{p:Pl}:(μ.set n p).take μ.length=μ.set n p:=List.take_of_length_le (by rw[List.length_set];exact Nat.le_refl _)
theorem call_ret {g:SM}{k m:Nat}{xs:List DV}{μ μ':Mem}{r:R}{o:Res R}(hk:xs.length=k)(h:g μ.length (xs.map some++List.replicate m none) μ=.ret r μ')(hc:closeR μ.length r μ'=o):callD g k m xs μ=o:=by
 unfold callD;rw[if_pos hk];unfold callF;rw[h];exact hc
theorem take_spec {B:Bg}(hB:B.ok){μ:Mem}{n:Nat}{m:Int}(h:μ[n]?=some B.pl)(hm:0<m)(hm':m<1073741824) :
  callD gTake 2 5 [.loc n,.dat (.int m)] μ=.ok (.dat (.int (takeB B m).1)) (μ.set n (takeB B m).2.pl):=by
 obtain⟨y,z,hf⟩:=fill_spec hB (N:=μ.length) (m:=.dat (.int m)) h
 have h1:=set_at (q:=B.fill.pl) h
 have f:=fill_ok hB
 have key:gTake μ.length [some (.loc n),some (.dat (.int m)),none,none,none,none,none] μ=.ret (.dat (.int (takeB B m).1)) (μ.set n (takeB B m).2.pl):=by
  refine sq_next hf ?_
  have t:eOp dGt (eOp dIx (eVar 0) (eD (.int 0))) (eD (.int 0)) [some (.loc n),some (.dat (.int m)),y,z,none,none,none] (μ.set n B.fill.pl)=.ok (.dat (.bl (decide (0<B.fill.a)))) (μ.set n B.fill.pl) :=
   ev_op (bag_at 0 h1 rfl rfl) fz_D gt_ok
  by_cases c:0<B.fill.a
  ·rw[decide_eq_true c] at t
   have tk:takeB B m=(B.fill.a % m,{ B.fill with a:=B.fill.a / m }):=by unfold takeB;rw[if_pos c]
   rw[tk]
   refine sq_ret (if_true (tm_of t) (sq_next (asg_ok (fz_ofD (ev_op (ev_int (bag_at 0 h1 rfl rfl)) (fz_var (i:=1) (x:=.dat (.int m)) rfl) (mod_ok hm))))
    (sq_next (gset_ok 0 (fz_ofD (ev_op (ev_int (bag_at 0 h1 rfl rfl)) (fz_var (i:=1) (x:=.dat (.int m)) rfl) (div_ok hm hm'))) h1 rfl (by simp[Bg.pl]))
     ((ret_ok (ev_var (i:=4) (x:=.dat (.int (B.fill.a % m))) rfl)).trans ?_))))
   rw[List.set_set];rfl
  ·rw[decide_eq_false c] at t
   have tk:takeB B m=(B.fill.low m,B.fill):=by unfold takeB;rw[if_neg c]
   rw[tk]
   refine sq_next (if_false (tm_of t) rfl) ?_
   have hb:=f.b
   have hb':=f.b'
   have q1:0≤(B.fill.b+1)*39373 % 1000000007∧(B.fill.b+1)*39373 % 1000000007<1000000007:=by omega
   refine sq_next (asg_ok (fz_ofD (ev_op (ev_int (fz_ofD (ev_op (fz_ofD (ev_op (bag_at 1 h1 rfl rfl) fz_D add_ok)) fz_D (mul_ok (cMul_r (by decide)))))) fz_D (mod_ok (by decide))))) ?_
   unfold Bg.low
   generalize (B.fill.b+1)*39373 % 1000000007=e at q1
   refine sq_next (asg_ok (fz_ofD (ev_op (ev_int (fz_ofD (ev_op (fz_ofD (ev_op (ev_int (fz_ofD (ev_op (fz_var (i:=5) (x:=.dat (.int e)) rfl) (fz_var (i:=5) (x:=.dat (.int e)) rfl) (mul_ok (cMul_r (by omega)))))) fz_D (mod_ok (by decide)))) fz_D (mul_ok (cMul_r (by decide)))))) fz_D (mod_ok (by decide))))) ?_
   exact ret_ok (ev_op (ev_int (fz_ofD (ev_op (fz_var (i:=6) (x:=.dat (.int (e*e % 998244353*30011 % 998244353))) rfl) fz_D (div_ok (by decide) (by decide))))) (fz_var (i:=1) (x:=.dat (.int m)) rfl) (mod_ok hm))
 refine call_ret rfl key ?_
 show Res.ok _ (List.take _ _)=_
 rw[take_len]
structure Fit (k w:Nat)(p:PyData):Prop where
 lay:p.canLay0=true
 dep:p.depth≤k
 wt:p.weight≤w
 sh:p.showable=true
 is:p.intsShort 13=true
theorem Fit.mono {k k' w w':Nat}{p:PyData}(h:Fit k w p)(hk:k≤k')(hw:w≤w'):Fit k' w' p:=⟨h.lay,Nat.le_trans h.dep hk,Nat.le_trans h.wt hw,h.sh,h.is⟩
theorem Fit.shaped {k w:Nat}{p:PyData}(h:Fit k w p)(hk:k≤64):SeqAt.shaped p=true:=by
 unfold SeqAt.shaped;rw[h.lay,decide_eq_true (Nat.le_trans h.dep hk)];rfl
theorem Fit.shown {k w:Nat}{p:PyData}(h:Fit k w p)(hk:k≤64)(hw:w≤2^20):p.shown.length≤sizeLine :=
 PyData.shown_fits_of_layable0 (B:=13) (by decide) (by decide) (by unfold PyData.layable0;rw[h.lay,decide_eq_true (Nat.le_trans h.dep hk),decide_eq_true (Nat.le_trans h.wt hw)];rfl) h.is
theorem eq_str {b:Bool}{s t:Str}{μ:Mem}:dEqS b (.dat (.str s)) (.dat (.str t)) μ=.ok (.dat (.bl (decide (s=t)==b))) μ:=rfl
theorem tyL_loc {μ:Mem}{n:Nat}{xs:List DV}(h:μ[n]?=some (.lst xs)):tyL (.loc n) μ=true:=by unfold tyL;rw[asL_loc h];rfl
theorem app_ok {μ:Mem}{n:Nat}{ys:List DV}{y:DV}(h:μ[n]?=some (.lst ys))(hl:ys.length<sizeLine)(hb:belowB n y=true):dAppend (.loc n) [y] μ=.ok (.dat .non) (μ.set n (.lst (ys++[y]))):=by
 simp only[dAppend,atPl,h];rw[if_pos ⟨hl,hb⟩]
theorem len_lst {μ:Mem}{ds:List D}:d1 dLen [.dat (.lst ds)] μ=.ok (.dat (.int ds.length)) μ:=by simp[d1,dLen,asS,asL]
def gBag:SM:=(gRet (eLst (aCons (eD (.int 0)) (aCons (eD (.int 1234567891)) (aCons (eD (.int 0)) (aCons (eLc (imSeq (eSl (eVar 0) oNone (oSome (eD (.int 63))))) (tgName 1) tmYes (eCB (d1 dAbs) (aCons (eVar 1) aNil)) [1]) aNil))))))
def bag0 (ns:List Int):Bg:=⟨0,1234567891,0,(ns.take 63).map fun i=>if i<0 then -i else i⟩
theorem bag0_ok (ns:List Int):(bag0 ns).ok:=⟨Int.le_refl 0,by show(0:Int)≤1234567891;decide,by show(1234567891:Int)<2147483647;decide,Int.le_refl 0,fun z hz=>by
 obtain⟨i,_,rfl⟩:=List.mem_map.mp hz
 split <;> omega⟩
theorem lc_bag {d0:D}{μ:Mem}:∀ (is:List Int),lcL (tgName 1) tmYes (eCB (d1 dAbs) (aCons (eVar 1) aNil)) [some (.dat d0),none] (is.map D.int) μ=.ok (is.map fun i=>.dat (.int (if i<0 then -i else i))) μ
 | []=>rfl
 | i::is=>by
  have e:frzV (eCB (d1 dAbs) (aCons (eVar 1) aNil)) [some (.dat d0),some (.dat (.int i))] μ=.ok (.dat (.int (if i<0 then -i else i))) μ:=fz_ofD (ev_cb1 (fz_var (i:=1) rfl) rfl)
  have ih:=lc_bag (d0:=d0) (μ:=μ) is
  simp only[List.map_cons,lcL,tgName,tmYes,List.set_cons_succ,List.set_cons_zero,e,ih,Res.bind]
theorem bag_spec {ns:List Int}{μ:Mem}:callD gBag 1 1 [.dat (.fro (ns.map D.int))] μ=.ok (.nl [.dat (.int (bag0 ns).a),.dat (.int (bag0 ns).b),.dat (.int (bag0 ns).c),.dat (.lst ((bag0 ns).cs.map D.int))]) μ:=by
 have e1:eLc (imSeq (eSl (eVar 0) oNone (oSome (eD (.int 63))))) (tgName 1) tmYes (eCB (d1 dAbs) (aCons (eVar 1) aNil)) [1] [some (.dat (.fro (ns.map D.int))),none] μ=.ok (.nl ((bag0 ns).cs.map fun i=>.dat (.int i))) μ:=by
  have s:imSeq (eSl (eVar 0) oNone (oSome (eD (.int 63)))) [some (.dat (.fro (ns.map D.int))),none] μ=.ok ((ns.take 63).map D.int) μ:=by
   have q:eSl (eVar 0) oNone (oSome (eD (.int 63))) [some (.dat (.fro (ns.map D.int))),none] μ=.ok (.nl (((ns.take 63).map D.int).map DV.dat)) μ:=by
    unfold eSl;rw[fz_var (i:=0) (x:=.dat (.fro (ns.map D.int))) rfl]
    simp only[Res.bind,oNone,oSome,fz_D,asI,dSl,asL]
    congr 2
    unfold cutL
    rw[HT.sIx_none,show(some (63:Int))=some ((63:Nat):Int) from rfl,HT.sIx_nat]
    simp[List.map_take]
   unfold imSeq frzV
   rw[q]
   simp only[Res.bind,frz]
   rw[allDat_map]
   rfl
  unfold eLc
  rw[s]
  simp only[Res.bind]
  rw[if_pos (by simp;exact Nat.le_trans (Nat.min_le_left _ _) (by decide))]
  show Res.bind (lcL _ _ _ [some (.dat (.fro (ns.map D.int))),none] _ _) _=_
  rw[lc_bag]
  simp[Res.bind,bag0,Function.comp_def]
 refine call_ret rfl (ret_ok (r:=.nl [.dat (.int (bag0 ns).a),.dat (.int (bag0 ns).b),.dat (.int (bag0 ns).c),.dat (.lst ((bag0 ns).cs.map D.int))]) (μ':=μ) ?_) ?_
 ·have e2:frzV (eLc (imSeq (eSl (eVar 0) oNone (oSome (eD (.int 63))))) (tgName 1) tmYes (eCB (d1 dAbs) (aCons (eVar 1) aNil)) [1]) [some (.dat (.fro (ns.map D.int))),none] μ=.ok (.dat (.lst ((bag0 ns).cs.map D.int))) μ:=by
   unfold frzV;rw[e1];simp only[Res.bind,frz]
   rw[show((bag0 ns).cs.map fun i=>DV.dat (D.int i))=((bag0 ns).cs.map D.int).map DV.dat by simp,allDat_map];rfl
  show eLst _ [some (.dat (.fro (ns.map D.int))),none] μ=_
  generalize (eLc (imSeq (eSl (eVar 0) oNone (oSome (eD (.int 63))))) (tgName 1) tmYes (eCB (d1 dAbs) (aCons (eVar 1) aNil)) [1])=ff at *
  unfold eLst aCons aNil
  simp only[fz_D,Res.bind,e2]
  rw[if_pos (by simp;decide)]
  rfl
 ·unfold closeR
  simp only
  rw[if_pos (show belowA _ _=true from rfl),List.take_length]
theorem sl_lst {ds:List D}{l u:Option Int}{μ:Mem}:dSl (.dat (.lst ds)) l u μ=.ok (.nl ((cutL ds l u).map DV.dat)) μ:=by
 simp only[dSl,asL];congr 2;unfold cutL;simp[List.map_drop,List.map_take]
theorem dIx_tup {μ:Mem}{ds:List D}{i:Int}{d:D}(h:atI ds i=some d):dIx (.dat (.tup ds)) (.dat (.int i)) μ=.ok (.dat d) μ:=by
 have:atI (ds.map DV.dat) i=some (.dat d):=by
  unfold atI at h ⊢
  rw[List.length_map]
  cases q:ixN ds.length i with
  | none=>rw[q] at h;cases h
  | some j=>rw[q] at h;simp only[Option.bind_some] at h ⊢;rw[List.getElem?_map,h];rfl
 simp[dIx,asI,asS,asL,asT,this,ofV]
theorem flats_str:∀ ss:List Str,flats (ss.map fun s=>.dat (.str s))=some (ss.map V.str)
 | []=>rfl
 | s::ss=>by simp[flats,flat,flats_str ss]
theorem inV_str (s:Str)(ss:List Str):inV (.str s) (ss.map V.str)=decide (s∈ss):=by
 induction ss with
 | nil=>rfl
 | cons t ss ih =>
  unfold inV at ih ⊢
  rw[List.map_cons,List.any_cons,ih]
  have:eqV (V.str t) (V.str s)=decide (t=s):=by
   show(t==s)=_
   by_cases c:t=s
   ·subst c;simp
   ·rw[decide_eq_false c];exact beq_false_of_ne c
  rw[this]
  by_cases c:t=s
  ·subst c;simp
  ·have c':¬s=t:=fun h=>c h.symm
   simp[c,c']
theorem in_tup {neg:Bool}{s:Str}{ss:List Str}{μ:Mem}:dIn neg (.dat (.str s)) (.dat (.tup (ss.map D.str))) μ=.ok (.dat (.bl (if neg=true then !decide (s∈ss) else decide (s∈ss)))) μ:=by
 have:(ss.map D.str).map DV.dat=ss.map fun s=>.dat (.str s):=by simp
 simp only[dIn,flat,asS,asL,asT,Option.map,this,flats_str,inV_str]
theorem add_lst {a b:List D}{μ:Mem}(h:a.length+b.length≤sizeLine):dAdd (.dat (.lst a)) (.dat (.lst b)) μ=.ok (.nl ((a++b).map DV.dat)) μ:=by
 simp only[dAdd,asI,asStr,asT,asM,List.length_map];rw[if_pos h,List.map_append]
theorem close_dat {d:D}{μ μ':Mem}{N:Nat}(h:μ'.take N=μ):closeR N (.dat d) μ'=.ok (.dat d) μ:=by unfold closeR;simp only;rw[h]
theorem tuple_lst {ds:List D}{μ:Mem}:d1 dTuple [.dat (.lst ds)] μ=.ok (.dat (.tup ds)) μ:=by simp only[d1,dTuple,asL,allDat_map]
section
variable {P:Program}{w:World}{K:PySem.W.Frag}{mg:Str→Option Value}{base:Heap}
theorem fn_okG {x qual:Str}{st:Stmt}{f:Addr}{fd:FuncData}{Nm ps:List Str}{k n m:Nat}{g:SM}(F:Fun K x qual st f fd)(S:FnScope Nm ps (defScope st))(hn:ps.length=n)(hmn:Nm.length=n+m)
  (body:∀ (cdv:Value) (A:Around) (out:List PySem.Env) (s:Shared) (H:Hp) (E:XK),Room k (A.deeper (envOfC qual (defScope st) s.heap.objs.size f cdv))→A.guards=some [] →
   ∃ ts,PSMs (cxOf CX0 P w K mg base Nm qual (defScope st) f cdv A out s H E).nox (fun cls d _ H=>E cls d H) (defBody st) ts g) :
  FnG P w K mg base CX0 (k+1) f fd ps (spF K n (callD g n m)):=by
 obtain⟨oc,od,kV,doc,pm,an,cdv,ct,osl,rfl,lk,hcd⟩:=F.ex
 refine fnG_of lk hcd S (fun vs H Q E h=>by rw[h.1,hn]) fun A out s H vs Q E hr hg hsp=>?_
 obtain⟨ts,b⟩:=body cdv A out s H E hr hg
 refine⟨ts,b.ps.nox,?_⟩
 have e:Nm.length-n=m:=by omega
 exact body_ok (n:=n) b.sd (by omega) (by rw[e];exact sp_callD hsp)
theorem rpl_ints {G:Hp}:∀ ns:List Int,RpL K G (ns.map V.int) (ns.map D.int)
 | []=>.nil
 | i::ns=>.cons (.int i) (rpl_ints ns)
theorem law_sp {H:Hp}{a:Addr}{ns:List Int}{F:List DV→Mem→Res R}(hS:SqL K H a (ns.map V.int)){μ':Mem}(h:F [.dat (.fro (ns.map D.int))] []=.ok (.dat (.bl true)) μ') :
  spF K 1 F [.ref a] H (fun v _=>v=.bl true) (fun _ _ _=>False):=by
 refine⟨rfl,fun _=>none,H,[],[.dat (.fro (ns.map D.int))],⟨Ex.refl _,(fun _ _ _ h=>by cases h),(fun _ _ h=>by cases h),(fun _ _ h=>by cases h),(fun _ _ h=>by cases h),(fun _ _ h=>by simp at h)⟩,.cons (Rp.fro hS (rpl_ints ns)) .nil,?_⟩
 rw[h]
 intro G' H' v t R q
 cases q;rfl
end
section
variable {P:Program}{w:World}{K:PySem.W.Frag}{mg:Str→Option Value}{base:Heap}
end
section
variable {X:Cx}{W:WX}{a C d:Addr}{oe:Obj}{pn:List (Addr×Obj)}{n:Str}{p p1 p2 pos:Pos}
end
theorem tabE_nil {K:PySem.W.Frag}{cv:Value}:TabE K cv []:=fun _ _ e=>by cases e
theorem tabE_cons {K:PySem.W.Frag}{cv:Value}{nm:Str}{b:Bool}{C:Addr}{r:List (Str×Bool)}(hC:ClsAt K nm C)(h1:ExcC K C)(h2:PySem.W.kitOne K (.ref C) cv=some b)(h:TabE K cv r):TabE K cv ((nm,b)::r):=fun nm' b' e C' hC'=>by
 rw[List.lookup_cons] at e
 cases q:nm'==nm with
 | true=>rw[q] at e;cases e;cases eq_of_beq q;cases hC.uniq hC';exact⟨h1,h2⟩
 | false=>rw[q] at e;exact h nm' b' e C' hC'
theorem kit_same {K:PySem.W.Frag}{C:Addr}:PySem.W.kitOne K (.ref C) (.ref C)=some true:=by
 unfold PySem.W.kitOne;rw[if_pos (by simp)]
end DL
namespace DR
open PySem PyProof.Rows
mutual
inductive Rs (h:Heap):Value→PyData→Prop
 | none:Rs h .none .none
 | bool (b):Rs h (.bool b) (.bool b)
 | int (i t):Rs h (.int i t) (.int i)
 | str (x t):Rs h (.str x t) (.str x)
 | list {a o vs n xs}:h.get? a=some o→o.cls=.type "list"→o.data=.seq vs n→RsAll h vs.toList xs→Rs h (.ref a) (.list xs)
 | tuple {a o vs n xs}:h.get? a=some o→o.cls=.type "tuple"→o.data=.seq vs n→RsAll h vs.toList xs→Rs h (.ref a) (.tuple xs)
 | dict {a o es n} {kvs:List (PyData×PyData)}:h.get? a=some o→o.cls=.type "dict"→o.data=.dict es n→(a==sysModules)=false→RsAll h (es.toList.map (·.key)) (kvs.map (·.1)) →
   RsAll h (es.toList.map (·.val)) (kvs.map (·.2))→Rs h (.ref a) (.dict kvs)
inductive RsAll (h:Heap):List Value→List PyData→Prop
 | nil:RsAll h [] []
 | cons {v vs d ds}:Rs h v d→RsAll h vs ds→RsAll h (v::vs) (d::ds)
end
section
variable {h:Heap}{prog:Program}{w:World}
mutual
theorem Rs.reads:∀ {v:Value} {d:PyData},Rs h v d→∃ as,Reads h v d as
 | _,_,.none=>⟨_,.none⟩
 | _,_,.bool b=>⟨_,.bool b⟩
 | _,_,.int i t=>⟨_,.int i t⟩
 | _,_,.str x t=>⟨_,.str x t⟩
 | _,_,.list h1 h2 h3 h4=>let ⟨_,r⟩:=RsAll.reads h4;⟨_,.list h1 h2 h3 r⟩
 | _,_,.tuple h1 h2 h3 h4=>let ⟨_,r⟩:=RsAll.reads h4;⟨_,.tuple h1 h2 h3 r⟩
 | _,_,.dict h1 h2 h3 _ h4 h5=>let ⟨_,r⟩:=RsAll.reads h4;let ⟨_,r'⟩:=RsAll.reads h5;⟨_,.dict h1 h2 h3 r r'⟩
theorem RsAll.reads:∀ {vs:List Value} {ds:List PyData},RsAll h vs ds→∃ as,ReadsAll h vs ds as
 | _,_,.nil=>⟨_,.nil⟩
 | _,_,.cons a b=>let ⟨_,r⟩:=Rs.reads a;let ⟨_,r'⟩:=RsAll.reads b;⟨_,.cons r r'⟩
end
mutual
theorem Rs.reprK:∀ {v:Value} {d:PyData},Rs h v d→d.showable=true→d.shown.length≤sizeLine→∃ bs,ReadAtMost h d.depth bs∧ReprK prog w bs h d.depth v d.shown
 | _,_,.none,_,_=>⟨[],(fun _ h=>nomatch h),by simp only[PyData.shown];exact .of_is ReprIs.none _ _ _⟩
 | _,_,.bool b,_,_=>⟨[],(fun _ h=>nomatch h),by simp only[PyData.shown];exact .of_is (ReprIs.bool b) _ _ _⟩
 | _,_,.int i t,hs,_=>⟨[],(fun _ h=>nomatch h),by simp only[PyData.shown];exact .of_is (ReprIs.int t (by simpa [PyData.showable] using hs)) _ _ _⟩
 | _,_,.str x t,_,hz=>⟨[],(fun _ h=>nomatch h),by simp only[PyData.shown];exact .of_is (ReprIs.str x t (by simpa only[PyData.shown] using hz)) _ _ _⟩
 | _,_,.list (a:=a) (vs:=vs) (xs:=xs) h1 h2 h3 h4,hs,hz=>by
  have hz':(listText (PyData.shownAll xs)).length≤sizeLine:=by simpa only[PyData.shown] using hz
  obtain⟨bs,hb,hk⟩:=RsAll.reprK h4 (by simpa [PyData.showable] using hs) fun t ht=>Nat.le_trans (listText_mem_le ht) hz'
  obtain⟨as,r4⟩:=RsAll.reads h4
  have r:Reads h (.ref a) (.list xs) _:=.list h1 h2 h3 r4
  have hna:a∉bs:=not_mem_of_deeper r (by simp only[PyData.depth];omega) hb
  refine⟨a::bs,ReadAtMost.cons r (by simp only[PyData.depth];omega) hb,?_⟩
  simp only[PyData.depth,PyData.shown]
  obtain⟨l⟩:=vs
  cases l with
  | nil =>
   have h4':RsAll h [] xs:=h4
   cases h4'
   simp only[PyData.shownAll,listText_nil]
   exact ReprK.listEmpty h1 h2 h3
  | cons x l=>exact ReprK.list h1 h2 h3 hna (by simpa using hk.length_eq) (fun i y e=>hk.item i y (by simpa using e))
 | _,_,.tuple (a:=a) (xs:=xs) h1 h2 h3 h4,hs,hz=>by
  have hz':(tupleText (PyData.shownAll xs)).length≤sizeLine:=by simpa only[PyData.shown] using hz
  obtain⟨bs,hb,hk⟩:=RsAll.reprK h4 (by simpa [PyData.showable] using hs) fun t ht=>Nat.le_trans (tupleText_mem_le ht) hz'
  obtain⟨as,r4⟩:=RsAll.reads h4
  have r:Reads h (.ref a) (.tuple xs) _:=.tuple h1 h2 h3 r4
  have hna:a∉bs:=not_mem_of_deeper r (by simp only[PyData.depth];omega) hb
  refine⟨a::bs,ReadAtMost.cons r (by simp only[PyData.depth];omega) hb,?_⟩
  simp only[PyData.depth,PyData.shown]
  exact ReprK.tuple h1 h2 h3 hna hk
 | _,_,.dict (a:=a) (es:=es) (kvs:=kvs) h1 h2 h3 hsys h4 h5,hs,hz=>by
  have hz':(dictText (PyData.shownKv kvs)).length≤sizeLine:=by simpa only[PyData.shown] using hz
  obtain⟨hs1,hs2⟩:=PyData.showableKv_split kvs (by simpa [PyData.showable] using hs)
  obtain⟨b1,hb1,k1⟩:=RsAll.reprK h4 hs1 fun t ht=>let ⟨p,hp,hl⟩:=PyData.shownKv_key_le kvs t ht;Nat.le_trans hl (Nat.le_trans (dictText_mem_le hp) hz')
  obtain⟨b2,hb2,k2⟩:=RsAll.reprK h5 hs2 fun t ht=>let ⟨p,hp,hl⟩:=PyData.shownKv_val_le kvs t ht;Nat.le_trans hl (Nat.le_trans (dictText_mem_le hp) hz')
  obtain⟨as4,r4⟩:=RsAll.reads h4
  obtain⟨as5,r5⟩:=RsAll.reads h5
  have r:Reads h (.ref a) (.dict kvs) _:=.dict h1 h2 h3 r4 r5
  have hb:ReadAtMost h (PyData.depthKv kvs) (b1++b2):=(hb1.mono (PyData.depthAll_keys_le kvs)).append (hb2.mono (PyData.depthAll_vals_le kvs))
  have hna:a∉b1++b2:=not_mem_of_deeper r (by simp only[PyData.depth];omega) hb
  refine⟨a::(b1++b2),ReadAtMost.cons r (by simp only[PyData.depth];omega) hb,?_⟩
  simp only[PyData.depth,PyData.shown,PyData.shownKv_eq]
  exact ReprK.dict h1 h2 h3 hsys hna (ReprEntriesK.of_two es.toList _ _
   (k1.more_le (fun b hb=>List.mem_append_left _ hb) (PyData.depthAll_keys_le kvs)) (k2.more_le (fun b hb=>List.mem_append_right _ hb) (PyData.depthAll_vals_le kvs)))
theorem RsAll.reprK:∀ {vs:List Value} {ds:List PyData},RsAll h vs ds→PyData.showableAll ds=true→(∀ t∈PyData.shownAll ds,t.length≤sizeLine) →
  ∃ bs,ReadAtMost h (PyData.depthAll ds) bs∧ReprAllK prog w bs h (PyData.depthAll ds) vs (PyData.shownAll ds)
 | _,_,.nil,_,_=>⟨[],(fun _ h=>nomatch h),by simp only[PyData.shownAll];exact .nil⟩
 | _,_,.cons (d:=d) (ds:=ds) r rs,hs,hz=>by
  have hs':d.showable=true∧PyData.showableAll ds=true:=by simpa [PyData.showableAll] using hs
  obtain⟨b1,hb1,k1⟩:=Rs.reprK r hs'.1 (hz _ (by simp only[PyData.shownAll];exact List.mem_cons_self ..))
  obtain⟨b2,hb2,k2⟩:=RsAll.reprK rs hs'.2 fun t ht=>hz t (by simp only[PyData.shownAll];exact List.mem_cons_of_mem _ ht)
  refine⟨b1++b2,?_,?_⟩
  ·intro b hm
   simp only[PyData.depthAll]
   rcases List.mem_append.mp hm with hm|hm
   ·obtain⟨d',as',r',hd'⟩:=hb1 b hm
    exact⟨d',as',r',Nat.le_trans hd' (Nat.le_max_left _ _)⟩
   ·obtain⟨d',as',r',hd'⟩:=hb2 b hm
    exact⟨d',as',r',Nat.le_trans hd' (Nat.le_max_right _ _)⟩
  ·simp only[PyData.depthAll,PyData.shownAll]
   exact .cons ((k1.more fun b hb=>List.mem_append_left _ hb).level_le (Nat.le_max_left _ _)) (k2.more_le (fun b hb=>List.mem_append_right _ hb) (Nat.le_max_right _ _))
end
end
end DR
namespace DR
open PySem PyProof.Rows
section
variable {prog:Program}{w:World}{h₀:Heap}{a:Addr}{d:PyData}
end
end DR
namespace DL
open PySem PySem.Spec PyProof.Rows L2 DR
def keyPy:Key→PyData
 | .inl i=>.int i
 | .inr s=>.str s
mutual
def toPyK:D→Option PyData
 | .non=>some .none
 | .bl b=>some (.bool b)
 | .int i=>some (.int i)
 | .str s=>some (.str s)
 | .tup xs=>(toPyKL xs).map .tuple
 | .lst xs=>(toPyKL xs).map .list
 | .fro xs=>(toPyKL xs).map .list
 | .dct kvs=>(toPyKv kvs).map .dict
 | .ty _=>none
 | .ref _=>none
 | .ins _ _=>none
 | .err _ _ _ _ _=>none
 | .eo _=>none
def toPyKL:List D→Option (List PyData)
 | []=>some []
 | x::xs=>match toPyK x with
  | none=>none
  | some p=>(toPyKL xs).map (p::·)
def toPyKv:List (Ky×D)→Option (List (PyData×PyData))
 | []=>some []
 | (.k k,x)::xs=>match toPyK x with
  | none=>none
  | some p=>(toPyKv xs).map ((keyPy k,p)::·)
 | (.t _,_)::_=>none
end
theorem map_k_inj:∀ {a b:List Key},a.map Ky.k=b.map Ky.k→a=b
 | [],[],_=>rfl
 | [],_::_,h=>by cases h
 | _::_,[],h=>by cases h
 | x::a,y::b,h=>by
  simp only[List.map_cons,List.cons.injEq] at h
  cases h.1
  rw[map_k_inj h.2]
theorem toPyKv_ok:∀ {ds:List (Ky×D)} {ps:List (PyData×PyData)},toPyKv ds=some ps→toPyKL (ds.map (·.2))=some (ps.map (·.2))∧∃ ks:List Key,ds.map (·.1)=ks.map Ky.k∧ps.map (·.1)=ks.map keyPy
 | [],ps,e=>by simp only[toPyKv] at e;cases e;exact⟨by simp[toPyKL],[],rfl,rfl⟩
 | (.t _,_)::_,ps,e=>by simp only[toPyKv] at e;cases e
 | (.k k,x)::xs,ps,e=>by
  simp only[toPyKv] at e
  cases q:toPyK x with
  | none=>rw[q] at e;cases e
  | some p =>
   rw[q] at e
   cases q2:toPyKv xs with
   | none=>rw[q2] at e;cases e
   | some qs =>
    rw[q2] at e;cases e
    obtain⟨h1,ks,h2,h3⟩:=toPyKv_ok q2
    refine⟨?_,k::ks,?_,?_⟩
    ·simp only[List.map_cons,toPyKL,q,h1];rfl
    ·simp only[List.map_cons,h2]
    ·simp only[List.map_cons,h3]
section
variable {X:Cx}{pins:List (Addr×Obj)}{σ:L2.St}{H:Hp}{s:Shared}
theorem key_rs {k:Key}{u:Value}(h:(mixKind X.prog X.w).is k u=true):Rs s.heap u (keyPy k):=by
 have r:L2.RelV (kV k) u:=relV_key h
 cases k with
 | inl i=>obtain⟨t,rfl⟩:=r;exact .int i t
 | inr x=>obtain⟨t,rfl⟩:=r;exact .str x t
theorem pairs_keys {es:List DictEntry}{kvs:List (Key×Value)}(h:Pairs (mixKind X.prog X.w) es kvs):RsAll s.heap (es.map (·.key)) (kvs.map fun p=>keyPy p.1)∧es.map (·.val)=kvs.map (·.2):=by
 induction h with
 | nil=>exact⟨.nil,rfl⟩
 | cons h1 h2 _ ih=>exact⟨.cons (key_rs h1) ih.1,by simp only[List.map_cons];rw[h2,ih.2]⟩
theorem kv_vals {ls:List (Key×V)}{vs:List (Key×Value)}(h:KV ls vs):Vals (ls.map (·.2)) (vs.map (·.2)):=by
 unfold KV at h
 induction h with
 | nil=>exact .nil
 | cons a _ ih=>exact .cons a.2 ih
mutual
theorem Rp.rs (I:Inv X pins σ H s):∀ {v:V} {d:D} {p:PyData} {u:Value},Rp X.K H v d→toPyK d=some p→L2.RelV v u→Rs s.heap u p
 | _,_,_,_,.non,e,r=>by simp only[toPyK] at e;cases e;cases r;exact .none
 | _,_,_,_,.bl b,e,r=>by simp only[toPyK] at e;cases e;cases r;exact .bool b
 | _,_,_,_,.int i,e,r=>by simp only[toPyK] at e;cases e;obtain⟨t,rfl⟩:=r;exact .int i t
 | _,_,_,_,.str i,e,r=>by simp only[toPyK] at e;cases e;obtain⟨t,rfl⟩:=r;exact .str i t
 | _,_,_,_,.ty _,e,r=>by simp only[toPyK] at e;cases e
 | _,_,_,_,.ref _,e,r=>by simp only[toPyK] at e;cases e
 | _,_,_,_,.ins _ _ _ _ _,e,r=>by simp only[toPyK] at e;cases e
 | _,_,_,_,.er0 _,e,r=>by simp only[toPyK] at e;cases e
 | _,_,_,_,.eo _ _ _,e,r=>by simp only[toPyK] at e;cases e
 | _,_,_,_,.err _ _ _ _,e,r=>by simp only[toPyK] at e;cases e
 | _,_,_,_,.tup (ds:=ds) h l,e,r=>by
  simp only[toPyK] at e
  cases q:toPyKL ds with
  | none=>rw[q] at e;cases e
  | some ps =>
   rw[q] at e;cases e;cases r
   obtain⟨its,rv,⟨o,ho,hc,n,hd⟩,_⟩:=I.tuple h
   exact .tuple ho hc hd (by simpa using RpL.rs I l q rv)
 | _,_,_,_,.lst (ds:=ds) h l,e,r=>by
  simp only[toPyK] at e
  cases q:toPyKL ds with
  | none=>rw[q] at e;cases e
  | some ps =>
   rw[q] at e;cases e;cases r
   obtain⟨its,rv,⟨o,n,ho,hc,hd,hdat⟩,_⟩:=I.list (.inl (.inl h))
   exact .list ho hc hdat (by simpa using RpL.rs I l q rv)
 | _,_,_,_,.fro (ds:=ds) h l,e,r=>by
  simp only[toPyK] at e
  cases q:toPyKL ds with
  | none=>rw[q] at e;cases e
  | some ps =>
   rw[q] at e;cases e;cases r
   obtain⟨its,rv,⟨o,n,ho,hc,hd,hdat⟩,_⟩:=I.list h
   exact .list ho hc hdat (by simpa using RpL.rs I l q rv)
 | _,_,_,_,.dct (ds:=ds) h k l,e,r=>by
  simp only[toPyK] at e
  cases q:toPyKv ds with
  | none=>rw[q] at e;cases e
  | some ps =>
   rw[q] at e;cases e;cases r
   obtain⟨h1,ks,h2,h3⟩:=toPyKv_ok q
   have step:∀ us,Vals _ us→RsAll s.heap us (ps.map (·.2)):=fun us rv=>RpL.rs I l h1 rv
   rcases k with⟨ls,rfl,k2,rfl⟩|⟨_,ls,hne,rfl,_,_,_,_,k2,_⟩
   ·obtain⟨_,hsys,vs',rel,o',es,ep,ho,hx,hdat,_,hp,_⟩:=dk_rd I.hok (.inr ⟨_,h⟩)
    obtain⟨p1,p2⟩:=pairs_keys (X:=X) (s:=s) hp
    have ek:ks=ls.map (·.1):=by
     have e2:ks.map Ky.k=(ls.map (·.1)).map Ky.k:=by rw[←h2,k2,List.map_map];rfl
     exact map_k_inj e2
    refine .dict ho hx.1 hdat hsys ?_ ?_
    ·have e3:ps.map (·.1)=vs'.map fun p=>keyPy p.1:=by
      rw[h3,ek,rel.keys,List.map_map];rfl
     rw[e3];exact p1
    ·rw[p2];exact step _ (kv_vals rel)
   ·cases ls with
    | nil=>exact absurd rfl hne
    | cons p ls =>
     rw[h2] at k2
     cases ks with
     | nil=>cases k2
     | cons k ks=>simp at k2
theorem RpL.rs (I:Inv X pins σ H s):∀ {vs:List V} {ds:List D} {ps:List PyData} {us:List Value},RpL X.K H vs ds→toPyKL ds=some ps→Vals vs us→RsAll s.heap us ps
 | _,_,_,_,.nil,e,r=>by simp only[toPyKL] at e;cases e;cases r;exact .nil
 | _,_,_,_,.cons (d:=d) (ds:=ds) a b,e,r=>by
  simp only[toPyKL] at e
  cases q:toPyK d with
  | none=>rw[q] at e;cases e
  | some p =>
   rw[q] at e
   cases q2:toPyKL ds with
   | none=>rw[q2] at e;cases e
   | some ps =>
    rw[q2] at e;cases e
    cases r with
    | cons r1 r2=>exact .cons (Rp.rs I a q r1) (RpL.rs I b q2 r2)
end
end
end DL
namespace DL
open PySem PySem.Spec PyProof.Rows L2 DR
end DL
namespace DR
open PySem PySem.SeqAt PyProof.Rows
open AutoSeq1 (wpAny_loadPart')
open MeetsSeq MeetsSeq2 MeetsSeq3 SeqRoads2
section
variable {prog:Program}{w:World}
theorem tup_same (p q:Addr)(us vs:Array Value)(m m2:Nat)(f f2:Option Addr)(t t2:Array (Option Value))(hz:us.size=vs.size) :
  MeetsIn prog w (Builtin.«tuple.__eq__» ⟨[.ref p,.ref q],[]⟩)
   (fun A R s=>s.heap.get? p=some { cls:=.type "tuple",dict:=f,data:=.seq us m,slots:=t } ∧
    s.heap.get? q=some { cls:=.type "tuple",dict:=f2,data:=.seq vs m2,slots:=t2 } ∧
    (∀ j (h1:j<us.size) (h2:j<vs.size),EqP prog w A.in1 s us[j] vs[j] true)∧R (.ok (.ret (.bool true))) s):=by
 intro A R s h
 obtain⟨hp,g,d,tk,os⟩:=s
 obtain⟨hl,hb,he,h⟩:=h
 have st:=AutoSeq1.sub_tuple_tuple
 have hZ:(us.toList.zip vs.toList).length=us.size:=by simp[hz]
 wp_walk using wpAny_loadPart' hl,wpAny_loadPart' hb,wpAny_forIn_list _ (fun rest b s'=>b.1=none∧s'=⟨hp,g,d,tk,os⟩∧∃ i,rest=(us.toList.zip vs.toList).drop i) _
 case turn =>
  rintro ⟨y,x⟩ rest b s' ⟨hb',rfl,i,hzz⟩
  have hlt:i<(us.toList.zip vs.toList).length:=by
   rcases Nat.lt_or_ge i (us.toList.zip vs.toList).length with z|z
   ·exact z
   ·rw[List.drop_of_length_le z] at hzz;cases hzz
  have i1:i<us.size:=hZ▸hlt
  have i2:i<vs.size:=hz▸i1
  rw[List.drop_eq_getElem_cons hlt] at hzz
  injection hzz with hyx hrest
  obtain rfl:y=us[i]:=by have:=congrArg Prod.fst hyx;simpa using this
  obtain rfl:x=vs[i]:=by have:=congrArg Prod.snd hyx;simpa using this
  refine wpAny_bind (he i i1 i2 _ _ ?_)
  wp_walk
  exact⟨rfl,rfl,i+1,hrest⟩
 case fin =>
  rintro ⟨b1,b2⟩ s' ⟨hb',rfl,i,hzz⟩
  simp only at hb'
  subst hb'
  wp_walk
  simpa [Builtin.Tuple.tupleCompareSizes,hz] using h
 case h =>
  exact⟨rfl,rfl,0,rfl⟩
theorem rcP_tups {A:Around}{s:Shared}{p q:Addr}{us vs:Array Value}(hp:s.heap.IsTuple p us)(hq:s.heap.IsTuple q vs)(hz:us.size=vs.size)(hu:A.units<cLine)
  (he:∀ j (h1:j<us.size) (h2:j<vs.size),EqP prog w A.in1 s us[j] vs[j] true) (E Q:Value→Shared→Prop) (h:Q (.bool true) s):wpAny (model prog w) A (richCompare .Eq (.ref p) (.ref q)) Q E s:=by
 obtain⟨⟨c1,f1,k1,t1⟩,o1,e1,m1,g1⟩:=id hp
 obtain⟨⟨c2,f2,k2,t2⟩,o2,e2,m2,g2⟩:=id hq
 simp only at e1 g1 e2 g2
 subst e1 g1 e2 g2
 have ta:s.TypeIs (.ref p) "tuple":=⟨_,o1,rfl⟩
 have tb:s.TypeIs (.ref q) "tuple":=⟨_,o2,rfl⟩
 exact wpAny_richCompare_same_room (op:=.Eq) ta tb F.slot_tuple_eq (call_meetsIn F.slot_tuple_eq ta F.entry_tuple_eq (F.args_tuple_eq_2 _ _) (tup_same p q us vs m1 m2 f1 f2 t1 t2 hz)
  ⟨o1,o2,he,show Value.bool true≠Value.notImplemented∧Q (.bool true) s from⟨(fun x=>nomatch x),h⟩⟩) hu
end
end DR
namespace DR
open PySem PySem.Spec PySem.SeqAt PyProof.Rows L2 DL
mutual
inductive Rq (P:Program) (w:World) (h:Heap):Value→PyData→Prop
 | none:Rq P w h .none .none
 | bool (b):Rq P w h (.bool b) (.bool b)
 | int (i t):Rq P w h (.int i t) (.int i)
 | str (x t):Rq P w h (.str x t) (.str x)
 | list {a vs xs}:h.IsList a vs→RqAll P w h vs.toList xs→Rq P w h (.ref a) (.list xs)
 | tuple {a vs xs}:h.IsTuple a vs→RqAll P w h vs.toList xs→Rq P w h (.ref a) (.tuple xs)
 | dict {a} {vs:List (Key×Value)} {kvs:List (PyData×PyData)}:(a==sysModules)=false→h.DictOf (mixKind P w) a vs→kvs.map (·.1)=vs.map (fun p=>keyPy p.1)→RqAll P w h (vs.map (·.2)) (kvs.map (·.2))→Rq P w h (.ref a) (.dict kvs)
inductive RqAll (P:Program) (w:World) (h:Heap):List Value→List PyData→Prop
 | nil:RqAll P w h [] []
 | cons {v vs d ds}:Rq P w h v d→RqAll P w h vs ds→RqAll P w h (v::vs) (d::ds)
end
section
variable {P:Program}{w:World}{s:Shared}
theorem RqAll.length {h:Heap}:∀ {vs:List Value} {ds:List PyData},RqAll P w h vs ds→vs.length=ds.length
 | _,_,.nil=>rfl
 | _,_,.cons _ b=>congrArg (·+1) (RqAll.length b)
theorem depthKv_snd:∀ kvs:List (PyData×PyData),PyData.depthAll (kvs.map (·.2))≤PyData.depthKv kvs
 | []=>Nat.le_refl _
 | (a,b)::r=>by
  have:=depthKv_snd r
  simp only[List.map_cons,PyData.depthAll,PyData.depthKv]
  omega
theorem keyPy_inj:∀ {a b:List Key},a.map keyPy=b.map keyPy→a=b
 | [],[],_=>rfl
 | [],_::_,h=>by cases h
 | _::_,[],h=>by cases h
 | x::a,y::b,h=>by
  simp only[List.map_cons,List.cons.injEq] at h
  have e:x=y:=by
   rcases x with x|x <;> rcases y with y|y
   ·have:=h.1;simp only[keyPy,PyData.int.injEq] at this;rw[this]
   ·have:=h.1;simp[keyPy] at this
   ·have:=h.1;simp[keyPy] at this
   ·have:=h.1;simp only[keyPy,PyData.str.injEq] at this;rw[this]
  rw[e,keyPy_inj h.2]
theorem hits_same {A:Around}{kb:List (Key×Value)}:∀ {ka:List (Key×Value)},(∀ (i:Nat) (k:Key) (v:Value),ka[i]?=some (k,v)→∃ y,PySem.valueAt kb k=some y∧EqP P w A s v y true)→PySem.W.KeqHitsP P w A s kb ka true
 | [],_=>.nil
 | (k,v)::r,h=>by
  obtain⟨y,h1,h2⟩:=h 0 k v rfl
  exact .hit (e:=true) (b:=true) h1 h2 (hits_same fun i k' v' q=>h (i+1) k' v' q)
theorem hits_zip {A:Around}{a:Addr}{vs vs':List (Key×Value)}(ek:vs.map (·.1)=vs'.map (·.1))(this:∀ (j:Nat) (h1:j<(vs.map (·.2)).length) (h2:j<(vs'.map (·.2)).length),EqP P w A s (vs.map (·.2))[j] (vs'.map (·.2))[j] true)
  (k2:s.heap.DictOf (mixKind P w) a vs'):PySem.W.KeqHitsP P w A s vs' vs true:=by
 have hl:vs.length=vs'.length:=by simpa using congrArg List.length ek
 have nd:(vs'.map (·.1)).Nodup:=by obtain⟨o,es,ep,_,_,_,_,_,z⟩:=k2;exact z
 refine hits_same fun i k v q=>?_
 have hi:i<vs.length:=(List.getElem?_eq_some_iff.mp q).1
 have hi':i<vs'.length:=hl▸hi
 have e1:vs[i]=(k,v):=(List.getElem?_eq_some_iff.mp q).2
 have e2:(vs'[i]).1=k:=by
  have:=congrArg (fun l=>l[i]?) ek
  simp only[List.getElem?_map,List.getElem?_eq_getElem hi,List.getElem?_eq_getElem hi',Option.map_some,Option.some.injEq] at this
  rw[←this,e1]
 refine⟨(vs'[i]).2,PySem.valueAt_of_get nd (i:=i) (by rw[List.getElem?_eq_getElem hi',←e2]),?_⟩
 have z:=this i (by simpa using hi) (by simpa using hi')
 simpa [e1] using z
mutual
theorem Rq.same:∀ {u u':Value} {p:PyData} (A:Around),Rq P w s.heap u p→Rq P w s.heap u' p→A.units+p.depth<cLine→EqP P w A s u u' true
 | _,_,_,A,.none,r,hu=>by cases r;exact(EqAt.same _).eqP
 | _,_,_,A,.bool b,r,hu=>by cases r;exact(EqAt.same _).eqP
 | _,_,_,A,.int i t,r,hu=>by
  cases r with
  | int _ t'=>have:=EqAt.int_int (A:=A) (s:=s) i t i t';simpa using this.eqP (prog:=P) (w:=w)
 | _,_,_,A,.str x t,r,hu=>by
  cases r with
  | str _ t'=>have:=EqAt.str_str (A:=A) (s:=s) x t x t';simpa using this.eqP (prog:=P) (w:=w)
 | _,_,_,A,.list (a:=a) (vs:=vs) h1 h2,r,hu=>by
  cases r with
  | list k1 k2 =>
   rename_i a' vs'
   by_cases e:a=a'
   ·subst e;exact(EqAt.same _).eqP
   ·have hz:vs.size=vs'.size:=by have:=h2.length;have:=k2.length;simp at *;omega
    have:=RqAll.same A.in1 h2 k2 (by simp only[PyData.depth] at hu;show A.units+1+_<cLine;omega)
    refine eqP_refs e fun E Q q=>rcP_lists h1 k1 hz (by omega) (e:=fun _=>true) (fun j h1 h2=>?_) E Q (by rw[show((List.range vs.size).all fun _=>true)=true from List.all_eq_true.mpr fun _ _=>rfl];exact q)
    have z:=this j (by simpa using h1) (by simpa using h2)
    rw[Array.getElem_toList,Array.getElem_toList] at z;exact z
 | _,_,_,A,.tuple (a:=a) (vs:=vs) h1 h2,r,hu=>by
  cases r with
  | tuple k1 k2 =>
   rename_i a' vs'
   by_cases e:a=a'
   ·subst e;exact(EqAt.same _).eqP
   ·have hz:vs.size=vs'.size:=by have:=h2.length;have:=k2.length;simp at *;omega
    have:=RqAll.same A.in1 h2 k2 (by simp only[PyData.depth] at hu;show A.units+1+_<cLine;omega)
    refine eqP_refs e fun E Q q=>rcP_tups h1 k1 hz (by omega) (fun j h1 h2=>?_) E Q q
    have z:=this j (by simpa using h1) (by simpa using h2)
    rw[Array.getElem_toList,Array.getElem_toList] at z;exact z
 | _,_,_,A,.dict (a:=a) (vs:=vs) (kvs:=kvs) h1 h2 h3 h4,r,hu=>by
  cases r with
  | dict k1 k2 k3 k4 =>
   rename_i a' vs'
   by_cases e:a=a'
   ·subst e;exact(EqAt.same _).eqP
   ·have ek:vs.map (·.1)=vs'.map (·.1):=keyPy_inj (by rw[List.map_map,List.map_map];exact h3.symm.trans k3)
    have hl:vs.length=vs'.length:=by simpa using congrArg List.length ek
    have:=RqAll.same A.in1 h4 k4 (by have:=depthKv_snd kvs;simp only[PyData.depth] at hu;show A.units+1+_<cLine;omega)
    exact eqP_refs e fun E Q q=>PySem.W.rcP_dicts h1 k1 h2 k2 (by omega) (r:=true) (fun _=>hits_zip ek this k2) E Q (by simpa [hl] using q)
theorem RqAll.same:∀ {us us':List Value} {ps:List PyData} (A:Around),RqAll P w s.heap us ps→RqAll P w s.heap us' ps→A.units+PyData.depthAll ps<cLine→∀ (j:Nat) (h1:j<us.length) (h2:j<us'.length),EqP P w A s us[j] us'[j] true
 | _,_,_,A,.nil,r,hu,j,h1,h2=>absurd h1 (Nat.not_lt_zero _)
 | _,_,_,A,.cons a b,r,hu,j,h1,h2=>by
  cases r with
  | cons a' b' =>
   have hd:=hu
   simp only[PyData.depthAll] at hd
   cases j with
   | zero=>exact Rq.same A a a' (by omega)
   | succ j=>exact RqAll.same A b b' (by omega) j (Nat.lt_of_succ_lt_succ h1) (Nat.lt_of_succ_lt_succ h2)
end
end
end DR
namespace DL
open PySem PySem.Spec PyProof.Rows L2 DR
section
variable {X:Cx}{pins:List (Addr×Obj)}{σ:L2.St}{H:Hp}{s:Shared}
mutual
theorem Rp.rq (I:Inv X pins σ H s):∀ {v:V} {d:D} {p:PyData} {u:Value},Rp X.K H v d→toPyK d=some p→L2.RelV v u→Rq X.prog X.w s.heap u p
 | _,_,_,_,.non,e,r=>by simp only[toPyK] at e;cases e;cases r;exact .none
 | _,_,_,_,.bl b,e,r=>by simp only[toPyK] at e;cases e;cases r;exact .bool b
 | _,_,_,_,.int i,e,r=>by simp only[toPyK] at e;cases e;obtain⟨t,rfl⟩:=r;exact .int i t
 | _,_,_,_,.str i,e,r=>by simp only[toPyK] at e;cases e;obtain⟨t,rfl⟩:=r;exact .str i t
 | _,_,_,_,.ty _,e,r=>by simp only[toPyK] at e;cases e
 | _,_,_,_,.ref _,e,r=>by simp only[toPyK] at e;cases e
 | _,_,_,_,.ins _ _ _ _ _,e,r=>by simp only[toPyK] at e;cases e
 | _,_,_,_,.er0 _,e,r=>by simp only[toPyK] at e;cases e
 | _,_,_,_,.eo _ _ _,e,r=>by simp only[toPyK] at e;cases e
 | _,_,_,_,.err _ _ _ _,e,r=>by simp only[toPyK] at e;cases e
 | _,_,_,_,.tup (ds:=ds) h l,e,r=>by
  simp only[toPyK] at e
  cases q:toPyKL ds with
  | none=>rw[q] at e;cases e
  | some ps =>
   rw[q] at e;cases e;cases r
   obtain⟨its,rv,hi,_⟩:=I.tuple h
   exact .tuple hi (by simpa using RpL.rq I l q rv)
 | _,_,_,_,.lst (ds:=ds) h l,e,r=>by
  simp only[toPyK] at e
  cases q:toPyKL ds with
  | none=>rw[q] at e;cases e
  | some ps =>
   rw[q] at e;cases e;cases r
   obtain⟨its,rv,⟨o,n,ho,hc,hd,hdat⟩,_⟩:=I.list (.inl (.inl h))
   exact .list ⟨o,ho,hc,n,hdat⟩ (by simpa using RpL.rq I l q rv)
 | _,_,_,_,.fro (ds:=ds) h l,e,r=>by
  simp only[toPyK] at e
  cases q:toPyKL ds with
  | none=>rw[q] at e;cases e
  | some ps =>
   rw[q] at e;cases e;cases r
   obtain⟨its,rv,⟨o,n,ho,hc,hd,hdat⟩,_⟩:=I.list h
   exact .list ⟨o,ho,hc,n,hdat⟩ (by simpa using RpL.rq I l q rv)
 | _,_,_,_,.dct (ds:=ds) h k l,e,r=>by
  simp only[toPyK] at e
  cases q:toPyKv ds with
  | none=>rw[q] at e;cases e
  | some ps =>
   rw[q] at e;cases e;cases r
   obtain⟨h1,ks,h2,h3⟩:=toPyKv_ok q
   have step:∀ us,Vals _ us→RqAll X.prog X.w s.heap us (ps.map (·.2)):=fun us rv=>RpL.rq I l h1 rv
   rcases k with⟨ls,rfl,k2,rfl⟩|⟨_,ls,hne,rfl,_,_,_,_,k2,_⟩
   ·obtain⟨_,hsys,vs',rel,dd⟩:=dk_rd I.hok (.inr ⟨_,h⟩)
    have ek:ks=ls.map (·.1):=by
     have e2:ks.map Ky.k=(ls.map (·.1)).map Ky.k:=by rw[←h2,k2,List.map_map];rfl
     exact map_k_inj e2
    refine .dict hsys dd ?_ (step _ (kv_vals rel))
    rw[h3,ek,rel.keys,List.map_map];rfl
   ·cases ls with
    | nil=>exact absurd rfl hne
    | cons p ls =>
     rw[h2] at k2
     cases ks with
     | nil=>cases k2
     | cons k ks=>simp at k2
theorem RpL.rq (I:Inv X pins σ H s):∀ {vs:List V} {ds:List D} {ps:List PyData} {us:List Value},RpL X.K H vs ds→toPyKL ds=some ps→Vals vs us→RqAll X.prog X.w s.heap us ps
 | _,_,_,_,.nil,e,r=>by simp only[toPyKL] at e;cases e;cases r;exact .nil
 | _,_,_,_,.cons (d:=d) (ds:=ds) a b,e,r=>by
  simp only[toPyKL] at e
  cases q:toPyK d with
  | none=>rw[q] at e;cases e
  | some p =>
   rw[q] at e
   cases q2:toPyKL ds with
   | none=>rw[q2] at e;cases e
   | some ps =>
    rw[q2] at e;cases e
    cases r with
    | cons r1 r2=>exact .cons (Rp.rq I a q r1) (RpL.rq I b q2 r2)
end
end
end DL
namespace DR
open PySem PySem.Spec PySem.SeqAt PyProof.Rows L2 DL
theorem Rq.rc {P:Program}{w:World}{A:Around}{s:Shared}{u v:Value}{p:PyData}{Q:Value→Shared→Prop}{E:Value→Shared→Prop}(a:Rq P w s.heap u p)(b:Rq P w s.heap v p)(hu:A.units+p.depth<cLine)(q:Q (.bool true) s) :
  wpAny (model P w) A (compareOp .Eq u v) Q E s:=by
 cases a with
 | none=>cases b;exact RcAt.none_none P w E Q q
 | bool x=>cases b;exact RcAt.bool_bool x x P w E Q (by simpa using q)
 | int x t =>
  cases b with
  | int _ t'=>exact RcAt.int_int x t x t' P w E Q (by simpa using q)
 | str x t =>
  cases b with
  | str _ t'=>exact RcAt.str_str x t x t' P w E Q (by simpa using q)
 | list h1 h2 =>
  cases b with
  | list k1 k2 =>
   rename_i a vs xs a' vs'
   have hz:vs.size=vs'.size:=by have:=h2.length;have:=k2.length;simp at *;omega
   have:=RqAll.same A.in1 h2 k2 (by simp only[PyData.depth] at hu;show A.units+1+_<cLine;omega)
   refine rcP_lists h1 k1 hz (by omega) (e:=fun _=>true) (fun j h1 h2=>?_) E Q (by rw[show((List.range vs.size).all fun _=>true)=true from List.all_eq_true.mpr fun _ _=>rfl];exact q)
   have z:=this j (by simpa using h1) (by simpa using h2)
   rw[Array.getElem_toList,Array.getElem_toList] at z;exact z
 | tuple h1 h2 =>
  cases b with
  | tuple k1 k2 =>
   rename_i a vs xs a' vs'
   have hz:vs.size=vs'.size:=by have:=h2.length;have:=k2.length;simp at *;omega
   have:=RqAll.same A.in1 h2 k2 (by simp only[PyData.depth] at hu;show A.units+1+_<cLine;omega)
   refine rcP_tups h1 k1 hz (by omega) (fun j h1 h2=>?_) E Q q
   have z:=this j (by simpa using h1) (by simpa using h2)
   rw[Array.getElem_toList,Array.getElem_toList] at z;exact z
 | dict h1 h2 h3 h4 =>
  cases b with
  | dict k1 k2 k3 k4 =>
   rename_i a vs kvs a' vs'
   have ek:vs.map (·.1)=vs'.map (·.1):=keyPy_inj (by rw[List.map_map,List.map_map];exact h3.symm.trans k3)
   have hl:vs.length=vs'.length:=by simpa using congrArg List.length ek
   have:=RqAll.same A.in1 h4 k4 (by have:=depthKv_snd kvs;simp only[PyData.depth] at hu;show A.units+1+_<cLine;omega)
   exact PySem.W.rcP_dicts h1 k1 h2 k2 (by omega) (r:=true) (fun _=>hits_zip ek this k2) E Q (by simpa [hl] using q)
end DR
namespace DL
open PySem PySem.Spec PyProof.Rows L2 DR
def rSame (K:PySem.W.Frag):R2:=fun x y H Q=>∃ d d' p,Rp K H x d∧Rp K H y d'∧toPyK d=some p∧toPyK d'=some p∧p.depth≤64∧Q (.bl true) H
theorem op_same {X:Cx}(hu:X.A.units+64<cLine):OpR X (compareOp .Eq) (rSame X.K):=by
 intro pins s σ H x y v u Q I rx ry h
 obtain⟨d,d',p,h1,h2,e1,e2,hp,q⟩:=h
 exact(Rp.rq I h1 e1 rx).rc (Rp.rq I h2 e2 ry) (by omega) ⟨.bl true,H,I,rfl,q⟩
open Classical in
noncomputable def dSame (x y:DV)(μ:Mem):Res R:=match (peek μ x).bind toPyK with
 | some p=>if(peek μ y).bind toPyK=some p∧p.depth≤64 then .ok (.dat (.bl true)) μ else .bad
 | none=>.bad
theorem od_same {K:PySem.W.Frag}:OpD K (rSame K) dSame:=fun W ρ G H σ μ v w x y Q R hx hy hp=>by
 unfold dSame at hp
 cases e:peek μ x with
 | none=>rw[e] at hp;exact hp.elim
 | some d =>
  rw[e] at hp
  simp only[Option.bind_some] at hp
  cases e2:toPyK d with
  | none=>rw[e2] at hp;exact hp.elim
  | some p =>
   simp only[e2] at hp
   by_cases c:(peek μ y).bind toPyK=some p∧p.depth≤64
   ·rw[if_pos c] at hp
    obtain⟨c1,c2⟩:=c
    cases e3:peek μ y with
    | none=>rw[e3] at c1;cases c1
    | some d' =>
     rw[e3] at c1
     exact⟨d,d',p,peek_ok R hx e,peek_ok R hy e3,e2,c1,c2,hp.okD R (.bl _)⟩
   ·rw[if_neg c] at hp;exact hp.elim
end DL
namespace DL
open PySem PySem.Spec PyProof.Rows L2 DR
def altR {α:Type}(a b:Res α):Res α:=match a with
 | .bad=>b
 | r=>r
def alt2 (g g':DV→DV→Mem→Res R)(x y:DV)(μ:Mem):Res R:=altR (g x y μ) (g' x y μ)
def alt1 (g g':List DV→Mem→Res R)(xs:List DV)(μ:Mem):Res R:=altR (g xs μ) (g' xs μ)
theorem OpD.alt {K:PySem.W.Frag}{r r':R2}{g g':DV→DV→Mem→Res R}(h:OpD K r g)(h':OpD K r' g'):OpD K (fun x y H Q=>r x y H Q∨r' x y H Q) (alt2 g g'):=fun W ρ G H σ μ v w x y Q R hx hy hp=>by
 unfold alt2 altR at hp
 cases e:g x y μ with
 | bad=>rw[e] at hp;exact .inr (h' W ρ G H σ μ v w x y Q R hx hy hp)
 | ok a m=>rw[e] at hp;exact .inl (h W ρ G H σ μ v w x y Q R hx hy (by rw[e];exact hp))
 | exc a m=>rw[e] at hp;exact .inl (h W ρ G H σ μ v w x y Q R hx hy (by rw[e];exact hp))
theorem CallD.alt {K:PySem.W.Frag}{r r':List V→Hp→VK→Prop}{g g':List DV→Mem→Res R}(h:CallD K r g)(h':CallD K r' g'):CallD K (fun x H Q=>r x H Q∨r' x H Q) (alt1 g g'):=fun W ρ G H σ μ vs xs Q R hx hp=>by
 unfold alt1 altR at hp
 cases e:g xs μ with
 | bad=>rw[e] at hp;exact .inr (h' W ρ G H σ μ vs xs Q R hx hp)
 | ok a m=>rw[e] at hp;exact .inl (h W ρ G H σ μ vs xs Q R hx (by rw[e];exact hp))
 | exc a m=>rw[e] at hp;exact .inl (h W ρ G H σ μ vs xs Q R hx (by rw[e];exact hp))
theorem IxR.or {X:Cx}{r r':R2}(h:IxR X r)(h':IxR X r'):IxR X (fun x y H Q=>r x y H Q∨r' x y H Q) :=
 fun a b pins s σ H x y v u Q I rx ry q=>q.elim (h a b pins s σ H x y v u Q I rx ry) (h' a b pins s σ H x y v u Q I rx ry)
def rDG:R2:=fun x y H Q=>∃ a v,x=.ref a∧DGet H a y (some v)∧Q v H
theorem ix_dict {X:Cx}(hu:X.A.units+1<cLine):IxR X rDG:=by
 intro value slice pins s σ H x y v u Q I rx ry h hs
 obtain⟨a,z,rfl,g,q⟩:=h
 obtain rfl:v=Value.ref a:=rx
 have hT:=dict_typeIs I g
 unfold subscriptTail
 refine wpAny_bind ?_
 rw[getitemInPython_of_ne hT.not_modules]
 refine wpAny_bind (wpAny_specialOf hT PySem.F.slot_dict_getitem.lookup ?_)
 have last:wpAny (model X.prog X.w) X.A (subscripted slice false (.ref a) u) (fun r s3=>wpAny (model X.prog X.w) X.A (letTemporaryGo value (.ref a) r >>= fun _=>pure r) (EP X pins σ Q) X.xe s3) X.xe s:=by
  rw[hs]
  exact wpAny_operating (wpAny_mono (d_getItem hu I g ry fun w' s3 I3 rw'=>⟨z,H,I3,rw',q⟩) (fun r s3 h3=>wpAny_bind (wpAny_letTemporaryGo (wpAny_pure h3))) fun _ _ x=>x)
 first
  | exact wpAny_pure (wpAny_bind last)
  | exact wpAny_bind (wpAny_pure (wpAny_bind last))
  | exact wpAny_bind last
theorem od_dget {K:PySem.W.Frag}:OpD K rDG dGet:=fun W ρ G H σ μ v w x y Q R hx hy hp=>by
 unfold dGet at hp
 match e1:dctOf x μ,e2:keyD y with
 | none,_=>simp only[e1] at hp;exact hp.elim
 | some _,none=>simp only[e1,e2] at hp;exact hp.elim
 | some kvs,some k =>
  simp only[e1,e2] at hp
  by_cases hk:allK kvs=true
  case neg=>rw[if_neg hk] at hp;exact hp.elim
  rw[if_pos hk] at hp
  obtain⟨a,o,vs,rfl,h1,h2,h3⟩:=dctOf_ok R hx e1
  obtain⟨ls,rfl,hl⟩:=dK_of h2 h3 hk
  rcases prl_val (k:=k) hl with⟨_,q⟩|⟨v,z,q1,q2,q3⟩
  ·rw[q] at hp;exact hp.elim
  ·rw[q2] at hp
   exact⟨a,v,rfl,.inl ⟨ls,k,h1,keyD_ok hy e2,q1.symm⟩,hp.okV R q3⟩
def dIxA:DV→DV→Mem→Res R:=alt2 dIx dGet
theorem pm_idxA (K:PySem.W.Frag){X:Cx}{W:WX}{a b:Expr}{ta tb:TE}{fa fb:EM}{pos:Pos}(hu:X.A.units+64<cLine)(ha:PM X W a ta fa)(hb:PM X W b tb fb)(hs:PlainIx b)(hK:X.K=K:=by rfl) :
  PM X W (.Subscript a b pos) (tOp (fun x y H Q=>rIx K x y H Q∨rDG x y H Q) ta tb) (eOp dIxA fa fb):=by
 subst hK;exact pm_ix (IxR.or ix_seq (ix_dict (by omega))) (OpD.alt od_ix od_dget) ha hb hs
def sgn:Str→Option Nat
 | ⟨⟨[c]⟩⟩=>some c
 | _=>none
def dSgn (neg:Bool)(x y:DV)(μ:Mem):Res R:=match (asStr x).bind sgn,asStr y with
 | some c,some z=>.ok (.dat (.bl (decide (c∈z.cps.toList) != neg))) μ
 | _,_=>.bad
def dInA (neg:Bool):DV→DV→Mem→Res R:=alt2 (dIn neg) (alt2 (dInD neg) (dSgn neg))
noncomputable def dEqA:DV→DV→Mem→Res R:=alt2 dEq dSame
theorem od_eqA {K:PySem.W.Frag}:OpD K (fun x y H Q=>rEqQ K x y H Q∨rSame K x y H Q) dEqA:=OpD.alt od_eq od_same
theorem op_eqA (K:PySem.W.Frag){X:Cx}(h:X.A.units+64<cLine)(hK:X.K=K:=by rfl):OpR X (compareOp .Eq) (fun x y H Q=>rEqQ K x y H Q∨rSame K x y H Q):=by subst hK;exact OpR.or (op_eqQ h) (op_same h)
def dLenA:List DV→Mem→Res R:=alt1 (d1 dLen) (d1 dLenK)
def dListA:List DV→Mem→Res R:=alt1 (d1 dList) (d1 dListK)
def dPow:DV→DV→Mem→Res R:=d2I (fun i j=>decide (0≤j∧j≤1000000∧i.natAbs<2^64)) fun i j=>.int (i^j.toNat)
theorem od_pow {K:PySem.W.Frag}:OpD K (rI (fun i j=>0≤j∧j≤1000000∧i.natAbs<2^64) fun i j=>V.int (i^j.toNat)) dPow:=od_I (fun i j h=>of_decide_eq_true h) fun _ _ _=>.int _
theorem sm_dpt {X:Cx}{W:WX}{o i e:Expr}{to ti te:TE}{fo fi fe:EM}{pos pos':Pos}(hu:X.A.units+64<cLine)(ho:PM X W o to fo)(hi:PM X W i ti fi)(hv:PM X W e te fe)(hs:swapsWith e (some (.Subscript o i pos')) pos.line X.env=pure false:=by rfl) :
  PSM X W (.Assign [.Subscript o i pos'] e pos) (sDPut to ti te) (gDPut fo fi fe):=sm_dput (by omega) ho hi hv hs
end DL
namespace DL
open PySem PySem.Spec PyProof.Rows L2
def Sat {α:Type}(r:Res α)(Q:α→Mem→Prop)(E:Xc→Mem→Prop):Prop:=match r with
 | .ok a μ=>Q a μ
 | .exc x μ=>E x μ
 | .bad=>False
structure PO where
 nx:Env→Mem→Prop
 rt:R→Mem→Prop
 bk:Env→Mem→Prop
 ct:Env→Mem→Prop
 ex:Xc→Env→Mem→Prop
def SatS (o:Out)(P:PO):Prop:=match o with
 | .next δ μ=>P.nx δ μ
 | .ret r μ=>P.rt r μ
 | .brk δ μ=>P.bk δ μ
 | .cnt δ μ=>P.ct δ μ
 | .exc x δ μ=>P.ex x δ μ
 | .bad=>False
def TupK (xs:List DV)(Q:D→Prop):Prop:=∃ ds,allDat xs=some ds∧ds.length≤sizeLine∧Q (.tup ds)
def SeqK (x:DV)(Q:List D→Prop):Prop:=∃ ds,seqD x=some ds∧Q ds
def IntK (x:DV)(Q:Int→Prop):Prop:=∃ i,asI x=some i∧Q i
def StrK (x:DV)(Q:Str→Prop):Prop:=∃ i,asStr x=some i∧Q i
def ParK (xs:List DV)(Q:DV→DV→Prop):Prop:=∃ x y,xs=[x,y]∧Q x y
def TgtK (h:D→Env→Option Env)(δ:Env)(x:DV)(Q:Env→Prop):Prop:=∃ d δ',x=.dat d∧h d δ=some δ'∧Q δ'
section
variable {α β:Type}{Q:α→Mem→Prop}{QR:R→Mem→Prop}{QV:DV→Mem→Prop}{QA:List DV→Mem→Prop}{QB:Bool→Mem→Prop}{QO:Option Int→Mem→Prop}{QI:List D→Mem→Prop}{E:Xc→Mem→Prop}{P:PO}{δ:Env}{μ:Mem}{N:Nat}
theorem Sat.mono {r:Res α}{Q':α→Mem→Prop}{E':Xc→Mem→Prop}(h:Sat r Q E)(hq:∀ a μ,Q a μ→Q' a μ)(he:∀ x μ,E x μ→E' x μ):Sat r Q' E':=by
 cases r with
 | ok a μ=>exact hq a μ h
 | exc x μ=>exact he x μ h
 | bad=>exact h
theorem Sat.of_eq {r:Res α}{a:α}(e:r=.ok a μ)(h:Q a μ):Sat r Q E:=by rw[e];exact h
theorem Sat.eq {r:Res α}{a:α}(h:Sat r (fun x μ'=>x=a∧μ'=μ) (fun _ _=>False)):r=.ok a μ:=by
 cases r with
 | ok b μ1=>obtain⟨rfl,rfl⟩:=h;rfl
 | exc x μ1=>exact h.elim
 | bad=>exact h.elim
theorem sat_bind {r:Res α}{k:α→Mem→Res β}{Q':β→Mem→Prop}(h:Sat r (fun a μ=>Sat (k a μ) Q' E) E):Sat (r.bind k) Q' E:=by
 cases r with
 | ok a μ=>exact h
 | exc x μ=>exact h
 | bad=>exact h
theorem sat_lift {r:Res α}{k:α→Mem→Out}(h:Sat r (fun a μ=>SatS (k a μ) P) (fun x μ=>P.ex x δ μ)):SatS (lift r δ k) P:=by
 cases r with
 | ok a μ=>exact h
 | exc x μ=>exact h
 | bad=>exact h
def FzK (r:R)(μ:Mem)(QV:DV→Mem→Prop):Prop:=match frz r with
 | some x=>QV x μ
 | none=>False
theorem x_fz {f:EM}(h:Sat (f δ μ) (fun r μ'=>FzK r μ' QV) E):Sat (frzV f δ μ) QV E:=by
 refine sat_bind (h.mono (fun r μ' q=>?_) fun _ _ q=>q)
 unfold FzK at q
 cases e:frz r with
 | none=>rw[e] at q;exact q.elim
 | some x=>rw[e] at q;exact q
theorem z_dat {d:D}(h:QV (.dat d) μ):FzK (.dat d) μ QV:=h
theorem z_loc {n:Nat}(h:QV (.loc n) μ):FzK (.loc n) μ QV:=h
theorem z_nl {xs:List DV}{ds:List D}(e:allDat xs=some ds)(h:QV (.dat (.lst ds)) μ):FzK (.nl xs) μ QV:=by unfold FzK frz;simp only;rw[e];exact h
theorem z_nlm {ds:List D}(h:QV (.dat (.lst ds)) μ):FzK (.nl (ds.map DV.dat)) μ QV:=z_nl (allDat_map ds) h
theorem allDat_mapf {γ:Type}(f:γ→D)(ys:List γ):allDat (ys.map fun y=>.dat (f y))=some (ys.map f):=by
 have:=allDat_map (ys.map f);rw[List.map_map] at this;exact this
theorem z_nlf {γ:Type}{f:γ→D}{ys:List γ}(h:QV (.dat (.lst (ys.map f))) μ):FzK (.nl (ys.map fun y=>.dat (f y))) μ QV:=z_nl (allDat_mapf f ys) h
theorem z_nlc {γ:Type}{f:γ→D}{ys:List γ}(h:QV (.dat (.lst (ys.map f))) μ):FzK (.nl (ys.map (DV.dat∘f))) μ QV:=z_nl (allDat_mapf f ys) h
theorem v_var {i:Nat}{x:DV}(e:δ[i]?=some (some x))(h:QV x μ):Sat (frzV (eVar i) δ μ) QV E:=by rw[fz_var e];exact h
theorem v_D {d:D}(h:QV (.dat d) μ):Sat (frzV (eD d) δ μ) QV E:=h
theorem x_var {i:Nat}{x:DV}(e:δ[i]?=some (some x))(h:QR (ofV x) μ):Sat (eVar i δ μ) QR E:=by rw[ev_var e];exact h
theorem x_D {d:D}(h:QR (.dat d) μ):Sat (eD d δ μ) QR E:=h
theorem a_nilK (h:QA [] μ):Sat (aNil δ μ) QA E:=h
theorem a_consK {f:EM}{g:AM}(h:Sat (frzV f δ μ) (fun x μ1=>Sat (g δ μ1) (fun xs μ2=>QA (x::xs) μ2) E) E):Sat (aCons f g δ μ) QA E :=
 sat_bind (h.mono (fun x μ1 q=>sat_bind q) fun _ _ q=>q)
theorem x_tup {g:AM}(h:Sat (g δ μ) (fun xs μ1=>TupK xs fun d=>QR (.dat d) μ1) E):Sat (eTup g δ μ) QR E:=by
 refine sat_bind (h.mono (fun xs μ1 q=>?_) fun _ _ q=>q)
 obtain⟨ds,e,hl,q⟩:=q
 rw[e];simp only;rw[if_pos hl];exact q
theorem x_lst {g:AM}(h:Sat (g δ μ) (fun xs μ1=>xs.length≤sizeLine∧QR (.nl xs) μ1) E):Sat (eLst g δ μ) QR E:=by
 refine sat_bind (h.mono (fun xs μ1 q=>?_) fun _ _ q=>q)
 rw[if_pos q.1];exact q.2
theorem x_op {g:DV→DV→Mem→Res R}{fa fb:EM}(h:Sat (frzV fa δ μ) (fun x μ1=>Sat (frzV fb δ μ1) (fun y μ2=>Sat (g x y μ2) QR E) E) E):Sat (eOp g fa fb δ μ) QR E :=
 sat_bind (h.mono (fun x μ1 q=>sat_bind q) fun _ _ q=>q)
theorem x_cb {g:List DV→Mem→Res R}{fa:AM}(h:Sat (fa δ μ) (fun xs μ1=>Sat (g xs μ1) QR E) E):Sat (eCB g fa δ μ) QR E:=sat_bind h
theorem x_un {g:DV→Mem→Res R}{f:EM}(h:Sat (frzV f δ μ) (fun x μ1=>Sat (g x μ1) QR E) E):Sat (eUn g f δ μ) QR E:=sat_bind h
theorem x_bm {c:DV→Mem→Bool}{g:DV→List DV→Mem→Res R}{f:EM}{fa:AM}(h:Sat (frzV f δ μ) (fun x μ1=>c x μ1=true∧Sat (fa δ μ1) (fun xs μ2=>Sat (g x xs μ2) QR E) E) E):Sat (eBM c g f fa δ μ) QR E:=by
 refine sat_bind (h.mono (fun x μ1 q=>?_) fun _ _ q=>q)
 rw[if_pos q.1];exact sat_bind q.2
theorem x_bm0 {c:DV→Mem→Bool}{g:DV→List DV→Mem→Res R}{f:EM}(h:Sat (frzV f δ μ) (fun x μ1=>c x μ1=true∧Sat (g x [] μ1) QR E) E):Sat (eBM0 c g f δ μ) QR E:=by
 refine sat_bind (h.mono (fun x μ1 q=>?_) fun _ _ q=>q)
 rw[if_pos q.1];exact q.2
def BlK (r:R)(μ:Mem)(QB:Bool→Mem→Prop):Prop:=match asB r with
 | some b=>QB b μ
 | none=>False
theorem b_bl {b:Bool}(h:QB b μ):BlK (.dat (.bl b)) μ QB:=h
theorem BlK.ex {r:R}(h:BlK r μ QB):∃ b,r=.dat (.bl b)∧asB r=some b∧QB b μ:=by
 unfold BlK at h
 match r with
 | .dat (.bl b)=>exact⟨b,rfl,rfl,h⟩
 | .dat .non=>exact h.elim
 | .dat (.int _)=>exact h.elim
 | .dat (.str _)=>exact h.elim
 | .dat (.ty _)=>exact h.elim
 | .dat (.ref _)=>exact h.elim
 | .dat (.tup _)=>exact h.elim
 | .dat (.lst _)=>exact h.elim
 | .dat (.fro _)=>exact h.elim
 | .dat (.dct _)=>exact h.elim
 | .dat (.ins _ _)=>exact h.elim
 | .loc _=>exact h.elim
 | .nl _=>exact h.elim
 | .nk _=>exact h.elim
theorem t_B {f:EM}(h:Sat (f δ μ) (fun r μ'=>BlK r μ' QB) E):Sat (tmB f δ μ) QB E:=by
 refine sat_bind (h.mono (fun r μ1 q=>?_) fun _ _ q=>q)
 obtain⟨b,rfl,_,q⟩:=q.ex;exact q
theorem t_not {f:TM}(h:Sat (f δ μ) (fun b μ'=>QB (!b) μ') E):Sat (tmNot f δ μ) QB E:=sat_bind h
theorem t_and {f g:TM}(h:Sat (f δ μ) (fun b μ'=>if b=true then Sat (g δ μ') QB E else QB false μ') E):Sat (tmAnd f g δ μ) QB E:=by
 refine sat_bind (h.mono (fun b μ1 q=>?_) fun _ _ q=>q)
 cases b <;> exact q
theorem t_or {f g:TM}(h:Sat (f δ μ) (fun b μ'=>if b=true then QB true μ' else Sat (g δ μ') QB E) E):Sat (tmOr f g δ μ) QB E:=by
 refine sat_bind (h.mono (fun b μ1 q=>?_) fun _ _ q=>q)
 cases b <;> exact q
theorem t_yes (h:QB true μ):Sat (tmYes δ μ) QB E:=h
theorem x_and {f g:EM}(h:Sat (f δ μ) (fun r μ'=>BlK r μ' fun b μ'=>if b=true then Sat (g δ μ') QR E else QR (.dat (.bl false)) μ') E):Sat (eAnd f g δ μ) QR E:=by
 refine sat_bind (h.mono (fun r μ1 q=>?_) fun _ _ q=>q)
 obtain⟨b,rfl,_,q⟩:=q.ex;cases b <;> exact q
theorem x_or {f g:EM}(h:Sat (f δ μ) (fun r μ'=>BlK r μ' fun b μ'=>if b=true then QR (.dat (.bl true)) μ' else Sat (g δ μ') QR E) E):Sat (eOr f g δ μ) QR E:=by
 refine sat_bind (h.mono (fun r μ1 q=>?_) fun _ _ q=>q)
 obtain⟨b,rfl,_,q⟩:=q.ex;cases b <;> exact q
theorem x_not {f:EM}(h:Sat (f δ μ) (fun r μ'=>BlK r μ' fun b μ'=>QR (.dat (.bl (!b))) μ') E):Sat (eNot f δ μ) QR E:=by
 refine sat_bind (h.mono (fun r μ1 q=>?_) fun _ _ q=>q)
 obtain⟨b,rfl,_,q⟩:=q.ex;exact q
theorem x_if {f:TM}{g h:EM}(k:Sat (f δ μ) (fun b μ'=>if b=true then Sat (g δ μ') QR E else Sat (h δ μ') QR E) E):Sat (eIf f g h δ μ) QR E:=by
 refine sat_bind (k.mono (fun b μ1 q=>?_) fun _ _ q=>q)
 cases b <;> exact q
theorem x_isN {f:EM}(h:Sat (frzV f δ μ) (fun x μ'=>QR (.dat (.bl (isNon x))) μ') E):Sat (eIsN f δ μ) QR E:=sat_bind h
theorem x_notN {f:EM}(h:Sat (frzV f δ μ) (fun x μ'=>QR (.dat (.bl (!isNon x))) μ') E):Sat (eNotN f δ μ) QR E:=sat_bind h
theorem o_noneK (h:QO none μ):Sat (oNone δ μ) QO E:=h
theorem o_someK {f:EM}(h:Sat (frzV f δ μ) (fun x μ'=>IntK x fun i=>QO (some i) μ') E):Sat (oSome f δ μ) QO E:=by
 refine sat_bind (h.mono (fun x μ1 q=>?_) fun _ _ q=>q)
 obtain⟨i,e,q⟩:=q;rw[e];exact q
theorem x_sl {f:EM}{lo hi:OM}(h:Sat (frzV f δ μ) (fun x μ1=>Sat (lo δ μ1) (fun l μ2=>Sat (hi δ μ2) (fun u μ3=>Sat (dSl x l u μ3) QR E) E) E) E):Sat (eSl f lo hi δ μ) QR E :=
 sat_bind (h.mono (fun _ _ q=>sat_bind (q.mono (fun _ _ q=>sat_bind q) fun _ _ q=>q)) fun _ _ q=>q)
theorem x_chain {g g':DV→DV→Mem→Res R}{fa fb fc:EM}(h:Sat (frzV fa δ μ) (fun x μ1=>Sat (frzV fb δ μ1) (fun y μ2=>Sat (g x y μ2) (fun r μ3=>BlK r μ3 fun b μ3=>if b=true then Sat (frzV fc δ μ3) (fun z μ4=>Sat (g' y z μ4) QR E) E else QR (.dat (.bl false)) μ3) E) E) E) :
  Sat (eChain g g' fa fb fc δ μ) QR E:=by
 refine sat_bind (h.mono (fun _ _ q=>sat_bind (q.mono (fun _ _ q=>sat_bind (q.mono (fun r _ q=>?_) fun _ _ q=>q)) fun _ _ q=>q)) fun _ _ q=>q)
 obtain⟨b,rfl,_,q⟩:=q.ex;cases b
 ·exact q
 ·exact sat_bind q
theorem x_inK {neg:Bool}{ks:List Str}{f:EM}(h:Sat (frzV f δ μ) (fun x μ'=>StrK x fun z=>QR (.dat (.bl (if neg=true then !(ks.any fun k=>decide (k=z)) else ks.any fun k=>decide (k=z)))) μ') E):Sat (eInK neg ks f δ μ) QR E:=by
 refine sat_bind (h.mono (fun x μ1 q=>?_) fun _ _ q=>q)
 obtain⟨i,e,q⟩:=q;rw[e];exact q
theorem i_seq {f:EM}(h:Sat (frzV f δ μ) (fun x μ'=>SeqK x fun ds=>QI ds μ') E):Sat (imSeq f δ μ) QI E:=by
 refine sat_bind (h.mono (fun x μ1 q=>?_) fun _ _ q=>q)
 obtain⟨ds,e,q⟩:=q;rw[e];exact q
theorem i_enum {f:EM}(h:Sat (frzV f δ μ) (fun x μ'=>SeqK x fun ds=>QI (enumD 0 ds) μ') E):Sat (imEnum (aCons f aNil) δ μ) QI E:=by
 refine sat_bind (sat_bind (h.mono (fun x μ1 q=>?_) fun _ _ q=>q))
 obtain⟨ds,e,q⟩:=q
 show Sat (match seqD x with|some ds=>_|none=>_) _ _
 rw[e];exact q
theorem i_rng {f:EM}(h:Sat (frzV f δ μ) (fun x μ'=>IntK x fun j=>(-2^62≤j∧j<2^62)∧QI (rngD 0 j.toNat) μ') E):Sat (imRng (aCons f aNil) δ μ) QI E:=by
 refine sat_bind (sat_bind (h.mono (fun x μ1 q=>?_) fun _ _ q=>q))
 obtain⟨j,e,hj,q⟩:=q
 show Sat (match asI x with|some j=>_|none=>_) _ _
 rw[e];simp only;rw[if_pos hj];exact q
theorem i_rng2 {f g:EM}(h:Sat (frzV f δ μ) (fun x μ1=>Sat (frzV g δ μ1) (fun y μ'=>IntK x fun i=>IntK y fun j=>(-2^62≤i∧i<2^62∧-2^62≤j∧j<2^62)∧QI (rngD i (j-i).toNat) μ') E) E):Sat (imRng2 (aCons f (aCons g aNil)) δ μ) QI E:=by
 refine sat_bind (sat_bind (h.mono (fun x μ1 q=>sat_bind (sat_bind (q.mono (fun y μ2 q=>?_) fun _ _ q=>q))) fun _ _ q=>q))
 obtain⟨i,e,j,e2,hj,q⟩:=q
 show Sat (match asI x,asI y with|some i,some j=>_|_,_=>_) _ _
 rw[e,e2];simp only;rw[if_pos hj];exact q
theorem x_lc {fi:IM}{h:D→Env→Option Env}{ft:TM}{fe:EM}{vs:List Nat}(k:Sat (fi δ μ) (fun ds μ1=>ds.length≤sizeLine∧Sat (lcL h ft fe (wipeE δ vs) ds μ1) (fun ys μ2=>QR (.nl ys) μ2) E) E):Sat (eLc fi h ft fe vs δ μ) QR E:=by
 refine sat_bind (k.mono (fun ds μ1 q=>?_) fun _ _ q=>q)
 rw[if_pos q.1];exact sat_bind q.2
theorem lc_mapK {γ:Type}{h:D→Env→Option Env}{fe:EM}{xs:List γ}{enc:γ→D}(y:γ→D)(hx:∀ x∈xs,∃ δ1,h (enc x) δ=some δ1∧Sat (frzV fe δ1 μ) (fun r μ'=>r=.dat (y x)∧μ'=μ) (fun _ _=>False))(hq:QA (xs.map fun x=>.dat (y x)) μ):Sat (lcL h tmYes fe δ (xs.map enc) μ) QA E:=by
 have:lcL h tmYes fe δ (xs.map enc) μ=.ok (xs.map fun x=>.dat (y x)) μ:=by
  clear hq
  induction xs with
  | nil=>rfl
  | cons x xs ih =>
   obtain⟨δ1,h1,h2⟩:=hx x List.mem_cons_self
   have h2:=h2.eq
   simp only[List.map_cons,lcL,h1,tmYes,h2,ih fun z hz=>hx z (List.mem_cons_of_mem _ hz),Res.bind]
 rw[this];exact hq
theorem s_seq {g h:SM}(k:SatS (g N δ μ) { P with nx:=fun δ μ=>SatS (h N δ μ) P }):SatS (gSeq g h N δ μ) P:=by
 unfold gSeq
 cases e:g N δ μ <;> rw[e] at k <;> exact k
theorem s_next (h:P.nx δ μ):SatS (gNext N δ μ) P:=h
theorem s_asg {i:Nat}{f:EM}(h:Sat (frzV f δ μ) (fun x μ'=>P.nx (δ.set i (some x)) μ') (fun x μ=>P.ex x δ μ)):SatS (gAsg i f N δ μ) P:=sat_lift h
theorem s_drop {f:EM}(h:Sat (f δ μ) (fun _ μ'=>P.nx δ μ') (fun x μ=>P.ex x δ μ)):SatS (gDrop f N δ μ) P:=sat_lift h
theorem s_ret {f:EM}(h:Sat (f δ μ) (fun r μ'=>P.rt r μ') (fun x μ=>P.ex x δ μ)):SatS (gRet f N δ μ) P:=sat_lift h
theorem s_if {f:TM}{g h:SM}(k:Sat (f δ μ) (fun b μ'=>if b=true then SatS (g N δ μ') P else SatS (h N δ μ') P) (fun x μ=>P.ex x δ μ)):SatS (gIf f g h N δ μ) P:=by
 refine sat_lift (k.mono (fun b μ' q=>?_) fun _ _ q=>q)
 cases b <;> exact q
theorem s_new {i:Nat}{f:EM}(h:Sat (f δ μ) (fun r μ'=>SatS (bindR N i r δ μ') P) (fun x μ=>P.ex x δ μ)):SatS (gNew i f N δ μ) P:=sat_lift h
theorem r_dat {i:Nat}{d:D}(h:P.nx (δ.set i (some (.dat d))) μ):SatS (bindR N i (.dat d) δ μ) P:=h
theorem r_loc {i n:Nat}(h:P.nx (δ.set i (some (.loc n))) μ):SatS (bindR N i (.loc n) δ μ) P:=h
theorem r_nl {i:Nat}{xs:List DV}(hN:N≤μ.length)(h:P.nx (δ.set i (some (.loc μ.length))) (μ++[.lst xs])):SatS (bindR N i (.nl xs) δ μ) P:=by
 unfold bindR;simp only;rw[if_pos hN];exact h
theorem s_tgt {h:D→Env→Option Env}{f:EM}(k:Sat (frzV f δ μ) (fun x μ'=>TgtK h δ x fun δ'=>P.nx δ' μ') (fun x μ=>P.ex x δ μ)):SatS (gTgt h f N δ μ) P:=by
 refine sat_lift (k.mono (fun x μ' q=>?_) fun _ _ q=>q)
 obtain⟨d,δ',rfl,e,q⟩:=q
 simp only;rw[e];exact q
theorem s_par {i j:Nat}{fa:AM}(h:Sat (fa δ μ) (fun xs μ'=>ParK xs fun x y=>P.nx ((δ.set i (some x)).set j (some y)) μ') (fun x μ=>P.ex x δ μ)):SatS (gPar i j fa N δ μ) P:=by
 refine sat_lift (h.mono (fun xs μ' q=>?_) fun _ _ q=>q)
 obtain⟨x,y,rfl,q⟩:=q;exact q
theorem s_par2 {i j:Nat}{f g:EM}(h:Sat (f δ μ) (fun r μ1=>∃ δ1 μ2,bindR N i r δ μ1=.next δ1 μ2∧Sat (g δ μ2) (fun r2 μ3=>SatS (bindR N j r2 δ1 μ3) P) (fun x μ=>P.ex x δ μ)) (fun x μ=>P.ex x δ μ)):SatS (gPar2 i j f g N δ μ) P:=by
 refine sat_lift (h.mono (fun r μ' q=>?_) fun _ _ q=>q)
 obtain⟨δ1,μ2,e,q⟩:=q
 rw[e];exact sat_lift q
theorem s_aug {i:Nat}{op:Int→Int→Int}{fe:EM}{a:Int}(e:δ[i]?=some (some (.dat (.int a))))(h:Sat (frzV fe δ μ) (fun y μ'=>IntK y fun b=>P.nx (δ.set i (some (.dat (.int (op a b))))) μ') (fun x μ=>P.ex x δ μ)):SatS (gAug i op fe N δ μ) P:=by
 unfold gAug;rw[e]
 show SatS (lift (frzV fe δ μ) δ fun y μ'=>match asI y with|some b=>Out.next (δ.set i (some (.dat (.int (op a b))))) μ' | none=>.bad) P
 refine sat_lift (h.mono (fun y μ' q=>?_) fun _ _ q=>q)
 obtain⟨b,e,q⟩:=q;rw[e];exact q
theorem s_set {fo fi fe:EM}(h:Sat (frzV fe δ μ) (fun y μ1=>Sat (frzV fo δ μ1) (fun x μ2=>Sat (frzV fi δ μ2) (fun i μ3=>∃ μ4,setPl μ3 x i y=some μ4∧P.nx δ μ4) (fun x μ=>P.ex x δ μ)) (fun x μ=>P.ex x δ μ)) (fun x μ=>P.ex x δ μ)):SatS (gSet fo fi fe N δ μ) P:=by
 refine sat_lift (sat_bind (h.mono (fun y μ1 q=>sat_bind (q.mono (fun x μ2 q=>sat_bind (q.mono (fun i μ3 q=>?_) fun _ _ q=>q)) fun _ _ q=>q)) fun _ _ q=>q))
 obtain⟨μ4,e,q⟩:=q;rw[e];exact q
theorem s_disp {i:Nat}{f:NM}(h:Sat (f N δ μ) (fun xs μ1=>xs.length≤sizeLine∧SatS (bindR N i (.nl xs) δ μ1) P) (fun x μ=>P.ex x δ μ)):SatS (gDisp i f N δ μ) P:=by
 unfold gDisp
 cases e:f N δ μ with
 | ok xs μ1=>rw[e] at h;simp only;rw[if_pos h.1];exact h.2
 | exc x μ1=>rw[e] at h;exact h
 | bad=>rw[e] at h;exact h.elim
def NpK (N:Nat)(r:R)(μ:Mem)(QV:DV→Mem→Prop):Prop:=match newPl N r μ with
 | none=>False
 | some (x,μ2)=>QV x μ2
theorem n_nilK (h:QA [] μ):Sat (nNil N δ μ) QA E:=h
theorem n_consK {f:EM}{g:NM}(h:Sat (f δ μ) (fun r μ1=>NpK N r μ1 fun x μ2=>Sat (g N δ μ2) (fun xs μ3=>QA (x::xs) μ3) E) E):Sat (nCons f g N δ μ) QA E:=by
 refine sat_bind (h.mono (fun r μ1 q=>?_) fun _ _ q=>q)
 unfold NpK at q
 cases e:newPl N r μ1 with
 | none=>rw[e] at q;exact q.elim
 | some p=>rw[e] at q;exact sat_bind q
theorem p_dat {d:D}(h:QV (.dat d) μ):NpK N (.dat d) μ QV:=h
theorem p_loc {n:Nat}(h:QV (.loc n) μ):NpK N (.loc n) μ QV:=h
theorem p_nl {xs:List DV}(hN:N≤μ.length)(h:QV (.loc μ.length) (μ++[.lst xs])):NpK N (.nl xs) μ QV:=by
 unfold NpK newPl;simp only;rw[if_pos hN];exact h
def ClK (N:Nat)(r:R)(μ:Mem)(QR:R→Mem→Prop)(E:Xc→Mem→Prop):Prop:=Sat (closeR N r μ) QR E
abbrev endP (N:Nat)(QR:R→Mem→Prop)(E:Xc→Mem→Prop):PO :=
 { nx:=fun _ μ'=>QR (.dat .non) (μ'.take N),rt:=fun r μ'=>ClK N r μ' QR E,bk:=fun _ _=>False,ct:=fun _ _=>False,ex:=fun x _ μ'=>E x (μ'.take N) }
theorem x_call {g:SM}{n m:Nat}{args:List DV}(hn:args.length=n)(h:SatS (g μ.length (args.map some++List.replicate m none) μ) (endP μ.length QR E)):Sat (callD g n m args μ) QR E:=by
 unfold callD;rw[if_pos hn];unfold callF
 cases e:g μ.length (args.map some++List.replicate m none) μ <;> rw[e] at h <;> exact h
theorem k_dat {d:D}{μ':Mem}(e:μ'.take N=μ)(h:QR (.dat d) μ):ClK N (.dat d) μ' QR E:=by unfold ClK;rw[close_dat e];exact h
theorem k_nl {xs:List DV}{μ':Mem}(e:μ'.take N=μ)(hb:belowA N xs=true)(h:QR (.nl xs) μ):ClK N (.nl xs) μ' QR E:=by
 unfold ClK closeR;simp only;rw[if_pos hb,e];exact h
theorem below_map (ds:List D):belowA N (ds.map DV.dat)=true:=by
 unfold belowA;rw[List.all_eq_true];intro x hx
 obtain⟨d,_,rfl⟩:=List.mem_map.mp hx;rfl
theorem below_mapf {γ:Type}(f:γ→D)(ys:List γ):belowA N (ys.map fun y=>.dat (f y))=true:=by
 unfold belowA;rw[List.all_eq_true];intro x hx
 obtain⟨d,_,rfl⟩:=List.mem_map.mp hx;rfl
theorem k_nlf {γ:Type}{f:γ→D}{ys:List γ}{μ':Mem}(e:μ'.take N=μ)(h:QR (.nl (ys.map fun y=>.dat (f y))) μ):ClK N (.nl (ys.map fun y=>.dat (f y))) μ' QR E:=k_nl e (below_mapf f ys) h
theorem s_for {ks:List Bool}{fi:IM}{h:D→Env→Option Env}{gb:SM}(k:Sat (fi δ μ) (fun ds μ'=>SatS (forL μ'.length ks h gb N ds δ μ') P) (fun x μ=>P.ex x δ μ)):SatS (gFor ks fi h gb N δ μ) P:=sat_lift k
theorem for_inv {M:Nat}{ks:List Bool}{h:D→Env→Option Env}{gb:SM}{ds:List D}(I:Nat→Env→Mem→Prop)(h0:I 0 δ μ)
  (ht:∀ i d,ds[i]?=some d→∀ δ μ,I i δ μ→∃ δ1,h d δ=some δ1∧SatS (gb N δ1 μ) { nx:=fun δ' μ'=>I (i+1) (cut M ks δ') (μ'.take M),ct:=fun δ' μ'=>I (i+1) (cut M ks δ') (μ'.take M),bk:=fun δ' μ'=>P.nx (cut M ks δ') (μ'.take M),rt:=P.rt,ex:=P.ex })
  (he:∀ δ μ,I ds.length δ μ→P.nx δ μ):SatS (forL M ks h gb N ds δ μ) P:=by
 have key:∀ (n:Nat) (i:Nat) (δ:Env) (μ:Mem),i+n=ds.length→I i δ μ→SatS (forL M ks h gb N (ds.drop i) δ μ) P:=by
  intro n
  induction n with
  | zero =>
   intro i δ μ hi hI
   rw[List.drop_of_length_le (by omega)]
   have:i=ds.length:=by omega
   subst this
   exact he δ μ hI
  | succ n ih =>
   intro i δ μ hi hI
   have hl:i<ds.length:=by omega
   rw[List.drop_eq_getElem_cons hl]
   obtain⟨δ1,h1,h2⟩:=ht i ds[i] (List.getElem?_eq_getElem hl) δ μ hI
   simp only[forL,h1]
   cases e:gb N δ1 μ with
   | next δ' μ'=>rw[e] at h2;exact ih (i+1) _ _ (by omega) h2
   | cnt δ' μ'=>rw[e] at h2;exact ih (i+1) _ _ (by omega) h2
   | brk δ' μ'=>rw[e] at h2;exact h2
   | ret r μ'=>rw[e] at h2;exact h2
   | exc x δ' μ'=>rw[e] at h2;exact h2
   | bad=>rw[e] at h2;exact h2
 have:=key ds.length 0 δ μ (by omega) h0
 rw[List.drop_zero] at this;exact this
theorem s_wh {fuel:Nat}{ks:List Bool}{ft:TM}{gb:SM}(k:SatS (whL μ.length ks ft gb N fuel δ μ) P):SatS (gWh fuel ks ft gb N δ μ) P:=k
end
section
variable {QR:R→Mem→Prop}{E:Xc→Mem→Prop}{P:PO}{δ:Env}{μ:Mem}{N n:Nat}{i j:Int}{s t:Str}{ds es:List D}{xs ys:List DV}{Q Q':Prop}
theorem sl_sz {α:Type}{l:List α}(h:l.length≤1000000):l.length≤sizeLine:=Nat.le_trans h (by decide)
theorem sz_lit {n:Nat}(h:Nat.ble n 1000000=true):n≤sizeLine:=Nat.le_trans (Nat.le_of_ble_eq_true h) (by decide)
theorem if_T (h:Q):if true=true then Q else Q':=h
theorem if_F (h:Q'):if false=true then Q else Q':=h
theorem if_dec {p:Prop}[Decidable p](h1:p→Q)(h2:¬p→Q'):if decide p=true then Q else Q':=by
 by_cases h:p
 ·rw[if_pos (decide_eq_true h)];exact h1 h
 ·rw[if_neg (by simpa using h)];exact h2 h
theorem if_ndec {p:Prop}[Decidable p](h1:¬p→Q)(h2:p→Q'):if(!decide p)=true then Q else Q':=by
 by_cases h:p
 ·rw[if_neg (by simpa using h)];exact h2 h
 ·rw[if_pos (by simpa using h)];exact h1 h
theorem tk {ds:List D}{Q:D→Prop}(e:allDat xs=some ds)(hl:ds.length≤sizeLine)(h:Q (.tup ds)):TupK xs Q:=⟨ds,e,hl,h⟩
theorem sk_l {Q:List D→Prop}(h:Q ds):SeqK (.dat (.lst ds)) Q:=⟨ds,rfl,h⟩
theorem sk_f {Q:List D→Prop}(h:Q ds):SeqK (.dat (.fro ds)) Q:=⟨ds,rfl,h⟩
theorem sk_t {Q:List D→Prop}(h:Q ds):SeqK (.dat (.tup ds)) Q:=⟨ds,rfl,h⟩
theorem ik {Q:Int→Prop}(h:Q i):IntK (.dat (.int i)) Q:=⟨i,rfl,h⟩
theorem stk {Q:Str→Prop}(h:Q s):StrK (.dat (.str s)) Q:=⟨s,rfl,h⟩
theorem pk {x y:DV}{Q:DV→DV→Prop}(h:Q x y):ParK [x,y] Q:=⟨x,y,rfl,h⟩
theorem gk {h:D→Env→Option Env}{d:D}{δ':Env}{Q:Env→Prop}(e:h d δ=some δ')(k:Q δ'):TgtK h δ (.dat d) Q:=⟨d,δ',rfl,e,k⟩
theorem l_addI (h:QR (.dat (.int (i+j))) μ):Sat (dAdd (.dat (.int i)) (.dat (.int j)) μ) QR E:=h
theorem l_addL (hl:ds.length+es.length≤sizeLine)(h:QR (.nl ((ds++es).map DV.dat)) μ):Sat (dAdd (.dat (.lst ds)) (.dat (.lst es)) μ) QR E:=by
 rw[add_lst hl];exact h
theorem l_sub (h:QR (.dat (.int (i-j))) μ):Sat (dSub (.dat (.int i)) (.dat (.int j)) μ) QR E:=h
theorem l_lt (h:QR (.dat (.bl (decide (i<j)))) μ):Sat (dLt (.dat (.int i)) (.dat (.int j)) μ) QR E:=h
theorem l_le (h:QR (.dat (.bl (decide (i≤j)))) μ):Sat (dLe (.dat (.int i)) (.dat (.int j)) μ) QR E:=h
theorem l_gt (h:QR (.dat (.bl (decide (j<i)))) μ):Sat (dGt (.dat (.int i)) (.dat (.int j)) μ) QR E:=h
theorem l_ge (h:QR (.dat (.bl (decide (j≤i)))) μ):Sat (dGe (.dat (.int i)) (.dat (.int j)) μ) QR E:=h
theorem l_neg (h:QR (.dat (.int (-i))) μ):Sat (dNeg (.dat (.int i)) μ) QR E:=h
theorem int_beq (i j:Int):(i==j)=decide (i=j):=by
 by_cases h:i=j
 ·subst h;simp
 ·rw[decide_eq_false h];exact beq_false_of_ne h
theorem l_eqI (h:QR (.dat (.bl (decide (i=j)))) μ):Sat (dEq (.dat (.int i)) (.dat (.int j)) μ) QR E:=by
 rw[show dEq (.dat (.int i)) (.dat (.int j)) μ=.ok (.dat (.bl (decide (i=j)))) μ from(dEqB_int true i j μ).trans (by rw[int_beq];cases decide (i=j) <;> rfl)];exact h
theorem l_neI (h:QR (.dat (.bl (!decide (i=j)))) μ):Sat (dNe (.dat (.int i)) (.dat (.int j)) μ) QR E:=by
 rw[show dNe (.dat (.int i)) (.dat (.int j)) μ=.ok (.dat (.bl (!decide (i=j)))) μ from(dEqB_int false i j μ).trans (by rw[int_beq];cases decide (i=j) <;> rfl)];exact h
theorem l_eqS (h:QR (.dat (.bl (decide (s=t)))) μ):Sat (dEq (.dat (.str s)) (.dat (.str t)) μ) QR E:=by
 rw[show dEq (.dat (.str s)) (.dat (.str t)) μ=.ok (.dat (.bl (decide (s=t)))) μ from eq_str.trans (by cases decide (s=t) <;> rfl)];exact h
theorem l_neS (h:QR (.dat (.bl (!decide (s=t)))) μ):Sat (dNe (.dat (.str s)) (.dat (.str t)) μ) QR E:=by
 rw[show dNe (.dat (.str s)) (.dat (.str t)) μ=.ok (.dat (.bl (!decide (s=t)))) μ from eq_str.trans (by cases decide (s=t) <;> rfl)];exact h
theorem l_ixT {d:D}(e:atI ds i=some d)(h:QR (.dat d) μ):Sat (dIx (.dat (.tup ds)) (.dat (.int i)) μ) QR E:=by rw[dIx_tup e];exact h
theorem l_ixL {d:D}(e:atI ds i=some d)(h:QR (.dat d) μ):Sat (dIx (.dat (.lst ds)) (.dat (.int i)) μ) QR E:=by rw[dIx_lst e];exact h
theorem l_ixM {x:DV}(e:μ[n]?=some (.lst xs))(e2:atI xs i=some x)(h:QR (ofV x) μ):Sat (dIx (.loc n) (.dat (.int i)) μ) QR E:=by rw[dIx_loc e e2];exact h
theorem l_slT {lo hi:Option Int}(h:QR (.dat (.tup (cutL ds lo hi))) μ):Sat (dSl (.dat (.tup ds)) lo hi μ) QR E:=h
theorem l_slL {lo hi:Option Int}(h:QR (.nl ((cutL ds lo hi).map DV.dat)) μ):Sat (dSl (.dat (.lst ds)) lo hi μ) QR E:=by rw[sl_lst];exact h
theorem l_lenT (h:QR (.dat (.int ds.length)) μ):Sat (d1 dLen [.dat (.tup ds)] μ) QR E:=by
 have:d1 dLen [.dat (.tup ds)] μ=.ok (.dat (.int ds.length)) μ:=by simp[d1,dLen,asS,asL,asT]
 rw[this];exact h
theorem l_lenL (h:QR (.dat (.int ds.length)) μ):Sat (d1 dLen [.dat (.lst ds)] μ) QR E:=by rw[len_lst];exact h
theorem l_int (h:QR (.dat (.int i)) μ):Sat (d1 dInt [.dat (.int i)] μ) QR E:=h
theorem l_intB {b:Bool}(h:QR (.dat (.int (if b=true then 1 else 0))) μ):Sat (d1 dInt [.dat (.bl b)] μ) QR E:=h
theorem l_listT (h:QR (.nl (ds.map DV.dat)) μ):Sat (d1 dList [.dat (.tup ds)] μ) QR E:=h
theorem l_listL (h:QR (.nl (ds.map DV.dat)) μ):Sat (d1 dList [.dat (.lst ds)] μ) QR E:=h
theorem l_tupL (h:QR (.dat (.tup ds)) μ):Sat (d1 dTuple [.dat (.lst ds)] μ) QR E:=by rw[tuple_lst];exact h
theorem l_tupT (h:QR (.dat (.tup ds)) μ):Sat (d1 dTuple [.dat (.tup ds)] μ) QR E:=h
theorem l_app {y:DV}(e:μ[n]?=some (.lst xs))(hl:xs.length<sizeLine)(hb:belowB n y=true)(h:QR (.dat .non) (μ.set n (.lst (xs++[y])))):Sat (dAppend (.loc n) [y] μ) QR E:=by rw[app_ok e hl hb];exact h
theorem l_inT {ss:List Str}(h:QR (.dat (.bl (decide (s∈ss)))) μ):Sat (dIn false (.dat (.str s)) (.dat (.tup (ss.map D.str))) μ) QR E:=by rw[in_tup];exact h
theorem l_ninT {ss:List Str}(h:QR (.dat (.bl (!decide (s∈ss)))) μ):Sat (dIn true (.dat (.str s)) (.dat (.tup (ss.map D.str))) μ) QR E:=by rw[in_tup];exact h
theorem in_lst {neg:Bool}{s:Str}{ss:List Str}{μ:Mem}:dIn neg (.dat (.str s)) (.dat (.lst (ss.map D.str))) μ=.ok (.dat (.bl (if neg=true then !decide (s∈ss) else decide (s∈ss)))) μ:=by
 have:(ss.map D.str).map DV.dat=ss.map fun s=>.dat (.str s):=by simp
 simp only[dIn,flat,asS,asL,asT,Option.map,this,flats_str,inV_str]
theorem l_inL {ss:List Str}(h:QR (.dat (.bl (decide (s∈ss)))) μ):Sat (dIn false (.dat (.str s)) (.dat (.lst (ss.map D.str))) μ) QR E:=by rw[in_lst];exact h
theorem l_ninL {ss:List Str}(h:QR (.dat (.bl (!decide (s∈ss)))) μ):Sat (dIn true (.dat (.str s)) (.dat (.lst (ss.map D.str))) μ) QR E:=by rw[in_lst];exact h
theorem ty_l:tyL (.dat (.lst ds)) μ=true:=rfl
theorem ty_s:tyS (.dat (.str s)) μ=true:=rfl
theorem d_take {B:Bg}{ν:Mem}{m:Int}(hB:B.ok)(hm:0<m)(hm':m<1073741824)(h:∀ (r:Nat) (B':Bg),B'.ok→(r:Int)<m→QR (.dat (.int r)) (B'.pl::ν)):Sat (callD gTake 2 5 [.loc 0,.dat (.int m)] (B.pl::ν)) QR E:=by
 obtain⟨o1,o2,o3⟩:=takeB_ok hB hm
 rw[take_spec (n:=0) (μ:=B.pl::ν) hB rfl hm hm']
 generalize (takeB B m).1=t at *
 generalize (takeB B m).2=B2 at *
 obtain⟨k,rfl⟩:=Int.eq_ofNat_of_zero_le o2
 exact h k B2 o1 o3
end
section
variable {QR:R→Mem→Prop}{QV:DV→Mem→Prop}{QB:Bool→Mem→Prop}{E:Xc→Mem→Prop}{P:PO}{δ δ':Env}{μ μ':Mem}{N n i:Nat}{x:Option DV}{d:D}{ds:List D}{xs:List DV}
theorem al_nil:allDat []=some []:=rfl
theorem al_cons (h:allDat xs=some ds):allDat (.dat d::xs)=some (d::ds):=by simp only[allDat,h];rfl
theorem set_now {g:SM}(e:δ.set i x=δ')(h:SatS (g N δ' μ) P):SatS (g N (δ.set i x) μ) P:=e▸h
theorem x_varD (e:δ[i]?=some (some (.dat d)))(h:QR (.dat d) μ):Sat (eVar i δ μ) QR E:=x_var e h
theorem x_varL (e:δ[i]?=some (some (.loc n)))(h:QR (.loc n) μ):Sat (eVar i δ μ) QR E:=x_var e h
theorem z_ofD (h:QV (.dat d) μ):FzK (ofV (.dat d)) μ QV:=h
theorem b_ofD {b:Bool}(h:QB b μ):BlK (ofV (.dat (.bl b))) μ QB:=h
end
def MkK (N:Nat)(QR:R→Mem→Prop):R→Mem→Prop:=fun r μ2=>∃ nm' gs ds,r=.dat .non∧μ2[N+1]?=some (.ins nm' gs)∧allDat (gs.map (·.2))=some ds∧QR (.dat (.ins nm' ((gs.map (·.1)).zip ds))) (μ2.take N)
section
variable {QR:R→Mem→Prop}{E:Xc→Mem→Prop}{P:PO}{δ:Env}{μ:Mem}{N n:Nat}{nm m:Str}{F:List DV→Mem→Res R}{f fa fb fo fe:EM}{g:AM}{x:DV}{d:D}{fs:List (Str×D)}{gs:List (Str×DV)}{tab:Kd→Option Bool}{i j:Int}{ds:List D}{xs:List DV}
theorem x_fld {nms:List Str}(h:Sat (frzV f δ μ) (fun x μ1=>∃ nm fs y,insAt μ1 x=some (nm,fs)∧nm∈nms∧fs.lookup m=some y∧QR (ofV y) μ1) E):Sat (eFld nms m f δ μ) QR E:=by
 refine sat_bind (h.mono (fun x μ1 q=>?_) fun _ _ q=>q)
 obtain⟨nm,fs,y,e1,e2,e3,q⟩:=q
 rw[e1];simp only;rw[if_pos e2,e3];exact q
theorem x_meth (h:Sat (frzV f δ μ) (fun x μ1=>isI nm m x μ1=true∧Sat (g δ μ1) (fun xs μ2=>Sat (F (x::xs) μ2) QR E) E) E):Sat (eMeth nm m F f g δ μ) QR E:=by
 refine sat_bind (h.mono (fun x μ1 q=>?_) fun _ _ q=>q)
 rw[if_pos q.1];exact sat_bind q.2
theorem x_make (h:Sat (g δ μ) (fun xs μ1=>Sat (F (.loc (μ1.length+1)::xs) (μ1++[.own]++[.ins nm []])) (MkK μ1.length QR) (fun x μ2=>E x (μ2.take μ1.length))) E):Sat (eMake nm F g δ μ) QR E:=by
 refine sat_bind (h.mono (fun xs μ1 q=>?_) fun _ _ q=>q)
 unfold mkRun
 cases e:F (.loc (μ1.length+1)::xs) (μ1++[.own]++[.ins nm []]) with
 | ok r μ2 =>
  rw[e] at q
  obtain⟨nm',gs,ds,rfl,e1,e2,q⟩:=q
  simp only[mkEnd,e1,e2];exact q
 | exc x μ2=>rw[e] at q;exact q
 | bad=>rw[e] at q;exact q
theorem x_lenO (h:Sat (frzV f δ μ) (fun x μ1=>isI nm "" x μ1=true∧Sat (F [x] μ1) (fun r μ2=>∃ n:Int,r=.dat (.int n)∧(0≤n∧n<2^63)∧QR (.dat (.int n)) μ2) (fun _ _=>False)) E):Sat (eLenO nm F f δ μ) QR E:=by
 refine sat_bind (h.mono (fun x μ1 q=>?_) fun _ _ q=>q)
 rw[if_pos q.1]
 have q:=q.2
 cases e:F [x] μ1 with
 | ok r μ2=>rw[e] at q;obtain⟨n,rfl,hn,q⟩:=q;simp only;rw[if_pos hn];exact q
 | exc x μ2=>rw[e] at q;exact q.elim
 | bad=>rw[e] at q;exact q.elim
theorem x_eqO {others:List Str} (h:Sat (frzV fa δ μ) (fun x μ1=>Sat (frzV fb δ μ1) (fun y μ2=>(isI nm "" x μ2=true∧((kindOf μ2 y).bind (tabC nm others)).isSome=true)∧Sat (F [x,y] μ2) (fun r μ3=>BlK r μ3 fun b μ3=>QR (.dat (.bl b)) μ3) (fun _ _=>False)) E) E):Sat (eEqO nm others F fa fb δ μ) QR E:=by
 refine sat_bind (h.mono (fun x μ1 q=>sat_bind (q.mono (fun y μ2 q=>?_) fun _ _ q=>q)) fun _ _ q=>q)
 rw[if_pos q.1]
 have q:=q.2
 cases e:F [x,y] μ2 with
 | ok r μ3=>rw[e] at q;obtain⟨b,rfl,_,q⟩:=BlK.ex q;exact q
 | exc x μ2=>rw[e] at q;exact q.elim
 | bad=>rw[e] at q;exact q.elim
theorem x_inO {neg:Bool} (h:Sat (frzV fa δ μ) (fun y μ1=>Sat (frzV fb δ μ1) (fun x μ2=>isI nm "" x μ2=true∧Sat (F [x,y] μ2) (fun r μ3=>BlK r μ3 fun b μ3=>QR (.dat (.bl (b != neg))) μ3) (fun _ _=>False)) E) E):Sat (eInO nm neg F fa fb δ μ) QR E:=by
 refine sat_bind (h.mono (fun y μ1 q=>sat_bind (q.mono (fun x μ2 q=>?_) fun _ _ q=>q)) fun _ _ q=>q)
 rw[if_pos q.1]
 have q:=q.2
 cases e:F [x,y] μ2 with
 | ok r μ3=>rw[e] at q;obtain⟨b,rfl,_,q⟩:=BlK.ex q;exact q
 | exc x μ2=>rw[e] at q;exact q.elim
 | bad=>rw[e] at q;exact q.elim
theorem l_isi {kd:Kd}{b:Bool}(e:kindOf μ x=some kd)(e2:tab kd=some b)(h:QR (.dat (.bl b)) μ):Sat (dIsi tab x μ) QR E:=by
 unfold dIsi;rw[e];simp only;rw[e2];exact h
theorem s_fld {nms:List Str}(h:Sat (frzV fe δ μ) (fun y μ1=>Sat (frzV fo δ μ1) (fun x μ2=>∃ μ3,setFld nms μ2 x m y=some μ3∧P.nx δ μ3) (fun x μ=>P.ex x δ μ)) (fun x μ=>P.ex x δ μ)):SatS (gFld nms m fo fe N δ μ) P:=by
 refine sat_lift (sat_bind (h.mono (fun y μ1 q=>sat_bind (q.mono (fun x μ2 q=>?_) fun _ _ q=>q)) fun _ _ q=>q))
 obtain⟨μ3,e,q⟩:=q;rw[e];exact q
theorem l_mm {f:Int→Int→Int}(h:QR (.dat (.int (f i j))) μ):Sat (d2 (dMM f) [.dat (.int i),.dat (.int j)] μ) QR E:=h
end
section
variable {QR:R→Mem→Prop}{QV:DV→Mem→Prop}{E:Xc→Mem→Prop}{P:PO}{δ δ':Env}{μ μ':Mem}{N n i:Nat}{nm m m':Str}{f:EM}{x:DV}{d:D}{ds:List D}{xs:List DV}{nms:List Str}
def FldK (nms:List Str)(m:Str)(x:DV)(μ:Mem)(Q:DV→Prop):Prop:=∃ nm fs y,insAt μ x=some (nm,fs)∧nm∈nms∧fs.lookup m=some y∧Q y
theorem x_fldK (h:Sat (frzV f δ μ) (fun x μ1=>FldK nms m x μ1 fun y=>QR (ofV y) μ1) E):Sat (eFld nms m f δ μ) QR E:=x_fld h
theorem fk1 {Q:DV→Prop}(hn:nm∈nms)(h:Q (.dat d)):FldK nms m (.dat (.ins nm [(m,d)])) μ Q:=⟨nm,_,.dat d,rfl,hn,by simp[List.lookup],h⟩
theorem isI_one (h:(m==m')=false):isI nm m (.dat (.ins nm [(m',d)])) μ=true:=by
 unfold isI;simp[insAt,List.lookup,h]
end
theorem mem_here {μ:Mem}{p:Pl}{X:Mem}:(μ++p::X)[μ.length]?=some p:=by simp
theorem mem_take {μ X:Mem}:(μ++X).take μ.length=μ:=by simp
section
variable {QR:R→Mem→Prop}{E:Xc→Mem→Prop}{P:PO}{δ δ':Env}{μ μ':Mem}{N n:Nat}{cls others:List Str}{nm:Str}{d:D}{x:DV}
theorem kb_NoneType_int:kitB "NoneType" "int"=some false:=by decide +kernel
theorem kb_NoneType_bool:kitB "NoneType" "bool"=some false:=by decide +kernel
theorem kb_NoneType_str:kitB "NoneType" "str"=some false:=by decide +kernel
theorem kb_NoneType_tuple:kitB "NoneType" "tuple"=some false:=by decide +kernel
theorem kb_NoneType_list:kitB "NoneType" "list"=some false:=by decide +kernel
theorem kb_NoneType_dict:kitB "NoneType" "dict"=some false:=by decide +kernel
theorem kb_bool_int:kitB "bool" "int"=some true:=by decide +kernel
theorem kb_bool_bool:kitB "bool" "bool"=some true:=by decide +kernel
theorem kb_bool_str:kitB "bool" "str"=some false:=by decide +kernel
theorem kb_bool_tuple:kitB "bool" "tuple"=some false:=by decide +kernel
theorem kb_bool_list:kitB "bool" "list"=some false:=by decide +kernel
theorem kb_bool_dict:kitB "bool" "dict"=some false:=by decide +kernel
theorem kb_int_int:kitB "int" "int"=some true:=by decide +kernel
theorem kb_int_bool:kitB "int" "bool"=some false:=by decide +kernel
theorem kb_int_str:kitB "int" "str"=some false:=by decide +kernel
theorem kb_int_tuple:kitB "int" "tuple"=some false:=by decide +kernel
theorem kb_int_list:kitB "int" "list"=some false:=by decide +kernel
theorem kb_int_dict:kitB "int" "dict"=some false:=by decide +kernel
theorem kb_str_int:kitB "str" "int"=some false:=by decide +kernel
theorem kb_str_bool:kitB "str" "bool"=some false:=by decide +kernel
theorem kb_str_str:kitB "str" "str"=some true:=by decide +kernel
theorem kb_str_tuple:kitB "str" "tuple"=some false:=by decide +kernel
theorem kb_str_list:kitB "str" "list"=some false:=by decide +kernel
theorem kb_str_dict:kitB "str" "dict"=some false:=by decide +kernel
theorem kb_tuple_int:kitB "tuple" "int"=some false:=by decide +kernel
theorem kb_tuple_bool:kitB "tuple" "bool"=some false:=by decide +kernel
theorem kb_tuple_str:kitB "tuple" "str"=some false:=by decide +kernel
theorem kb_tuple_tuple:kitB "tuple" "tuple"=some true:=by decide +kernel
theorem kb_tuple_list:kitB "tuple" "list"=some false:=by decide +kernel
theorem kb_tuple_dict:kitB "tuple" "dict"=some false:=by decide +kernel
theorem kb_list_int:kitB "list" "int"=some false:=by decide +kernel
theorem kb_list_bool:kitB "list" "bool"=some false:=by decide +kernel
theorem kb_list_str:kitB "list" "str"=some false:=by decide +kernel
theorem kb_list_tuple:kitB "list" "tuple"=some false:=by decide +kernel
theorem kb_list_list:kitB "list" "list"=some true:=by decide +kernel
theorem kb_list_dict:kitB "list" "dict"=some false:=by decide +kernel
theorem kb_dict_int:kitB "dict" "int"=some false:=by decide +kernel
theorem kb_dict_bool:kitB "dict" "bool"=some false:=by decide +kernel
theorem kb_dict_str:kitB "dict" "str"=some false:=by decide +kernel
theorem kb_dict_tuple:kitB "dict" "tuple"=some false:=by decide +kernel
theorem kb_dict_list:kitB "dict" "list"=some false:=by decide +kernel
theorem kb_dict_dict:kitB "dict" "dict"=some true:=by decide +kernel
theorem is_non_int (h:QR (.dat (.bl false)) μ):Sat (dIsi (tabT "int" cls) (.dat .non) μ) QR E:=l_isi rfl (show tabT "int" cls (.b "NoneType")=some false from kb_NoneType_int) h
theorem is_non_bool (h:QR (.dat (.bl false)) μ):Sat (dIsi (tabT "bool" cls) (.dat .non) μ) QR E:=l_isi rfl (show tabT "bool" cls (.b "NoneType")=some false from kb_NoneType_bool) h
theorem is_non_str (h:QR (.dat (.bl false)) μ):Sat (dIsi (tabT "str" cls) (.dat .non) μ) QR E:=l_isi rfl (show tabT "str" cls (.b "NoneType")=some false from kb_NoneType_str) h
theorem is_non_tuple (h:QR (.dat (.bl false)) μ):Sat (dIsi (tabT "tuple" cls) (.dat .non) μ) QR E:=l_isi rfl (show tabT "tuple" cls (.b "NoneType")=some false from kb_NoneType_tuple) h
theorem is_non_list (h:QR (.dat (.bl false)) μ):Sat (dIsi (tabT "list" cls) (.dat .non) μ) QR E:=l_isi rfl (show tabT "list" cls (.b "NoneType")=some false from kb_NoneType_list) h
theorem is_non_dict (h:QR (.dat (.bl false)) μ):Sat (dIsi (tabT "dict" cls) (.dat .non) μ) QR E:=l_isi rfl (show tabT "dict" cls (.b "NoneType")=some false from kb_NoneType_dict) h
theorem is2_non_list_tuple (h:QR (.dat (.bl false)) μ):Sat (dIsi (tabT2 "list" "tuple" cls) (.dat .non) μ) QR E:=l_isi rfl (show tabT2 "list" "tuple" cls (.b "NoneType")=some false from by simp only[tabT2,kb_NoneType_list,kb_NoneType_tuple]) h
theorem isC_non (h:QR (.dat (.bl false)) μ):Sat (dIsi (tabC nm others) (.dat .non) μ) QR E:=l_isi rfl (show tabC nm others (.b "NoneType")=some false from by simp[tabC]) h
theorem is_bl_int {b:Bool} (h:QR (.dat (.bl true)) μ):Sat (dIsi (tabT "int" cls) (.dat (.bl b)) μ) QR E:=l_isi rfl (show tabT "int" cls (.b "bool")=some true from kb_bool_int) h
theorem is_bl_bool {b:Bool} (h:QR (.dat (.bl true)) μ):Sat (dIsi (tabT "bool" cls) (.dat (.bl b)) μ) QR E:=l_isi rfl (show tabT "bool" cls (.b "bool")=some true from kb_bool_bool) h
theorem is_bl_str {b:Bool} (h:QR (.dat (.bl false)) μ):Sat (dIsi (tabT "str" cls) (.dat (.bl b)) μ) QR E:=l_isi rfl (show tabT "str" cls (.b "bool")=some false from kb_bool_str) h
theorem is_bl_tuple {b:Bool} (h:QR (.dat (.bl false)) μ):Sat (dIsi (tabT "tuple" cls) (.dat (.bl b)) μ) QR E:=l_isi rfl (show tabT "tuple" cls (.b "bool")=some false from kb_bool_tuple) h
theorem is_bl_list {b:Bool} (h:QR (.dat (.bl false)) μ):Sat (dIsi (tabT "list" cls) (.dat (.bl b)) μ) QR E:=l_isi rfl (show tabT "list" cls (.b "bool")=some false from kb_bool_list) h
theorem is_bl_dict {b:Bool} (h:QR (.dat (.bl false)) μ):Sat (dIsi (tabT "dict" cls) (.dat (.bl b)) μ) QR E:=l_isi rfl (show tabT "dict" cls (.b "bool")=some false from kb_bool_dict) h
theorem is2_bl_list_tuple {b:Bool} (h:QR (.dat (.bl false)) μ):Sat (dIsi (tabT2 "list" "tuple" cls) (.dat (.bl b)) μ) QR E:=l_isi rfl (show tabT2 "list" "tuple" cls (.b "bool")=some false from by simp only[tabT2,kb_bool_list,kb_bool_tuple]) h
theorem isC_bl {b:Bool}(h:QR (.dat (.bl false)) μ):Sat (dIsi (tabC nm others) (.dat (.bl b)) μ) QR E:=l_isi rfl (show tabC nm others (.b "bool")=some false from by simp[tabC]) h
theorem is_int_int {i:Int} (h:QR (.dat (.bl true)) μ):Sat (dIsi (tabT "int" cls) (.dat (.int i)) μ) QR E:=l_isi rfl (show tabT "int" cls (.b "int")=some true from kb_int_int) h
theorem is_int_bool {i:Int} (h:QR (.dat (.bl false)) μ):Sat (dIsi (tabT "bool" cls) (.dat (.int i)) μ) QR E:=l_isi rfl (show tabT "bool" cls (.b "int")=some false from kb_int_bool) h
theorem is_int_str {i:Int} (h:QR (.dat (.bl false)) μ):Sat (dIsi (tabT "str" cls) (.dat (.int i)) μ) QR E:=l_isi rfl (show tabT "str" cls (.b "int")=some false from kb_int_str) h
theorem is_int_tuple {i:Int} (h:QR (.dat (.bl false)) μ):Sat (dIsi (tabT "tuple" cls) (.dat (.int i)) μ) QR E:=l_isi rfl (show tabT "tuple" cls (.b "int")=some false from kb_int_tuple) h
theorem is_int_list {i:Int} (h:QR (.dat (.bl false)) μ):Sat (dIsi (tabT "list" cls) (.dat (.int i)) μ) QR E:=l_isi rfl (show tabT "list" cls (.b "int")=some false from kb_int_list) h
theorem is_int_dict {i:Int} (h:QR (.dat (.bl false)) μ):Sat (dIsi (tabT "dict" cls) (.dat (.int i)) μ) QR E:=l_isi rfl (show tabT "dict" cls (.b "int")=some false from kb_int_dict) h
theorem is2_int_list_tuple {i:Int} (h:QR (.dat (.bl false)) μ):Sat (dIsi (tabT2 "list" "tuple" cls) (.dat (.int i)) μ) QR E:=l_isi rfl (show tabT2 "list" "tuple" cls (.b "int")=some false from by simp only[tabT2,kb_int_list,kb_int_tuple]) h
theorem isC_int {i:Int}(h:QR (.dat (.bl false)) μ):Sat (dIsi (tabC nm others) (.dat (.int i)) μ) QR E:=l_isi rfl (show tabC nm others (.b "int")=some false from by simp[tabC]) h
theorem is_str_int {s:Str} (h:QR (.dat (.bl false)) μ):Sat (dIsi (tabT "int" cls) (.dat (.str s)) μ) QR E:=l_isi rfl (show tabT "int" cls (.b "str")=some false from kb_str_int) h
theorem is_str_bool {s:Str} (h:QR (.dat (.bl false)) μ):Sat (dIsi (tabT "bool" cls) (.dat (.str s)) μ) QR E:=l_isi rfl (show tabT "bool" cls (.b "str")=some false from kb_str_bool) h
theorem is_str_str {s:Str} (h:QR (.dat (.bl true)) μ):Sat (dIsi (tabT "str" cls) (.dat (.str s)) μ) QR E:=l_isi rfl (show tabT "str" cls (.b "str")=some true from kb_str_str) h
theorem is_str_tuple {s:Str} (h:QR (.dat (.bl false)) μ):Sat (dIsi (tabT "tuple" cls) (.dat (.str s)) μ) QR E:=l_isi rfl (show tabT "tuple" cls (.b "str")=some false from kb_str_tuple) h
theorem is_str_list {s:Str} (h:QR (.dat (.bl false)) μ):Sat (dIsi (tabT "list" cls) (.dat (.str s)) μ) QR E:=l_isi rfl (show tabT "list" cls (.b "str")=some false from kb_str_list) h
theorem is_str_dict {s:Str} (h:QR (.dat (.bl false)) μ):Sat (dIsi (tabT "dict" cls) (.dat (.str s)) μ) QR E:=l_isi rfl (show tabT "dict" cls (.b "str")=some false from kb_str_dict) h
theorem is2_str_list_tuple {s:Str} (h:QR (.dat (.bl false)) μ):Sat (dIsi (tabT2 "list" "tuple" cls) (.dat (.str s)) μ) QR E:=l_isi rfl (show tabT2 "list" "tuple" cls (.b "str")=some false from by simp only[tabT2,kb_str_list,kb_str_tuple]) h
theorem isC_str {s:Str}(h:QR (.dat (.bl false)) μ):Sat (dIsi (tabC nm others) (.dat (.str s)) μ) QR E:=l_isi rfl (show tabC nm others (.b "str")=some false from by simp[tabC]) h
theorem is_tup_int {ds:List D} (h:QR (.dat (.bl false)) μ):Sat (dIsi (tabT "int" cls) (.dat (.tup ds)) μ) QR E:=l_isi rfl (show tabT "int" cls (.b "tuple")=some false from kb_tuple_int) h
theorem is_tup_bool {ds:List D} (h:QR (.dat (.bl false)) μ):Sat (dIsi (tabT "bool" cls) (.dat (.tup ds)) μ) QR E:=l_isi rfl (show tabT "bool" cls (.b "tuple")=some false from kb_tuple_bool) h
theorem is_tup_str {ds:List D} (h:QR (.dat (.bl false)) μ):Sat (dIsi (tabT "str" cls) (.dat (.tup ds)) μ) QR E:=l_isi rfl (show tabT "str" cls (.b "tuple")=some false from kb_tuple_str) h
theorem is_tup_tuple {ds:List D} (h:QR (.dat (.bl true)) μ):Sat (dIsi (tabT "tuple" cls) (.dat (.tup ds)) μ) QR E:=l_isi rfl (show tabT "tuple" cls (.b "tuple")=some true from kb_tuple_tuple) h
theorem is_tup_list {ds:List D} (h:QR (.dat (.bl false)) μ):Sat (dIsi (tabT "list" cls) (.dat (.tup ds)) μ) QR E:=l_isi rfl (show tabT "list" cls (.b "tuple")=some false from kb_tuple_list) h
theorem is_tup_dict {ds:List D} (h:QR (.dat (.bl false)) μ):Sat (dIsi (tabT "dict" cls) (.dat (.tup ds)) μ) QR E:=l_isi rfl (show tabT "dict" cls (.b "tuple")=some false from kb_tuple_dict) h
theorem is2_tup_list_tuple {ds:List D} (h:QR (.dat (.bl true)) μ):Sat (dIsi (tabT2 "list" "tuple" cls) (.dat (.tup ds)) μ) QR E:=l_isi rfl (show tabT2 "list" "tuple" cls (.b "tuple")=some true from by simp only[tabT2,kb_tuple_list,kb_tuple_tuple]) h
theorem isC_tup {ds:List D}(h:QR (.dat (.bl false)) μ):Sat (dIsi (tabC nm others) (.dat (.tup ds)) μ) QR E:=l_isi rfl (show tabC nm others (.b "tuple")=some false from by simp[tabC]) h
theorem is_lst_int {ds:List D} (h:QR (.dat (.bl false)) μ):Sat (dIsi (tabT "int" cls) (.dat (.lst ds)) μ) QR E:=l_isi rfl (show tabT "int" cls (.b "list")=some false from kb_list_int) h
theorem is_lst_bool {ds:List D} (h:QR (.dat (.bl false)) μ):Sat (dIsi (tabT "bool" cls) (.dat (.lst ds)) μ) QR E:=l_isi rfl (show tabT "bool" cls (.b "list")=some false from kb_list_bool) h
theorem is_lst_str {ds:List D} (h:QR (.dat (.bl false)) μ):Sat (dIsi (tabT "str" cls) (.dat (.lst ds)) μ) QR E:=l_isi rfl (show tabT "str" cls (.b "list")=some false from kb_list_str) h
theorem is_lst_tuple {ds:List D} (h:QR (.dat (.bl false)) μ):Sat (dIsi (tabT "tuple" cls) (.dat (.lst ds)) μ) QR E:=l_isi rfl (show tabT "tuple" cls (.b "list")=some false from kb_list_tuple) h
theorem is_lst_list {ds:List D} (h:QR (.dat (.bl true)) μ):Sat (dIsi (tabT "list" cls) (.dat (.lst ds)) μ) QR E:=l_isi rfl (show tabT "list" cls (.b "list")=some true from kb_list_list) h
theorem is_lst_dict {ds:List D} (h:QR (.dat (.bl false)) μ):Sat (dIsi (tabT "dict" cls) (.dat (.lst ds)) μ) QR E:=l_isi rfl (show tabT "dict" cls (.b "list")=some false from kb_list_dict) h
theorem is2_lst_list_tuple {ds:List D} (h:QR (.dat (.bl true)) μ):Sat (dIsi (tabT2 "list" "tuple" cls) (.dat (.lst ds)) μ) QR E:=l_isi rfl (show tabT2 "list" "tuple" cls (.b "list")=some true from by simp only[tabT2,kb_list_list]) h
theorem isC_lst {ds:List D}(h:QR (.dat (.bl false)) μ):Sat (dIsi (tabC nm others) (.dat (.lst ds)) μ) QR E:=l_isi rfl (show tabC nm others (.b "list")=some false from by simp[tabC]) h
theorem is_fro_int {ds:List D} (h:QR (.dat (.bl false)) μ):Sat (dIsi (tabT "int" cls) (.dat (.fro ds)) μ) QR E:=l_isi rfl (show tabT "int" cls (.b "list")=some false from kb_list_int) h
theorem is_fro_bool {ds:List D} (h:QR (.dat (.bl false)) μ):Sat (dIsi (tabT "bool" cls) (.dat (.fro ds)) μ) QR E:=l_isi rfl (show tabT "bool" cls (.b "list")=some false from kb_list_bool) h
theorem is_fro_str {ds:List D} (h:QR (.dat (.bl false)) μ):Sat (dIsi (tabT "str" cls) (.dat (.fro ds)) μ) QR E:=l_isi rfl (show tabT "str" cls (.b "list")=some false from kb_list_str) h
theorem is_fro_tuple {ds:List D} (h:QR (.dat (.bl false)) μ):Sat (dIsi (tabT "tuple" cls) (.dat (.fro ds)) μ) QR E:=l_isi rfl (show tabT "tuple" cls (.b "list")=some false from kb_list_tuple) h
theorem is_fro_list {ds:List D} (h:QR (.dat (.bl true)) μ):Sat (dIsi (tabT "list" cls) (.dat (.fro ds)) μ) QR E:=l_isi rfl (show tabT "list" cls (.b "list")=some true from kb_list_list) h
theorem is_fro_dict {ds:List D} (h:QR (.dat (.bl false)) μ):Sat (dIsi (tabT "dict" cls) (.dat (.fro ds)) μ) QR E:=l_isi rfl (show tabT "dict" cls (.b "list")=some false from kb_list_dict) h
theorem is2_fro_list_tuple {ds:List D} (h:QR (.dat (.bl true)) μ):Sat (dIsi (tabT2 "list" "tuple" cls) (.dat (.fro ds)) μ) QR E:=l_isi rfl (show tabT2 "list" "tuple" cls (.b "list")=some true from by simp only[tabT2,kb_list_list]) h
theorem isC_fro {ds:List D}(h:QR (.dat (.bl false)) μ):Sat (dIsi (tabC nm others) (.dat (.fro ds)) μ) QR E:=l_isi rfl (show tabC nm others (.b "list")=some false from by simp[tabC]) h
theorem is_dct_int {kvs:List (Ky×D)} (h:QR (.dat (.bl false)) μ):Sat (dIsi (tabT "int" cls) (.dat (.dct kvs)) μ) QR E:=l_isi rfl (show tabT "int" cls (.b "dict")=some false from kb_dict_int) h
theorem is_dct_bool {kvs:List (Ky×D)} (h:QR (.dat (.bl false)) μ):Sat (dIsi (tabT "bool" cls) (.dat (.dct kvs)) μ) QR E:=l_isi rfl (show tabT "bool" cls (.b "dict")=some false from kb_dict_bool) h
theorem is_dct_str {kvs:List (Ky×D)} (h:QR (.dat (.bl false)) μ):Sat (dIsi (tabT "str" cls) (.dat (.dct kvs)) μ) QR E:=l_isi rfl (show tabT "str" cls (.b "dict")=some false from kb_dict_str) h
theorem is_dct_tuple {kvs:List (Ky×D)} (h:QR (.dat (.bl false)) μ):Sat (dIsi (tabT "tuple" cls) (.dat (.dct kvs)) μ) QR E:=l_isi rfl (show tabT "tuple" cls (.b "dict")=some false from kb_dict_tuple) h
theorem is_dct_list {kvs:List (Ky×D)} (h:QR (.dat (.bl false)) μ):Sat (dIsi (tabT "list" cls) (.dat (.dct kvs)) μ) QR E:=l_isi rfl (show tabT "list" cls (.b "dict")=some false from kb_dict_list) h
theorem is_dct_dict {kvs:List (Ky×D)} (h:QR (.dat (.bl true)) μ):Sat (dIsi (tabT "dict" cls) (.dat (.dct kvs)) μ) QR E:=l_isi rfl (show tabT "dict" cls (.b "dict")=some true from kb_dict_dict) h
theorem is2_dct_list_tuple {kvs:List (Ky×D)} (h:QR (.dat (.bl false)) μ):Sat (dIsi (tabT2 "list" "tuple" cls) (.dat (.dct kvs)) μ) QR E:=l_isi rfl (show tabT2 "list" "tuple" cls (.b "dict")=some false from by simp only[tabT2,kb_dict_list,kb_dict_tuple]) h
theorem isC_dct {kvs:List (Ky×D)}(h:QR (.dat (.bl false)) μ):Sat (dIsi (tabC nm others) (.dat (.dct kvs)) μ) QR E:=l_isi rfl (show tabC nm others (.b "dict")=some false from by simp[tabC]) h
theorem isC_own {fs:List (Str×D)}(h:QR (.dat (.bl true)) μ):Sat (dIsi (tabC nm others) (.dat (.ins nm fs)) μ) QR E:=l_isi rfl (show tabC nm others (.c nm)=some true from by simp[tabC]) h
theorem is_ins_int {fs:List (Str×D)} (hn:nm∈cls) (h:QR (.dat (.bl false)) μ):Sat (dIsi (tabT "int" cls) (.dat (.ins nm fs)) μ) QR E:=l_isi rfl (show tabT "int" cls (.c nm)=some false from by simp[tabT,tabT2,hn]) h
theorem is_ins_bool {fs:List (Str×D)} (hn:nm∈cls) (h:QR (.dat (.bl false)) μ):Sat (dIsi (tabT "bool" cls) (.dat (.ins nm fs)) μ) QR E:=l_isi rfl (show tabT "bool" cls (.c nm)=some false from by simp[tabT,tabT2,hn]) h
theorem is_ins_str {fs:List (Str×D)} (hn:nm∈cls) (h:QR (.dat (.bl false)) μ):Sat (dIsi (tabT "str" cls) (.dat (.ins nm fs)) μ) QR E:=l_isi rfl (show tabT "str" cls (.c nm)=some false from by simp[tabT,tabT2,hn]) h
theorem is_ins_tuple {fs:List (Str×D)} (hn:nm∈cls) (h:QR (.dat (.bl false)) μ):Sat (dIsi (tabT "tuple" cls) (.dat (.ins nm fs)) μ) QR E:=l_isi rfl (show tabT "tuple" cls (.c nm)=some false from by simp[tabT,tabT2,hn]) h
theorem is_ins_list {fs:List (Str×D)} (hn:nm∈cls) (h:QR (.dat (.bl false)) μ):Sat (dIsi (tabT "list" cls) (.dat (.ins nm fs)) μ) QR E:=l_isi rfl (show tabT "list" cls (.c nm)=some false from by simp[tabT,tabT2,hn]) h
theorem is_ins_dict {fs:List (Str×D)} (hn:nm∈cls) (h:QR (.dat (.bl false)) μ):Sat (dIsi (tabT "dict" cls) (.dat (.ins nm fs)) μ) QR E:=l_isi rfl (show tabT "dict" cls (.c nm)=some false from by simp[tabT,tabT2,hn]) h
theorem is2_ins {T U:String}{fs:List (Str×D)}(hn:nm∈cls)(h:QR (.dat (.bl false)) μ):Sat (dIsi (tabT2 T U cls) (.dat (.ins nm fs)) μ) QR E:=l_isi rfl (show tabT2 T U cls (.c nm)=some false from by simp[tabT,tabT2,hn]) h
theorem e_dat (e:μ'.take N=μ)(h:QR (.dat d) μ):(endP N QR E).rt (.dat d) μ':=k_dat (E:=E) e h
theorem e_ofD (e:μ'.take N=μ)(h:QR (.dat d) μ):(endP N QR E).rt (ofV (.dat d)) μ':=k_dat (E:=E) e h
theorem e_nlf {γ:Type}{f:γ→D}{ys:List γ}(e:μ'.take N=μ)(h:QR (.nl (ys.map fun y=>.dat (f y))) μ):(endP N QR E).rt (.nl (ys.map fun y=>.dat (f y))) μ':=k_nlf (E:=E) e h
theorem e_nlm {ds:List D}(e:μ'.take N=μ)(h:QR (.nl (ds.map DV.dat)) μ):(endP N QR E).rt (.nl (ds.map DV.dat)) μ':=k_nl (E:=E) e (below_map ds) h
theorem e_nl {xs:List DV}(e:μ'.take N=μ)(hb:belowA N xs=true)(h:QR (.nl xs) μ):(endP N QR E).rt (.nl xs) μ':=k_nl (E:=E) e hb h
theorem e_nx (e:μ'.take N=μ)(h:QR (.dat .non) μ):(endP N QR E).nx δ μ':=by show QR (.dat .non) (μ'.take N);rw[e];exact h
theorem take_cons {p q:Pl}{ν:Mem}:(p::ν).take (q::ν).length=p::ν:=List.take_of_length_le (by simp)
theorem take_consA {p q:Pl}{ν X:Mem}:(p::(ν++X)).take (q::ν).length=p::ν:=by simp
end
end DL
namespace DL
section
variable {Q Q':Prop}{b:Bool}
theorem if_bT (e:b=true)(h:Q):if b=true then Q else Q':=by rw[if_pos e];exact h
theorem if_bF (e:b=false)(h:Q'):if b=true then Q else Q':=by rw[if_neg (by rw[e];exact Bool.false_ne_true)];exact h
end
end DL
namespace DL
open PySem PySem.Spec PyProof.Rows L2
section
variable {E:Xc→Mem→Prop}{P:PO}{δ δ':Env}{μ μ':Mem}{N:Nat}{nm m:Str}{d:D}{nms:List Str}
theorem gS {o:Out}(h:SatS o P):SatS o P:=h
theorem gR {r:Res R}{Q:R→Mem→Prop}(h:Sat r Q E):Sat r Q E:=h
theorem gV {r:Res DV}{Q:DV→Mem→Prop}(h:Sat r Q E):Sat r Q E:=h
theorem gA {r:Res (List DV)}{Q:List DV→Mem→Prop}(h:Sat r Q E):Sat r Q E:=h
theorem gT {r:Res Bool}{Q:Bool→Mem→Prop}(h:Sat r Q E):Sat r Q E:=h
theorem gO {r:Res (Option Int)}{Q:Option Int→Mem→Prop}(h:Sat r Q E):Sat r Q E:=h
theorem gI {r:Res (List D)}{Q:List D→Mem→Prop}(h:Sat r Q E):Sat r Q E:=h
theorem gF {r:R}{Q:DV→Mem→Prop}(h:FzK r μ Q):FzK r μ Q:=h
theorem gC {b:Bool}{Q Q':Prop}(h:if b=true then Q else Q'):if b=true then Q else Q':=h
theorem gRt {r:R}{QR:R→Mem→Prop}(h:(endP N QR E).rt r μ):(endP N QR E).rt r μ:=h
end
def FitD (k w:Nat)(d:D):Prop:=∃ p,toPy d=some p∧Fit k w p
section
variable {k k' w w' n:Nat}{d:D}{ds:List D}{i:Int}{s:Str}{μ:Mem}{x y:DV}{QR:R→Mem→Prop}{E:Xc→Mem→Prop}
theorem FitD.mono (h:FitD k w d)(hk:k≤k')(hw:w≤w'):FitD k' w' d:=let ⟨p,a,b⟩:=h;⟨p,a,b.mono hk hw⟩
end
end DL
namespace DX
open PySem PySem.W PySem.Calls PyProof.Rows PySem.HandSPX
theorem errTxt_mk {prog:Program}{K:Frag}{mg:Str→Option Value}{nm f:Str}{C fI:Addr}{nm' q':Str}{N:Addr}{bs bm:List Value}{sn:List Str}{sub:List Value}{ab:Bool}{col:Option Bool}{dd:Option Addr}{k0 k1 k2 k3 k5:Option Value}
  {oc:Value} {od:Option Addr} {doc pm:Value} {an:Option Addr} {ct:Value} {osl:Array (Option Value)} {qual:Str} {p1 p2 q1 q2 q3 q4 q5 q6 q7 q8 q9 q10:Pos} {cda cc:Addr} {ccl cl:Value} {cdd cld:Option Addr} {vs:Array Value} {ccs csl:Array (Option Value)} {file:Str} {tf:Tok} {pl:Sem Bool}
  (gC:mg nm=some (.ref C)) (lk:K.lookup C=some (excClassObj nm' q' C N bs bm true sn sub ab col dd k0 k1 k2 k3 k5 "ValueError.__new__"))
  (sa:findIn K (.ref C) "__setattr__"=some (some (.builtin "object.__setattr__")))
  (ga:findIn K (.ref C) "__getattribute__"=some (some (.builtin "BaseException.__getattribute__")))
  (gg:findIn K (.ref C) "__getattr__"=some none) (noN:findIn K (.ref C) f=some none) (iC:findIn K (.ref C) "__init__"=some (some (.ref fI)))
  (tC:typeIn K (.ref fI)=some (.type "function")) (kC:keepIn K (.ref C)=true) (exC:subIn K (.ref C) (.type "BaseException")=some true)
  (exV:subIn K (.ref C) (.type "ValueError")=some true) (tyC:typeIn K (.ref C)=some (.type "type")) (hdC:hasDictIn K C=true)
  (su:ks_superIn K C C "__init__"=some (some (.builtin "ValueError.__init__"))) (mr:mroIn K C (.ref C)=some true)
  (op:nsIn K cStatics "thirdparty.any"=some none) (ms:mg "super"=none)
  (lfn:K.lookup fI=some ⟨oc,od,.func (ksFn "__init__" qual (eArgs f p1 p2) (eBody f q1 q2 q3 q4 q5 q6 q7 q8 q9 q10) (eScope f) .none .none doc pm an (.ref cda) ct cc),osl⟩)
  (cod:codeIn K (.ref cda) qual=true) (lcd:K.lookup cda=some ⟨ccl,cdd,.fields vs,ccs⟩) (lcc:K.lookup cc=some ⟨cl,cld,.cell (some (.ref C)),csl⟩)
  (rv:refsVE bm=true) (top:(prog.main.scope.names.lookup ("super":Str)).isSome=false) (fs:(f==("self":Str))=false) (fd:(f==("__debug__":Str))=false)
  (lf:(eScope f).names.lookup f=some .local) (lc:(eScope f).names.lookup ("__class__":Str)=some .free) (ls:(eScope f).names.lookup ("super":Str)=some .globalImplicit)
  (bd:∀ (qual:Str) (p1 p2:Pos) (bo:List Stmt) (doc pm:Value) (an:Option Addr) (cd ct:Value) (cc:Addr) (a b:Value),bindArgs (ksFn "__init__" qual (eArgs f p1 p2) bo (eScope f) .none .none doc pm an cd ct cc) ⟨[a,b],[]⟩=pure [(PySem.Str.ofString "self",a),(f,b)])
  (v2:vs[2]?=some (.str file tf)) (fl:((prog.main.file:Str)==file)=true)
  (ev:∀ env:Env,eval (.Call (.Attribute (.Call (.Name "super" q1) [] [] q2) "__init__" q3) [.Name f q4] [] q5) env=(do
   let ov ←attributeBase (.Call (.Name "super" q1) [] [] q2) "__init__" env (eval (.Call (.Name "super" q1) [] [] q2) env)
   standAt q3.atName
   let (f1,first) ←holding [ov] (getMethod ov "__init__" pl)
   callWith q5 f1 first (backTo q5 (starEach [.Name f q4] env)) []))
  (s1:∀ env:Env,swapsWith (.Call (.Attribute (.Call (.Name "super" q1) [] [] q2) "__init__" q3) [.Name f q4] [] q5) none q6.line env=pure false)
  (s2:∀ env:Env,swapsWith (.Name f q9) (some (.Attribute (.Name "self" q7) f q8)) q10.line env=pure false):ErrTxt prog K mg nm f C fI :=
 ⟨gC,⟨nm',q',N,bs,bm,sn,sub,ab,col,dd,k0,k1,k2,k3,k5,lk,rv⟩,sa,ga,gg,noN,iC,tC,kC,exC,exV,tyC,hdC,su,mr,op,ms,top,fs,fd,lf,lc,ls,bd,
  ⟨oc,od,doc,pm,an,ct,osl,qual,p1,p2,q1,q2,q3,q4,q5,q6,q7,q8,q9,q10,cda,cc,ccl,cl,cdd,cld,vs,ccs,csl,file,tf,pl,lfn,cod,lcd,v2,fl,lcc,ev,s1,s2⟩⟩
end DX
namespace DL
open PySem PySem.Spec PyProof.Rows L2 DR
section
variable {α:Type}{Q:α→Mem→Prop}{QR:R→Mem→Prop}{QI:List D→Mem→Prop}{E:Xc→Mem→Prop}{μ ν:Mem}{δ:Env}{N:Nat}{P:PO}
theorem sat_alt {a b:Res α}(h:Sat a Q E):Sat (altR a b) Q E:=by
 cases a with
 | bad=>exact h.elim
 | ok x m=>exact h
 | exc x m=>exact h
theorem w_ix {x y:DV}(h:Sat (dIx x y μ) QR E):Sat (dIxA x y μ) QR E:=sat_alt h
theorem w_in {neg:Bool}{x y:DV}(h:Sat (dIn neg x y μ) QR E):Sat (dInA neg x y μ) QR E:=sat_alt h
theorem w_eq {x y:DV}(h:Sat (dEq x y μ) QR E):Sat (dEqA x y μ) QR E:=sat_alt h
theorem w_len {xs:List DV}(h:Sat (d1 dLen xs μ) QR E):Sat (dLenA xs μ) QR E:=sat_alt h
theorem w_list {xs:List DV}(h:Sat (d1 dList xs μ) QR E):Sat (dListA xs μ) QR E:=sat_alt h
theorem s_raise {nm f:Str}{fe:EM}(h:Sat (frzV fe δ μ) (fun x μ'=>∃ d,x=.dat d∧P.ex ⟨nm,[(f,d)]⟩ δ μ') (fun x μ=>P.ex x δ μ)):SatS (gRaise nm f fe N δ μ) P:=by
 refine sat_lift (Sat.mono h (fun x m ⟨d,e,q⟩=>?_) fun _ _ q=>q)
 subst e;exact q
abbrev IsP (o:Out):PO:=⟨fun δ μ=>o=.next δ μ,fun r μ=>o=.ret r μ,fun δ μ=>o=.brk δ μ,fun δ μ=>o=.cnt δ μ,fun x δ μ=>o=.exc x δ μ⟩
theorem isP {o o':Out}(h:SatS o' (IsP o)):o'=o:=by
 cases o' with
 | next δ μ=>exact(show o=_ from h).symm
 | ret r μ=>exact(show o=_ from h).symm
 | brk δ μ=>exact(show o=_ from h).symm
 | cnt δ μ=>exact(show o=_ from h).symm
 | exc x δ μ=>exact(show o=_ from h).symm
 | bad=>exact h.elim
def TryK (cat:List (Str×Bool))(i:Nat)(gs:Addr→Addr→Addr→SM)(N:Nat)(P:PO)(x:Xc)(δ:Env)(μ:Mem):Prop :=
 (cat.lookup x.nm=some true∧x.fs≠[])∧∃ o,(∀ a C d,SatS (gs a C d N (δ.set i (some (.dat (.err a C d x.nm x.fs)))) μ) (IsP o))∧SatS (unset i o) P
theorem s_try {cat:List (Str×Bool)}{i:Nat}{gb:SM}{gs:Addr→Addr→Addr→SM}(h:SatS (gb N δ μ) { P with ex:=fun x δ' μ'=>TryK cat i gs N P x δ' μ' }):SatS (gTry cat i gb gs N δ μ) P:=by
 unfold gTry
 cases e:gb N δ μ with
 | exc x δ' μ' =>
  rw[e] at h
  obtain⟨⟨h1,h2⟩,o,h3,h4⟩:=h
  simp only[h1,if_pos h2]
  rw[suiteOut_of fun a C d=>isP (h3 a C d)]
  exact h4
 | next _ _=>rw[e] at h;exact h
 | ret _ _=>rw[e] at h;exact h
 | brk _ _=>rw[e] at h;exact h
 | cnt _ _=>rw[e] at h;exact h
 | bad=>rw[e] at h;exact h
theorem x_isE {i:Nat}{a C d:Addr}{tab:List (Str×Bool)}{nm:Str}{fs:List (Str×D)}{p0:Str×D}{b:Bool}(e:δ[i]?=some (some (.dat (.err a C d nm (p0::fs)))))(hb:tab.lookup nm=some b)(h:QR (.dat (.bl b)) μ):Sat (eIsE i a C d tab δ μ) QR E:=by
 unfold eIsE errAt
 simp only[e,true_and,if_true,hb]
 exact h
theorem x_xf {i:Nat}{a C d:Addr}{nm f:Str}{fs:List (Str×D)}{p0:Str×D}{v:D}(e:δ[i]?=some (some (.dat (.err a C d nm (p0::fs)))))(hb:(p0::fs).lookup f=some v)(h:QR (.dat v) μ):Sat (eXf i a C d nm f δ μ) QR E:=by
 unfold eXf errAt
 simp only[e,true_and,if_true,hb]
 exact h
theorem x_kget {tab:List (Str×Str)}{f:EM}(h:Sat (frzV f δ μ) (fun x μ'=>StrK x fun z=>QR (.dat (match tab.lookup z with|some y=>.str y|none=>.non)) μ') E):Sat (eKGet tab f δ μ) QR E:=by
 unfold eKGet
 refine sat_bind (Sat.mono h (fun x m ⟨z,e,q⟩=>?_) fun _ _ q=>q)
 rw[e]
 cases e2:tab.lookup z with
 | none=>simp only[e2] at q ⊢;exact q
 | some y=>simp only[e2] at q ⊢;exact q
theorem x_lk {f:EM}(h:Sat (f δ μ) (fun r μ1=>∃ kvs ds,r=.nk kvs∧allDatK kvs=some ds∧QR (.dat (.dct ds)) μ1) E):Sat (eLk f δ μ) QR E:=by
 unfold eLk
 refine sat_bind (Sat.mono h (fun r m ⟨kvs,ds,e,e2,q⟩=>?_) fun _ _ q=>q)
 subst e
 simp only[e2]
 exact q
theorem x_disK {f:PsM}(h:Sat (f δ μ) (fun ps μ1=>ps.length≤15∧QR (.nk (mergeD [] ps)) μ1) E):Sat (eDisK f δ μ) QR E:=by
 unfold eDisK
 refine sat_bind (Sat.mono h (fun ps m ⟨hl,q⟩=>?_) fun _ _ q=>q)
 rw[if_pos hl];exact q
theorem x_dnew (h:QR (.nk []) μ):Sat (eDNew δ μ) QR E:=h
theorem p_nilK {QP:List (Ky×DV)→Mem→Prop}(h:QP [] μ):Sat (psNil δ μ) QP E:=h
theorem p_consK {QP:List (Ky×DV)→Mem→Prop}{fk fv:EM}{r:PsM}(h:Sat (frzV fk δ μ) (fun k μ1=>Sat (frzV fv δ μ1) (fun v μ2=>Sat (r δ μ2) (fun ps μ3=>∃ key,keyD k=some key∧QP ((.k key,v)::ps) μ3) E) E) E):Sat (psCons fk fv r δ μ) QP E:=by
 unfold psCons
 refine sat_bind (Sat.mono h (fun k m1 h1=>?_) fun _ _ q=>q)
 refine sat_bind (Sat.mono h1 (fun v m2 h2=>?_) fun _ _ q=>q)
 refine sat_bind (Sat.mono h2 (fun ps m3 ⟨key,e,q⟩=>?_) fun _ _ q=>q)
 rw[e];exact q
theorem l_pow {i j:Int}(hc:0≤j∧j≤1000000∧i.natAbs<2^64)(h:QR (.dat (.int (i^j.toNat))) μ):Sat (dPow (.dat (.int i)) (.dat (.int j)) μ) QR E:=by
 unfold dPow d2I
 simp only[asI,decide_eq_true hc,if_true]
 exact h
end
end DL
namespace DL
open PySem PySem.Spec PyProof.Rows L2
mutual
def lnodes:D→List (List D)
 | .lst xs=>xs::lnodesL xs
 | .fro xs=>xs::lnodesL xs
 | .tup xs=>lnodesL xs
 | .dct kvs=>lnodesK kvs
 | .ins _ fs=>lnodesF fs
 | .err _ _ _ _ fs=>lnodesF fs
 | .eo _=>[]
 | .non=>[]
 | .bl _=>[]
 | .int _=>[]
 | .str _=>[]
 | .ty _=>[]
 | .ref _=>[]
def lnodesL:List D→List (List D)
 | []=>[]
 | x::xs=>lnodes x++lnodesL xs
def lnodesK:List (Ky×D)→List (List D)
 | []=>[]
 | (_,x)::xs=>lnodes x++lnodesK xs
def lnodesF:List (Str×D)→List (List D)
 | []=>[]
 | (_,x)::xs=>lnodes x++lnodesF xs
end
theorem lnodesK_eq:∀ kvs:List (Ky×D),lnodesK kvs=lnodesL (kvs.map (·.2))
 | []=>rfl
 | (_,x)::xs=>by simp only[lnodesK,List.map_cons,lnodesL,lnodesK_eq xs]
theorem lnodesF_eq:∀ kvs:List (Str×D),lnodesF kvs=lnodesL (kvs.map (·.2))
 | []=>rfl
 | (_,x)::xs=>by simp only[lnodesF,List.map_cons,lnodesL,lnodesF_eq xs]
def vk:D→Nat
 | .non=>0
 | .bl _=>1
 | .int _=>2
 | .str _=>3
 | .ty _=>4
 | _=>5
def vkV:V→Nat
 | .non=>0
 | .bl _=>1
 | .int _=>2
 | .str _=>3
 | .ty _=>4
 | .ref _=>5
 | _=>6
theorem Rp.vk {K:PySem.W.Frag}{G:Hp}{v:V}{d:D}(h:Rp K G v d):vkV v=vk d:=by cases h <;> rfl
def apart (ds es:List D):Bool:=decide (ds.length≠es.length)||match ds,es with
 | d::_,e::_=>decide (vk d≠vk e)
 | _,_=>false
open Classical in
noncomputable def only (K:PySem.W.Frag)(L:List (List D))(G:Hp):Hp:=fun a=>match G a with
 | some (.lst vs)=>if ∃ es∈L,RpL K G vs es then some (.lst vs) else none
 | o=>o
theorem only_at {K:PySem.W.Frag}{L:List (List D)}{G:Hp}{a:Addr}{o:HO}(h:G a=some o)(hn:∀ vs,o≠.lst vs):only K L G a=some o:=by
 unfold only
 rw[h]
 split
 ·rename_i vs e;cases e;exact absurd rfl (hn vs)
 ·rfl
theorem only_lst {K:PySem.W.Frag}{L:List (List D)}{G:Hp}{a:Addr}{vs:List V}{es:List D}(h:G a=some (.lst vs))(hm:es∈L)(r:RpL K G vs es):only K L G a=some (.lst vs):=by
 unfold only
 rw[h]
 simp only
 rw[if_pos ⟨es,hm,r⟩]
mutual
theorem Rp.only {K:PySem.W.Frag}{L:List (List D)}{G:Hp}:∀ {v:V} {d:D},Rp K G v d→(∀ es∈lnodes d,es∈L)→Rp K (DL.only K L G) v d
 | _,_,.non,_=>.non
 | _,_,.bl b,_=>.bl b
 | _,_,.int i,_=>.int i
 | _,_,.str s,_=>.str s
 | _,_,.ty n,_=>.ty n
 | _,_,.ref a,_=>.ref a
 | _,_,.tup h r,hl=>.tup (by
   rcases h with (h|⟨o,h⟩)|h
   ·exact .inl (.inl (only_at h fun _ z=>by cases z))
   ·exact .inl (.inr ⟨o,only_at h fun _ z=>by cases z⟩)
   ·exact .inr h) (RpL.only r (by simpa only[lnodes] using hl))
 | _,_,.lst h r,hl=>.lst (only_lst h (hl _ (by simp only[lnodes];exact List.mem_cons_self)) r) (RpL.only r fun es he=>hl es (by simp only[lnodes];exact List.mem_cons_of_mem _ he))
 | _,_,.fro h r,hl=>.fro (by
   rcases h with (h|⟨o,h⟩)|h
   ·exact .inl (.inl (only_lst h (hl _ (by simp only[lnodes];exact List.mem_cons_self)) r))
   ·exact .inl (.inr ⟨o,only_at h fun _ z=>by cases z⟩)
   ·exact .inr h) (RpL.only r fun es he=>hl es (by simp only[lnodes];exact List.mem_cons_of_mem _ he))
 | _,_,.dct h k r,hl=>.dct (only_at h fun _ z=>by cases z) (k.map fun b xs h=>by
   rcases h with (h|⟨o,h⟩)|h
   ·exact .inl (.inl (only_at h fun _ z=>by cases z))
   ·exact .inl (.inr ⟨o,only_at h fun _ z=>by cases z⟩)
   ·exact .inr h) (RpL.only r (by simpa only[lnodes,lnodesK_eq] using hl))
 | _,_,.ins c h o k r,hl=>.ins c (only_at h fun _ z=>by cases z) (only_at o fun _ z=>by cases z) k (RpL.only r (by simpa only[lnodes,lnodesF_eq] using hl))
 | _,_,.er0 c,hl=>.er0 c
 | _,_,.eo c h o,hl=>.eo c (only_at h fun _ z=>by cases z) (only_at o fun _ z=>by cases z)
 | _,_,.err c h k r,hl=>.err c (only_at h fun _ z=>by cases z) k (RpL.only r (by simpa only[lnodes,lnodesF_eq] using hl))
theorem RpL.only {K:PySem.W.Frag}{L:List (List D)}{G:Hp}:∀ {vs:List V} {ds:List D},RpL K G vs ds→(∀ es∈lnodesL ds,es∈L)→RpL K (DL.only K L G) vs ds
 | _,_,.nil,_=>.nil
 | _,_,.cons a b,hl=>.cons (Rp.only a fun es he=>hl es (by simp only[lnodesL];exact List.mem_append_left _ he)) (RpL.only b fun es he=>hl es (by simp only[lnodesL];exact List.mem_append_right _ he))
end
noncomputable def both (G G':Hp)(a:Option Addr):Hp:=fun b=>if some b=a then none else match G b with
 | some o=>some o
 | none=>G' b
section
variable {K:PySem.W.Frag}{G G':Hp}{a:Addr}{oa:Option Addr}{us:List V}
theorem both_r {b:Addr}{o:HO}(hc:∀ b o,G b=some o→∀ o',G' b=some o'→o=o')(hb:some b≠oa)(e:G' b=some o):both G G' oa b=some o:=by
 unfold both
 rw[if_neg hb]
 cases q:G b with
 | none=>exact e
 | some u=>simp only;rw[hc b u q o e]
mutual
theorem Rp.off (hc:∀ b o,G b=some o→∀ o',G' b=some o'→o=o')(ha:G' a=some (.lst us)):∀ {v:V} {d:D},Rp K G' v d→lnodes d=[]→Rp K (both G G' (some a)) v d
 | _,_,.non,_=>.non
 | _,_,.bl b,_=>.bl b
 | _,_,.int i,_=>.int i
 | _,_,.str s,_=>.str s
 | _,_,.ty n,_=>.ty n
 | _,_,.ref a,_=>.ref a
 | _,_,.tup h r,hl=>.tup (by
   rcases h with (h|⟨o,h⟩)|h
   ·exact .inl (.inl (both_r hc (fun z=>by cases z;rw[ha] at h;cases h) h))
   ·exact .inl (.inr ⟨o,both_r hc (fun z=>by cases z;rw[ha] at h;cases h) h⟩)
   ·exact .inr h) (RpL.off hc ha r (by simpa only[lnodes] using hl))
 | _,_,.lst h r,hl=>by simp only[lnodes] at hl;cases hl
 | _,_,.fro h r,hl=>by simp only[lnodes] at hl;cases hl
 | _,_,.dct h k r,hl=>.dct (both_r hc (fun z=>by cases z;rw[ha] at h;cases h) h) (k.map fun b xs h=>by
   rcases h with (h|⟨o,h⟩)|h
   ·exact .inl (.inl (both_r hc (fun z=>by cases z;rw[ha] at h;cases h) h))
   ·exact .inl (.inr ⟨o,both_r hc (fun z=>by cases z;rw[ha] at h;cases h) h⟩)
   ·exact .inr h) (RpL.off hc ha r (by simpa only[lnodes,lnodesK_eq] using hl))
 | _,_,.ins c h o k r,hl=>.ins c (both_r hc (fun z=>by cases z;rw[ha] at h;cases h) h) (both_r hc (fun z=>by cases z;rw[ha] at o;cases o) o) k (RpL.off hc ha r (by simpa only[lnodes,lnodesF_eq] using hl))
 | _,_,.er0 c,hl=>.er0 c
 | _,_,.eo c h o,hl=>.eo c (both_r hc (fun z=>by cases z;rw[ha] at h;cases h) h) (both_r hc (fun z=>by cases z;rw[ha] at o;cases o) o)
 | _,_,.err c h k r,hl=>.err c (both_r hc (fun z=>by cases z;rw[ha] at h;cases h) h) k (RpL.off hc ha r (by simpa only[lnodes,lnodesF_eq] using hl))
theorem RpL.off (hc:∀ b o,G b=some o→∀ o',G' b=some o'→o=o')(ha:G' a=some (.lst us)):∀ {vs:List V} {ds:List D},RpL K G' vs ds→lnodesL ds=[]→RpL K (both G G' (some a)) vs ds
 | _,_,.nil,_=>.nil
 | _,_,.cons x y,hl=>by
  simp only[lnodesL,List.append_eq_nil_iff] at hl
  exact .cons (Rp.off hc ha x hl.1) (RpL.off hc ha y hl.2)
end
end
def thaw (args:List D)(μ:Mem):Res R→Res R
 | .ok (.dat (.lst ds)) _=>if(lnodesL args).all (apart ds)=true∧(lnodesL ds).isEmpty=true then .ok (.nl (ds.map DV.dat)) μ else .bad
 | .ok (.dat .non) _=>.ok (.dat .non) μ
 | .ok (.dat (.bl b)) _=>.ok (.dat (.bl b)) μ
 | .ok (.dat (.int b)) _=>.ok (.dat (.int b)) μ
 | .ok (.dat (.str b)) _=>.ok (.dat (.str b)) μ
 | .exc x _=>if x.fs.all (fun p=>(lnodes p.2).isEmpty)=true then .exc x μ else .bad
 | _=>.bad
def eCBT (F:List DV→Mem→Res R)(fa:AM):EM:=fun δ μ=>(fa δ μ).bind fun xs μ1=>match allDat xs with
 | some ds=>thaw ds μ1 (F xs [])
 | none=>.bad
section
variable {K:PySem.W.Frag}{W:WX}{ρ:Pm}{G H:Hp}{μ:Mem}{σ:Slots}{δ:Env}
end
section
variable {K:PySem.W.Frag}{W:WX}{ρ:Pm}{G H:Hp}{μ:Mem}{σ:Slots}{δ:Env}
def eListRng (f:EM):EM:=fun δ μ=>(frzV f δ μ).bind fun x μ'=>match asI x with
 | some n=>if 0≤n∧n≤1000000 then .ok (.nl ((List.range n.toNat).map fun i=>.dat (.int (i:Nat)))) μ' else .bad
 | none=>.bad
end
section
variable {K:PySem.W.Frag}{W:WX}{ρ:Pm}{G H:Hp}{μ:Mem}{σ:Slots}{δ:Env}
end
section
variable {X:Cx}{W:WX}{e:Expr}{te:TE}{f:EM}{p p2 pos pos2:Pos}
end
theorem u1 {n m:Nat}(h:n+64<m):n+1<m:=by omega
def alikeB (ps:List PyData):Bool:=(ps.all fun x=>ps.all fun y=>PySem.W.alike x y)&&ps.all fun x=>match x with
 | .none=>false
 | _=>true
section
variable {K:PySem.W.Frag}{W:WX}{N:Nat}{ρ:Pm}{G H G0 H0:Hp}{μ:Mem}{σ:Slots}{δ:Env}{Q:VK}
def pyD (d:D):PyData:=(toPy d).getD .none
def sortableB (ps:List PyData):Bool:=(ps.all fun d=>match d with
 | .tuple (_::_)=>true
 | _=>false)||ps.all fun d=>match d with
 | .none=>false
 | .tuple _=>false
 | _=>true
end
end DL
noncomputable section
namespace DL
open PySem PySem.Spec PyProof.Rows L2 DR
section
variable {QR:R→Mem→Prop}{E:Xc→Mem→Prop}{μ ν:Mem}{δ:Env}{N:Nat}{P:PO}{d:D}{x y:DV}{k w:Nat}
theorem gP {r:Res (List (Ky×DV))}{Q:List (Ky×DV)→Mem→Prop}(h:Sat r Q E):Sat r Q E:=h
def Fk (k w:Nat)(d:D):Prop:=∃ p,toPyK d=some p∧p.showable=true∧p.depth≤k∧p.shown.length≤w
mutual
theorem toPyK_of:∀ (d:D) (p:PyData),toPy d=some p→toPyK d=some p
 | .non,_,h=>by simp only[toPy] at h;cases h;rfl
 | .bl _,_,h=>by simp only[toPy] at h;cases h;rfl
 | .int _,_,h=>by simp only[toPy] at h;cases h;rfl
 | .str _,_,h=>by simp only[toPy] at h;cases h;rfl
 | .tup xs,_,h=>by
  simp only[toPy] at h
  cases e:toPyL xs with
  | none=>rw[e] at h;cases h
  | some ps=>rw[e] at h;cases h;simp only[toPyK,toPyKL_of xs ps e];rfl
 | .lst xs,_,h=>by
  simp only[toPy] at h
  cases e:toPyL xs with
  | none=>rw[e] at h;cases h
  | some ps=>rw[e] at h;cases h;simp only[toPyK,toPyKL_of xs ps e];rfl
 | .fro xs,_,h=>by
  simp only[toPy] at h
  cases e:toPyL xs with
  | none=>rw[e] at h;cases h
  | some ps=>rw[e] at h;cases h;simp only[toPyK,toPyKL_of xs ps e];rfl
 | .ty _,_,h=>by simp only[toPy] at h;cases h
 | .ref _,_,h=>by simp only[toPy] at h;cases h
 | .dct _,_,h=>by simp only[toPy] at h;cases h
 | .ins _ _,_,h=>by simp only[toPy] at h;cases h
 | .err _ _ _ _ _,_,h=>by simp only[toPy] at h;cases h
 | .eo _,_,h=>by simp only[toPy] at h;cases h
theorem toPyKL_of:∀ (ds:List D) (ps:List PyData),toPyL ds=some ps→toPyKL ds=some ps
 | [],_,h=>by simp only[toPyL] at h;cases h;rfl
 | d::ds,_,h=>by
  simp only[toPyL] at h
  cases e:toPy d with
  | none=>rw[e] at h;cases h
  | some p =>
   rw[e] at h
   cases e2:toPyL ds with
   | none=>rw[e2] at h;cases h
   | some ps=>rw[e2] at h;cases h;simp only[toPyKL,toPyK_of d p e,toPyKL_of ds ps e2];rfl
end
theorem Fk.mono {k' w':Nat}(h:Fk k w d)(hk:k≤k')(hw:w≤w'):Fk k' w' d:=let ⟨p,a,b,c,e⟩:=h;⟨p,a,b,Nat.le_trans c hk,Nat.le_trans e hw⟩
end
end DL
namespace DL
open PySem PySem.Spec PyProof.Rows L2 DR
section
variable {QR:R→Mem→Prop}{E:Xc→Mem→Prop}{μ ν:Mem}{δ:Env}{N n:Nat}{P:PO}{d:D}{x y:DV}{k:Key}{kvs:List (Ky×DV)}{ds:List D}
theorem s_dput {fo fi fe:EM}(h:Sat (frzV fe δ μ) (fun y μ1=>Sat (frzV fo δ μ1) (fun x μ2=>Sat (frzV fi δ μ2) (fun i μ3=>∃ μ4,setDct μ3 x i y=some μ4∧P.nx δ μ4) (fun x μ=>P.ex x δ μ)) (fun x μ=>P.ex x δ μ)) (fun x μ=>P.ex x δ μ)):SatS (gDPut fo fi fe N δ μ) P:=by
 refine sat_lift (sat_bind (h.mono (fun y μ1 q=>sat_bind (q.mono (fun x μ2 q=>sat_bind (q.mono (fun i μ3 q=>?_) fun _ _ q=>q)) fun _ _ q=>q)) fun _ _ q=>q))
 obtain⟨μ4,e,q⟩:=q;rw[e];exact q
theorem set_dct (hn:μ[n]?=some (.dct kvs))(hy:keyD y=some k)(hk:allK kvs=true)(hl:kvs.length<sizeLine)(hb:belowB n x=true):setDct μ (.loc n) y x=some (μ.set n (.dct (dput kvs (.k k) x))):=by
 unfold setDct;simp only[hn,hy];rw[if_pos ⟨hk,hl,hb⟩]
theorem x_dget1 {fd fy:EM}(h:Sat (frzV fd δ μ) (fun x μ1=>isDct x μ1=true∧Sat (frzV fy δ μ1) (fun y μ2=>Sat (dGet1 x y μ2) QR E) E) E):Sat (eDGet1 fd fy δ μ) QR E:=by
 unfold eDGet1
 refine sat_bind (h.mono (fun x m ⟨e,q⟩=>?_) fun _ _ q=>q)
 rw[if_pos e]
 exact sat_bind q
theorem isDct_dat {ds:List (Ky×D)}(hk:allKD ds=true):isDct (.dat (.dct ds)) μ=true:=by
 show allK (datP ds)=true
 unfold allKD at hk;unfold allK datP;rw[List.all_map];exact hk
def ThawK (args:List D)(r:R)(Q:R→Prop):Prop:=match r with
 | .dat (.lst ds)=>((lnodesL args).all (apart ds)=true∧(lnodesL ds).isEmpty=true)∧Q (.nl (ds.map DV.dat))
 | .dat .non=>Q (.dat .non)
 | .dat (.bl b)=>Q (.dat (.bl b))
 | .dat (.int b)=>Q (.dat (.int b))
 | .dat (.str b)=>Q (.dat (.str b))
 | _=>False
theorem x_cbT {F:List DV→Mem→Res R}{fa:AM}(h:Sat (fa δ μ) (fun xs μ1=>∃ ds,allDat xs=some ds∧Sat (F xs []) (fun r _=>ThawK ds r fun r'=>QR r' μ1) (fun x _=>x.fs.all (fun p=>(lnodes p.2).isEmpty)=true∧E x μ1)) E):Sat (eCBT F fa δ μ) QR E:=by
 unfold eCBT
 refine sat_bind (h.mono (fun xs m ⟨ds,e,q⟩=>?_) fun _ _ q=>q)
 rw[e]
 simp only
 cases e2:F xs [] with
 | bad=>rw[e2] at q;exact q.elim
 | exc x m' =>
  rw[e2] at q
  have q:_∧_:=q
  simp only[thaw]
  rw[if_pos q.1];exact q.2
 | ok r m' =>
  rw[e2] at q
  have q:ThawK ds r fun r'=>QR r' m:=q
  unfold ThawK at q
  split at q
  ·simp only[thaw];rw[if_pos q.1];exact q.2
  ·exact q
  ·exact q
  ·exact q
  ·exact q
  ·exact q.elim
theorem x_listRng {f:EM}(h:Sat (frzV f δ μ) (fun x μ'=>IntK x fun n=>(0≤n∧n≤1000000)∧QR (.nl ((List.range n.toNat).map fun i=>.dat (.int (i:Nat)))) μ') E):Sat (eListRng f δ μ) QR E:=by
 unfold eListRng
 refine sat_bind (h.mono (fun x m ⟨i,e,q⟩=>?_) fun _ _ q=>q)
 rw[e];simp only;rw[if_pos q.1];exact q.2
end
end DL
namespace DL
open PySem PySem.Spec PyProof.Rows L2
def bindB (b:Bool)(N i:Nat)(r:R)(δ:Env)(μ:Mem):Out:=if b=true then bindR N i r δ μ else match frz r with
 | some x=>.next (δ.set i (some x)) μ
 | none=>.bad
def gPar3 (b1 b2 b3:Bool)(i j l:Nat)(f g h:EM):SM:=fun N δ μ=>lift (f δ μ) δ fun r1 μ1=>match bindB b1 N i r1 δ μ1 with
 | .next δ1 μ2=>lift (g δ μ2) δ fun r2 μ3=>match bindB b2 N j r2 δ1 μ3 with
  | .next δ2 μ4=>lift (h δ μ4) δ fun r3 μ5=>bindB b3 N l r3 δ2 μ5
  | _=>.bad
 | _=>.bad
section
variable {K:PySem.W.Frag}{W:WX}{N:Nat}{ρ:Pm}{G H:Hp}{μ:Mem}{σ:Slots}{δ:Env}{v:V}
end
section
variable {X:Cx}{W:WX}{pos px py pz pt pt2:Pos}{a b c:Expr}{ta tb tc:TE}{fa fb fc:EM}
end
section
variable {δ:Env}{μ:Mem}{QR:R→Mem→Prop}{E:Xc→Mem→Prop}{N n:Nat}{P:PO}{x y:DV}{k:List Int}
def BindK (b:Bool)(N i:Nat)(r:R)(δ:Env)(μ:Mem)(k:Env→Mem→Prop):Prop:=∃ δ1 μ2,bindB b N i r δ μ=.next δ1 μ2∧k δ1 μ2
theorem bk_dat {b:Bool}{i:Nat}{d:D}{k:Env→Mem→Prop}(h:k (δ.set i (some (.dat d))) μ):BindK b N i (.dat d) δ μ k:=⟨_,_,by cases b <;> rfl,h⟩
theorem bk_loc {b:Bool}{i:Nat}{m:Nat}{k:Env→Mem→Prop}(h:k (δ.set i (some (.loc m))) μ):BindK b N i (.loc m) δ μ k:=⟨_,_,by cases b <;> rfl,h⟩
theorem bk_nlF {i:Nat}{xs:List DV}{ds:List D}{k:Env→Mem→Prop}(e:allDat xs=some ds)(h:k (δ.set i (some (.dat (.lst ds)))) μ):BindK false N i (.nl xs) δ μ k:=by
 refine⟨_,_,?_,h⟩
 simp[bindB,frz,e]
theorem s_par3 {b1 b2 b3:Bool}{i j l:Nat}{f g h:EM}(hh:Sat (f δ μ) (fun r1 μ1=>BindK b1 N i r1 δ μ1 fun δ1 μ2=>Sat (g δ μ2) (fun r2 μ3=>BindK b2 N j r2 δ1 μ3 fun δ2 μ4=>Sat (h δ μ4) (fun r3 μ5=>BindK b3 N l r3 δ2 μ5 P.nx) (fun x μ=>P.ex x δ μ)) (fun x μ=>P.ex x δ μ)) (fun x μ=>P.ex x δ μ)) :
  SatS (gPar3 b1 b2 b3 i j l f g h N δ μ) P:=by
 refine sat_lift (hh.mono (fun r μ1 q=>?_) fun _ _ q=>q)
 obtain⟨δ1,μ2,e,q⟩:=q
 rw[e]
 refine sat_lift (q.mono (fun r μ1 q=>?_) fun _ _ q=>q)
 obtain⟨δ1,μ2,e,q⟩:=q
 rw[e]
 refine sat_lift (q.mono (fun r μ1 q=>?_) fun _ _ q=>q)
 obtain⟨δ1,μ2,e,q⟩:=q
 rw[e];exact q
theorem x_tget {fd fy:EM}(h:Sat (frzV fd δ μ) (fun x μ1=>Sat (frzV fy δ μ1) (fun y μ2=>Sat (dGetT x y μ2) QR E) E) E):Sat (eTGet fd fy δ μ) QR E:=x_op h
theorem x_tin {neg:Bool}{fd fy:EM}(h:Sat (frzV fy δ μ) (fun y μ1=>Sat (frzV fd δ μ1) (fun x μ2=>Sat (dInT neg y x μ2) QR E) E) E):Sat (eTIn neg fy fd δ μ) QR E:=x_op h
theorem s_tput {fo fi fe:EM}(h:Sat (frzV fe δ μ) (fun y μ1=>Sat (frzV fo δ μ1) (fun x μ2=>Sat (frzV fi δ μ2) (fun i μ3=>∃ μ4,setDctT μ3 x i y=some μ4∧P.nx δ μ4) (fun x μ=>P.ex x δ μ)) (fun x μ=>P.ex x δ μ)) (fun x μ=>P.ex x δ μ)):SatS (gTPut fo fi fe N δ μ) P:=by
 unfold gTPut
 refine sat_lift (sat_bind (h.mono (fun y m q=>?_) fun _ _ q=>q))
 refine sat_bind (q.mono (fun x m q=>?_) fun _ _ q=>q)
 refine sat_bind (q.mono (fun i m q=>?_) fun _ _ q=>q)
 obtain⟨μ4,e,q⟩:=q
 rw[e];exact q
theorem x_disT {fk fv:EM}(h:Sat (frzV fk δ μ) (fun y μ1=>Sat (frzV fv δ μ1) (fun v μ2=>∃ k,keyT y=some k∧QR (.nk [(.t (kI k),v)]) μ2) E) E):Sat (eDisT fk fv δ μ) QR E:=by
 unfold eDisT fPair
 refine sat_bind (sat_bind (h.mono (fun y m q=>?_) fun _ _ q=>q))
 refine sat_bind (q.mono (fun v m q=>?_) fun _ _ q=>q)
 obtain⟨k,e,q⟩:=q
 show Sat (match keyT y with|some kk=>Res.ok (R.nk [(.t (kI kk),v)]) m|none=>.bad) QR E
 rw[e];exact q
theorem i_keysT {f:EM}{Q:List D→Mem→Prop}(h:Sat (frzV f δ μ) (fun x μ'=>∃ ds,x=.dat (.dct ds)∧isT ds=true∧Q (keysD ds) μ') E):Sat (imKeysT f δ μ) Q E:=by
 unfold imKeysT
 refine sat_bind (h.mono (fun x m ⟨ds,e,ht,q⟩=>?_) fun _ _ q=>q)
 subst e;simp only;rw[if_pos ht];exact q
theorem i_itemsT {f:EM}{Q:List D→Mem→Prop}(h:Sat (frzV f δ μ) (fun x μ'=>∃ ds,x=.dat (.dct ds)∧isT ds=true∧Q (pairsOf ds) μ') E):Sat (imItemsT f δ μ) Q E:=by
 unfold imItemsT
 refine sat_bind (h.mono (fun x m ⟨ds,e,ht,q⟩=>?_) fun _ _ q=>q)
 subst e;simp only;rw[if_pos ht];exact q
theorem i_keysK {f:EM}{Q:List D→Mem→Prop}(h:Sat (frzV f δ μ) (fun x μ'=>∃ ds,x=.dat (.dct ds)∧allKD ds=true∧Q (keysD ds) μ') E):Sat (imKeys f δ μ) Q E:=by
 unfold imKeys
 refine sat_bind (h.mono (fun x m ⟨ds,e,ht,q⟩=>?_) fun _ _ q=>q)
 subst e;simp only;rw[if_pos ht];exact q
theorem i_itemsK {f:EM}{Q:List D→Mem→Prop}(h:Sat (frzV f δ μ) (fun x μ'=>∃ ds,x=.dat (.dct ds)∧allKD ds=true∧Q (pairsOf ds) μ') E):Sat (imItems f δ μ) Q E:=by
 unfold imItems
 refine sat_bind (h.mono (fun x m ⟨ds,e,ht,q⟩=>?_) fun _ _ q=>q)
 subst e;simp only;rw[if_pos ht];exact q
end
set_option maxHeartbeats 2000000
section
variable {prog:Program}{w:World}{A:Around}{E:Value→Shared→Prop}{s:Shared}
end
set_option maxHeartbeats 1000000
section
variable {K:PySem.W.Frag}{W:WX}{ρ:Pm}{G H G0 H0:Hp}{μ:Mem}{σ:Slots}{δ:Env}
end
section
variable {K:PySem.W.Frag}{W:WX}{ρ:Pm}{G H H' G0 H0:Hp}{μ:Mem}{σ:Slots}{δ:Env}
end
section
variable {δ:Env}{μ:Mem}{QR:R→Mem→Prop}{E:Xc→Mem→Prop}
end
section
variable {prog:Program}{w:World}{K:Type}[DecidableEq K]{knd:PySem.KeyKind prog w K}{A:Around}{E:Value→Shared→Prop}{s:Shared}
end
section
variable {prog:Program}{w:World}{A:Around}{E:Value→Shared→Prop}{s:Shared}
end
section
variable {prog:Program}{w:World}{A:Around}{E:Value→Shared→Prop}{s:Shared}
end
def eDisU (f:EM)(g:PsM):EM:=fun δ μ=>(frzV f δ μ).bind fun x μ1=>match x with
 | .dat (.dct ds)=>if allKD ds=true∧ds.length≤1000 then(g δ μ1).bind fun ps μ2=>if ps.length≤15 then .ok (.nk (mergeD (mergeD [] (datP ds)) (mergeD [] ps))) μ2 else .bad else .bad
 | _=>.bad
section
variable {K:PySem.W.Frag}{W:WX}{ρ:Pm}{G H G0 H0:Hp}{μ:Mem}{σ:Slots}{δ:Env}
end
section
variable {X:Cx}{W:WX}{e k v:Expr}{te tk tv:TE}{f fk fv:EM}{pos:Pos}
end
section
variable {prog:Program}{w:World}{A:Around}{E:Value→Shared→Prop}{s:Shared}{K:PySem.W.Frag}{x C L f:Addr}{h₀:Heap}{m:Str→Option Value}{ox:Obj}{od:Option Obj}{b tb:Value}
end
structure NoNe (K:PySem.W.Frag)(C:Addr):Prop where
 ne:PySem.W.findIn K (.ref C) "__ne__"=some (some (.builtin "object.__ne__"))
 mro:PySem.W.mroIn K C (.type "object")=some true
section
variable {X:Cx}{k:Nat}{f C:Addr}{fd:FuncData}{ps:List Str}{sp:Sp}
end
def notR:Res R→Res R
 | .ok (.dat (.bl b)) μ=>.ok (.dat (.bl (!b))) μ
 | _=>.bad
def eNeO (nm:Str)(others:List Str)(F:List DV→Mem→Res R)(fa fb:EM):EM:=fun δ μ=>(frzV fa δ μ).bind fun x μ1=>(frzV fb δ μ1).bind fun y μ2=>if isI nm "" x μ2=true∧((kindOf μ2 y).bind (tabC nm others)).isSome=true then notR (F [x,y] μ2) else .bad
section
variable {K:PySem.W.Frag}{W:WX}{ρ:Pm}{G H:Hp}{σ:Slots}{δ:Env}{μ:Mem}{nm:Str}{C:Addr}{n:Nat}{F:List DV→Mem→Res R}
end
section
variable {X:Cx}{W:WX}{P:Program}{w:World}{K:PySem.W.Frag}{mg:Str→Option Value}{base:Heap}{k n:Nat}{nm:Str}{F:List DV→Mem→Res R}{a b e:Expr}{ta tb te:TE}{fa fb f:EM}{p pos:Pos}
end
section
variable {K:PySem.W.Frag}{W:WX}{ρ:Pm}{G H:Hp}{σ:Slots}{δ:Env}{μ:Mem}
def imVals (f:EM):IM:=fun δ μ=>(frzV f δ μ).bind fun x μ'=>match x with
 | .dat (.dct ds)=>if allKD ds=true then .ok (ds.map (·.2)) μ' else .bad
 | _=>.bad
def dwnD (i:Int)(n:Nat):List D:=(List.range n).map fun k=>.int (i-(k:Nat))
def imDwn (f:AM):IM:=fun δ μ=>(f δ μ).bind fun xs μ'=>match xs with
 | [x,y,z]=>match asI x,asI y,asI z with
  | some i,some j,some c=>if -(2^62)≤i∧i<2^62∧-(2^62)≤j∧j<2^62∧c=-1 then .ok (dwnD i (i-j).toNat) μ' else .bad
  | _,_,_=>.bad
 | _=>.bad
end
section
variable {X:Cx}{W:WX}{tg e a b c:Expr}{te:TE}{ta:TA}{f:EM}{fa:AM}{apos cpos p pos:Pos}
end
inductive Pth where
 | s (i:Nat)|f (p:Pth) (m:Str)|k (p:Pth) (key:Key)
def Pth.at (δ:Env)(μ:Mem):Pth→Option Nat
 | .s i=>match δ[i]? with
  | some (some (.loc n))=>some n
  | _=>none
 | .f p m=>match p.at δ μ with
  | some n=>match μ[n]? with
   | some (.ins _ fs)=>match fs.lookup m with
    | some (.loc c)=>some c
    | _=>none
   | _=>none
  | none=>none
 | .k p key=>match p.at δ μ with
  | some n=>match dctOf (.loc n) μ with
   | some kvs=>match dval kvs (.k key) with
    | some (.loc c)=>some c
    | _=>none
   | none=>none
  | none=>none
def unlk (c:Nat)(μ:Mem):Option Mem:=match μ[c]? with
 | some (.lkd kvs)=>some (μ.set c (.dct kvs))
 | _=>none
section
variable {K:PySem.W.Frag}{W:WX}{N:Nat}{ρ ρ':Pm}{G H G' H' G0 H0:Hp}{μ μ':Mem}{σ:Slots}{δ:Env}{n c:Nat}{d:Addr}{od:Obj}{u:HO}{Dn:Ends}
def lkdOf (x:DV)(μ:Mem):Option (List (Ky×D)):=match x with
 | .dat (.dct ds)=>some ds
 | .dat _=>none
 | .loc c=>match μ[c]? with
  | some (.lkd kvs)=>allDatK kvs
  | _=>none
def imKeysL (f:EM):IM:=fun δ μ=>(frzV f δ μ).bind fun x μ'=>match lkdOf x μ' with
 | some ds=>if allKD ds=true then .ok (keysD ds) μ' else .bad
 | none=>.bad
def imItemsL (f:EM):IM:=fun δ μ=>(frzV f δ μ).bind fun x μ'=>match lkdOf x μ' with
 | some ds=>if allKD ds=true then .ok (pairsOf ds) μ' else .bad
 | none=>.bad
end
section
variable {X:Cx}{W:WX}{tg e:Expr}{te:TE}{f:EM}{apos cpos:Pos}{st:Stmt}{ts:TS}{g:SM}
end
section
variable {K:PySem.W.Frag}{W:WX}{N M:Nat}{ρ ρ1:Pm}{G H G1 H1:Hp}{σ:Slots}{δ:Env}{μ:Mem}{Dn:Ends}
theorem TrS.low (t:TrS M ρ G H ρ1 G1 H1)(h:N≤M):TrS N ρ G H ρ1 G1 H1 :=
 ⟨fun n hn=>t.pre n (Nat.lt_of_lt_of_le hn h),t.exG,t.keep,t.th,fun a q=>(t.nG a q).imp_right fun z=>z.imp_right fun⟨n,hn,e⟩=>⟨n,Nat.le_trans h hn,e⟩,fun n a q=>(t.nρ n a q).imp_left fun z=>z.imp_right fun⟨m,hm,w⟩=>⟨m,Nat.le_trans h hm,w⟩,t.fz⟩
theorem paired_at {α β:Type}{r:α→β→Prop}{vs:List α}{xs:List β}(h:Paired r vs xs):∀ {i:Nat} {x:β},xs[i]?=some x→∃ u,vs[i]?=some u∧r u x:=by
 induction h with
 | nil=>intro i x e;simp at e
 | cons q _ ih =>
  intro i x e
  cases i with
  | zero=>simp at e;subst e;exact⟨_,rfl,q⟩
  | succ i=>exact ih (by simpa using e)
theorem turn_low {tb:TS}{gb:SM}{ks:List Bool}{k:Env→Mem→Out}{Nn:Slots→Hp→Prop}(hb:SndS K W tb gb)(hNM:N≤M)(R:Rel K ρ G H μ)(E:EnvOk K ρ G σ δ)(hM:∀ n a,ρ n=some a→n<M)
  (hp:PostS K W N ρ G H Dn (turnL M ks (gb M δ μ) k))
  (go:∀ ρ' G' H' σ' δ' μ',TrS N ρ G H ρ' G' H'→(∀ n,n<M→ρ' n=ρ n)→Rel K ρ' G' H' μ'→EnvOk K ρ' G' σ' δ'→(∀ n a,ρ' n=some a→n<M)→PostS K W N ρ G H Dn (k δ' μ')→Nn σ' H') :
  tb { nx:=Nn,rt:=Dn.rt,bk:=Dn.nx,ct:=Nn } σ H:=by
 have same:∀ {ρ':Pm} {G' H':Hp},TrS M ρ G H ρ' G' H'→∀ n,n<M→resP M ρ' n=ρ n:=fun t' n hn=>by unfold resP;rw[if_pos hn];exact t'.pre n hn
 refine hb M ρ G H σ δ μ _ R E ?_
 cases e:gb M δ μ with
 | bad=>rw[e] at hp;exact hp
 | exc x δ' μ'=>rw[e] at hp;exact fun ρ' G' H' σ' cls d t'=>hp ρ' G' H' σ' cls d (t'.low hNM)
 | ret r μ'=>rw[e] at hp;exact fun ρ' G' H' v t'=>hp ρ' G' H' v (t'.low hNM)
 | brk δ' μ'=>rw[e] at hp;exact fun ρ' G' H' σ' t' R' E'=>hp _ G' H' σ' ((t'.low hNM).cut hM) (R'.cut M) (E'.cut M ks)
 | cnt δ' μ'=>rw[e] at hp;exact fun ρ' G' H' σ' t' R' E'=>go _ G' H' σ' _ _ ((t'.low hNM).cut hM) (same t') (R'.cut M) (E'.cut M ks) (fun n a q=>(resP_some q).1) hp
 | next δ' μ'=>rw[e] at hp;exact fun ρ' G' H' σ' t' R' E'=>go _ G' H' σ' _ _ ((t'.low hNM).cut hM) (same t') (R'.cut M) (E'.cut M ks) (fun n a q=>(resP_some q).1) hp
end
abbrev XM:=Env→Mem→Res DV
def PostX (K:PySem.W.Frag)(W:WX)(M:Nat)(ρ:Pm)(G H:Hp)(σ:Slots)(Q:VK):Res DV→Prop
 | .ok x μ'=>∀ ρ' G' H' v,TrS M ρ G H ρ' G' H'→Rel K ρ' G' H' μ'→DvOk K ρ' G' v x→Q v H'
 | .exc x μ'=>∀ ρ' G' H' cls d,TrS M ρ G H ρ' G' H'→Rel K ρ' G' H' μ'→XcOk K G' H' x cls d→W cls d σ H'
 | .bad=>False
def SndX (K:PySem.W.Frag)(W:WX)(t:TE)(f:XM):Prop:=∀ (ρ:Pm) (G H:Hp) (σ:Slots) (δ:Env) (μ:Mem) (Q:VK),Rel K ρ G H μ→EnvOk K ρ G σ δ →
 PostX K W μ.length ρ G H σ Q (f δ μ)→t σ H Q
structure PMX (X:Cx)(W:WX)(e:Expr)(te:TE)(f:XM):Prop where
 pe:PE X e te
 sd:SndX X.K W te f
def xOf (f:EM):XM:=fun δ μ=>(f δ μ).bind fun r μ'=>match newPl μ.length r μ' with
 | some (x,μ'')=>.ok x μ''
 | none=>.bad
section
variable {K:PySem.W.Frag}{W:WX}{N M:Nat}{ρ ρ1:Pm}{G H G1 H1 G0 H0:Hp}{σ:Slots}{δ:Env}{μ:Mem}{te:TE}{ta:TA}{f:EM}{fa:AM}{fx:XM}{Dn:Ends}
theorem newPl_ok2 {r:R}{v:V}{x:DV}{μ2:Mem}{ρ0:Pm}(R':Rel K ρ G H μ)(t:TrS N ρ0 G0 H0 ρ G H)(d:RpR K ρ G H0 H v r)(e:newPl N r μ=some (x,μ2)) :
  ∃ ρ1,TrS N ρ0 G0 H0 ρ1 G H∧Rel K ρ1 G H μ2∧(∀ n b,ρ n=some b→ρ1 n=some b)∧DvOk K ρ1 G v x:=by
 have up:∀ {a:Addr} (n b),ρ n=some b→addP ρ μ.length a n=some b:=fun {a} n b q=>by
  unfold addP;rw[if_neg (Nat.ne_of_lt (R'.lt n b q))];exact q
 cases r with
 | dat d'=>cases e;exact⟨ρ,t,R',fun _ _ q=>q,d⟩
 | loc n=>cases e;exact⟨ρ,t,R',fun _ _ q=>q,d⟩
 | nl xs =>
  obtain⟨a,vs,rfl,h2,h3,h4,h5,h6⟩:=d
  simp only[newPl] at e
  by_cases hN:N≤μ.length
  case neg=>rw[if_neg hN] at e;cases e
  rw[if_pos hN] at e;cases e
  obtain⟨R2,t2,up2,at_⟩:=R'.alloc (p:=.lst xs) hN t (by rw[h2];simp) h4 h5 h6 ⟨DvL.below R' h3,a,vs,by unfold addP;rw[if_pos rfl],h2,DvL.mono (Ex.refl _) up h3⟩
  exact⟨_,t2,R2,up2,⟨a,rfl,at_⟩⟩
 | nk kvs =>
  obtain⟨a,o,vs,rfl,h2,hk,h3,h4,h5,h6⟩:=d
  have bl:∀ p∈kvs,p.2.below μ.length:=fun p hp=>DvL.below R' h3 p.2 (List.mem_map.mpr ⟨p,hp,rfl⟩)
  simp only[newPl] at e
  by_cases hN:N≤μ.length
  case neg=>rw[if_neg hN] at e;cases e
  rw[if_pos hN] at e;cases e
  obtain⟨R2,t2,up2,at_⟩:=R'.alloc (p:=.dct kvs) hN t (by rw[h2];simp) h4 h5 h6 ⟨bl,a,o,vs,by unfold addP;rw[if_pos rfl],h2,hk,DvL.mono (Ex.refl _) up h3⟩
  exact⟨_,t2,R2,up2,⟨a,rfl,at_⟩⟩
theorem up_of (R:Rel K ρ G H μ)(t:TrS μ.length ρ G H ρ1 G1 H1):∀ n b,ρ n=some b→ρ1 n=some b:=fun n b q=>(t.pre n (R.lt n b q)).trans q
theorem snd_xof (h:SndE K W te f):SndX K W te (xOf f):=fun ρ G H σ δ μ Q R E hp=>by
 unfold xOf at hp
 refine h ρ G H σ δ μ Q R E ?_
 cases e:f δ μ with
 | bad=>rw[e] at hp;exact hp
 | exc x μ'=>rw[e] at hp;exact fun G' H' cls d t R' q=>hp ρ G' H' cls d t.toS R' q
 | ok r μ' =>
  rw[e] at hp
  simp only[Res.bind_ok] at hp
  intro G' H' v t R' q
  cases e2:newPl μ.length r μ' with
  | none=>rw[e2] at hp;exact hp.elim
  | some p =>
   obtain⟨x,μ''⟩:=p
   rw[e2] at hp
   obtain⟨ρ1,t1,R1,up,d1⟩:=newPl_ok R' (t.toS (N:=μ.length)) q e2
   exact hp ρ1 G' H' v t1 R1 d1
def gAsgX (i:Nat)(f:XM):SM:=fun N δ μ=>if N≤μ.length then lift (f δ μ) δ fun x μ'=>.next (δ.set i (some x)) μ' else .bad
theorem snd_asgX (i:Nat)(h:SndX K W te fx):SndS K W (tAsg te (gName i)) (gAsgX i fx):=fun N ρ G H σ δ μ D R E hp=>by
 unfold gAsgX at hp
 by_cases hN:N≤μ.length
 case neg=>rw[if_neg hN] at hp;exact hp.elim
 rw[if_pos hN] at hp
 refine h ρ G H σ δ μ _ R E ?_
 cases e:fx δ μ with
 | bad=>rw[e] at hp;exact hp
 | exc x μ'=>rw[e] at hp;exact fun ρ' G' H' cls d t R' q=>hp ρ' G' H' σ cls d (t.low hN) R' (E.up t.exG (up_of R t)) q
 | ok x μ'=>rw[e] at hp;exact fun ρ' G' H' v t R' q=>hp ρ' G' H' _ (t.low hN) R' ((E.up t.exG (up_of R t)).set i q)
def gRetX (f:XM):SM:=fun N δ μ=>if N≤μ.length then lift (f δ μ) δ fun x μ'=>.ret (ofV x) μ' else .bad
theorem snd_retX (h:SndX K W te fx):SndS K W (tRet te) (gRetX fx):=fun N ρ G H σ δ μ D R E hp=>by
 unfold gRetX at hp
 by_cases hN:N≤μ.length
 case neg=>rw[if_neg hN] at hp;exact hp.elim
 rw[if_pos hN] at hp
 refine h ρ G H σ δ μ _ R E ?_
 cases e:fx δ μ with
 | bad=>rw[e] at hp;exact hp
 | exc x μ'=>rw[e] at hp;exact fun ρ' G' H' cls d t R' q=>hp ρ' G' H' σ cls d (t.low hN) R' (E.up t.exG (up_of R t)) q
 | ok x μ'=>rw[e] at hp;exact fun ρ' G' H' v t R' q=>hp ρ' G' H' v (t.low hN) R' (RpR.ofV q)
abbrev XA:=Env→Mem→Res (List DV)
def SndXA (K:PySem.W.Frag)(W:WX)(t:TA)(f:XA):Prop:=∀ (ρ:Pm) (G H:Hp) (σ:Slots) (δ:Env) (μ:Mem) (Q:List V→Hp→Prop),Rel K ρ G H μ→EnvOk K ρ G σ δ →
 (match f δ μ with
  | .ok xs μ'=>∀ ρ' G' H' vs,TrS μ.length ρ G H ρ' G' H'→Rel K ρ' G' H' μ'→DvL K ρ' G' vs xs→Q vs H'
  | .exc x μ'=>∀ ρ' G' H' cls d,TrS μ.length ρ G H ρ' G' H'→Rel K ρ' G' H' μ'→XcOk K G' H' x cls d→W cls d σ H'
  | .bad=>False)→t σ H Q
def xaNil:XA:=fun _ μ=>.ok [] μ
def xaCons (f:XM)(g:XA):XA:=fun δ μ=>(f δ μ).bind fun x μ1=>if μ.length≤μ1.length then(g δ μ1).bind fun xs μ2=>.ok (x::xs) μ2 else .bad
theorem snd_xanil:SndXA K W tNil xaNil:=fun ρ G H σ δ μ Q R E hp=>hp ρ G H [] (TrS.refl _ _ _ _) R .nil
theorem snd_xacons {t:TE}{ts:TA}{f:XM}{g:XA}(h:SndX K W t f)(hs:SndXA K W ts g):SndXA K W (tCons t ts) (xaCons f g):=fun ρ G H σ δ μ Q R E hp=>by
 unfold xaCons at hp
 refine h ρ G H σ δ μ _ R E ?_
 cases e:f δ μ with
 | bad=>rw[e] at hp;exact hp
 | exc x μ'=>rw[e] at hp;exact hp
 | ok x μ1 =>
  rw[e] at hp
  simp only[Res.bind_ok] at hp
  intro ρ1 G1 H1 v t1 R1 d1
  by_cases hl:μ.length≤μ1.length
  case neg=>rw[if_neg hl] at hp;exact hp.elim
  rw[if_pos hl] at hp
  refine hs ρ1 G1 H1 σ δ μ1 _ R1 (E.up t1.exG (up_of R t1)) ?_
  cases e2:g δ μ1 with
  | bad=>rw[e2] at hp;exact hp
  | exc x μ'=>rw[e2] at hp;exact fun ρ' G' H' cls d t' R' q=>hp ρ' G' H' cls d (t1.trans (t'.low hl)) R' q
  | ok xs μ2 =>
   rw[e2] at hp
   exact fun ρ' G' H' vs t' R' q=>hp ρ' G' H' (v::vs) (t1.trans (t'.low hl)) R' (.cons (d1.mono t'.exG (up_of R1 t')) q)
def closeX (N:Nat)(r:R)(μ:Mem):Res DV:=match r with
 | .dat d=>.ok (.dat d) (μ.take N)
 | .loc n=>if n<N then .ok (.loc n) (μ.take N) else .ok (.loc n) μ
 | .nl xs=>if N≤μ.length then .ok (.loc μ.length) (μ++[.lst xs]) else .bad
 | .nk xs=>if N≤μ.length then .ok (.loc μ.length) (μ++[.dct xs]) else .bad
def callX (g:SM)(m:Nat)(args:List DV)(μ:Mem):Res DV:=match g μ.length (args.map some++List.replicate m none) μ with
 | .next _ μ'=>.ok (.dat .non) (μ'.take μ.length)
 | .ret r μ'=>closeX μ.length r μ'
 | .exc x _ μ'=>.exc x (μ'.take μ.length)
 | _=>.bad
def callDX (g:SM)(n m:Nat):List DV→Mem→Res DV:=fun xs μ=>if xs.length=n then callX g m xs μ else .bad
def spX (K:PySem.W.Frag)(n:Nat)(F:List DV→Mem→Res DV):Sp:=fun vs H Q E=>vs.length=n∧∃ ρ G μ xs,Rel K ρ G H μ∧DvL K ρ G vs xs ∧
 PostX K (fun cls d _ H=>E cls d H) μ.length ρ G H [] Q (F xs μ)
theorem env_of {vs:List V}{xs:List DV}{Nm:List Str}{n:Nat}(d:DvL K ρ G vs xs)(hl:vs.length=n)(hn:n≤Nm.length):EnvOk K ρ G (L2.start Nm vs) (xs.map some++List.replicate (Nm.length-n) none):=by
 have hx:xs.length=n:=by rw[←paired_len d];exact hl
 refine⟨by simp[L2.start,hl,hx],fun i x hi=>?_⟩
 have hi1:i<xs.length:=by
  by_cases e:i<xs.length
  ·exact e
  ·rw[List.getElem?_append_right (by simpa using e),List.getElem?_replicate] at hi
   split at hi <;> cases hi
 rw[List.getElem?_append_left (by simpa using hi1),List.getElem?_map,List.getElem?_eq_getElem hi1] at hi
 simp only[Option.map_some,Option.some.injEq] at hi
 obtain⟨v,h1,h2⟩:=paired_at d (List.getElem?_eq_getElem hi1)
 refine⟨v,?_,hi▸h2⟩
 unfold L2.start
 have hv:i<vs.length:=by omega
 rw[List.getElem?_append_left (by simpa using hv),List.getElem?_map,h1]
 rfl
theorem body_okX {ts:TS}{g:SM}{Q:VK}{E:XK}{vs:List V}{Nm:List Str}{n:Nat}(hb:SndS K (fun cls d _ H=>E cls d H) ts g)(hn:n≤Nm.length)(h:spX K n (callX g (Nm.length-n)) vs H Q E) :
  ts { nx:=fun _ H'=>Q .non H',rt:=Q } (L2.start Nm vs) H:=by
 obtain⟨hl,ρ,G,μ,xs,R,d,hp⟩:=h
 refine hb μ.length ρ G H _ _ μ _ R (env_of d hl hn) ?_
 unfold callX at hp
 have cutT:∀ {ρ' G' H'},TrS μ.length ρ G H ρ' G' H'→TrS μ.length ρ G H (resP μ.length ρ') G' H':=fun t=>t.cut fun n a q=>R.lt n a q
 cases e:g μ.length (xs.map some++List.replicate (Nm.length-n) none) μ with
 | next δ' μ' =>
  rw[e] at hp
  exact fun ρ' G' H' σ' t R' E'=>hp _ G' H' .non (cutT t) (R'.cut μ.length) Rp.non
 | ret r μ' =>
  rw[e] at hp
  intro ρ' G' H' v t R' q
  simp only at hp
  cases r with
  | dat x=>exact hp _ G' H' v (cutT t) (R'.cut μ.length) q
  | loc m =>
   simp only[closeX] at hp
   by_cases hm:m<μ.length
   ·rw[if_pos hm] at hp
    obtain⟨a,rfl,q⟩:=q
    exact hp _ G' H' _ (cutT t) (R'.cut μ.length) ⟨a,rfl,resP_of hm q⟩
   ·rw[if_neg hm] at hp
    exact hp ρ' G' H' v t R' q
  | nl ys =>
   simp only[closeX] at hp
   by_cases hm:μ.length≤μ'.length
   ·rw[if_pos hm] at hp
    obtain⟨ρ1,t1,R1,_,d1⟩:=newPl_ok2 (x:=.loc μ'.length) (μ2:=μ'++[.lst ys]) R' t q (by simp only[newPl];rw[if_pos hm])
    exact hp ρ1 G' H' v t1 R1 d1
   ·rw[if_neg hm] at hp;exact hp.elim
  | nk ys =>
   simp only[closeX] at hp
   by_cases hm:μ.length≤μ'.length
   ·rw[if_pos hm] at hp
    obtain⟨ρ1,t1,R1,_,d1⟩:=newPl_ok2 (x:=.loc μ'.length) (μ2:=μ'++[.dct ys]) R' t q (by simp only[newPl];rw[if_pos hm])
    exact hp ρ1 G' H' v t1 R1 d1
   ·rw[if_neg hm] at hp;exact hp.elim
 | brk δ' μ'=>rw[e] at hp;exact hp.elim
 | cnt δ' μ'=>rw[e] at hp;exact hp.elim
 | exc x δ' μ' =>
  rw[e] at hp
  exact fun ρ' G' H' σ' cls d t R' E' q=>hp _ G' H' cls d (cutT t) (R'.cut μ.length) q
 | bad=>rw[e] at hp;exact hp.elim
theorem callDX_ar {g:SM}{n m:Nat}(xs:List DV)(μ:Mem)(h:callDX g n m xs μ≠.bad):xs.length=n:=by
 unfold callDX at h
 by_cases e:xs.length=n
 ·exact e
 ·rw[if_neg e] at h;exact absurd rfl h
theorem sp_callDX {g:SM}{n m:Nat}{vs:List V}{Q:VK}{E:XK}(h:spX K n (callDX g n m) vs H Q E):spX K n (callX g m) vs H Q E:=by
 obtain⟨hl,ρ,G,μ,xs,R,d,hp⟩:=h
 refine⟨hl,ρ,G,μ,xs,R,d,?_⟩
 unfold callDX at hp
 rwa [if_pos (by rw[←paired_len d];exact hl)] at hp
def xCall (F:List DV→Mem→Res DV)(fa:AM):XM:=fun δ μ=>(fa δ μ).bind fun xs μ1=>if μ.length≤μ1.length then F xs μ1 else .bad
theorem snd_xcall {F:List DV→Mem→Res DV}{n:Nat}(ha:SndA K W ta fa)(hn:∀ xs μ,F xs μ≠.bad→xs.length=n):SndX K W (tCallSD (spX K n F) [] (EW W) ta) (xCall F fa):=fun ρ G H σ δ μ Q R E hp=>by
 unfold xCall at hp
 refine ha ρ G H σ δ μ _ R E ?_
 cases e:fa δ μ with
 | bad=>rw[e] at hp;exact hp
 | exc x μ'=>rw[e] at hp;exact fun G' H' cls d t R' q=>hp ρ G' H' cls d t.toS R' q
 | ok xs μ1 =>
  rw[e] at hp
  simp only[Res.bind_ok] at hp
  intro G1 H1 vs t1 R1 d1
  by_cases hl:μ.length≤μ1.length
  case neg=>rw[if_neg hl] at hp;exact hp.elim
  rw[if_pos hl] at hp
  have hb:F xs μ1≠.bad:=fun e=>by rw[e] at hp;exact hp
  show spX K n F (vs++[]) H1 Q (EW W σ)
  rw[List.append_nil]
  refine⟨by rw[paired_len d1];exact hn _ _ hb,ρ,G1,μ1,xs,R1,d1,?_⟩
  cases e2:F xs μ1 with
  | bad=>exact hb e2
  | exc x μ'=>rw[e2] at hp;exact fun ρ' G' H' cls d t' R' q=>hp ρ' G' H' cls d (t1.toS.trans (t'.low hl)) R' q
  | ok x μ'=>rw[e2] at hp;exact fun ρ' G' H' v t' R' q=>hp ρ' G' H' v (t1.toS.trans (t'.low hl)) R' q
def xMeth (nm m:Str)(F:List DV→Mem→Res DV)(f:EM)(fa:AM):XM:=fun δ μ=>(frzV f δ μ).bind fun x μ1=>if isI nm m x μ1=true then(fa δ μ1).bind fun xs μ2=>if μ.length≤μ2.length then F (x::xs) μ2 else .bad else .bad
abbrev Fds:=List (Str×DV)
structure Hid (K:PySem.W.Frag)(ρ:Pm)(G H:Hp)(C x dx:Addr)(fs:Fds):Prop where
 vs:∃ vs:List (Str×V),H x=some (.ins C dx vs)∧vs.map (·.1)=fs.map (·.1)∧DvL K ρ G (vs.map (·.2)) (fs.map (·.2))
 own:H dx=some (.own x)
 nx:∀ n,ρ n≠some x
 nd:∀ n,ρ n≠some dx
 gx:G x=none
 gd:G dx=none
theorem Hid.ne {C x dx:Addr}{fs:Fds}(h:Hid K ρ G H C x dx fs):dx≠x:=fun e=>by
 obtain⟨vs,h1,_⟩:=h.vs
 have:=h.own
 rw[e,h1] at this;cases this
theorem Hid.step {C x dx:Addr}{fs:Fds}(h:Hid K ρ G H C x dx fs)(R:Rel K ρ G H μ)(t:TrS N ρ G H ρ1 G1 H1)(up:∀ n b,ρ n=some b→ρ1 n=some b):Hid K ρ1 G1 H1 C x dx fs:=by
 obtain⟨vs,h1,h2,h3⟩:=h.vs
 refine⟨⟨vs,t.keep _ _ h.nx h1,h2,DvL.mono t.exG up h3⟩,t.keep _ _ h.nd h.own,fun n q=>?_,fun n q=>?_,?_,?_⟩
 ·rcases t.nρ n x q with (z|⟨m,_,z⟩)|z
  ·exact h.nx n z
  ·exact h.nx m z
  ·rw[h1] at z;cases z
 ·rcases t.nρ n dx q with (z|⟨m,_,z⟩)|z
  ·exact h.nd n z
  ·exact h.nd m z
  ·rw[h.own] at z;cases z
 ·cases q:G1 x with
  | none=>rfl
  | some o =>
   rcases t.nG x (by rw[q];simp) with z|z|⟨m,_,z⟩
   ·exact absurd h.gx z
   ·rw[h1] at z;cases z
   ·exact absurd z (h.nx m)
 ·cases q:G1 dx with
  | none=>rfl
  | some o =>
   rcases t.nG dx (by rw[q];simp) with z|z|⟨m,_,z⟩
   ·exact absurd h.gd z
   ·rw[h.own] at z;cases z
   ·exact absurd z (h.nd m)
abbrev BM:=Env→Mem→Fds→Res Fds
structure Bld (K:PySem.W.Frag)(nm:Str)(i N:Nat)(ρ0:Pm)(G0 H0:Hp)(C x dx:Addr)(ρ:Pm)(G H:Hp)(σ:Slots)(δ:Env)(μ:Mem)(fs:Fds):Prop where
 hN:N≤μ.length
 t:TrS N ρ0 G0 H0 ρ G H
 zx:H0 x=none
 zd:H0 dx=none
 R:Rel K ρ G H μ
 E:EnvOk K ρ G σ δ
 di:δ[i]?=some none
 si:σ[i]?=some (some (.ref x))
 hid:Hid K ρ G H C x dx fs
 cl:Cls K C
 at_:ClsAt K nm C
def PostB (K:PySem.W.Frag)(W:WX)(nm:Str)(i N:Nat)(ρ0:Pm)(G0 H0:Hp)(C x dx:Addr)(σ:Slots)(δ:Env)(Q:Hp→Prop):Res Fds→Prop
 | .ok fs' μ'=>∀ ρ' G' H',Bld K nm i N ρ0 G0 H0 C x dx ρ' G' H' σ δ μ' fs'→Q H'
 | .exc e μ'=>∀ ρ' G' H' cls d,TrS N ρ0 G0 H0 ρ' G' H'→Rel K ρ' G' H' μ'→EnvOk K ρ' G' σ δ→XcOk K G' H' e cls d→W cls d σ H'
 | .bad=>False
def SndB (K:PySem.W.Frag)(W:WX)(nm:Str)(i:Nat)(ts:TS)(g:BM):Prop:=∀ (N:Nat) (ρ0:Pm) (G0 H0:Hp) (C x dx:Addr) (ρ:Pm) (G H:Hp) (σ:Slots) (δ:Env) (μ:Mem) (fs:Fds) (D:Ends),
 Bld K nm i N ρ0 G0 H0 C x dx ρ G H σ δ μ fs→PostB K W nm i N ρ0 G0 H0 C x dx σ δ (D.nx σ) (g δ μ fs)→ts D σ H
def bNil:BM:=fun _ μ fs=>.ok fs μ
def bSeq (g h:BM):BM:=fun δ μ fs=>(g δ μ fs).bind fun fs' μ'=>h δ μ' fs'
def bFld (m:Str)(f:EM):BM:=fun δ μ fs=>(xOf f δ μ).bind fun y μ1=>if μ.length≤μ1.length∧fs.length<1000 then .ok (putD m y fs) μ1 else .bad
def spB (K:PySem.W.Frag)(nm:Str)(n:Nat)(F:List DV→Mem→Res Fds):Sp:=fun vs H Q E=>vs.length=n∧∃ N ρ0 G0 H0 C x dx ρ G μ xs ws,vs=.ref x::ws ∧
 (N≤μ.length∧TrS N ρ0 G0 H0 ρ G H∧H0 x=none∧H0 dx=none∧Rel K ρ G H μ∧DvL K ρ G ws xs∧Hid K ρ G H C x dx []∧Cls K C∧ClsAt K nm C) ∧
 (match F xs μ with
 | .ok fs' μ'=>∀ ρ' G' H',TrS N ρ0 G0 H0 ρ' G' H'→Rel K ρ' G' H' μ'→N≤μ'.length→Hid K ρ' G' H' C x dx fs'→Q .non H'
 | .exc e μ'=>∀ ρ' G' H' cls d,TrS N ρ0 G0 H0 ρ' G' H'→Rel K ρ' G' H' μ'→XcOk K G' H' e cls d→E cls d H'
 | .bad=>False)
def xMake (nm:Str)(F:List DV→Mem→Res Fds)(fa:AM):XM:=fun δ μ=>(fa δ μ).bind fun xs μ1=>if μ.length≤μ1.length then(F xs μ1).bind fun fs μ2=>.ok (.loc (μ2.length+1)) (μ2++[.own]++[.ins nm fs]) else .bad
def SndBS (K:PySem.W.Frag)(W:WX)(nm:Str)(i:Nat)(ts:TS)(g:Fds→SM):Prop:=∀ (N:Nat) (ρ0:Pm) (G0 H0:Hp) (C x dx:Addr) (ρ:Pm) (G H:Hp) (σ:Slots) (δ:Env) (μ:Mem) (fs:Fds) (D:Ends),
 Bld K nm i N ρ0 G0 H0 C x dx ρ G H σ δ μ fs→PostS K W N ρ0 G0 H0 D (g fs N δ μ)→ts D σ H
def gPub (nm:Str)(i:Nat)(g:SM):Fds→SM:=fun fs N δ μ=>g N (δ.set i (some (.loc (μ.length+1)))) (μ++[.own]++[.ins nm fs])
def gBSeq (b:BM)(g:Fds→SM):Fds→SM:=fun fs N δ μ=>lift (b δ μ fs) δ fun fs' μ'=>g fs' N δ μ'
def gBld (i:Nat)(F:List DV→Mem→Res Fds)(fa:AM)(g:Fds→SM):SM:=fun N δ μ=>lift (fa δ μ) δ fun xs μ1=>if N≤μ1.length∧i<δ.length then lift (F xs μ1) δ fun fs μ2=>g fs N (δ.set i none) μ2 else .bad
end
set_option maxHeartbeats 1000000
structure PMXA (X:Cx)(W:WX)(es:List Expr)(ta:TA)(f:XA):Prop where
 pe:PA X es ta
 sd:SndXA X.K W ta f
section
variable {K:PySem.W.Frag}{W:WX}{N M:Nat}{ρ ρ1:Pm}{G H G1 H1 G0 H0:Hp}{σ:Slots}{δ:Env}{μ:Mem}{te:TE}{ta:TA}{f:EM}{fa:AM}{fx:XM}{fs:XA}{Dn:Ends}
theorem SndXA.stm (h:SndXA K W ta fs)(R:Rel K ρ G H μ)(E:EnvOk K ρ G σ δ)(hN:N≤μ.length){k:List DV→Mem→Out}(hp:PostS K W N ρ G H Dn (lift (fs δ μ) δ k)){Q:List V→Hp→Prop}
  (go:∀ xs μ' ρ' G' H' vs,TrS N ρ G H ρ' G' H'→Rel K ρ' G' H' μ'→EnvOk K ρ' G' σ δ→DvL K ρ' G' vs xs→PostS K W N ρ G H Dn (k xs μ')→Q vs H'):ta σ H Q:=by
 refine h ρ G H σ δ μ Q R E ?_
 cases e:fs δ μ with
 | bad=>rw[e] at hp;exact hp
 | exc x μ'=>rw[e] at hp;exact fun ρ' G' H' cls d t R' q=>hp ρ' G' H' σ cls d (t.low hN) R' (E.up t.exG (up_of R t)) q
 | ok xs μ'=>rw[e] at hp;exact fun ρ' G' H' vs t R' q=>go xs μ' ρ' G' H' vs (t.low hN) R' (E.up t.exG (up_of R t)) q hp
end
structure FnDX (P:Program)(w:World)(K:PySem.W.Frag)(mg:Str→Option Value)(base:Heap)(cx:CXT)(k:Nat)(x:Str)(n:Nat)(F:List DV→Mem→Res DV):Prop where
 ar:∀ xs μ,F xs μ≠.bad→xs.length=n
 ex:∃ (f:Addr) (fd:FuncData) (ps:List Str),ps.length=n∧FnG P w K mg base cx k f fd ps (spX K n F)∧mg x=some (.ref f)∧PySem.W.keepIn K (.ref f)=true∧Binds K fd ps []
structure MthDX (P:Program)(w:World)(K:PySem.W.Frag)(mg:Str→Option Value)(base:Heap)(cx:CXT)(k:Nat)(nm m:Str)(n:Nat)(F:List DV→Mem→Res DV):Prop where
 ar:∀ xs μ,F xs μ≠.bad→xs.length=n
 ex:∃ (C f:Addr) (fd:FuncData) (ps:List Str),ps.length=n∧ClsAt K nm C∧FnG P w K mg base cx k f fd ps (spX K n F)∧Cls K C∧Meth K C m f∧Binds K fd ps []
structure MakDB (P:Program)(w:World)(K:PySem.W.Frag)(mg:Str→Option Value)(base:Heap)(cx:CXT)(k:Nat)(nm:Str)(n:Nat)(F:List DV→Mem→Res Fds):Prop where
 ar:∀ xs μ,F xs μ≠.bad→xs.length+1=n
 ex:∃ (C f:Addr) (fd:FuncData) (ps:List Str),ps.length=n∧ClsAt K nm C∧Cls K C∧mg nm=some (.ref C)∧FnG P w K mg base cx k f fd ps (spB K nm n F)∧Mk K C f∧Binds K fd ps []
structure PMB (X:Cx)(W:WX)(nm:Str)(i:Nat)(ss:List Stmt)(ts:TS)(g:BM):Prop where
 ps:PSs X ss ts
 sd:SndB X.K W nm i ts g
structure PMBS (X:Cx)(W:WX)(nm:Str)(i:Nat)(ss:List Stmt)(ts:TS)(g:Fds→SM):Prop where
 ps:PSs X ss ts
 sd:SndBS X.K W nm i ts g
section
variable {X:Cx}{W:WX}{P:Program}{w:World}{K:PySem.W.Frag}{mg:Str→Option Value}{base:Heap}{cx:CXT}{k n:Nat}{nm m x:Str}{F:List DV→Mem→Res DV}{FB:List DV→Mem→Res Fds}{e o:Expr}{es:List Expr}{tA:TA}{fA:AM}{xA:XA}{to te:TE}{fo fe f:EM}{fx:XM}{p pos apos:Pos}{t u:TS}{ss:List Stmt}{st:Stmt}
theorem px_of (h:PM X W e te f):PMX X W e te (xOf f):=⟨h.pe,snd_xof h.sd⟩
theorem pxa_nil:PMXA X W [] tNil xaNil:=⟨pa_nil,snd_xanil⟩
theorem pxa_cons (h:PMX X W e te fx)(hs:PMXA X W es tA xA)(hst:starEach (e::es) X.env=(false,eval e X.env)::starEach es X.env:=by rfl):PMXA X W (e::es) (tCons te tA) (xaCons fx xA) :=
 ⟨pa_cons h.pe hs.pe hst,snd_xacons h.sd hs.sd⟩
theorem sm_asgX (i:Nat)(hN:X.N.Nodup)(h:PMX X W e te fx)(hi:X.N[i]?=some x:=by rfl)(hx:Loc X.env.scope x:=by first|exact Or.inl rfl|exact Or.inr rfl)
  (hf:X.fn x=true∨X.env.scope.names.lookup x=some .local:=by first|exact .inl rfl|exact .inr rfl)
  (a1:swapsWithSole [.Name x p] e pos.line X.env=pure false:=by rfl) (a2:swappedStores [.Name x p] e X.env=pure none:=by rfl) (a3:List.map (fun x=>x.snd) (assignEach [.Name x p] X.env)=[assign (.Name x p) X.env]:=by rfl) :
  PSM X W (.Assign [.Name x p] e pos) (tAsg te (gName i)) (gAsgX i fx):=⟨ps_asg h.pe (pg_name hN hi hx hf) a1 a2 a3,snd_asgX i h.sd⟩
theorem sm_retX (h:PMX X W e te fx):PSM X W (.Return (some e) pos) (tRet te) (gRetX fx):=⟨ps_ret h.pe,snd_retX h.sd⟩
theorem px_call (Fn:FnDX X.prog X.w X.K X.mg X.base cx k x n F)(hr:Room k X.A)(hgd:X.A.guards=some [])(hg:Gl X x)
  (hx:∀ σ,PassesAt cx X σ (EW W σ)) (ha:PMA X W (e::es) tA fA) (hdb:(x==("__debug__":Str))=false:=by decide)
  (he:starEach (e::es) X.env=(false,eval e X.env)::starEach es X.env:=by rfl) (hpl:(backTo pos (starEach es X.env)).any (·.1)=false:=by rfl) :
  PMX X W (.Call (.Name x p) (e::es) [] pos) (tCallSD (spX X.K n F) [] (EW W) tA) (xCall F fA):=by
 obtain⟨f,fd,ps,hn,G,hm,hk,hb⟩:=Fn.ex
 exact⟨pe_callG G hr hgd hg hm hk hb .nil hx ha.pe hdb he hpl,snd_xcall ha.sd Fn.ar⟩
end
section
variable {K:PySem.W.Frag}{W:WX}{N:Nat}{ρ ρ1:Pm}{G H G1 H1 G0 H0:Hp}{σ:Slots}{δ:Env}{μ:Mem}{n c:Nat}{a:Addr}{nm m:Str}{fs:Fds}{d:D}{o':HO}
end
section
variable {X:Cx}{W:WX}{ss:List Stmt}{t:TS}{g:SM}
end
def ddrop {α:Type}(kvs:List (Ky×α))(k:Ky):List (Ky×α):=kvs.filter fun p=>decide (p.1≠k)
def dPopK (x y:DV)(z:Option DV)(μ:Mem):Res R:=match x with
 | .dat _=>.bad
 | .loc n=>match μ[n]?,keyD y with
  | some (.dct kvs),some k=>if allK kvs=true then match dval kvs (.k k) with
    | some v=>.ok (ofV v) (μ.set n (.dct (ddrop kvs (.k k))))
    | none=>match z with
     | some w=>.ok (ofV w) μ
     | none=>.bad
   else .bad
  | _,_=>.bad
def eDPop1 (fd fy:EM):EM:=fun δ μ=>(frzV fd δ μ).bind fun x μ1=>if isDct x μ1=true then(frzV fy δ μ1).bind fun y μ2=>dPopK x y none μ2 else .bad
def eDPop2 (fd fy fz:EM):EM:=fun δ μ=>(frzV fd δ μ).bind fun x μ1=>if isDct x μ1=true then(frzV fy δ μ1).bind fun y μ2=>(frzV fz δ μ2).bind fun z μ3=>dPopK x y (some z) μ3 else .bad
section
variable {K:PySem.W.Frag}{W:WX}{N:Nat}{ρ:Pm}{G H:Hp}{σ:Slots}{δ:Env}{μ:Mem}{td ty tz te to ti:TE}{fd fy fz fe fo fi:EM}{Q:VK}
def gDAug (fo fi fe:EM):SM:=fun _ δ μ=>lift ((frzV fo δ μ).bind fun x μ1=>(frzV fi δ μ1).bind fun i μ2=>(dGet x i μ2).bind fun r μ3=>(frzV fe δ μ3).bind fun y μ4=>match r,y with
 | .dat (.int a),.dat (.int b)=>match setDct μ4 x i (.dat (.int (a+b))) with
  | some μ5=>.ok () μ5
  | none=>.bad
 | _,_=>.bad) δ fun _ μ5=>.next δ μ5
def fldI (nms:List Str)(m:Str)(x:DV)(μ:Mem):Option Int:=match insAt μ x with
 | some (nm,fs)=>if nm∈nms then match fs.lookup m with
   | some (.dat (.int a))=>some a
   | _=>none
  else none
 | none=>none
def gFldAug (nms:List Str)(m:Str)(fo fe:EM):SM:=fun _ δ μ=>lift ((frzV fo δ μ).bind fun x μ1=>match fldI nms m x μ1 with
 | some a=>(frzV fe δ μ1).bind fun y μ2=>match y with
  | .dat (.int b)=>if(insAt μ2 x).map (·.1)=(insAt μ1 x).map (·.1) then match setFld nms μ2 x m (.dat (.int (a+b))) with
   | some μ3=>.ok () μ3
   | none=>.bad
   else .bad
  | _=>.bad
 | none=>.bad) δ fun _ μ3=>.next δ μ3
end
end DL
set_option maxHeartbeats 1000000
namespace DL
open PySem PySem.Spec PyProof.Rows L2 StX
section
variable {K:PySem.W.Frag}{W:WX}{N:Nat}{ρ:Pm}{G H:Hp}{σ:Slots}{δ:Env}{μ:Mem}{td ty tz te to ti:TE}{fd fy fz fe fo fi:EM}{Q:VK}{ts:TA}{g:AM}
def seqOf:DV→Option (List D)
 | .dat (.tup ds)=>some ds
 | .dat (.lst ds)=>some ds
 | _=>none
def aStar (f:EM)(g:AM):AM:=fun δ μ=>(frzV f δ μ).bind fun x μ1=>match seqOf x with
 | some ds=>(g δ μ1).bind fun xs μ2=>.ok (ds.map DV.dat++xs) μ2
 | none=>.bad
abbrev TGM:=DV→Env→Mem→Res Env
def hName (i:Nat):TGM:=fun x δ μ=>.ok (δ.set i (some x)) μ
def hFld (nms:List Str)(m:Str)(fo:EM):TGM:=fun y δ μ=>(frzV fo δ μ).bind fun x μ1=>match setFld nms μ1 x m y with
 | some μ2=>.ok δ μ2
 | none=>.bad
def hDPut (fo fi:EM):TGM:=fun y δ μ=>(frzV fo δ μ).bind fun x μ1=>(frzV fi δ μ1).bind fun i μ2=>match setDct μ2 x i y with
 | some μ3=>.ok δ μ3
 | none=>.bad
def hNil:List DV→Env→Mem→Res Env:=fun xs δ μ=>match xs with
 | []=>.ok δ μ
 | _=>.bad
def hCons (h:TGM)(r:List DV→Env→Mem→Res Env):List DV→Env→Mem→Res Env:=fun xs δ μ=>match xs with
 | x::xs=>(h x δ μ).bind fun δ1 μ1=>r xs δ1 μ1
 | []=>.bad
def TgMs (K:PySem.W.Frag)(g:TGs)(h:List DV→Env→Mem→Res Env):Prop:=∀ (ρ:Pm) (G H:Hp) (μ:Mem) (σ:Slots) (δ δ':Env) (μ':Mem) (vs:List V) (xs:List DV) (Q:Slots→Hp→Prop),Rel K ρ G H μ→EnvOk K ρ G σ δ→DvL K ρ G vs xs →
 h xs δ μ=.ok δ' μ'→(∀ G' H' σ',Tr ρ G H G' H'→Rel K ρ G' H' μ'→EnvOk K ρ G' σ' δ'→Q σ' H')→g vs σ H Q
def gTgtM (n:Nat)(h:List DV→Env→Mem→Res Env)(f:EM):SM:=fun _ δ μ=>lift (frzV f δ μ) δ fun x μ1=>match x with
 | .dat (.tup ds)=>if ds.length=n then match h (ds.map DV.dat) δ μ1 with
   | .ok δ' μ'=>.next δ' μ'
   | _=>.bad
  else .bad
 | _=>.bad
end
section
variable {X:Cx}{W:WX}{pos p tpos apos cpos:Pos}{e o i:Expr}{te to ti:TE}{f fo fi:EM}{tA:TA}{fA:AM}{es:List Expr}{m:Str}
end
structure PMHs (X:Cx)(es:List Expr)(g:TGs)(h:List DV→Env→Mem→Res Env):Prop where
 pg:PGs X es g
 ok:TgMs X.K g h
section
variable {X:Cx}{W:WX}{pos p tpos apos cpos:Pos}{e o i:Expr}{te to ti:TE}{f fo fi:EM}{es:List Expr}{m x:Str}{g:TGs}{h:List DV→Env→Mem→Res Env}
end
end DL
set_option maxHeartbeats 1000000
namespace DL
open PySem PySem.Spec PyProof.Rows L2 StX
section
variable {P:Program}{w:World}{K:PySem.W.Frag}{mg:Str→Option Value}{base:Heap}
theorem fn_gB {x qual:Str}{st:Stmt}{f:Addr}{fd:FuncData}{Nm ps:List Str}{k n m:Nat}{g:SM}(F:Fun K x qual st f fd)(S:FnScope Nm ps (defScope st))(hn:ps.length=n)(hmn:Nm.length=n+m)
  (body:∀ (cdv:Value) (A:Around) (out:List PySem.Env) (s:Shared) (H:Hp) (E:XK),Room k (A.deeper (envOfC qual (defScope st) s.heap.objs.size f cdv))→A.guards=some [] →
   ∃ ts,PSMs (cxOf CX0 P w K mg base Nm qual (defScope st) f cdv A out s H E).nox (fun cls d _ H=>E cls d H) (defBody st) ts g) :
  FnG P w K mg base CX0 (k+1) f fd ps (spX K n (callDX g n m)):=by
 obtain⟨oc,od,kV,doc,pm,an,cdv,ct,osl,rfl,lk,hcd⟩:=F.ex
 refine fnG_of lk hcd S (fun vs H Q E h=>by rw[h.1,hn]) fun A out s H vs Q E hr hg hsp=>?_
 obtain⟨ts,b⟩:=body cdv A out s H E hr hg
 refine⟨ts,b.ps.nox,?_⟩
 have e:Nm.length-n=m:=by omega
 exact body_okX (n:=n) b.sd (by omega) (by rw[e];exact sp_callDX hsp)
theorem fn_okg {x qual:Str}{st:Stmt}{f:Addr}{fd:FuncData}{Nm ps:List Str}{k n m:Nat}{g:SM}(F:Fun K x qual st f fd)(S:FnScope Nm ps (defScope st))(hm:mg x=some (.ref f))(hn:ps.length=n)(hmn:Nm.length=n+m)
  (hb:∀ (kV doc pm:Value) (an:Option Addr) (cdv ct:Value) (us:List Value),us.length=ps.length→bindArgs (PySem.W.fnOf x qual (defArgs st) (defBody st) (defScope st) .none kV doc pm an cdv ct) ⟨us,[]⟩=pure (ps.zip us))
  (body:∀ (cdv:Value) (A:Around) (out:List PySem.Env) (s:Shared) (H:Hp) (E:XK),Room k (A.deeper (envOfC qual (defScope st) s.heap.objs.size f cdv))→A.guards=some [] →
   ∃ ts,PSMs (cxOf CX0 P w K mg base Nm qual (defScope st) f cdv A out s H E).nox (fun cls d _ H=>E cls d H) (defBody st) ts g) :
  FnDX P w K mg base CX0 (k+1) x n (callDX g n m) :=
 ⟨callDX_ar,f,fd,ps,hn,fn_gB F S hn hmn body,hm,F.kp,F.binds hb⟩
end
section
variable {X:Cx}{W:WX}{P:Program}{w:World}{K:PySem.W.Frag}{mg:Str→Option Value}{base:Heap}{cx:CXT}{k n:Nat}{nm m x:Str}{FB:List DV→Mem→Res Fds}{e o:Expr}{es:List Expr}{tA:TA}{fA:AM}{to te:TE}{fo fe f:EM}{p pos pos2 apos:Pos}{t u:TS}{ss:List Stmt}{st:Stmt}{g:Fds→SM}
end
structure PrpD (P:Program)(w:World)(K:PySem.W.Frag)(mg:Str→Option Value)(base:Heap)(k:Nat)(nm f m:Str):Prop where
 ex:∃ (C p g:Addr) (fd:FuncData) (ps:List Str),ClsAt K nm C∧Cls K C∧PropOf K C f p g∧FnOk P w K mg base CX0 k g fd ps (getSp C m)∧Binds K fd ps []
section
variable {X:Cx}{W:WX}{P:Program}{w:World}{K:PySem.W.Frag}{mg:Str→Option Value}{base:Heap}{k:Nat}{nm f m:Str}{o:Expr}{to:TE}{fo:EM}{pos:Pos}
end
end DL
set_option maxHeartbeats 1000000
namespace DL
open PySem PySem.Spec PyProof.Rows L2 StX
section
variable {K:PySem.W.Frag}{W:WX}{N n:Nat}{ρ:Pm}{G H:Hp}{σ:Slots}{δ:Env}{μ:Mem}
end
end DL
namespace DL
open PySem PySem.Spec PyProof.Rows L2
def keyAt (e:Int×Value):Key:=match e.2 with
 | .int k _=>.inl k
 | .str x _=>.inr x
 | _=>.inl 0
def Good (w:World)(e:Int×Value):Prop:=keyIs (keyAt e) e.2=true∧e.1=keyH w (keyAt e)
structure SetW (w:World)(h:Heap)(a:Addr)(S:Key→Bool)(n:Nat)(o:Obj)(es:Array (Int×Value))(ep:Nat)(t:SetTable):Prop where
 ob:h.get? a=some o
 ex:o.ExactSet
 da:o.data=.set es ep t
 gd:∀ e∈es.toList,Good w e
 nd:(es.toList.map keyAt).Nodup
 mb:∀ k,S k=true↔k∈es.toList.map keyAt
 bd:es.size<scanBound
 ft:t.fits es.size=true
 sz:es.size=n
 rs:Ris t.place.toList
 ld:w.params.followText "set-order"=true∨t.led=true
def SetX (w:World)(h:Heap)(a:Addr)(S:Key→Bool)(n:Nat):Prop:=∃ o es ep t,SetW w h a S n o es ep t
section
variable {P:Program}{w:World}{A:Around}{E:Value→Shared→Prop}{s:Shared}{a:Addr}{S:Key→Bool}{n:Nat}{h h':Heap}
theorem SetX.at (R:SetX w h a S n)(k:∀ o,h.get? a=some o→h'.get? a=some o):SetX w h' a S n:=by
 obtain⟨o,es,ep,t,r⟩:=R
 exact⟨o,es,ep,t,⟨k o r.ob,r.ex,r.da,r.gd,r.nd,r.mb,r.bd,r.ft,r.sz,r.rs,r.ld⟩⟩
theorem SetX.congr {S':Key→Bool}(R:SetX w h a S n)(e:∀ k,S' k=S k):SetX w h a S' n:=by
 rw[show S'=S from funext e];exact R
end
def kIn (ks:List Key)(j:Key):Bool:=ks.any fun k=>decide (j=k)
section
variable {P:Program}{w:World}{A:Around}{E:Value→Shared→Prop}{s:Shared}
end
section
variable {P:Program}{w:World}{A:Around}{E:Value→Shared→Prop}{s:Shared}{a:Addr}{S:Key→Bool}{n:Nat}
end
section
variable {X:Cx}
end
section
variable {K:PySem.W.Frag}{W:WX}{ρ:Pm}{G H:Hp}{w:World}
end
section
variable {X:Cx}{W:WX}{pos p p2 q tpos apos cpos:Pos}{a b e o i:Expr}{es:List Expr}{lo hi:Option Expr}{te ta tb to ti:TE}{tA:TA}{fA:AM}{tl th:TO}{f fa fb fo fi:EM}{fl fh:OM}
end
section
variable {QR:R→Mem→Prop}{E:Xc→Mem→Prop}{δ:Env}{μ:Mem}
end
end DL
set_option maxHeartbeats 2500000
namespace DL
open PySem PySem.Spec PyProof.Rows L2 PpSet
section
variable {X:Cx}
end
end DL
namespace DL
open PySem PySem.Spec PyProof.Rows L2
section
variable {K:PySem.W.Frag}{W:WX}{ρ:Pm}{G H G0 H0:Hp}{μ:Mem}{σ:Slots}{δ:Env}
def dcL (h:D→Env→Option Env)(ft:TM)(fk fv:EM)(δ:Env):List D→List (Ky×DV)→Mem→Res (List (Ky×DV))
 | [],acc,μ=>.ok acc μ
 | d::ds,acc,μ=>match h d δ with
  | none=>.bad
  | some δ1=>match ft δ1 μ with
   | .ok true μ1=>match frzV fk δ1 μ1 with
    | .ok k μ2=>match keyD k,frzV fv δ1 μ2 with
     | some kk,.ok y μ3=>dcL h ft fk fv δ ds (dput acc (.k kk) y) μ3
     | _,_=>.bad
    | _=>.bad
   | .ok false μ1=>dcL h ft fk fv δ ds acc μ1
   | _=>.bad
def eDc (fi:IM)(h:D→Env→Option Env)(ft:TM)(fk fv:EM)(vs:List Nat):EM:=fun δ μ=>(fi δ μ).bind fun xs μ' =>
 if xs.length≤sizeLine then(dcL h ft fk fv (wipeE δ vs) xs [] μ').bind fun ys μ2=>.ok (.nk ys) μ2 else .bad
def lc2L (h:D→Env→Option Env)(ft:TM)(fi1:IM)(h1:D→Env→Option Env)(ft1:TM)(fe:EM)(vs1:List Nat)(δ:Env):List D→Nat→Mem→Res (List DV)
 | [],_,μ=>.ok [] μ
 | d::ds,c,μ=>match h d δ with
  | none=>.bad
  | some δ1=>match ft δ1 μ with
   | .ok true μ1=>match fi1 δ1 μ1 with
    | .ok xs1 μ2=>if c+xs1.length≤sizeLine then(lcL h1 ft1 fe (wipeE δ1 vs1) xs1 μ2).bind fun ys μ3=>(lc2L h ft fi1 h1 ft1 fe vs1 δ ds (c+ys.length) μ3).bind fun zs μ4=>.ok (ys++zs) μ4 else .bad
    | _=>.bad
   | .ok false μ1=>lc2L h ft fi1 h1 ft1 fe vs1 δ ds c μ1
   | _=>.bad
def eLc2 (fi:IM)(h:D→Env→Option Env)(ft:TM)(fi1:IM)(h1:D→Env→Option Env)(ft1:TM)(fe:EM)(vs vs1:List Nat):EM:=fun δ μ=>(fi δ μ).bind fun xs μ' =>
 (lc2L h ft fi1 h1 ft1 fe vs1 (wipeE δ vs) xs 0 μ').bind fun ys μ2=>.ok (.nl ys) μ2
end
def DatK (x:DV)(Q:D→Prop):Prop:=∃ d,x=.dat d∧Q d
theorem dkk {d:D}{Q:D→Prop}(h:Q d):DatK (.dat d) Q:=⟨d,rfl,h⟩
theorem s_raiseK {nm f:Str}{fe:EM}{P:DL.PO}{δ:DL.Env}{μ:Mem}{N:Nat}(h:Sat (frzV fe δ μ) (fun x μ'=>DatK x fun d=>P.ex ⟨nm,[(f,d)]⟩ δ μ') (fun x μ=>P.ex x δ μ)):SatS (gRaise nm f fe N δ μ) P:=s_raise h
theorem at0 {α:Type}{x:α}{xs:List α}:atI (x::xs) 0=some x:=DL.atI_nat (k:=0) rfl
theorem l_ix0T {d:D}{ds:List D}{QR:R→Mem→Prop}{E:Xc→Mem→Prop}{μ:Mem}(h:QR (.dat d) μ):Sat (dIx (.dat (.tup (d::ds))) (.dat (.int 0)) μ) QR E:=l_ixT at0 h
theorem l_ix0L {d:D}{ds:List D}{QR:R→Mem→Prop}{E:Xc→Mem→Prop}{μ:Mem}(h:QR (.dat d) μ):Sat (dIx (.dat (.lst (d::ds))) (.dat (.int 0)) μ) QR E:=l_ixL at0 h
theorem sl_sz2 {n:Nat}(h:n≤1000000):n≤sizeLine:=Nat.le_trans h (by decide)
def menu:List Str:=["a","ab","end","l","more","new","share","write","x","zzzzzzzz"]
def louds:List Str:=["new","share","share","end","write","write"]
def quiets:List Str:=["hold","leave","more","less"]
theorem menu_fit:∀ s∈menu,PyData.strOk s=true∧s.cps.size≤16:=by decide +kernel
abbrev Sp1:=Str×List Str
def two (w:Str):Bool:=decide (w="share")||decide (w="hold")
structure StOk (b:Bool)(ss:List Str)(x:Sp1):Prop where
 w:x.1∈(if b=true then louds else louds++quiets)
 sh:two x.1=true→∃ a c,x.2=[a,c]∧a≠c∧a∈ss∧c∈ss
 ot:two x.1=false→∃ a,x.2=[a]∧a∈ss
structure DeedOk (b:Bool)(as os:List Str)(xs:List Sp1):Prop where
 nd:(as++os).Nodup
 me:∀ s∈as++os,s∈menu
 a1:1≤as.length
 a3:as.length≤3
 o2:os.length≤2
 x1:1≤xs.length
 x8:xs.length≤8
 st:∀ x∈xs,StOk b (as++os) x
theorem StOk.word {b:Bool}{ss:List Str}{x:Sp1}(h:StOk b ss x):x.1∈louds++quiets:=by
 have:=h.w
 by_cases e:b=true
 ·rw[if_pos e] at this;exact List.mem_append_left _ this
 ·rw[if_neg e] at this;exact this
theorem StOk.mem {b:Bool}{ss:List Str}{x:Sp1}(h:StOk b ss x):∀ s∈x.2,s∈ss:=by
 intro s hs
 cases e:two x.1 with
 | true=>obtain⟨a,c,e2,_,h1,h2⟩:=h.sh e;rw[e2] at hs;simp at hs;rcases hs with rfl|rfl <;> assumption
 | false=>obtain⟨a,e2,h1⟩:=h.ot e;rw[e2] at hs;simp at hs;subst hs;exact h1
theorem StOk.len {b:Bool}{ss:List Str}{x:Sp1}(h:StOk b ss x):1≤x.2.length∧x.2.length≤2:=by
 cases e:two x.1 with
 | true=>obtain⟨a,c,e2,_⟩:=h.sh e;rw[e2];simp
 | false=>obtain⟨a,e2,_⟩:=h.ot e;rw[e2];simp
def quietT:List (Str×Str):=[("share","hold"),("end","leave")]
def loudT:List (Str×Str):=[("hold","share"),("leave","end")]
def tabW (q:Bool):List (Str×Str):=if q=true then quietT else loudT
theorem lt_of_at {α:Type}{xs:List α}{k:Nat}{x:α}(h:xs[k]?=some x):k<xs.length:=(List.getElem?_eq_some_iff.mp h).1
structure DeedSh (as:List Str)(xs:List Sp1):Prop where
 a3:as.length≤3
 am:∀ s∈as,s∈menu
 x8:xs.length≤8
 xw:∀ x∈xs,x.1∈louds++quiets
 x2:∀ x∈xs,x.2.length≤2
 xm:∀ x∈xs,∀ s∈x.2,s∈menu
theorem DeedOk.sh {b:Bool}{as os:List Str}{xs:List Sp1}(h:DeedOk b as os xs):DeedSh as xs :=
 ⟨h.a3,fun s hs=>h.me s (List.mem_append_left _ hs),h.x8,fun x hx=>(h.st x hx).word,fun x hx=>(h.st x hx).len.2,fun x hx s hs=>h.me s ((h.st x hx).mem s hs)⟩
def isC (w:Str):Bool:=((tabW true).lookup w).isSome
def cnt (xs:List Sp1):List Nat:=(xs.zipIdx.filter fun p=>isC p.1.1).map (·.2)
structure Mk where
 a:Int
 l:Option Int
 c:Bool
def MkOk (n:Int)(m:Mk):Prop:=(0≤m.a∧m.a<n)∧∀ i,m.l=some i→0≤i∧i<n
structure MsOk (ms:List Mk):Prop where
 h1:1≤ms.length
 h6:ms.length≤6
 ok:∀ m∈ms,MkOk ms.length m
variable {ms:List Mk}{n k:Nat}{b:Bool}
abbrev Ws:=List (Int×List Bool)
structure Gd (ms:List Mk)(s:Ws×List Int):Prop where
 nd:(s.1.map (·.1)).Nodup
 lt:∀ p∈s.1,0≤p.1∧p.1<ms.length
 q:∀ x∈s.2,x∈s.1.map (·.1)
 ln:∀ p∈s.1,p.2.length+1≤s.1.length
 ne:1≤s.1.length
 z:(0,([]:List Bool))∈s.1
end DL
namespace DL
open PySem PySem.Spec PyProof.Rows L2
section
variable {δ:Env}{μ:Mem}{QR:R→Mem→Prop}{E:Xc→Mem→Prop}{a b:Bool}{o o':Option Int}
end
section
variable {K:PySem.W.Frag}{W:WX}{ρ:Pm}{G H G0 H0:Hp}{μ:Mem}{σ:Slots}{δ:Env}
def eqKv (ps qs:List (Key×PyData)):Bool:=ps.length==qs.length&&ps.all fun p=>match (qs.find? fun q=>decide (q.1=p.1)) with
 | some q=>PyData.eqv p.2 q.2
 | none=>false
end
section
variable {X:Cx}{pins:List (Addr×Obj)}{σ:L2.St}{H:Hp}{s:Shared}
end
def pyKd:List (Ky×D)→Option (List (Key×PyData))
 | []=>some []
 | (.k k,d)::r=>match toPy d,pyKd r with
  | some p,some ps=>if SeqAt.shaped p=true then some ((k,p)::ps) else none
  | _,_=>none
 | (.t _,_)::_=>none
def dctD (x:DV)(μ:Mem):Option (List (Ky×D)):=(dctOf x μ).bind allDatK
def dEqK (x y:DV)(μ:Mem):Res R:=match (dctD x μ).bind pyKd,(dctD y μ).bind pyKd with
 | some ps,some qs=>.ok (.dat (.bl (eqKv ps qs))) μ
 | _,_=>.bad
section
variable {K:PySem.W.Frag}{W:WX}{ρ:Pm}{G H G0 H0:Hp}{μ:Mem}{σ:Slots}{δ:Env}
end
noncomputable def dEqC:DV→DV→Mem→Res R:=alt2 dEqA dEqK
section
variable {X:Cx}{W:WX}{p p2 q pos:Pos}{e:Expr}{te:TE}{f:EM}
end
section
variable {K:PySem.W.Frag}{W:WX}{ρ:Pm}{G H:Hp}{σ:Slots}{δ:Env}{μ:Mem}{w:World}
end
section
variable {X:Cx}{W:WX}
end
section
variable {X:Cx}{W:WX}{e:Expr}{te:TE}{p p2 q pos:Pos}
end
section
variable {K:PySem.W.Frag}{W:WX}{ρ:Pm}{G H:Hp}
end
end DL
set_option maxHeartbeats 1000000
namespace DL
open PySem PySem.Spec PyProof.Rows L2 RZ
section
variable {prog:Program}{w:World}{A:Around}{E:Value→Shared→Prop}{s:Shared}{z tin tout p i j a b:Addr}{fl:Bool}{op:Obj}{m n:Nat}{us vs:Array Value}
end
section
variable {prog:Program}{w:World}
end
section
variable {X:Cx}{W:WX}{e e2:Expr}{ta:TA}{p p2 q pos:Pos}
end
end DL
set_option maxHeartbeats 1000000
namespace DL
open PySem PySem.Spec PyProof.Rows L2
def pairsZ:List D→List D→Option (List (Ky×DV))
 | [],[]=>some []
 | a::as,b::bs=>match keyD (.dat a),pairsZ as bs with
  | some k,some ps=>some ((.k k,.dat b)::ps)
  | _,_=>none
 | _,_=>none
def zipOf (xs:List DV):Option (List (Ky×DV)):=match xs with
 | [.dat (.tup as),.dat (.tup bs)]=>pairsZ as bs
 | [.dat (.lst as),.dat (.lst bs)]=>pairsZ as bs
 | _=>none
def eDictZip (fa:AM):EM:=fun δ μ=>(fa δ μ).bind fun xs μ1=>match zipOf xs with
 | some ps=>.ok (.nk (mergeD [] ps)) μ1
 | none=>.bad
section
variable {K:PySem.W.Frag}{W:WX}{ρ:Pm}{G H:Hp}{μ:Mem}{ta:TA}{fa:AM}
end
section
variable {X:Cx}{W:WX}{e e2:Expr}{ta:TA}{fa:AM}{p p2 q pos px py pz pt pt2:Pos}
end
def unlkL (c:Nat)(μ:Mem):Option Mem:=match μ[c]? with
 | some (.lkl xs)=>some (μ.set c (.lst xs))
 | _=>none
section
variable {K:PySem.W.Frag}{W:WX}{N:Nat}{ρ ρ':Pm}{G H G' H' G0 H0:Hp}{μ μ':Mem}{σ:Slots}{δ:Env}{n c:Nat}{d:Addr}{od:Obj}{u:HO}{Dn:Ends}
def lklOf (x:DV)(μ:Mem):Option (List D):=match x with
 | .dat d=>seqD (.dat d)
 | .loc c=>match μ[c]? with
  | some (.lkl xs)=>allDat xs
  | _=>none
def imEnumL (f:AM):IM:=fun δ μ=>(f δ μ).bind fun xs μ'=>match xs with
 | [x]=>match lklOf x μ' with
  | some ds=>.ok (enumD 0 ds) μ'
  | none=>.bad
 | _=>.bad
end
section
variable {X:Cx}{W:WX}{tg e a b:Expr}{te ta tb:TE}{f fa fb:EM}{tA:TA}{fA:AM}{pos p tpos:Pos}
end
section
variable {X:Cx}{cx:CXT}{k n:Nat}{f:Addr}{fd:FuncData}{ps ks:List Str}{sp:Sp}{E:L2.St→XK}{x:Str}{p pos:Pos}{e:Expr}{es:List Expr}{kws:List Keyword}{t tk:TA}
abbrev appL {α:Type}(a b:List α):List α:=a++b
def tCallNG (n m:Nat)(sp:Sp)(E:L2.St→XK)(t tk:TA):TE:=fun σ H Q=>t σ H fun vs H1=>tk σ H1 fun zs H2=>vs.length=n∧zs.length=m∧sp (vs++zs) H2 Q (E σ)
end
structure FnDK (P:Program)(w:World)(K:PySem.W.Frag)(mg:Str→Option Value)(base:Heap)(cx:CXT)(k:Nat)(x:Str)(n:Nat)(kw:Str)(F:List DV→Mem→Res R):Prop where
 ar:∀ xs μ,F xs μ≠.bad→xs.length=n+1
 ex:∃ (f:Addr) (fd:FuncData) (ps:List Str),ps.length=n+1∧FnG P w K mg base cx k f fd ps (spF K (n+1) F)∧mg x=some (.ref f)∧PySem.W.keepIn K (.ref f)=true∧KBn K fd ps n [kw] appL appL
section
variable {X:Cx}{W:WX}{P:Program}{w:World}{K:PySem.W.Frag}{mg:Str→Option Value}{base:Heap}{cx:CXT}{k n m:Nat}{x kw:Str}{F:List DV→Mem→Res R}{e e2 ke:Expr}{p pos kpos:Pos}{t1 t2 tk:TE}{f1 f2 fk:EM}
theorem nG1 {sp:Sp}{E:L2.St→XK}:tCallNG 1 [kw].length sp E (tCons t1 tNil) (tCons tk tNil)=tCallSD sp [] E (tCons t1 (tCons tk tNil)):=by
 funext σ H Q
 simp[tCallNG,tCallSD,tCons,tNil]
theorem nG2 {sp:Sp}{E:L2.St→XK}:tCallNG 2 [kw].length sp E (tCons t1 (tCons t2 tNil)) (tCons tk tNil)=tCallSD sp [] E (tCons t1 (tCons t2 (tCons tk tNil))):=by
 funext σ H Q
 simp[tCallNG,tCallSD,tCons,tNil]
end
section
variable {K:PySem.W.Frag}{W:WX}{ρ ρ1:Pm}{G H G1 H1 G0 H0:Hp}{v:V}{r:R}
theorem RpR.base (h:∀ a,H1 a=none→H0 a=none)(q:RpR K ρ G H1 H v r):RpR K ρ G H0 H v r:=by
 cases r with
 | dat d=>exact q
 | loc n=>exact q
 | nl xs=>obtain⟨a,vs,h1,h2,h3,h4,h5,h6⟩:=q;exact⟨a,vs,h1,h2,h3,h4,h5,h _ h6⟩
 | nk xs=>obtain⟨a,o,vs,h1,h2,h3,h4,h5,h6,h7⟩:=q;exact⟨a,o,vs,h1,h2,h3,h4,h5,h6,h _ h7⟩
end
section
variable {X:Cx}{W:WX}{P:Program}{w:World}{K:PySem.W.Frag}{mg:Str→Option Value}{base:Heap}{cx:CXT}{k n:Nat}{nm m:Str}{F:List DV→Mem→Res R}{o:Expr}{to:TE}{fo:XM}{pos apos:Pos}
end
def gSwp (fo fi go gi f:EM):SM:=fun _ δ μ=>lift ((frzV f δ μ).bind fun x μ1=>match x with
 | .dat (.tup [a,b])=>(frzV fo δ μ1).bind fun o μ2=>(frzV fi δ μ2).bind fun i μ3=>match setPl μ3 o i (.dat a) with
  | some μ4=>(frzV go δ μ4).bind fun o2 μ5=>(frzV gi δ μ5).bind fun i2 μ6=>match setPl μ6 o2 i2 (.dat b) with
   | some μ7=>.ok () μ7
   | none=>.bad
  | none=>.bad
 | _=>.bad) δ fun _ μ7=>.next δ μ7
section
variable {K:PySem.W.Frag}{W:WX}{N:Nat}{ρ:Pm}{G H:Hp}{σ:Slots}{δ:Env}{μ:Mem}
end
section
variable {X:Cx}{W:WX}{pos p p2 pt:Pos}{e o i o2 i2:Expr}{te to ti uo ui:TE}{f fo fi go gi:EM}{k:Nat}
end
section
variable {δ:Env}{μ:Mem}{QR:R→Mem→Prop}{E:Xc→Mem→Prop}{QA:List DV→Mem→Prop}{QK:List (Ky×DV)→Mem→Prop}
theorem x_dc {fi:IM}{h:D→Env→Option Env}{ft:TM}{fk fv:EM}{vs:List Nat}(k:Sat (fi δ μ) (fun ds μ1=>ds.length≤sizeLine∧Sat (dcL h ft fk fv (wipeE δ vs) ds [] μ1) (fun ys μ2=>QR (.nk ys) μ2) E) E):Sat (eDc fi h ft fk fv vs δ μ) QR E:=by
 refine sat_bind (k.mono (fun ds μ1 q=>?_) fun _ _ q=>q)
 rw[if_pos q.1];exact sat_bind q.2
theorem x_lc2 {fi fi1:IM}{h h1:D→Env→Option Env}{ft ft1:TM}{fe:EM}{vs vs1:List Nat}(k:Sat (fi δ μ) (fun ds μ1=>Sat (lc2L h ft fi1 h1 ft1 fe vs1 (wipeE δ vs) ds 0 μ1) (fun ys μ2=>QR (.nl ys) μ2) E) E):Sat (eLc2 fi h ft fi1 h1 ft1 fe vs vs1 δ μ) QR E:=by
 refine sat_bind (k.mono (fun ds μ1 q=>?_) fun _ _ q=>q)
 exact sat_bind q
theorem w_eqC {x y:DV}(h:Sat (dEqA x y μ) QR E):Sat (dEqC x y μ) QR E:=sat_alt h
end
section
variable {δ:Env}{μ:Mem}{QR:R→Mem→Prop}{E:Xc→Mem→Prop}{ds:List (Ky×D)}{kvs:List (Ky×DV)}{n:Nat}
end
section
variable {δ:Env}{μ:Mem}{QR:R→Mem→Prop}{QI:List D→Mem→Prop}{E:Xc→Mem→Prop}{QK:List (Ky×DV)→Mem→Prop}{fa fb:EM}{nm:Str}{F:List DV→Mem→Res R}
theorem x_disU {f:EM}{g:PsM}(h:Sat (frzV f δ μ) (fun x μ1=>∃ ds,x=.dat (.dct ds)∧(allKD ds=true∧ds.length≤1000)∧Sat (g δ μ1) (fun ps μ2=>ps.length≤15∧QR (.nk (mergeD (mergeD [] (datP ds)) (mergeD [] ps))) μ2) E) E):Sat (eDisU f g δ μ) QR E:=by
 unfold eDisU
 refine sat_bind (h.mono (fun x m ⟨ds,e,hk,q⟩=>?_) fun _ _ q=>q)
 subst e;simp only;rw[if_pos hk]
 refine sat_bind (q.mono (fun ps m2 q=>?_) fun _ _ q=>q)
 rw[if_pos q.1];exact q.2
theorem s_swp {P:DL.PO}{N:Nat}{fo fi go gi f:EM}(h:Sat (frzV f δ μ) (fun x μ1=>∃ a b,x=.dat (.tup [a,b])∧Sat (frzV fo δ μ1) (fun o μ2=>Sat (frzV fi δ μ2) (fun i μ3=>∃ μ4,setPl μ3 o i (.dat a)=some μ4∧Sat (frzV go δ μ4) (fun o2 μ5=>Sat (frzV gi δ μ5) (fun i2 μ6=>∃ μ7,setPl μ6 o2 i2 (.dat b)=some μ7∧P.nx δ μ7) (fun x μ=>P.ex x δ μ)) (fun x μ=>P.ex x δ μ)) (fun x μ=>P.ex x δ μ)) (fun x μ=>P.ex x δ μ)) (fun x μ=>P.ex x δ μ)):SatS (gSwp fo fi go gi f N δ μ) P:=by
 refine sat_lift (sat_bind (h.mono (fun x μ1 q=>?_) fun _ _ q=>q))
 obtain⟨a,b,rfl,q⟩:=q
 refine sat_bind (q.mono (fun o μ2 q=>sat_bind (q.mono (fun i μ3 q=>?_) fun _ _ q=>q)) fun _ _ q=>q)
 obtain⟨μ4,e,q⟩:=q
 rw[e]
 refine sat_bind (q.mono (fun o μ2 q=>sat_bind (q.mono (fun i μ3 q=>?_) fun _ _ q=>q)) fun _ _ q=>q)
 obtain⟨μ7,e,q⟩:=q
 rw[e];exact q
theorem x_neO {others:List Str} (h:Sat (frzV fa δ μ) (fun x μ1=>Sat (frzV fb δ μ1) (fun y μ2=>(isI nm "" x μ2=true∧((kindOf μ2 y).bind (tabC nm others)).isSome=true)∧Sat (F [x,y] μ2) (fun r μ3=>BlK r μ3 fun b μ3=>QR (.dat (.bl (!b))) μ3) (fun _ _=>False)) E) E):Sat (eNeO nm others F fa fb δ μ) QR E:=by
 refine sat_bind (h.mono (fun x μ1 q=>sat_bind (q.mono (fun y μ2 q=>?_) fun _ _ q=>q)) fun _ _ q=>q)
 rw[if_pos q.1]
 have q:=q.2
 cases e:F [x,y] μ2 with
 | ok r μ3=>rw[e] at q;obtain⟨b,rfl,_,q⟩:=BlK.ex q;exact q
 | exc x μ2=>rw[e] at q;exact q.elim
 | bad=>rw[e] at q;exact q.elim
theorem i_vals {f:EM}(h:Sat (frzV f δ μ) (fun x μ'=>∃ ds,x=.dat (.dct ds)∧allKD ds=true∧QI (ds.map (·.2)) μ') E):Sat (imVals f δ μ) QI E:=by
 unfold imVals
 refine sat_bind (h.mono (fun x m ⟨ds,e,ht,q⟩=>?_) fun _ _ q=>q)
 subst e;simp only;rw[if_pos ht];exact q
theorem i_dwn {f:AM}(h:Sat (f δ μ) (fun xs μ'=>∃ i j:Int,xs=[.dat (.int i),.dat (.int j),.dat (.int (-1))]∧(-(2^62)≤i∧i<2^62∧-(2^62)≤j∧j<2^62)∧QI (dwnD i (i-j).toNat) μ') E):Sat (imDwn f δ μ) QI E:=by
 unfold imDwn
 refine sat_bind (h.mono (fun x m ⟨i,j,e,hb,q⟩=>?_) fun _ _ q=>q)
 subst e
 show Sat (if -(2^62)≤i∧i<2^62∧-(2^62)≤j∧j<2^62∧(-1:Int)=-1 then _ else _) _ _
 rw[if_pos ⟨hb.1,hb.2.1,hb.2.2.1,hb.2.2.2,rfl⟩];exact q
end
section
variable {δ:Env}{μ:Mem}{QR:R→Mem→Prop}{E:Xc→Mem→Prop}{P:DL.PO}{N:Nat}
end
section
variable {X:Cx}{W:WX}
end
section
variable {δ:Env}{μ:Mem}{QR:R→Mem→Prop}{E:Xc→Mem→Prop}{ds:List D}{d:D}
end
section
variable {μ:Mem}{δ:Env}{N:Nat}{QR:R→Mem→Prop}{E:Xc→Mem→Prop}
theorem gTup {xs:List DV}{Q:D→Prop}(h:TupK xs Q):TupK xs Q:=h
theorem gTgt' {f:D→Env→Option Env}{x:DV}{Q:Env→Prop}(h:TgtK f δ x Q):TgtK f δ x Q:=h
theorem gFld' {nms:List Str}{m:Str}{x:DV}{Q:DV→Prop}(h:FldK nms m x μ Q):FldK nms m x μ Q:=h
theorem gNxt {μ':Mem}(h:(endP N QR E).nx δ μ'):(endP N QR E).nx δ μ':=h
theorem gAnd {a b:Prop}(h:a∧b):a∧b:=h
theorem gBind {b:Bool}{i:Nat}{r:R}{k:Env→Mem→Prop}(h:BindK b N i r δ μ k):BindK b N i r δ μ k:=h
theorem gBlK {r:R}{QB:Bool→Mem→Prop}(h:BlK r μ QB):BlK r μ QB:=h
end
theorem px_callK {X:Cx}{W:WX}{P:Program}{w:World}{K:PySem.W.Frag}{mg:Str→Option Value}{base:Heap}{cx:CXT}{k n:Nat}{x:Str}{F:List DV→Mem→Res DV}{e:Expr}{es:List Expr}{tA:TA}{fA:AM}{p pos:Pos}(Fn:FnDX P w K mg base cx k x n F)(hr:Room k X.A)(hgd:X.A.guards=some [])(hg:Gl X x)
  (hx:∀ σ,PassesAt cx X σ (EW W σ)) (ha:PMA X W (e::es) tA fA) (h1:X.prog=P:=by rfl) (h2:X.w=w:=by rfl) (h3:X.K=K:=by rfl) (h4:X.mg=mg:=by rfl) (h5:X.base=base:=by rfl) (hdb:(x==("__debug__":Str))=false:=by decide)
  (he:starEach (e::es) X.env=(false,eval e X.env)::starEach es X.env:=by rfl) (hpl:(backTo pos (starEach es X.env)).any (·.1)=false:=by rfl) :
  PMX X W (.Call (.Name x p) (e::es) [] pos) (tCallSD (spX K n F) [] (EW W) tA) (xCall F fA):=by
 subst h1 h2 h3 h4 h5;exact px_call Fn hr hgd hg hx ha hdb he hpl
section
variable {QR:R→Mem→Prop}{QV:DV→Mem→Prop}{QA:List DV→Mem→Prop}{QI:List D→Mem→Prop}{QF:Fds→Mem→Prop}{QE:Env→Mem→Prop}{E:Xc→Mem→Prop}{μ ν:Mem}{δ:Env}{N n c:Nat}{P:PO}{x y:DV}{kvs:List (Ky×DV)}{ds:List (Ky×D)}{fs:Fds}
theorem gBb {r:Res Fds}{QF:Fds→Mem→Prop}{E:Xc→Mem→Prop}(h:Sat r QF E):Sat r QF E:=h
theorem gHh {r:Res Env}{QF:Env→Mem→Prop}{E:Xc→Mem→Prop}(h:Sat r QF E):Sat r QF E:=h
def UnK (c:Nat)(μ:Mem)(Q:Mem→Prop):Prop:=∃ kvs,μ[c]?=some (.lkd kvs)∧Q (μ.set c (.dct kvs))
theorem UnK.of {Q:Mem→Prop}(h:UnK c μ Q):∃ μ',unlk c μ=some μ'∧Q μ':=by
 obtain⟨kvs,e,q⟩:=h
 exact⟨_,by unfold unlk;rw[e],q⟩
def LkK (x:DV)(μ:Mem)(Q:List (Ky×D)→Prop):Prop:=∃ ds,lkdOf x μ=some ds∧allKD ds=true∧Q ds
theorem i_keysL {f:EM}(h:Sat (frzV f δ μ) (fun x μ'=>LkK x μ' fun ds=>QI (keysD ds) μ') E):Sat (imKeysL f δ μ) QI E:=by
 refine sat_bind (h.mono (fun x m ⟨ds,e,hk,q⟩=>?_) fun _ _ q=>q)
 rw[e];simp only[hk,if_true];exact q
theorem i_itemsL {f:EM}(h:Sat (frzV f δ μ) (fun x μ'=>LkK x μ' fun ds=>QI (pairsOf ds) μ') E):Sat (imItemsL f δ μ) QI E:=by
 refine sat_bind (h.mono (fun x m ⟨ds,e,hk,q⟩=>?_) fun _ _ q=>q)
 rw[e];simp only[hk,if_true];exact q
theorem x_xof {f:EM}(h:Sat (f δ μ) (fun r μ'=>NpK μ.length r μ' QV) E):Sat (xOf f δ μ) QV E:=by
 refine sat_bind (h.mono (fun r m q=>?_) fun _ _ q=>q)
 unfold NpK at q
 cases e:newPl μ.length r m with
 | none=>rw[e] at q;exact q.elim
 | some p=>rw[e] at q;exact q
theorem p_nk {xs:List (Ky×DV)}(hN:N≤μ.length)(h:QV (.loc μ.length) (μ++[.dct xs])):NpK N (.nk xs) μ QV:=by
 unfold NpK newPl;simp only;rw[if_pos hN];exact h
theorem xa_nilK (h:QA [] μ):Sat (xaNil δ μ) QA E:=h
theorem xa_consK {f:XM}{g:XA}(h:Sat (f δ μ) (fun x μ1=>μ.length≤μ1.length∧Sat (g δ μ1) (fun xs μ2=>QA (x::xs) μ2) E) E):Sat (xaCons f g δ μ) QA E:=by
 refine sat_bind (h.mono (fun x m q=>?_) fun _ _ q=>q)
 rw[if_pos q.1];exact sat_bind q.2
theorem s_asgX {i:Nat}{f:XM}(hN:N≤μ.length)(h:Sat (f δ μ) (fun x μ'=>P.nx (δ.set i (some x)) μ') (fun x μ=>P.ex x δ μ)):SatS (gAsgX i f N δ μ) P:=by
 unfold gAsgX;rw[if_pos hN];exact sat_lift h
theorem s_retX {f:XM}(hN:N≤μ.length)(h:Sat (f δ μ) (fun x μ'=>P.rt (ofV x) μ') (fun x μ=>P.ex x δ μ)):SatS (gRetX f N δ μ) P:=by
 unfold gRetX;rw[if_pos hN];exact sat_lift h
theorem x_xcall {F:List DV→Mem→Res DV}{fa:AM}(h:Sat (fa δ μ) (fun xs μ1=>μ.length≤μ1.length∧Sat (F xs μ1) QV E) E):Sat (xCall F fa δ μ) QV E:=by
 refine sat_bind (h.mono (fun xs m q=>?_) fun _ _ q=>q)
 rw[if_pos q.1];exact q.2
theorem x_xmeth {nm m:Str}{F:List DV→Mem→Res DV}{f:EM}{fa:AM}(h:Sat (frzV f δ μ) (fun x μ1=>isI nm m x μ1=true∧Sat (fa δ μ1) (fun xs μ2=>μ.length≤μ2.length∧Sat (F (x::xs) μ2) QV E) E) E):Sat (xMeth nm m F f fa δ μ) QV E:=by
 refine sat_bind (h.mono (fun x m q=>?_) fun _ _ q=>q)
 rw[if_pos q.1]
 refine sat_bind (q.2.mono (fun xs m q=>?_) fun _ _ q=>q)
 rw[if_pos q.1];exact q.2
theorem x_xmake {nm:Str}{F:List DV→Mem→Res Fds}{fa:AM}(h:Sat (fa δ μ) (fun xs μ1=>μ.length≤μ1.length∧Sat (F xs μ1) (fun fs μ2=>QV (.loc (μ2.length+1)) (μ2++[.own]++[.ins nm fs])) E) E):Sat (xMake nm F fa δ μ) QV E:=by
 refine sat_bind (h.mono (fun xs m q=>?_) fun _ _ q=>q)
 rw[if_pos q.1];exact sat_bind q.2
abbrev endX (N:Nat)(QV:DV→Mem→Prop)(E:Xc→Mem→Prop):PO :=
 { nx:=fun _ μ'=>QV (.dat .non) (μ'.take N),rt:=fun r μ'=>Sat (closeX N r μ') QV E,bk:=fun _ _=>False,ct:=fun _ _=>False,ex:=fun x _ μ'=>E x (μ'.take N) }
theorem x_callX {g:SM}{n m:Nat}{args:List DV}(hn:args.length=n)(h:SatS (g μ.length (args.map some++List.replicate m none) μ) (endX μ.length QV E)):Sat (callDX g n m args μ) QV E:=by
 unfold callDX;rw[if_pos hn];unfold callX
 cases e:g μ.length (args.map some++List.replicate m none) μ <;> rw[e] at h <;> exact h
theorem cx_new {r:Nat}(hn:N≤r)(h:QV (.loc r) μ):Sat (closeX N (.loc r) μ) QV E:=by
 unfold closeX;simp only;rw[if_neg (by omega)];exact h
theorem b_nilK (h:QF fs μ):Sat (bNil δ μ fs) QF E:=h
theorem b_seqK {g h:BM}(k:Sat (g δ μ fs) (fun fs' μ'=>Sat (h δ μ' fs') QF E) E):Sat (bSeq g h δ μ fs) QF E:=sat_bind k
theorem b_fldK {m:Str}{f:EM}(h:Sat (xOf f δ μ) (fun y μ1=>(μ.length≤μ1.length∧fs.length<1000)∧QF (putD m y fs) μ1) E):Sat (bFld m f δ μ fs) QF E:=by
 refine sat_bind (h.mono (fun y m q=>?_) fun _ _ q=>q)
 rw[if_pos q.1];exact q.2
theorem s_bld {i:Nat}{F:List DV→Mem→Res Fds}{fa:AM}{g:Fds→SM}(h:Sat (fa δ μ) (fun xs μ1=>(N≤μ1.length∧i<δ.length)∧Sat (F xs μ1) (fun fs μ2=>SatS (g fs N (δ.set i none) μ2) P) (fun x μ=>P.ex x δ μ)) (fun x μ=>P.ex x δ μ)):SatS (gBld i F fa g N δ μ) P:=by
 refine sat_lift (h.mono (fun xs m q=>?_) fun _ _ q=>q)
 rw[if_pos q.1];exact sat_lift q.2
theorem s_bseq {b:BM}{g:Fds→SM}(h:Sat (b δ μ fs) (fun fs' μ'=>SatS (g fs' N δ μ') P) (fun x μ=>P.ex x δ μ)):SatS (gBSeq b g fs N δ μ) P:=sat_lift h
theorem s_pub {nm:Str}{i:Nat}{g:SM}(h:SatS (g N (δ.set i (some (.loc (μ.length+1)))) (μ++[.own]++[.ins nm fs])) P):SatS (gPub nm i g fs N δ μ) P:=h
theorem x_dpop1 {fd fy:EM}(h:Sat (frzV fd δ μ) (fun x μ1=>isDct x μ1=true∧Sat (frzV fy δ μ1) (fun y μ2=>Sat (dPopK x y none μ2) QR E) E) E):Sat (eDPop1 fd fy δ μ) QR E:=by
 refine sat_bind (h.mono (fun x m q=>?_) fun _ _ q=>q)
 rw[if_pos q.1];exact sat_bind q.2
theorem x_dpop2 {fd fy fz:EM}(h:Sat (frzV fd δ μ) (fun x μ1=>isDct x μ1=true∧Sat (frzV fy δ μ1) (fun y μ2=>Sat (frzV fz δ μ2) (fun z μ3=>Sat (dPopK x y (some z) μ3) QR E) E) E) E):Sat (eDPop2 fd fy fz δ μ) QR E:=by
 refine sat_bind (h.mono (fun x m q=>?_) fun _ _ q=>q)
 rw[if_pos q.1]
 exact sat_bind (q.2.mono (fun _ _ q=>sat_bind q) fun _ _ q=>q)
theorem s_daug {fo fi fe:EM}(h:Sat (frzV fo δ μ) (fun x μ1=>Sat (frzV fi δ μ1) (fun i μ2=>Sat (dGet x i μ2) (fun r μ3=>Sat (frzV fe δ μ3) (fun y μ4=>∃ a b μ5,r=.dat (.int a)∧y=.dat (.int b)∧setDct μ4 x i (.dat (.int (a+b)))=some μ5∧P.nx δ μ5) (fun x μ=>P.ex x δ μ)) (fun x μ=>P.ex x δ μ)) (fun x μ=>P.ex x δ μ)) (fun x μ=>P.ex x δ μ)):SatS (gDAug fo fi fe N δ μ) P:=by
 refine sat_lift (sat_bind (h.mono (fun x m q=>sat_bind (q.mono (fun i m q=>sat_bind (q.mono (fun r m q=>sat_bind (q.mono (fun y m q=>?_) fun _ _ q=>q)) fun _ _ q=>q)) fun _ _ q=>q)) fun _ _ q=>q))
 obtain⟨a,b,μ5,rfl,rfl,e,q⟩:=q
 simp only[e];exact q
theorem s_fldaug {nms:List Str}{m:Str}{fo fe:EM}(h:Sat (frzV fo δ μ) (fun x μ1=>∃ a,fldI nms m x μ1=some a∧Sat (frzV fe δ μ1) (fun y μ2=>∃ b μ3,y=.dat (.int b)∧(insAt μ2 x).map (·.1)=(insAt μ1 x).map (·.1)∧setFld nms μ2 x m (.dat (.int (a+b)))=some μ3∧P.nx δ μ3) (fun x μ=>P.ex x δ μ)) (fun x μ=>P.ex x δ μ)):SatS (gFldAug nms m fo fe N δ μ) P:=by
 refine sat_lift (sat_bind (h.mono (fun x m q=>?_) fun _ _ q=>q))
 obtain⟨a,e,q⟩:=q
 rw[e]
 refine sat_bind (q.mono (fun y m q=>?_) fun _ _ q=>q)
 obtain⟨b,μ3,rfl,e1,e2,q⟩:=q
 simp only;rw[if_pos e1,e2];exact q
def SoK (x:DV)(Q:List D→Prop):Prop:=∃ ds,seqOf x=some ds∧Q ds
theorem a_starK {f:EM}{g:AM}(h:Sat (frzV f δ μ) (fun x μ1=>SoK x fun ds=>Sat (g δ μ1) (fun xs μ2=>QA (ds.map DV.dat++xs) μ2) E) E):Sat (aStar f g δ μ) QA E:=by
 refine sat_bind (h.mono (fun x m ⟨ds,e,q⟩=>?_) fun _ _ q=>q)
 rw[e];exact sat_bind q
theorem s_tgtM {n:Nat}{h:List DV→Env→Mem→Res Env}{f:EM}(k:Sat (frzV f δ μ) (fun x μ1=>∃ ds,x=.dat (.tup ds)∧ds.length=n∧Sat (h (ds.map DV.dat) δ μ1) (fun δ' μ'=>P.nx δ' μ') (fun _ _=>False)) (fun x μ=>P.ex x δ μ)):SatS (gTgtM n h f N δ μ) P:=by
 refine sat_lift (k.mono (fun x m q=>?_) fun _ _ q=>q)
 obtain⟨ds,rfl,e,q⟩:=q
 simp only;rw[if_pos e]
 cases eh:h (ds.map DV.dat) δ m with
 | bad=>rw[eh] at q;exact q.elim
 | exc x m=>rw[eh] at q;exact q.elim
 | ok d m=>rw[eh] at q;exact q
theorem h_nilK (h:QE δ μ):Sat (hNil [] δ μ) QE E:=h
theorem h_consK {g:TGM}{r:List DV→Env→Mem→Res Env}{xs:List DV}(h:Sat (g x δ μ) (fun δ1 μ1=>Sat (r xs δ1 μ1) QE E) E):Sat (hCons g r (x::xs) δ μ) QE E:=sat_bind h
theorem h_nameK {i:Nat}(h:QE (δ.set i (some x)) μ):Sat (hName i x δ μ) QE E:=h
theorem h_fldK {nms:List Str}{m:Str}{fo:EM}(h:Sat (frzV fo δ μ) (fun o μ1=>∃ μ2,setFld nms μ1 o m x=some μ2∧QE δ μ2) E):Sat (hFld nms m fo x δ μ) QE E:=by
 refine sat_bind (h.mono (fun o m ⟨μ2,e,q⟩=>?_) fun _ _ q=>q)
 rw[e];exact q
theorem h_dputK {fo fi:EM}(h:Sat (frzV fo δ μ) (fun o μ1=>Sat (frzV fi δ μ1) (fun i μ2=>∃ μ3,setDct μ2 o i x=some μ3∧QE δ μ3) E) E):Sat (hDPut fo fi x δ μ) QE E:=by
 refine sat_bind (h.mono (fun o m q=>sat_bind (q.mono (fun i m ⟨μ3,e,q⟩=>?_) fun _ _ q=>q)) fun _ _ q=>q)
 rw[e];exact q
theorem x_dictZip {fa:AM}(h:Sat (fa δ μ) (fun xs μ1=>∃ ps,zipOf xs=some ps∧QR (.nk (mergeD [] ps)) μ1) E):Sat (eDictZip fa δ μ) QR E:=by
 refine sat_bind (h.mono (fun xs m ⟨ps,e,q⟩=>?_) fun _ _ q=>q)
 rw[e];exact q
end
section
variable {QR:R→Mem→Prop}{QI:List D→Mem→Prop}{E:Xc→Mem→Prop}{μ ν:Mem}{δ:Env}{N n c:Nat}{P:PO}{x y:DV}{xs:List DV}{ds:List D}
def UnL (c:Nat)(μ:Mem)(Q:Mem→Prop):Prop:=∃ xs,μ[c]?=some (.lkl xs)∧Q (μ.set c (.lst xs))
theorem UnL.of {Q:Mem→Prop}(h:UnL c μ Q):∃ μ',unlkL c μ=some μ'∧Q μ':=by
 obtain⟨kvs,e,q⟩:=h
 exact⟨_,by unfold unlkL;rw[e],q⟩
def LkLK (x:DV)(μ:Mem)(Q:List D→Prop):Prop:=∃ ds,lklOf x μ=some ds∧Q ds
theorem i_enumL {f:EM}(h:Sat (frzV f δ μ) (fun x μ'=>LkLK x μ' fun ds=>QI (enumD 0 ds) μ') E):Sat (imEnumL (aCons f aNil) δ μ) QI E:=by
 refine sat_bind (sat_bind (h.mono (fun x μ1 q=>?_) fun _ _ q=>q))
 obtain⟨ds,e,q⟩:=q
 show Sat (match lklOf x μ1 with|some ds=>_|none=>_) _ _
 rw[e];exact q
end
section
variable {K:PySem.W.Frag}{ρ:Pm}{G:Hp}{σ:Slots}{δ:Env}{W:WX}{t:TS}{g:SM}
end
section
variable {QV:DV→Mem→Prop}{E:Xc→Mem→Prop}{μ:Mem}{δ:Env}{N:Nat}{P:PO}
end
section
variable {K:PySem.W.Frag}{W:WX}{N M:Nat}{ρ ρ1 ρ0:Pm}{G H G1 H1 G0 H0:Hp}{σ:Slots}{δ:Env}{μ:Mem}{Dn:Ends}{te:TE}{ta:TA}{f:EM}{xa:XA}
def xTup (g:XA):XM:=fun δ μ=>(g δ μ).bind fun xs μ'=>if μ.length≤μ'.length∧xs.length≤sizeLine then .ok (.loc μ'.length) (μ'++[.tp xs]) else .bad
def xLst (g:XA):XM:=fun δ μ=>(g δ μ).bind fun xs μ'=>if μ.length≤μ'.length∧xs.length≤sizeLine then .ok (.loc μ'.length) (μ'++[.lst xs]) else .bad
theorem new_place {vs:List V}{xs:List DV}{p:Addr}{o:HO}{q:Pl}{μ':Mem}(R1:Rel K ρ1 G1 H1 μ')(t1:TrS M ρ G H ρ1 G1 H1)(hM:M≤μ'.length)(hn:H1 p=none)(d:DvL K ρ1 G1 vs xs)
  (hq:∀ ρ2:Pm,(∀ n b,ρ1 n=some b→ρ2 n=some b)→ρ2 μ'.length=some p→PlOk K ρ2 G1 (upd H1 p o) μ'.length q) :
  ∃ ρ2,TrS M ρ G H ρ2 G1 (upd H1 p o)∧Rel K ρ2 G1 (upd H1 p o) (μ'++[q])∧DvOk K ρ2 G1 (.ref p) (.loc μ'.length):=by
 obtain⟨R2,t2⟩:=R1.lay (o:=o) hn
 have g0:G1 p=none:=by
  cases e:G1 p with
  | none=>rfl
  | some u=>rw[R1.ex _ _ e] at hn;cases hn
 have np:∀ n,ρ1 n≠some p:=fun n e=>R1.hs n p e hn
 have up:∀ n b,ρ1 n=some b→addP ρ1 μ'.length p n=some b:=fun n b e=>by
  unfold addP;rw[if_neg (Nat.ne_of_lt (R1.lt n b e))];exact e
 obtain⟨R3,t3,_,at_⟩:=R2.alloc (p:=q) hM (t1.trans t2.toS) (by rw[upd_same];simp) g0 np (t1.th _ hn) (hq _ up (by unfold addP;rw[if_pos rfl]))
 exact⟨_,t3,R3,⟨p,rfl,at_⟩⟩
theorem snd_xlst (h:SndXA K W ta xa):SndX K W (tLst ta) (xLst xa):=fun ρ G H σ δ μ Q R E hp=>by
 unfold xLst at hp
 refine h ρ G H σ δ μ _ R E ?_
 cases e:xa δ μ with
 | bad=>rw[e] at hp;exact hp
 | exc x μ'=>rw[e] at hp;exact hp
 | ok xs μ1 =>
  rw[e] at hp
  simp only[Res.bind_ok] at hp
  intro ρ1 G1 H1 vs t1 R1 d1
  by_cases hz:μ.length≤μ1.length∧xs.length≤sizeLine
  case neg=>rw[if_neg hz] at hp;exact hp.elim
  rw[if_pos hz] at hp
  refine⟨by rw[paired_len d1];exact hz.2,fun p hn=>?_⟩
  obtain⟨ρ2,t2,R2,dv⟩:=new_place (o:=.lst vs) (q:=.lst xs) R1 t1 hz.1 hn d1 fun ρ2 up at_=>⟨DvL.below R1 d1,p,vs,at_,upd_same,DvL.mono (Ex.refl _) up d1⟩
  exact hp ρ2 G1 _ _ t2 R2 dv
def tpOf (x:DV)(μ:Mem):Option (List DV):=match x with
 | .dat _=>none
 | .loc n=>match μ[n]? with
  | some (.tp xs)=>some xs
  | _=>none
end
section
variable {X:Cx}{W:WX}{te ta:TE}{tA:TA}{f fa fb:EM}{xA:XA}{tb:TE}{a b e:Expr}{es:List Expr}{pos:Pos}{body:List Stmt}{t:TS}{g:SM}
theorem px_lst (h:PMXA X W es tA xA):PMX X W (.List es pos) (tLst tA) (xLst xA):=⟨pe_lst h.pe,snd_xlst h.sd⟩
end
section
variable {K:PySem.W.Frag}{W:WX}{N M:Nat}{ρ ρ0 ρ1 ρ2:Pm}{G H G0 H0 G1 H1 G2 H2:Hp}{σ:Slots}{δ:Env}{μ:Mem}{Dn:Ends}
end
section
variable {X:Cx}{W:WX}
end
section
variable {QR:R→Mem→Prop}{QV:DV→Mem→Prop}{QA:List DV→Mem→Prop}{E:Xc→Mem→Prop}{μ:Mem}{δ:Env}{N M:Nat}{P:PO}
theorem x_xtup {g:XA}(h:Sat (g δ μ) (fun xs μ'=>(μ.length≤μ'.length∧xs.length≤sizeLine)∧QV (.loc μ'.length) (μ'++[.tp xs])) E):Sat (xTup g δ μ) QV E:=by
 refine sat_bind (h.mono (fun xs m q=>?_) fun _ _ q=>q)
 rw[if_pos q.1];exact q.2
theorem x_xlst {g:XA}(h:Sat (g δ μ) (fun xs μ'=>(μ.length≤μ'.length∧xs.length≤sizeLine)∧QV (.loc μ'.length) (μ'++[.lst xs])) E):Sat (xLst g δ μ) QV E:=by
 refine sat_bind (h.mono (fun xs m q=>?_) fun _ _ q=>q)
 rw[if_pos q.1];exact q.2
end
section
variable {K:PySem.W.Frag}{W:WX}{N M:Nat}{ρ ρ0 ρ1 ρ2:Pm}{G H G0 H0 G1 H1 G2 H2:Hp}{σ:Slots}{δ:Env}{μ:Mem}{Dn:Ends}
end
section
variable {X:Cx}{W:WX}
end
section
variable {QR:R→Mem→Prop}{QV:DV→Mem→Prop}{QA:List DV→Mem→Prop}{E:Xc→Mem→Prop}{μ:Mem}{δ:Env}{N M n:Nat}{P:PO}
end
open Classical in
noncomputable def forPE (M:Nat)(ks:List Bool)(n:Nat)(p:Pl)(i j:Nat)(gb:SM):Nat→List DV→Env→Mem→Out
 | _,[],δ,μ=>if μ[n]?=some p then .next δ μ else .bad
 | k,x::xs,δ,μ=>if μ[n]?=some p then turnL M ks (gb M ((δ.set i (some (.dat (.int (k:Int))))).set j (some x)) μ) (forPE M ks n p i j gb (k+1) xs) else .bad
noncomputable def runPE (ks:List Bool)(i j:Nat)(gb:SM)(N:Nat)(δ:Env)(rs:List DV)(μ:Mem):Out:=match rs with
 | [.loc n]=>match μ[n]? with
  | some (.lst xs)=>if N≤μ.length then forPE μ.length ks n (.lst xs) i j gb 0 xs δ μ else .bad
  | _=>.bad
 | _=>.bad
noncomputable def gForPE (ks:List Bool)(f:AM)(i j:Nat)(gb:SM):SM:=fun N δ μ=>lift (f δ μ) δ fun rs μ'=>runPE ks i j gb N δ rs μ'
section
variable {K:PySem.W.Frag}{W:WX}{N M:Nat}{ρ ρ1:Pm}{G H G1 H1:Hp}{σ:Slots}{δ:Env}{μ:Mem}{Dn:Ends}
theorem forPE_ok {tb:TS}{gb:SM}{n ti j:Nat}{xs:List DV}{ks:List Bool}{a:Addr}(hb:SndS K W tb gb)(R:Rel K ρ G H μ)(E:EnvOk K ρ G σ δ)(hNM:N≤M)(hM:∀ n a,ρ n=some a→n<M)(hn:n<M)(ea:ρ n=some a)
  (hp:PostS K W N ρ G H Dn (forPE M ks n (.lst xs) ti j gb 0 xs δ μ)) :
  ∃ W':Nat→Nat→Slots→Hp→Prop,(∃ m,W' 0 m σ H)∧∀ i m σ H,W' i m σ H→((Ite K a).stop i H∧Dn.nx σ H)∨((Ite K a).go i H∧∃ Nn:Slots→Hp→Prop,(∀ σ' H',Nn σ' H'→∃ m',m'<m∧W' (i+1) m' σ' H') ∧
   ∀ v H',(Ite K a).yld i H v H'→L2.gTup K 2 (gCons (gName ti) (gCons (gName j) gNil)) v σ H' fun σ2 H2=>tb { nx:=Nn,rt:=Dn.rt,bk:=Dn.nx,ct:=Nn } σ2 H2):=by
 refine⟨fun i m σ H=>∃ ρ1 G1 δ1 μ1,Rel K ρ1 G1 H μ1∧EnvOk K ρ1 G1 σ δ1∧(∀ n a,ρ1 n=some a→n<M)∧ρ1 n=some a∧m=xs.length-i∧i≤xs.length∧PostS K W N ρ1 G1 H Dn (forPE M ks n (.lst xs) ti j gb i (xs.drop i) δ1 μ1),
  ⟨xs.length,ρ,G,δ,μ,R,E,hM,ea,by omega,by omega,hp⟩,?_⟩
 rintro i m σ1 H1 ⟨ρ1,G1,δ1,μ1,R1,E1,hM1,ea1,em,hi,hp1⟩
 have hl:μ1[n]?=some (.lst xs):=by
  cases e:xs.drop i with
  | nil =>
   rw[e] at hp1;unfold forPE at hp1
   by_cases c:μ1[n]?=some (.lst xs)
   ·exact c
   ·rw[if_neg c] at hp1;exact hp1.elim
  | cons x r =>
   rw[e] at hp1;unfold forPE at hp1
   by_cases c:μ1[n]?=some (.lst xs)
   ·exact c
   ·rw[if_neg c] at hp1;exact hp1.elim
 obtain⟨_,a',vs,q1,q2,q3⟩:=R1.pl n _ hl
 rw[ea1] at q1
 cases q1
 have hq:SqL K H1 a vs:=.inl (.inl q2)
 have lv:vs.length=xs.length:=paired_len q3
 cases e:xs.drop i with
 | nil =>
  rw[e] at hp1;unfold forPE at hp1;rw[if_pos hl] at hp1
  have hl2:xs.length≤i:=by
   have:=congrArg List.length e
   rw[List.length_drop] at this
   simp at this;omega
  exact .inl ⟨⟨vs,hq,by omega⟩,hp1 ρ1 G1 H1 σ1 (TrS.refl _ _ _ _) R1 E1⟩
 | cons x r =>
  rw[e] at hp1;unfold forPE at hp1;rw[if_pos hl] at hp1
  obtain⟨hd,hds,hlt⟩:=drop_cons e
  obtain⟨u,hu,du⟩:=paired_at q3 hd
  refine .inr ⟨⟨vs,u,hq,hu⟩,fun σ' H'=>∃ m',m'<m∧_,fun σ' H' q=>q,fun v H' hy=>?_⟩
  obtain⟨T,u2,rfl,hT,rfl,hy⟩:=hy
  have e2:=hy vs hq
  rw[hu] at e2;cases e2
  obtain⟨R2,t2⟩:=R1.lay (o:=.tup [.int (i:Nat),u]) hT
  refine⟨T,[.int (i:Nat),u],rfl,.inl (.inl upd_same),rfl,⟨_,_,rfl,⟨_,_,rfl,rfl,?_⟩⟩⟩
  refine turn_low hb hNM R2 ((E1.set ti (x:=.dat (.int (i:Int))) (v:=.int (i:Nat)) (Rp.int _)).set j du) hM1 (PostS.shift (t2.toS (N:=N)) hp1) fun ρ3 G3 H3 σ3 δ3 μ3 t3 sm R3 E3 hM3 hp3=>?_
  refine⟨xs.length-(i+1),by omega,ρ3,G3,δ3,μ3,R3,E3,hM3,by rw[sm n hn];exact ea1,rfl,hlt,?_⟩
  rw[hds];exact PostS.shift t3 hp3
theorem snd_forPE {ta:TA}{f:AM}{tb:TS}{gb:SM}(ks:List Bool)(i j:Nat)(h:SndA K W ta f)(hb:SndS K W tb gb):SndS K W (tFor (iEnumS K ta) (L2.gTup K 2 (gCons (gName i) (gCons (gName j) gNil))) tb) (gForPE ks f i j gb):=fun N ρ G H σ δ μ Dn R E hp=>by
 refine SndG.stm (t:=ta) h R E hp fun rs μ1 G1 H1 vs t1 R1 E1 d1 hp1=>?_
 match rs,d1,hp1 with
 | [],_,hp1=>exact hp1.elim
 | [.dat _],_,hp1=>exact hp1.elim
 | .dat _::_::_,_,hp1=>exact hp1.elim
 | .loc _::_::_,_,hp1=>exact hp1.elim
 | [.loc n],d1,hp1 =>
  obtain⟨v,rfl,d⟩:=d1.one
  obtain⟨a,rfl,ea⟩:=d
  simp only[runPE] at hp1
  cases e:μ1[n]? with
  | none=>rw[e] at hp1;exact hp1.elim
  | some p =>
   rw[e] at hp1
   match p,e,hp1 with
   | .dct _,_,hp1=>exact hp1.elim
   | .lkd _,_,hp1=>exact hp1.elim
   | .lkl _,_,hp1=>exact hp1.elim
   | .tp _,_,hp1=>exact hp1.elim
   | .er _ _ _,_,hp1=>exact hp1.elim
   | .own,_,hp1=>exact hp1.elim
   | .ins _ _,_,hp1=>exact hp1.elim
   | .gone,_,hp1=>exact hp1.elim
   | .lst xs,e,hp1 =>
    simp only at hp1
    by_cases c:N≤μ1.length
    case neg=>rw[if_neg c] at hp1;exact hp1.elim
    rw[if_pos c] at hp1
    obtain⟨_,a',us,q1,q2,_⟩:=R1.pl n _ e
    rw[ea] at q1;cases q1
    exact⟨a,us,rfl,.inl ⟨.inl (.inl q2),forPE_ok hb R1 E1 c R1.lt (R1.lt n a ea) ea (PostS.shift (t1.toS (N:=N)) hp1)⟩⟩
end
section
variable {X:Cx}{W:WX}
theorem sm_forPE (K:PySem.W.Frag){x y:Str}{pos p p1 p2 p3 tpos:Pos}{kk:Nat}{e:Expr}{ta:TA}{f:AM}{body:List Stmt}{t:TS}{g:SM}(ks:List Bool)(i j:Nat)(hN:X.N.Nodup)(hp:PassesOwn (model X.prog X.w) X.A X.env X.xe)(hc:X.calm=true)
  (hg:Gl X "enumerate") (hm:X.mg "enumerate"=none) (hi:PMA X W [e] ta f) (hb:PSMs X W body t g)
  (hK:X.K=K:=by rfl) (hxi:X.N[i]?=some x:=by rfl) (hyj:X.N[j]?=some y:=by rfl) (hx:Loc X.env.scope x:=by first|exact Or.inl rfl|exact Or.inr rfl) (hy:Loc X.env.scope y:=by first|exact Or.inl rfl|exact Or.inr rfl)
  (hfx:X.fn x=true∨X.env.scope.names.lookup x=some .local:=by first|exact .inl rfl|exact .inr rfl) (hfy:X.fn y=true∨X.env.scope.names.lookup y=some .local:=by first|exact .inl rfl|exact .inr rfl)
  (hst:starEach [e] X.env=[(false,eval e X.env)]:=by rfl)
  (ha1:List.map (fun x=>x.snd) (assignEach [.Name x p1,.Name y p2] X.env)=assign (.Name x p1) X.env::List.map (fun x=>x.snd) (assignEach [.Name y p2] X.env):=by rfl)
  (ha2:List.map (fun x=>x.snd) (assignEach [.Name y p2] X.env)=assign (.Name y p2) X.env::List.map (fun x=>x.snd) (assignEach [] X.env):=by rfl)
  (h1:(assignEach [.Name x p1,.Name y p2] X.env).length=2:=by rfl) (h2:(assignEach [.Name x p1,.Name y p2] X.env).findIdx? (·.1)=none:=by rfl)
  (hs:∀ (z:Value),foldedSetIterable (.Call (.Name "enumerate" p) [e] [] p3) X.env z=pure z:=by intro _;rfl) :
  PSM X W (.For (.Tuple [.Name x p1,.Name y p2] kk tpos) (.Call (.Name "enumerate" p) [e] [] p3) body [] pos) (tFor (iEnumS K ta) (L2.gTup K 2 (gCons (gName i) (gCons (gName j) gNil))) t) (gForPE ks f i j g):=by
 subst hK
 exact⟨ps_for hp hc (pi_enumS hg hm hi.pe hst) (pg_tup hc (pgs_cons (pg_name hN hxi hx hfx) (pgs_cons (pg_name hN hyj hy hfy) pgs_nil ha2) ha1) h1 h2) hb.ps hs,snd_forPE ks i j hi.sd hb.sd⟩
end
section
variable {QR:R→Mem→Prop}{QV:DV→Mem→Prop}{QA:List DV→Mem→Prop}{E:Xc→Mem→Prop}{μ:Mem}{δ:Env}{N M n:Nat}{P:PO}
theorem s_forPE {ks:List Bool}{f:AM}{i j:Nat}{gb:SM}(h:Sat (f δ μ) (fun rs μ'=>∃ n xs,rs=[.loc n]∧μ'[n]?=some (.lst xs)∧N≤μ'.length∧SatS (forPE μ'.length ks n (.lst xs) i j gb 0 xs δ μ') P) (fun x μ=>P.ex x δ μ)):SatS (gForPE ks f i j gb N δ μ) P:=by
 refine sat_lift (h.mono (fun r m ⟨n,xs,e,e2,hN,q⟩=>?_) fun _ _ q=>q)
 subst e
 show SatS (match m[n]? with|some (.lst xs)=>_|_=>_) P
 rw[e2];simp only;rw[if_pos hN];exact q
theorem forPE_inv {ks:List Bool}{p:Pl}{i j:Nat}{gb:SM}{xs:List DV}(I:Nat→Env→Mem→Prop)(h0:I 0 δ μ)(hl:∀ k δ μ,I k δ μ→μ[n]?=some p)
  (ht:∀ k x,xs[k]?=some x→∀ δ μ,I k δ μ→SatS (gb M ((δ.set i (some (.dat (.int (k:Int))))).set j (some x)) μ) { nx:=fun δ' μ'=>I (k+1) (cut M ks δ') (μ'.take M),ct:=fun δ' μ'=>I (k+1) (cut M ks δ') (μ'.take M),bk:=fun δ' μ'=>P.nx (cut M ks δ') (μ'.take M),rt:=P.rt,ex:=P.ex })
  (hq:∀ δ μ,I xs.length δ μ→P.nx δ μ):SatS (forPE M ks n p i j gb 0 xs δ μ) P:=by
 have key:∀ (m k:Nat) (δ:Env) (μ:Mem),k+m=xs.length→I k δ μ→SatS (forPE M ks n p i j gb k (xs.drop k) δ μ) P:=by
  intro m
  induction m with
  | zero =>
   intro k δ μ hk hI
   rw[List.drop_of_length_le (by omega)]
   have:k=xs.length:=by omega
   subst this
   unfold forPE
   rw[if_pos (hl _ _ _ hI)]
   exact hq δ μ hI
  | succ m ih =>
   intro k δ μ hk hI
   have hlt:k<xs.length:=by omega
   rw[List.drop_eq_getElem_cons hlt]
   have h2:=ht k xs[k] (List.getElem?_eq_getElem hlt) δ μ hI
   unfold forPE
   rw[if_pos (hl _ _ _ hI)]
   cases e:gb M ((δ.set i (some (.dat (.int (k:Int))))).set j (some xs[k])) μ with
   | next δ' μ'=>rw[e] at h2;exact ih (k+1) _ _ (by omega) h2
   | cnt δ' μ'=>rw[e] at h2;exact ih (k+1) _ _ (by omega) h2
   | brk δ' μ'=>rw[e] at h2;exact h2
   | ret r μ'=>rw[e] at h2;exact h2
   | exc x δ' μ'=>rw[e] at h2;exact h2
   | bad=>rw[e] at h2;exact h2
 have:=key xs.length 0 δ μ (by omega) h0
 rw[List.drop_zero] at this;exact this
end
set_option maxHeartbeats 1000000
section
variable {X:Cx}{W:WX}{spos pos py px:Pos}{te te0:TE}
end
abbrev YM:=Env→Mem→Res R
def eCut (f:YM):EM:=fun δ μ=>match f δ μ with
 | .ok r μ'=>closeR μ.length r μ'
 | .exc x μ'=>.exc x (μ'.take μ.length)
 | .bad=>.bad
section
variable {K:PySem.W.Frag}{W:WX}{N M n:Nat}{ρ ρ1:Pm}{G H G1 H1 G0 H0:Hp}{σ:Slots}{δ:Env}{μ:Mem}{t te to ty tz td:TE}{ta:TA}{f fy fz fd:EM}{fa:AM}{fx:XM}{Dn:Ends}{nm m:Str}{F:List DV→Mem→Res R}{C:Addr}{Q:VK}
end
section
variable {X:Cx}{W:WX}{P:Program}{w:World}{K:PySem.W.Frag}{mg:Str→Option Value}{base:Heap}{cx:CXT}{k n:Nat}{nm m x:Str}{F:List DV→Mem→Res R}{e o:Expr}{es:List Expr}{tA:TA}{fA:AM}{to te:TE}{fe:EM}{fx:XM}{p pos apos cpos:Pos}
end
section
variable {X:Cx}{W:WX}
end
section
variable {X:Cx}{W:WX}{spos pos py:Pos}{te:TE}
end
section
variable {QR:R→Mem→Prop}{E:Xc→Mem→Prop}{μ:Mem}{δ:Env}
end
section
variable {K:PySem.W.Frag}{W:WX}{N M n:Nat}{ρ ρ0 ρ1 ρ2:Pm}{G H G0 H0 G1 H1 G2 H2:Hp}{σ:Slots}{δ:Env}{μ:Mem}{Dn:Ends}{te te0:TE}{fx:XM}{f:EM}
end
section
open StX
variable {X:Cx}{W:WX}{spos pos py px tpos:Pos}{te te0:TE}{e:Expr}{es:List Expr}{g:TGs}{h:List DV→Env→Mem→Res Env}{fx:XM}
end
section
variable {QV:DV→Mem→Prop}{QA:List DV→Mem→Prop}{E:Xc→Mem→Prop}{μ:Mem}{δ:Env}{N M n:Nat}{P:PO}
end
end DL
set_option maxHeartbeats 1000000
namespace DL
open PySem PySem.Spec PyProof.Rows L2
section
variable {K:PySem.W.Frag}{W:WX}{N n:Nat}{ρ ρ1:Pm}{G H G1 H1:Hp}{σ:Slots}{δ:Env}{μ:Mem}{Dn:Ends}{to te:TE}{fx:XM}
end
section
open StX
variable {X:Cx}{W:WX}{to:TE}{tA:TA}{fx:XM}{o e:Expr}{apos cpos spos:Pos}
end
section
variable {E:Xc→Mem→Prop}{μ:Mem}{δ:Env}{N n:Nat}{P:PO}
end
end DL
set_option maxHeartbeats 1000000
namespace DL
open PySem PySem.Spec PyProof.Rows L2
abbrev PxM:=Env→Mem→Res (List (Ky×DV))
section
variable {K:PySem.W.Frag}{W:WX}{N M n:Nat}{ρ ρ0 ρ1 ρ2:Pm}{G H G0 H0 G1 H1 G2 H2:Hp}{σ:Slots}{δ:Env}{μ:Mem}{Dn:Ends}{te:TE}{fx:XM}{f:EM}
def SndPX (K:PySem.W.Frag)(W:WX)(trs:List (TE×TE))(f:PxM):Prop:=∀ (ρ:Pm) (G H:Hp) (σ:Slots) (δ:Env) (μ:Mem) (Q:List (V×V)→Hp→Prop),Rel K ρ G H μ→EnvOk K ρ G σ δ →
 (match f δ μ with
  | .ok ps μ'=>∀ ρ' G' H' vs,TrS μ.length ρ G H ρ' G' H'→Rel K ρ' G' H' μ'→(∃ ls:List (Key×V),vs=ls.map (fun kv=>(kV kv.1,kv.2))∧PrL K ρ' G' ls ps)→Q vs H'
  | .exc x μ'=>∀ ρ' G' H' cls d,TrS μ.length ρ G H ρ' G' H'→Rel K ρ' G' H' μ'→XcOk K G' H' x cls d→W cls d σ H'
  | .bad=>False)→tPairs trs σ H Q
end
section
variable {X:Cx}{W:WX}{pos:Pos}{i e:Expr}{ty te:TE}{fy:EM}{fx:XM}
structure PMPX (X:Cx)(W:WX)(pos:Pos)(ks:List (Option Expr))(vs:List Expr)(trs:List (TE×TE))(f:PxM):Prop where
 pp:PPs X pos ks vs trs
 sd:SndPX X.K W trs f
end
section
variable {QV:DV→Mem→Prop}{QP:List (Ky×DV)→Mem→Prop}{E:Xc→Mem→Prop}{μ:Mem}{δ:Env}
end
def yCall (F:List DV→Mem→Res R)(fa:XA):YM:=fun δ μ=>(fa δ μ).bind fun xs μ1=>F xs μ1
section
variable {K:PySem.W.Frag}{W:WX}{n:Nat}{ta:TA}{fa:XA}{F:List DV→Mem→Res R}
end
section
variable {X:Cx}{W:WX}{pos:Pos}{tA:TA}{fA:XA}
end
section
variable {QR:R→Mem→Prop}{E:Xc→Mem→Prop}{μ:Mem}{δ:Env}
theorem x_ycall {F:List DV→Mem→Res R}{fa:XA}(h:Sat (fa δ μ) (fun xs μ1=>Sat (F xs μ1) (fun r μ2=>Sat (closeR μ.length r μ2) QR E) (fun x μ2=>E x (μ2.take μ.length))) (fun x μ2=>E x (μ2.take μ.length))):Sat (eCut (yCall F fa) δ μ) QR E:=by
 unfold eCut yCall
 cases e:fa δ μ with
 | bad=>rw[e] at h;exact h
 | exc x m=>rw[e] at h;exact h
 | ok xs m =>
  rw[e] at h
  simp only[Res.bind_ok]
  have h:Sat (F xs m) _ _:=h
  cases e2:F xs m with
  | bad=>rw[e2] at h;exact h
  | exc x m=>rw[e2] at h;exact h
  | ok r m=>rw[e2] at h;exact h
end
section
variable {K:PySem.W.Frag}{W:WX}{N M:Nat}{ρ ρ1:Pm}{G H G1 H1:Hp}{σ:Slots}{δ:Env}{μ:Mem}{Dn:Ends}{te:TE}{fx:XM}
end
section
open StX
variable {X:Cx}{W:WX}{te:TE}{fx:XM}{t:TS}{g:SM}{tg iter:Expr}{body:List Stmt}{pos:Pos}
end
section
variable {E:Xc→Mem→Prop}{μ:Mem}{δ:Env}{N n:Nat}{P:PO}
end
section
variable {K:PySem.W.Frag}{W:WX}{te:TE}{f:EM}
end
end DL
set_option maxHeartbeats 1000000
namespace DL
open PySem PySem.Spec PyProof.Rows L2
structure Err0 (K:PySem.W.Frag)(mg:Str→Option Value)(nm:Str)(C:Addr):Prop where
 gC:mg nm=some (.ref C)
 exc:PySem.W.excIn K C [.type "ValueError",.type "Exception",.type "BaseException",.type "object"] "ValueError.__new__"=true
 kC:PySem.W.keepIn K (.ref C)=true
 exC:PySem.W.subIn K (.ref C) (.type "BaseException")=some true
 tyC:PySem.W.typeIn K (.ref C)=some (.type "type")
def gRaise0 (nm:Str):SM:=fun _ δ μ=>.exc ⟨nm,[]⟩ δ μ
def errAt0 (i:Nat)(δ:Env):Option (Addr×Addr×Str):=match δ[i]? with
 | some (some (.dat (.err a C _ nm [])))=>some (a,C,nm)
 | _=>none
def eIsE0 (i:Nat)(a C:Addr)(tab:List (Str×Bool)):EM:=fun δ μ=>match errAt0 i δ with
 | some (a',C',nm)=>if a'=a∧C'=C then match tab.lookup nm with
   | some b=>.ok (.dat (.bl b)) μ
   | none=>.bad
  else .bad
 | none=>.bad
section
variable {X:Cx}{W:WX}{a C:Addr}{oe:Obj}{pn:List (Addr×Obj)}{n:Str}{p p1 p2 pos:Pos}
end
open Classical in
noncomputable def gTryE (cat:List (Str×Bool))(i:Nat)(gb:SM)(gs:Addr→Addr→Addr→SM)(gs0:Addr→Addr→SM):SM:=fun N δ μ=>match gb N δ μ with
 | .exc x δ' μ'=>match cat.lookup x.nm with
  | some true=>if x.fs≠[] then suiteOut i fun a C d=>gs a C d N (δ'.set i (some (.dat (.err a C d x.nm x.fs)))) μ'
   else suiteOut i fun a C _=>gs0 a C N (δ'.set i (some (.dat (.err a C 0 x.nm [])))) μ'
  | some false=>.exc x δ' μ'
  | none=>.bad
 | o=>o
section
variable {K:PySem.W.Frag}{W:WX}
end
section
variable {P:Program}{w:World}{K:PySem.W.Frag}{mg:Str→Option Value}{base:Heap}
end
set_option maxHeartbeats 2000000
section
variable {K:PySem.W.Frag}
end
def dEq1 (x y:DV)(μ:Mem):Res R:=match x,y with
 | .dat (.tup (.str i::ds)),.dat (.tup [.str j])=>.ok (.dat (.bl (decide (i=j)&&ds.isEmpty))) μ
 | _,_=>.bad
theorem l_eq1 {QR:R→Mem→Prop}{E:Xc→Mem→Prop}{μ:Mem}{i j:Str}{ds:List D}(h:QR (.dat (.bl (decide (i=j)&&ds.isEmpty))) μ):Sat (dEq1 (.dat (.tup (.str i::ds))) (.dat (.tup [.str j])) μ) QR E:=h
def ItS (d:D):Prop:=(∃ s,d=.str s)∨∃ p,toPy d=some p∧p.canLay0=true∧p.depth≤60
def rNeS (K:PySem.W.Frag):R2:=fun x y H Q=>∃ ds,Rp K H x (.lst ds)∧Rp K H y (.lst ds)∧(∀ d∈ds,ItS d)∧Q (.bl false) H
section
variable {X:Cx}{pins:List (Addr×Obj)}{σ:Slots}{H:Hp}{s:Shared}
theorem items_same (I:Inv X pins σ H s){A:Around}(hu:A.units+62<cLine):∀ {ds:List D} {vs us:List V} {a b:List Value},RpL X.K H vs ds→RpL X.K H us ds→(∀ d∈ds,ItS d)→Vals vs a→Vals us b →
  a.length=b.length∧∀ j (h1:j<a.length) (h2:j<b.length),PySem.SeqAt.EqAt A s a[j] b[j] true
 | [],_,_,_,_,.nil,.nil,_,.nil,.nil=>⟨rfl,fun j h1 _=>absurd h1 (Nat.not_lt_zero _)⟩
 | d::ds,_,_,_,_,.cons r1 rs,.cons q1 qs,h,.cons v1 v2,.cons w1 w2=>by
  obtain⟨e,ih⟩:=items_same I hu rs qs (fun x hx=>h x (List.mem_cons_of_mem _ hx)) v2 w2
  refine⟨by rw[List.length_cons,List.length_cons,e],fun j h1 h2=>?_⟩
  cases j with
  | succ j=>exact ih j (by simpa using h1) (by simpa using h2)
  | zero =>
   rcases h d List.mem_cons_self with⟨x,rfl⟩|⟨p,e1,e2,e3⟩
   ·cases r1
    cases q1
    obtain⟨t,rfl⟩:=v1
    obtain⟨t',rfl⟩:=w1
    have:=PySem.SeqAt.EqAt.str_str (A:=A) (s:=s) x t x t'
    simpa using this
   ·obtain⟨as,k1⟩:=Dp.reads I _ _ _ (Rp.dp r1 e1) v1
    obtain⟨bs,k2⟩:=Dp.reads I _ _ _ (Rp.dp q1 e1) w1
    have:=PySem.SeqAt.eqAt_reads p p A s _ _ as bs k1 k2 e2 e2 (by omega)
    rw[PySem.SeqAt.eqv_refl p e2] at this
    exact this
theorem op_neS (K:PySem.W.Frag)(hu:X.A.units+64<cLine)(hK:X.K=K:=by rfl):OpR X (compareOp .NotEq) (rNeS K):=by
 subst hK
 intro pins s σ H x y v u Q I rx ry h
 obtain⟨ds,h1,h2,hi,q⟩:=h
 cases h1 with
 | lst a1 a2 =>
  cases h2 with
  | lst b1 b2 =>
   cases rx
   cases ry
   obtain⟨its,rv,l1,_⟩:=I.list (.inl (.inl a1))
   obtain⟨its2,rv2,l2,_⟩:=I.list (.inl (.inl b1))
   obtain⟨el,he⟩:=items_same (A:=X.A.in1) I (by show X.A.units+1+62<cLine;omega) a2 b2 hi rv rv2
   obtain⟨o,n,ho,hc,hd,hdat⟩:=l1
   obtain⟨o2,n2,ho2,hc2,hd2,hdat2⟩:=l2
   refine(PySem.SeqAt.RcNeAt.lists (items:=its.toArray) (items2:=its2.toArray) (e:=fun _=>true) ⟨o,ho,hc,n,hdat⟩ ⟨o2,ho2,hc2,n2,hdat2⟩ (by simpa using el) (by omega) (fun j k1 k2=>?_)) _ _ _ _ ?_
   ·have:=he j (by simpa using k1) (by simpa using k2)
    simpa using this
   ·have e:(!(List.range its.toArray.size).all fun _=>true)=false:=by
     rw[show((List.range its.toArray.size).all fun _=>true)=true from List.all_eq_true.mpr fun _ _=>rfl];rfl
    rw[e]
    exact⟨.bl false,H,I,rfl,q⟩
open Classical in
noncomputable def dNeS (x y:DV)(μ:Mem):Res R:=match x,y with
 | .dat (.lst ds),.dat (.lst es)=>if ds=es∧∀ d∈ds,ItS d then .ok (.dat (.bl false)) μ else .bad
 | _,_=>.bad
theorem od_neS {K:PySem.W.Frag}:OpD K (rNeS K) dNeS:=fun W ρ G H σ μ v w x y Q R hx hy hp=>by
 unfold dNeS at hp
 split at hp
 ·rename_i ds es
  by_cases c:ds=es∧∀ d∈ds,ItS d
  ·rw[if_pos c] at hp
   obtain⟨rfl,c⟩:=c
   exact⟨ds,Rp.mono R.ex hx,Rp.mono R.ex hy,c,hp.okD R (.bl false)⟩
  ·rw[if_neg c] at hp;exact hp.elim
 ·exact hp.elim
theorem l_neItS {QR:R→Mem→Prop}{E:Xc→Mem→Prop}{μ:Mem}{ds:List D}(hd:∀ d∈ds,ItS d)(h:QR (.dat (.bl false)) μ):Sat (dNeS (.dat (.lst ds)) (.dat (.lst ds)) μ) QR E:=by
 have:dNeS (.dat (.lst ds)) (.dat (.lst ds)) μ=.ok (.dat (.bl false)) μ:=by
  unfold dNeS
  simp only
  rw[if_pos ⟨rfl,hd⟩]
 rw[this];exact h
end
section
variable {QR:R→Mem→Prop}{E:Xc→Mem→Prop}{μ:Mem}{n:Nat}{kvs:List (Ky×DV)}
end
section
variable {QR:R→Mem→Prop}{E:Xc→Mem→Prop}{μ:Mem}
end
section
variable {M:Model}{A:Around}{E:Value→Shared→Prop}{s:Shared}
end
section
variable {M:Model}{A:Around}{E:Value→Shared→Prop}{s:Shared}{K:PySem.W.Frag}{env:PySem.Env}{pos p:Pos}{f:Value}{first:List Value}{Q:Value→Shared→Prop}{h₀:Heap}{e e2:Expr}{rest:List Expr}
end
section
variable {X:Cx}{cx:CXT}{k:Nat}{C f:Addr}{fd:FuncData}{ps:List Str}{sp:Sp}{E:L2.St→XK}{m:Str}{o e e2:Expr}{es:List Expr}{ta:TE}{t:TA}{pos apos q:Pos}
end
section
variable {X:Cx}{W:WX}{P:Program}{w:World}{K:PySem.W.Frag}{mg:Str→Option Value}{base:Heap}{cx:CXT}{k n:Nat}{nm m:Str}{F:List DV→Mem→Res R}{o e e2:Expr}{es:List Expr}{tA:TA}{to:TE}{fo:EM}{fA:AM}{pos apos q:Pos}
end
section
variable {K:PySem.W.Frag}{W:WX}{te:TE}{f:EM}{ρ:Pm}{G H:Hp}{μ:Mem}
def bFldV (m:Str)(f:EM):BM:=fun δ μ fs=>(frzV f δ μ).bind fun y μ1=>if μ.length≤μ1.length∧fs.length<1000 then .ok (putD m y fs) μ1 else .bad
def bTup2 (m1 m2:Str)(f:EM):BM:=fun δ μ fs=>(frzV f δ μ).bind fun y μ1=>match y with
 | .dat (.tup [a,b])=>if μ.length≤μ1.length∧fs.length<900 then .ok (putD m2 (.dat b) (putD m1 (.dat a) fs)) μ1 else .bad
 | _=>.bad
end
section
variable {X:Cx}{W:WX}{pos p apos:Pos}{e:Expr}{te:TE}{fe:EM}{nm m:Str}{ss:List Stmt}{u:TS}
end
def xIx (i:Int)(fx:XM):XM:=fun δ μ=>(fx δ μ).bind fun x μ1=>match tpOf x μ1 with
 | some xs=>match atI xs i with
  | some z=>.ok z μ1
  | none=>.bad
 | none=>.bad
def yIx (i:Int)(fx:XM):YM:=fun δ μ=>(fx δ μ).bind fun x μ1=>match tpOf x μ1 with
 | some xs=>match atI xs i with
  | some z=>.ok (ofV z) μ1
  | none=>.bad
 | none=>.bad
section
variable {K:PySem.W.Frag}{W:WX}{te:TE}{fx:XM}{i:Int}
end
section
variable {X:Cx}{W:WX}{pos ap:Pos}{a:Expr}{ta:TE}{fx:XM}{i:Int}{j:Nat}
end
section
variable {QR:R→Mem→Prop}{QV:DV→Mem→Prop}{E:Xc→Mem→Prop}{μ:Mem}{δ:Env}
theorem x_xix {k:Nat}{fx:XM}(h:Sat (fx δ μ) (fun x μ1=>∃ n xs z,x=.loc n∧μ1[n]?=some (.tp xs)∧xs[k]?=some z∧QV z μ1) E):Sat (xIx (k:Int) fx δ μ) QV E:=by
 refine sat_bind (h.mono (fun x m q=>?_) fun _ _ q=>q)
 obtain⟨n,xs,z,rfl,e1,e2,q⟩:=q
 have z1:tpOf (.loc n) m=some xs:=by unfold tpOf;simp only[e1]
 simp only[z1,atI_nat e2]
 exact q
theorem x_yix {k:Nat}{fx:XM}(h:Sat (fx δ μ) (fun x μ1=>∃ n xs z,x=.loc n∧μ1[n]?=some (.tp xs)∧xs[k]?=some z∧Sat (closeR μ.length (ofV z) μ1) QR E) (fun x μ2=>E x (μ2.take μ.length))):Sat (eCut (yIx (k:Int) fx) δ μ) QR E:=by
 unfold eCut yIx
 cases e:fx δ μ with
 | bad=>rw[e] at h;exact h
 | exc x m=>rw[e] at h;exact h
 | ok x m =>
  rw[e] at h
  obtain⟨n,xs,z,rfl,e1,e2,q⟩:=h
  have z1:tpOf (.loc n) m=some xs:=by unfold tpOf;simp only[e1]
  simp only[Res.bind_ok,z1,atI_nat e2]
  exact q
theorem b_fldVK {m:Str}{f:EM}{fs:Fds}{QF:Fds→Mem→Prop}(h:Sat (frzV f δ μ) (fun y μ1=>(μ.length≤μ1.length∧fs.length<1000)∧QF (putD m y fs) μ1) E):Sat (bFldV m f δ μ fs) QF E:=by
 refine sat_bind (h.mono (fun y m q=>?_) fun _ _ q=>q)
 rw[if_pos q.1];exact q.2
theorem b_tup2K {m1 m2:Str}{f:EM}{fs:Fds}{QF:Fds→Mem→Prop}(h:Sat (frzV f δ μ) (fun y μ1=>∃ a b,y=.dat (.tup [a,b])∧(μ.length≤μ1.length∧fs.length<900)∧QF (putD m2 (.dat b) (putD m1 (.dat a) fs)) μ1) E):Sat (bTup2 m1 m2 f δ μ fs) QF E:=by
 refine sat_bind (h.mono (fun y m q=>?_) fun _ _ q=>q)
 obtain⟨a,b,rfl,q1,q2⟩:=q
 show Sat (if _ then _ else _) _ _
 rw[if_pos q1];exact q2
end
def yMethA (nm m:Str)(F:List DV→Mem→Res R)(fo:EM)(fa:XA):YM:=fun δ μ=>(frzV fo δ μ).bind fun x μ1=>if μ.length≤μ1.length∧isI nm m x μ1=true then(fa δ μ1).bind fun xs μ2=>F (x::xs) μ2 else .bad
section
variable {K:PySem.W.Frag}{W:WX}{n:Nat}{to:TE}{ta:TA}{fo:EM}{fa:XA}{nm m:Str}{F:List DV→Mem→Res R}{C:Addr}
end
section
variable {X:Cx}{W:WX}{P:Program}{w:World}{K:PySem.W.Frag}{mg:Str→Option Value}{base:Heap}{cx:CXT}{k n:Nat}{nm m x:Str}{F:List DV→Mem→Res R}{e o:Expr}{es:List Expr}{tA:TA}{fA:XA}{to:TE}{fo:EM}{p pos apos cpos:Pos}
end
section
variable {QR:R→Mem→Prop}{E:Xc→Mem→Prop}{μ:Mem}{δ:Env}
theorem x_ymethA {nm m:Str}{F:List DV→Mem→Res R}{fo:EM}{fa:XA}(h:Sat (frzV fo δ μ) (fun x μ1=>(μ.length≤μ1.length∧isI nm m x μ1=true)∧Sat (fa δ μ1) (fun xs μ2=>Sat (F (x::xs) μ2) (fun r μ3=>Sat (closeR μ.length r μ3) QR E) (fun x μ2=>E x (μ2.take μ.length))) (fun x μ2=>E x (μ2.take μ.length))) (fun x μ2=>E x (μ2.take μ.length))):Sat (eCut (yMethA nm m F fo fa) δ μ) QR E:=by
 unfold eCut yMethA
 cases e:frzV fo δ μ with
 | bad=>rw[e] at h;exact h
 | exc x m=>rw[e] at h;exact h
 | ok x m =>
  rw[e] at h
  obtain⟨h1,h2⟩:=h
  simp only[Res.bind_ok]
  rw[if_pos h1]
  cases e1:fa δ m with
  | bad=>rw[e1] at h2;exact h2
  | exc x m=>rw[e1] at h2;exact h2
  | ok xs m2 =>
   rw[e1] at h2
   simp only[Res.bind_ok]
   have h2:Sat (F (x::xs) m2) _ _:=h2
   cases e2:F (x::xs) m2 with
   | bad=>rw[e2] at h2;exact h2
   | exc x m=>rw[e2] at h2;exact h2
   | ok r m=>rw[e2] at h2;exact h2
end
section
variable {prog:Program}{w:World}{A:Around}{E:Value→Shared→Prop}{s:Shared}{d:Addr}{o:Obj}{es:Array DictEntry}{ep:Nat}{xs:List T3}
end
section
variable {K:PySem.W.Frag}
end
structure KeyD (P:Program)(w:World)(K:PySem.W.Frag)(mg:Str→Option Value)(x:Str):Prop where
 ex:∃ f:Addr,mg x=some (.ref f)∧PySem.W.keepIn K (.ref f)=true∧∀ (A:Around) (s:Shared) (a:Addr) (v0:Value) (its:List Value),K.In s.heap→s.heap.NoLimit→A.depth<recursionLimit→IsTup s.heap a (v0::its).toArray →
  wpAny (model P w) A (call (.ref f) [.ref a]) (fun v s'=>v=v0∧∃ h' tk,s'={ s with heap:=h',toks:=tk }∧∀ b o,s.heap.get? b=some o→h'.get? b=some o) (fun _ _=>False) s
def keyB:D→Bool
 | .int _=>true
 | .tup ds=>ds.all fun d=>match d with
  | .int _=>true
  | _=>false
 | _=>false
def fstP:D→PyData
 | .tup (k::_)=>pyD k
 | _=>.none
def fstB:D→Bool
 | .tup (k::_)=>keyB k
 | _=>false
section
variable {K:PySem.W.Frag}
def dSort0:List DV→Mem→Res R:=d1 fun x μ=>match (asL μ x).bind allDat with
 | some ds=>if ds.all fstB=true∧alikeB (ds.map fstP)=true∧sortableB (ds.map fstP)=true then .ok (.nl ((ds.mergeSort (PySem.W.dataLe false fstP)).map DV.dat)) μ else .bad
 | none=>.bad
def eSortF (f:EM):EM:=fun δ μ=>(frzV f δ μ).bind fun x μ1=>dSort0 [x] μ1
theorem l_sortF {QR:R→Mem→Prop}{E:Xc→Mem→Prop}{μ:Mem}{δ:Env}{fe:EM}(h:Sat (frzV fe δ μ) (fun x μ1=>∃ ds,(asL μ1 x).bind allDat=some ds∧(ds.all fstB=true∧alikeB (ds.map fstP)=true∧sortableB (ds.map fstP)=true)∧QR (.nl ((ds.mergeSort (PySem.W.dataLe false fstP)).map DV.dat)) μ1) E):Sat (eSortF fe δ μ) QR E:=by
 refine sat_bind (h.mono (fun x m q=>?_) fun _ _ q=>q)
 obtain⟨ds,q1,q2,q3⟩:=q
 unfold dSort0 d1
 simp only[q1]
 rw[if_pos q2];exact q3
end
section
variable {X:Cx}{cx:CXT}{k:Nat}{C g:Addr}{fd:FuncData}{ps:List Str}{sp:Sp}{E:L2.St→XK}{nm m:Str}{o e e2:Expr}{to:TE}{t:TA}{pos apos q:Pos}
end
section
variable {K:PySem.W.Frag}{W:WX}{n:Nat}{to:TE}{ta:TA}{fo:EM}{fa:AM}{nm m:Str}{F:List DV→Mem→Res R}{C g:Addr}
end
section
variable {X:Cx}{W:WX}{P:Program}{w:World}{K:PySem.W.Frag}{mg:Str→Option Value}{base:Heap}{cx:CXT}{k n:Nat}{nm m:Str}{F:List DV→Mem→Res R}{o e e2:Expr}{tA:TA}{to:TE}{fo:EM}{fA:AM}{pos apos q:Pos}
end
section
variable {K:PySem.W.Frag}
end
section
variable {QR:R→Mem→Prop}{E:Xc→Mem→Prop}{μ:Mem}{neg:Bool}{x y:DV}
end
end DL
theorem L2.Room.units65 {k:Nat}{A:PySem.Around}(r:L2.Room k A):A.units+65<PySem.cLine:=by have:=r.un;omega
set_option maxHeartbeats 2500000
namespace DL
open PySem PySem.Spec PyProof.Rows L2
section
variable {X:Cx}
end
section
variable {K:PySem.W.Frag}{W:WX}{ρ:Pm}{G H G0 H0:Hp}{μ:Mem}{σ:Slots}{δ:Env}
def Mk1 (K:PySem.W.Frag)(ρ:Pm)(G H:Hp)(D:Addr)(pre:List (Ky×DV)):Prop:=∃ xs:List T3,((∃ es,H D=some (TX D es)∧TIs K G D es xs∧xs≠[])∨(xs=[]∧H D=some (.dK [])))∧TrL K ρ G xs pre
theorem trl_mono {G':Hp}(ex:Ex G G'){xs:List T3}{kvs:List (Ky×DV)}(h:TrL K ρ G xs kvs):TrL K ρ G' xs kvs:=Paired.mapP h fun _ _ q=>⟨q.1,q.2.choose,q.2.choose_spec.1,q.2.choose_spec.2.mono ex fun _ _ z=>z⟩
theorem Mk1.mono {G' H':Hp}{D:Addr}{pre:List (Ky×DV)}(ex:Ex G G')(k:∀ o,H D=some o→H' D=some o)(h:Mk1 K ρ G H D pre):Mk1 K ρ G' H' D pre:=by
 obtain⟨xs,h1,h2⟩:=h
 refine⟨xs,?_,trl_mono ex h2⟩
 rcases h1 with⟨es,e,t,ne⟩|⟨e1,e2⟩
 ·exact .inl ⟨es,k _ e,t.up ex,ne⟩
 ·exact .inr ⟨e1,k _ e2⟩
theorem Mk1.there {D:Addr}{pre:List (Ky×DV)}(h:Mk1 K ρ G H D pre):H D≠none:=by
 obtain⟨xs,h1,h2⟩:=h
 rcases h1 with⟨es,e,t,ne⟩|⟨e1,e2⟩
 ·rw[e];exact fun z=>nomatch z
 ·rw[e2];exact fun z=>nomatch z
theorem Mk1.dct {D:Addr}{pre:List (Ky×DV)}(h:Mk1 K ρ G H D pre):∃ o vs,H D=some o∧DctIs K G D o (pre.map (·.1)) vs∧DvL K ρ G vs (pre.map (·.2)):=by
 obtain⟨xs,h1,h2⟩:=h
 rcases h1 with⟨es,e,t,ne⟩|⟨rfl,e2⟩
 ·obtain⟨vs,q1,q2⟩:=dct_T ne t h2
  exact⟨_,vs,e,q1,q2⟩
 ·cases h2
  exact⟨_,[],e2,.inl ⟨[],rfl,rfl,rfl⟩,.nil⟩
end
section
variable {X:Cx}
end
section
variable {K:PySem.W.Frag}{W:WX}{ρ:Pm}{G H G0 H0:Hp}{μ:Mem}{σ:Slots}{δ:Env}
end
section
variable {X:Cx}{W:WX}{o e:Expr}{to te:TE}{f fe:EM}{apos cpos:Pos}
end
section
variable {P:Program}{w:World}{A:Around}{E:Value→Shared→Prop}{s:Shared}
end
section
variable {P:Program}{w:World}{A:Around}{E:Value→Shared→Prop}{s:Shared}{a:Addr}{S:Key→Bool}{n:Nat}
end
section
variable {X:Cx}
end
section
variable {K:PySem.W.Frag}{W:WX}{ρ:Pm}{G H:Hp}{w:World}
end
def RgS (i j k:Int):Prop:=(1≤k∧k≤1000000)∧(0≤i∧i≤1000000)∧0≤j∧j≤1000000
instance (i j k:Int):Decidable (RgS i j k):=by unfold RgS;exact inferInstance
section
variable {X:Cx}{W:WX}{a b c:Expr}{ta:TA}{fa:AM}{p p2 pos pos2:Pos}
end
section
variable {K:PySem.W.Frag}{W:WX}
end
section
variable {X:Cx}{W:WX}{e:Expr}{te:TE}{f:EM}{p p2 q pos:Pos}
end
section
variable {QR:R→Mem→Prop}{E:Xc→Mem→Prop}{δ:Env}{μ:Mem}
end
section
variable {K:PySem.W.Frag}{X:Cx}{W:WX}{pos:Pos}
end
section
variable {QR:R→Mem→Prop}{E:Xc→Mem→Prop}
end
section
variable {QR:R→Mem→Prop}{E:Xc→Mem→Prop}{μ:Mem}{ds:List D}{b:Bool}
end
section
variable {prog:Program}{w:World}{A:Around}{E:Value→Shared→Prop}{s:Shared}{K:PySem.W.Frag}{x C L f:Addr}{h₀:Heap}{m:Str→Option Value}{ox:Obj}{od:Option Obj}{a:Value}{T id:String}
end
section
variable {X:Cx}{sp:Sp}{f:Addr}{fd:FuncData}{ps:List Str}{k:Nat}{C:Addr}
end
section
variable {K:PySem.W.Frag}{W:WX}{ρ:Pm}{G H:Hp}{μ:Mem}{nm:Str}{C:Addr}{F:List DV→Mem→Res R}{n:Nat}
end
section
variable {X:Cx}{W:WX}{P:Program}{w:World}{K:PySem.W.Frag}{mg:Str→Option Value}{base:Heap}{k n:Nat}{nm:Str}{F:List DV→Mem→Res R}{a b e:Expr}{ta tb te:TE}{fa fb f:EM}{p pos:Pos}
end
section
variable {QR:R→Mem→Prop}{E:Xc→Mem→Prop}{δ:Env}{μ:Mem}{nm:Str}{F:List DV→Mem→Res R}{fa fb:EM}
end
section
variable {K:PySem.W.Frag}
end
section
variable {QR:R→Mem→Prop}{E:Xc→Mem→Prop}{μ:Mem}{n:Nat}{kvs:List (Ky×DV)}
end
structure FnGH (P:Program)(w:World)(K:PySem.W.Frag)(mg:Str→Option Value)(base:Heap)(cx:CXT)(k:Nat)(f:Addr)(fd:FuncData)(ps:List Str)(sp:Sp):Prop where
 len:∀ vs H Q E,sp vs H Q E→vs.length=ps.length
 run:∀ (A:Around) (out:List PySem.Env) (s:Shared) (H:Hp) (args:Args) (us:List Value) (vs:List V) (Q:VK) (E:XK) (p:Addr×Obj),L2H.RoomH k A→A.guards=some []→L2H.PinOk out H s p→Env0 P w K mg base A out s H→BindsTo s fd args (ps.zip us)→Vals vs us →
  sp vs H Q E→codeAny (model P w) A (.call (.ref f) args) (CR cx out P w H s Q E) s
section
variable {X:Cx}{cx:CXT}{k:Nat}{f:Addr}{fd:FuncData}{ps:List Str}{sp:Sp}{E:L2.St→XK}{x:Str}{p pos:Pos}{e:Expr}{es:List Expr}{t:TA}
end
structure FnDH (P:Program)(w:World)(K:PySem.W.Frag)(mg:Str→Option Value)(base:Heap)(cx:CXT)(k:Nat)(x:Str)(n:Nat)(F:List DV→Mem→Res R):Prop where
 ar:∀ xs μ,F xs μ≠.bad→xs.length=n
 ex:∃ (f:Addr) (fd:FuncData) (ps:List Str),ps.length=n∧FnGH P w K mg base cx k f fd ps (spF K n F)∧mg x=some (.ref f)∧PySem.W.keepIn K (.ref f)=true∧Binds K fd ps []
section
variable {P:Program}{w:World}{K:PySem.W.Frag}{mg:Str→Option Value}{base:Heap}
end
section
variable {X:Cx}{W:WX}{ta:TA}{fa:AM}{e:Expr}{es:List Expr}{p pos:Pos}
end
section
end
section
variable {K:PySem.W.Frag}{W:WX}{N M M' n:Nat}{ρ ρ1:Pm}{G H G1 H1 G0 H0:Hp}{σ:Slots}{δ:Env}{μ:Mem}{ta tb te:TE}{tA:TA}{fa fb fx:XM}{f:EM}{xa:XA}{Dn:Ends}
theorem PostX.shift {r:Res DV}{Q:VK}(t:TrS M ρ G H ρ1 G1 H1)(hM:M≤M')(hp:PostX K W M ρ G H σ Q r):PostX K W M' ρ1 G1 H1 σ Q r:=by
 cases r with
 | ok x μ'=>exact fun ρ' G' H' v t2 R' d=>hp ρ' G' H' v (t.trans (t2.low hM)) R' d
 | exc x μ'=>exact fun ρ' G' H' cls d t2 R' q=>hp ρ' G' H' cls d (t.trans (t2.low hM)) R' q
 | bad=>exact hp
def xOp (g:DV→DV→Mem→Res R)(fa fb:XM):XM:=fun δ μ=>(fa δ μ).bind fun x μ1=>if μ.length≤μ1.length then(fb δ μ1).bind fun y μ2=>if μ.length≤μ2.length then(g x y μ2).bind fun r μ3=>(match newPl μ.length r μ3 with
 | some (z,μ4)=>.ok z μ4
 | none=>.bad) else .bad else .bad
theorem snd_xop {r:R2}{g:DV→DV→Mem→Res R}(ho:OpD K r g)(ha:SndX K W ta fa)(hb:SndX K W tb fb):SndX K W (tOp r ta tb) (xOp g fa fb):=fun ρ G H σ δ μ Q R E hp=>by
 unfold xOp at hp
 refine ha ρ G H σ δ μ _ R E ?_
 cases e:fa δ μ with
 | bad=>rw[e] at hp;exact hp
 | exc x μ'=>rw[e] at hp;exact hp
 | ok x μ1 =>
  rw[e] at hp
  simp only[Res.bind_ok] at hp
  intro ρ1 G1 H1 v t1 R1 d1
  by_cases h1:μ.length≤μ1.length
  case neg=>rw[if_neg h1] at hp;exact hp.elim
  rw[if_pos h1] at hp
  refine hb ρ1 G1 H1 σ δ μ1 _ R1 (E.up t1.exG (up_of R t1)) ?_
  cases e2:fb δ μ1 with
  | bad=>rw[e2] at hp;exact hp
  | exc x μ'=>rw[e2] at hp;exact fun ρ' G' H' cls d t2 R' q=>hp ρ' G' H' cls d (t1.trans (t2.low h1)) R' q
  | ok y μ2 =>
   rw[e2] at hp
   simp only[Res.bind_ok] at hp
   intro ρ2 G2 H2 w t2 R2 d2
   by_cases h2:μ.length≤μ2.length
   case neg=>rw[if_neg h2] at hp;exact hp.elim
   rw[if_pos h2] at hp
   have T2:=t1.trans (t2.low h1)
   refine ho W ρ2 G2 H2 σ μ2 v w x y Q R2 (d1.mono t2.exG (up_of R1 t2)) d2 ?_
   cases e3:g x y μ2 with
   | bad=>rw[e3] at hp;exact hp
   | exc z μ'=>rw[e3] at hp;exact fun G' H' cls d t3 R' q=>hp ρ2 G' H' cls d (T2.trans t3.toS) R' q
   | ok r μ3 =>
    rw[e3] at hp
    simp only[Res.bind_ok] at hp
    intro G' H' u t3 R' q
    cases e4:newPl μ.length r μ3 with
    | none=>rw[e4] at hp;exact hp.elim
    | some p =>
     obtain⟨z,μ4⟩:=p
     rw[e4] at hp
     obtain⟨ρ3,t4,R3,_,d3⟩:=newPl_ok R' (t3.toS (N:=μ.length)) q e4
     exact hp ρ3 G' H' u (T2.trans t4) R3 d3
end
section
variable {K:PySem.W.Frag}{W:WX}{ρ:Pm}{G H:Hp}{σ:Slots}{δ:Env}{μ:Mem}
end
section
variable {X:Cx}{W:WX}{a b c e c1 c2:Expr}{es:List Expr}{ta tb te:TE}{tt:TT}{tA:TA}{fa fb fx:XM}{f:EM}{ft:TM}{fA:XA}{p pos p1 p2:Pos}
theorem px_op {op:Operator}{r:R2}{g:DV→DV→Mem→Res R}(ho:OpR X (binaryOp op) r)(hd:OpD X.K r g)(ha:PMX X W a ta fa)(hb:PMX X W b tb fb):PMX X W (.BinOp a op b pos) (tOp r ta tb) (xOp g fa fb):=⟨pe_op ho ha.pe hb.pe,snd_xop hd ha.sd hb.sd⟩
theorem px_addK (K:PySem.W.Frag)(ha:PMX X W a ta fa)(hb:PMX X W b tb fb)(hK:X.K=K:=by rfl):PMX X W (.BinOp a .Add b pos) (tOp (rPlus K) ta tb) (xOp dAdd fa fb):=by subst hK;exact px_op op_plus od_add ha hb
end
section
variable {QR:R→Mem→Prop}{QV:DV→Mem→Prop}{QA:List DV→Mem→Prop}{E:Xc→Mem→Prop}{μ:Mem}{δ:Env}{N M n:Nat}{P:PO}
theorem x_xop {g:DV→DV→Mem→Res R}{fa fb:XM}(h:Sat (fa δ μ) (fun x μ1=>μ.length≤μ1.length∧Sat (fb δ μ1) (fun y μ2=>μ.length≤μ2.length∧Sat (g x y μ2) (fun r μ3=>NpK μ.length r μ3 QV) E) E) E):Sat (xOp g fa fb δ μ) QV E:=by
 refine sat_bind (h.mono (fun x m q=>?_) fun _ _ q=>q)
 rw[if_pos q.1]
 refine sat_bind (q.2.mono (fun y m2 q2=>?_) fun _ _ q=>q)
 rw[if_pos q2.1]
 refine sat_bind (q2.2.mono (fun r m3 q3=>?_) fun _ _ q=>q)
 unfold NpK at q3
 cases e:newPl μ.length r m3 with
 | none=>rw[e] at q3;exact q3.elim
 | some p=>rw[e] at q3;exact q3
end
set_option maxHeartbeats 2000000
section
variable {X:Cx}{C fI:Addr}{nm f:Str}
end
section
variable {K:PySem.W.Frag}{W:WX}{C:Addr}{nm:Str}
end
theorem hcl_of {K:PySem.W.Frag}{C:Addr}(h:PySem.W.hasDictIn K C=true):(PySem.W.clsIn K C).isSome=true:=by
 unfold PySem.W.hasDictIn at h
 cases e:PySem.W.clsIn K C with
 | none=>rw[e] at h;cases h
 | some c=>rfl
section
variable {QR:R→Mem→Prop}{E:Xc→Mem→Prop}{δ:Env}{μ:Mem}{nm:Str}{fe:EM}
end
section
variable {X:Cx}{C fI:Addr}{nm f:Str}
def tEx (C:Addr)(f:Str)(ta:TA):TE:=fun σ H Q=>ta σ H fun vs H1=>∃ v,vs=[v]∧∀ a d,H1 a=none→H1 d=none→a≠d→Q (.ref a) (upd (upd H1 d (.xd [(f,v)])) a (EX a C (some d)))
theorem pe_ex {a:Expr} {ta:TA} {p pos:Pos} {k:Nat} (T:DX.ErrTxt X.prog X.K X.mg nm f C fI) (hr:Room k X.A) (ha:PA X [a] ta) (hg:Gl X nm) (hdb:(nm==("__debug__":Str))=false:=by decide)
  (he:starEach (a::[]) X.env=(false,eval a X.env)::starEach [] X.env:=by rfl) (hpl:(backTo pos (starEach [] X.env)).any (·.1)=false:=by rfl) :
  PE X (.Call (.Name nm p) [a] [] pos) (tEx C f ta):=by
 refine⟨fun pins s σ H Q I h=>?_⟩
 refine wpAny_Call_Name_kw (ld_glob I hg T.gC ?_ hdb)
 refine PySem.W.callWith_K (h₀:=X.base) I.ok.mod.kin T.kC (thn (ha.run pos pins s σ H _ I h) fun us s1 hh=>?_) he hpl
 obtain⟨vs,H1,I1,r1,v,ev,q1⟩:=hh
 subst ev
 refine⟨I1.kIn,?_⟩
 cases r1 with
 | cons rv rn =>
  rename_i v' us'
  cases rn
  show wpAny _ _ (call (.ref C) [v']) _ _ _
  have hlim:=I1.nolimit
  have G1:s1.heap.Ns mainGlobals X.mg:=I1.mod.glob.keeps I1.bk
  have hb1:∃ mb,s1.heap.Ns builtinsNs mb∧∀ x:Str,x≠"__name__"→mb x=bootBuiltins x:=by
   obtain⟨mb,b1,b2⟩:=I1.mod.blt
   exact⟨mb,b1.keeps I1.bk,b2⟩
  obtain⟨hp,g,dr,tk,os⟩:=s1
  refine wpAny_call (DX.made_ok T I1.kIn hlim G1 hb1 (by have:=hr.dp;omega) fun h' tk' e d M=>?_)
  show EP X pins σ Q (.ref e) ⟨h',g,dr,tk',os⟩
  obtain⟨oe,fv,hoe,hc,hd,hdat,h1⟩:=M.obj
  have hns:=M.ns
  obtain⟨G',g1,g2⟩:=restrict h' fun b=>decide (b≠e)
  have gk:∀ b,b≠e→G'.get? b=h'.get? b:=fun b hb=>g1 b (decide_eq_true hb)
  have ge:G'.get? e=none:=g2 e (by simp)
  have old:∀ b o,hp.get? b=some o→G'.get? b=some o:=fun b o q=>(gk b (Nat.ne_of_lt (Nat.lt_of_lt_of_le (Heap.lt_size q) M.new))).trans (M.keep b o q)
  have ob:ObjOk X.prog X.w (upd H1 d (.xd [(f,v)])) G' d (.xd [(f,v)]) :=
   ⟨_,hns.at (fun o q=>(gk d M.dne).trans q),fun g=>relO_one rv f g⟩
  have J:Inv X pins σ (upd H1 d (.xd [(f,v)])) ⟨G',g,dr,tk',os⟩:=I1.laid (t':=tk') old M.dbig ob
  have hn1:H1 e=none:=I1.hok.fresh M.new
  have hn:upd H1 d (.xd [(f,v)]) e=none:=by rw[upd_ne (Ne.symm M.dne)];exact hn1
  have up:∀ b u,G'.get? b=some u→h'.get? b=some u:=fun b u q=>by
   by_cases hb:b=e
   ·rw[hb,ge] at q;cases q
   ·exact(gk b hb).symm.trans q
  have new:ObjOk X.prog X.w (upd (upd H1 d (.xd [(f,v)])) e (EX e C (some d))) h' e (EX e C (some d)) :=
   ⟨⟨oe,hoe,hc,hd,fv,hdat⟩,⟨oe,hoe⟩,fun a b ⟨ox,x1,x2⟩ k=>⟨ox,k _ x1,x2⟩⟩
  have J2:Inv X pins σ (upd (upd H1 d (.xd [(f,v)])) e (EX e C (some d))) ⟨h',g,dr,tk',os⟩:=J.laidN (t':=tk') up ge hn new
  exact⟨.ref e,_,J2,rfl,q1 e d hn1 (I1.hok.fresh M.dbig) (Ne.symm M.dne)⟩
theorem pe_ex0 {x:Str} {p pos:Pos} (T:Err0 X.K X.mg x C) (hg:Gl X x) (hdb:(x==("__debug__":Str))=false:=by decide):PE X (.Call (.Name x p) [] [] pos) (fun _ H Q=>∀ a,H a=none→Q (.ref a) (upd H a (EX a C none))):=by
 refine⟨fun pins s σ H Q I h=>?_⟩
 refine wpAny_Call_Name_kw (ld_glob I hg T.gC ?_ hdb)
 refine PySem.W.callWith_K0 I.kIn T.kC ?_
 show wpAny _ _ (call (.ref C) []) _ _ _
 obtain⟨bm,N,nm,qn,bs,hdct,sn,sub,ab,col,dd,k0,k1,k2,k3,k5,mN,hC,hN,hni,T'⟩:=exc_obj I.kIn T.exc
 refine wpAny_call_exc_subT PySem.F.excBase_ValueError T' hC hN hni (fun h' e hm=>?_) (Nat.zero_le _)
 obtain⟨t,he,_,_⟩:=hm.there
 have hn:H e=none:=I.hok.gone hm.new
 have new:ObjOk X.prog X.w (upd H e (EX e C none)) h' e (EX e C none):=⟨⟨_,he,rfl,rfl,_,rfl⟩,⟨_,he⟩,fun a b ⟨ox,x1,x2⟩ k=>⟨ox,k _ x1,x2⟩⟩
 exact⟨.ref e,_,I.laidN (t':=s.toks) hm.keeps hm.new hn new,rfl,h e hn⟩
def tExf (C:Addr)(f:Str)(te:TE):TE:=fun σ H Q=>te σ H fun x H1=>∃ (a dd:Addr) (fs:List (Str×V)) (v:V),x=.ref a∧H1 a=some (EX a C (some dd))∧H1 dd=some (.xd fs)∧fs.lookup f=some v∧Q v H1
theorem pe_exf {e:Expr}{te:TE}{pos:Pos}{n:Str}(T:XfC X.K C)(hno:PySem.W.findIn X.K (.ref C) n=some none)(he:PE X e te)(hb:attributeBase e n X.env (eval e X.env)=eval e X.env:=by rfl) :
  PE X (.Attribute e n pos) (tExf C n te):=by
 refine⟨fun pins s σ H Q I h=>?_⟩
 refine attr_of hb (thn (he.run pins s σ H _ I h) fun u s1 hh=>?_)
 obtain⟨x,H1,I1,rx,a,dd,fs,v,ex,e1,ea,l,q⟩:=hh
 subst ex
 obtain rfl:u=Value.ref a:=rx
 obtain⟨⟨oe,ha,hz1,hz2,vs,hd⟩,_⟩:=(show ObjOk X.prog X.w H1 s1.heap a (EX a C (some dd)) from I1.hok a _ e1)
 have hx:ObjOk X.prog X.w H1 s1.heap dd (.xd fs):=I1.hok dd _ ea
 obtain⟨mA,hns,hr⟩:=hx
 obtain⟨od,ho,hl⟩:=lookIn_ns hns
 obtain⟨u,hu,ru⟩:=RelO.some_of (v:=v) (o:=mA n) (by rw[←l];exact hr n)
 have J:PySem.W.InstAt s1.heap a oe C (some od):=⟨ha,hz1,by unfold PySem.W.notCls;rw[hd] <;> rfl,by rw[hz2];exact ho⟩
 exact HandSPX.exc_get I1.kIn J T.ga T.gg T.exC (PySem.W.findObj_own T.hdC hno rfl (by rw[hl,hu])) (handed_of ru) ⟨v,H1,I1.tok _,ru,q⟩
end
section
variable {K:PySem.W.Frag}{W:WX}{ρ:Pm}{G H:Hp}{μ:Mem}{σ:Slots}{δ:Env}{C:Addr}{nm f:Str}{ta:TA}{fa:AM}{te tx:TE}{fe fx:EM}
def xErr (nm f:Str)(fa:AM):XM:=fun δ μ=>(fa δ μ).bind fun xs μ1=>match xs with
 | [x]=>if μ.length≤μ1.length then .ok (.loc μ1.length) (μ1++[.er nm f [x]]) else .bad
 | _=>.bad
def xErr0 (nm:Str):XM:=fun _ μ=>.ok (.loc μ.length) (μ++[.er nm "" []])
theorem below_of {v:V}{x:DV}(R:Rel K ρ G H μ)(d:DvOk K ρ G v x):x.below μ.length:=by
 cases x with
 | dat _=>exact True.intro
 | loc m=>obtain⟨a,_,q⟩:=d;exact R.lt m a q
theorem snd_xErr (hC:ClsAt K nm C)(h:SndA K W ta fa):SndX K W (tEx C f ta) (xErr nm f fa):=fun ρ G H σ δ μ Q R E hp=>by
 unfold xErr at hp
 refine h ρ G H σ δ μ _ R E ?_
 cases e:fa δ μ with
 | bad=>rw[e] at hp;exact hp
 | exc x μ'=>rw[e] at hp;exact fun G' H' cls d t R' q=>hp ρ G' H' cls d t.toS R' q
 | ok xs μ1 =>
  rw[e] at hp
  simp only[Res.bind_ok] at hp
  intro G1 H1 vs t1 R1 d1
  match xs,d1,hp with
  | [],_,hp=>exact hp.elim
  | _::_::_,_,hp=>exact hp.elim
  | [x],d1,hp =>
   obtain⟨v,rfl,dv⟩:=d1.one
   simp only at hp
   by_cases hl:μ.length≤μ1.length
   case neg=>rw[if_neg hl] at hp;exact hp.elim
   rw[if_pos hl] at hp
   refine⟨v,rfl,fun a d ha hd hne=>?_⟩
   obtain⟨R2,t2,ex2⟩:=R1.layD (o:=.xd [(f,v)]) hd
   have ha2:upd H1 d (.xd [(f,v)]) a=none:=by rw[upd_ne hne];exact ha
   obtain⟨R3,t3⟩:=R2.lay (p:=a) (o:=EX a C (some d)) ha2
   obtain⟨n1,n2⟩:=fresh_ne R2 ha2
   have T3:TrS μ.length ρ G H ρ (upd G1 d (.xd [(f,v)])) (upd (upd H1 d (.xd [(f,v)])) a (EX a C (some d))):=(t1.trans (t2.trans t3)).toS
   have dv2:DvOk K (addP ρ μ1.length a) (upd G1 d (.xd [(f,v)])) v x:=dv.mono ex2 fun n b q=>by unfold addP;rw[if_neg (Nat.ne_of_lt (R1.lt n b q))];exact q
   obtain⟨R4,T4,up4,at4⟩:=R3.alloc (N:=μ.length) (p:=.er nm f [x]) hl T3 (by rw[upd_same];simp) n1 n2 (t1.th _ ha)
    ⟨fun y hy=>by cases List.mem_singleton.mp hy;exact below_of R1 dv,a,(C,some d),[v],by unfold addP;rw[if_pos rfl],upd_same,⟨hC,.inr ⟨d,rfl,upd_same⟩⟩,.cons dv2 .nil⟩
   exact hp _ _ _ _ T4 R4 ⟨a,rfl,at4⟩
theorem snd_xErr0 (hC:ClsAt K nm C):SndX K W (fun _ H Q=>∀ a,H a=none→Q (.ref a) (upd H a (EX a C none))) (xErr0 nm):=fun ρ G H σ δ μ Q R E hp=>by
 intro a ha
 obtain⟨R3,t3⟩:=R.lay (p:=a) (o:=EX a C none) ha
 obtain⟨n1,n2⟩:=fresh_ne R ha
 obtain⟨R4,T4,up4,at4⟩:=R3.alloc (N:=μ.length) (p:=.er nm "" []) (Nat.le_refl _) t3.toS (by rw[upd_same];simp) n1 n2 ha
  ⟨fun y hy=>(by cases hy),a,(C,none),[],by unfold addP;rw[if_pos rfl],upd_same,⟨hC,.inl ⟨rfl,rfl⟩⟩,.nil⟩
 exact hp _ _ _ _ T4 R4 ⟨a,rfl,at4⟩
def eExf (nm f:Str)(fe:EM):EM:=fun δ μ=>(frzV fe δ μ).bind fun x μ1=>match x with
 | .dat _=>.bad
 | .loc n=>match μ1[n]? with
  | some (.er nm' f' [y])=>if nm'=nm∧f'=f then .ok (ofV y) μ1 else .bad
  | _=>.bad
theorem snd_exf (hC:ClsAt K nm C)(h:SndE K W te fe):SndE K W (tExf C f te) (eExf nm f fe):=fun ρ G H σ δ μ Q R E hp=>by
 refine SndG.seq (t:=te) h.toV R E hp fun x μ1 G1 H1 v t1 R1 E1 d1 hp1=>?_
 cases x with
 | dat d=>exact hp1.elim
 | loc n =>
  obtain⟨a,rfl,ea⟩:=d1
  simp only at hp1
  split at hp1
  ·rename_i nm' f' y em
   by_cases c:nm'=nm∧f'=f
   case neg=>rw[if_neg c] at hp1;exact hp1.elim
   rw[if_pos c] at hp1
   obtain⟨rfl,rfl⟩:=c
   obtain⟨_,a',d,vs,h1,h2,⟨c1,h3⟩,h4⟩:=R1.pl n _ em
   rw[ea] at h1;cases h1
   rcases h3 with⟨_,rfl⟩|⟨q,e1,e2⟩
   ·cases h4
   ·obtain⟨C',od⟩:=d
    simp only at c1 e1 h2
    cases c1.uniq hC
    subst e1
    cases h4 with
    | cons dv dn =>
     cases dn
     rename_i v
     exact⟨a,q,[(f',v)],v,rfl,h2,R1.ex _ _ e2,by simp[List.lookup],hp1 G1 H1 v t1 R1 (RpR.ofV dv)⟩
  ·exact hp1.elim
def tabX (l:List (Str×Bool)):Kd→Option Bool
 | .x nm=>l.lookup nm
 | _=>none
theorem tabX_ok {l:List (Str×Bool)}{cv:Value}(T:TabE K cv l)(h:∀ nm b,l.lookup nm=some b→EoTy K nm):TabOk K (tabX l) fun t b=>PySem.W.kitOne K t cv=some b where
 ok:=fun kd b t e k=>by
  cases kd with
  | b s=>cases e
  | c nm=>cases e
  | x nm =>
   obtain⟨C,c1,rfl⟩:=k
   exact(T nm b e C c1).2
 cl:=fun nm b e=>by cases e
 xl:=fun nm b e=>h nm b e
def SameV (K:PySem.W.Frag)(H:Hp)(v u:V):Prop:=(∃ c,v=.ref c∧u=.ref c)∨∃ d,Rp K H v d∧Rp K H u d∧ItS d
def rNeP (K:PySem.W.Frag):R2:=fun x y H Q=>∃ a b vs us,x=.ref a∧y=.ref b∧H a=some (.lst vs)∧H b=some (.lst us)∧Paired (SameV K H) vs us∧Q (.bl false) H
end
section
variable {X:Cx}{pins:List (Addr×Obj)}{σ:Slots}{H:Hp}{s:Shared}
theorem items_sameV (I:Inv X pins σ H s){A:Around}(hu:A.units+62<cLine):∀ {vs us:List V} {a b:List Value},Paired (SameV X.K H) vs us→Vals vs a→Vals us b →
  a.length=b.length∧∀ j (h1:j<a.length) (h2:j<b.length),PySem.SeqAt.EqAt A s a[j] b[j] true
 | _,_,_,_,.nil,.nil,.nil=>⟨rfl,fun j h1 _=>absurd h1 (Nat.not_lt_zero _)⟩
 | _,_,_,_,.cons p ps,.cons v1 v2,.cons w1 w2=>by
  obtain⟨e,ih⟩:=items_sameV I hu ps v2 w2
  refine⟨by rw[List.length_cons,List.length_cons,e],fun j h1 h2=>?_⟩
  cases j with
  | succ j=>exact ih j (by simpa using h1) (by simpa using h2)
  | zero =>
   rcases p with⟨c,rfl,rfl⟩|⟨d,r1,q1,hi⟩
   ·cases v1
    cases w1
    exact PySem.SeqAt.EqAt.same _
   ·obtain⟨_,z⟩:=items_same (A:=A) I hu (ds:=[d]) (.cons r1 .nil) (.cons q1 .nil) (fun x hx=>by cases List.mem_singleton.mp hx;exact hi) (.cons v1 .nil) (.cons w1 .nil)
    exact z 0 (by simp) (by simp)
theorem op_neP (K:PySem.W.Frag)(hu:X.A.units+64<cLine)(hK:X.K=K:=by rfl):OpR X (compareOp .NotEq) (rNeP K):=by
 subst hK
 intro pins s σ H x y v u Q I rx ry h
 obtain⟨a,b,vs,us,rfl,rfl,a1,b1,hp,q⟩:=h
 cases rx
 cases ry
 obtain⟨its,rv,l1,_⟩:=I.list (.inl (.inl a1))
 obtain⟨its2,rv2,l2,_⟩:=I.list (.inl (.inl b1))
 obtain⟨el,he⟩:=items_sameV (A:=X.A.in1) I (by show X.A.units+1+62<cLine;omega) hp rv rv2
 obtain⟨o,n,ho,hc,hd,hdat⟩:=l1
 obtain⟨o2,n2,ho2,hc2,hd2,hdat2⟩:=l2
 refine(PySem.SeqAt.RcNeAt.lists (items:=its.toArray) (items2:=its2.toArray) (e:=fun _=>true) ⟨o,ho,hc,n,hdat⟩ ⟨o2,ho2,hc2,n2,hdat2⟩ (by simpa using el) (by omega) (fun j k1 k2=>?_)) _ _ _ _ ?_
 ·have:=he j (by simpa using k1) (by simpa using k2)
  simpa using this
 ·have e:(!(List.range its.toArray.size).all fun _=>true)=false:=by
   rw[show((List.range its.toArray.size).all fun _=>true)=true from List.all_eq_true.mpr fun _ _=>rfl];rfl
  rw[e]
  exact⟨.bl false,H,I,rfl,q⟩
end
section
variable {K:PySem.W.Frag}{W:WX}{ρ:Pm}{G H:Hp}{μ:Mem}{σ:Slots}{δ:Env}{te tx:TE}{fe fx:EM}
open Classical in
noncomputable def eNeRep (fe fx:EM)(k:Nat):EM:=fun δ μ=>(frzV fe δ μ).bind fun y μ1=>(frzV fx δ μ1).bind fun x μ2 =>
 if(∃ n,atPl μ2 y=some (n,List.replicate k x))∧k≤1000∧(∀ d,x=.dat d→ItS d) then .ok (.dat (.bl false)) μ2 else .bad
theorem rep_flat {α:Type}(a:α):∀ k:Nat,(List.replicate k [a]).flatten=List.replicate k a
 | 0=>rfl
 | k+1=>by rw[List.replicate_succ,List.flatten_cons,rep_flat a k,List.replicate_succ];rfl
theorem sameV_of {v u:V}{x:DV}{H':Hp}(ex:Ex G H')(h1:DvOk K ρ G v x)(h2:DvOk K ρ G u x)(hi:∀ d,x=.dat d→ItS d):SameV K H' v u:=by
 cases x with
 | dat d=>exact .inr ⟨d,Rp.mono ex h1,Rp.mono ex h2,hi d rfl⟩
 | loc n =>
  obtain⟨a,rfl,e1⟩:=h1
  obtain⟨b,rfl,e2⟩:=h2
  rw[e1] at e2;cases e2
  exact .inl ⟨a,rfl,rfl⟩
theorem sameV_rep {u:V}{x:DV}{H':Hp}(ex:Ex G H')(h2:DvOk K ρ G u x)(hi:∀ d,x=.dat d→ItS d):∀ {k:Nat} {vs:List V},DvL K ρ G vs (List.replicate k x)→Paired (SameV K H') vs (List.replicate k u)
 | 0,_,h=>by cases h;exact .nil
 | k+1,_,h=>by
  rw[List.replicate_succ] at h
  cases h with
  | cons a b=>rw[List.replicate_succ];exact .cons (sameV_of ex a h2 hi) (sameV_rep ex h2 hi b)
theorem snd_neRep {k:Nat}(he:SndE K W te fe)(hx:SndE K W tx fx):SndE K W (tOp (rNeP K) te (tOp rRep (tLst (tCons tx tNil)) (tC (.int (k:Nat))))) (eNeRep fe fx k):=fun ρ G H σ δ μ Q R E hp=>by
 refine SndG.seq (t:=te) he.toV R E hp fun y μ1 G1 H1 v t1 R1 E1 d1 hp1=>?_
 refine SndG.seq (t:=tx) hx.toV R1 E1 (hp1.shiftE t1) fun x μ2 G2 H2 u t2 R2 E2 d2 hp2=>?_
 have hp3:=hp2.shiftE t2
 by_cases c:(∃ n,atPl μ2 y=some (n,List.replicate k x))∧k≤1000∧(∀ d,x=.dat d→ItS d)
 case neg=>rw[if_neg c] at hp3;exact hp3.elim
 rw[if_pos c] at hp3
 obtain⟨⟨n,e⟩,hk,hi⟩:=c
 have sz:(1000:Nat)≤sizeLine:=by rw[sizeLine_eq];decide
 refine⟨Nat.le_trans (by simp) sz,fun p hp=>?_⟩
 refine⟨p,(k:Nat),[u],rfl,rfl,upd_same,by omega,by omega,by simp only[List.length_singleton,Nat.one_mul,Int.toNat_natCast];omega,fun p2 h2=>?_⟩
 obtain⟨R3,t3⟩:=R2.lay (p:=p) (o:=.lst [u]) hp
 obtain⟨R4,t4⟩:=R3.lay (p:=p2) (o:=.lst (List.replicate (k:Int).toNat [u]).flatten) h2
 obtain⟨a,vs,rfl,_,q3,q4,_,_⟩:=atPl_ok R4 (d1.mono t2.exG fun _ _ q=>q) e
 refine⟨a,p2,vs,_,rfl,rfl,q3,upd_same,?_,hp3 G2 _ _ (t3.trans t4) R4 (Rp.bl false)⟩
 have eq:(List.replicate (k:Int).toNat [u]).flatten=List.replicate k u:=by rw[Int.toNat_natCast,rep_flat]
 exact Eq.mpr (congrArg (Paired (SameV K _) vs) eq) (sameV_rep R4.ex d2 hi q4)
end
section
variable {X:Cx}{W:WX}{C fI:Addr}{nm f:Str}{a e x:Expr}{te tx:TE}{fe fx:EM}{p pos bp:Pos}
theorem px_err {ta:TA} {fa:AM} {k:Nat} (T:DX.ErrTxt X.prog X.K X.mg nm f C fI) (hC:ClsAt X.K nm C) (hr:Room k X.A) (ha:PMA X W [a] ta fa) (hg:Gl X nm) (hdb:(nm==("__debug__":Str))=false:=by decide)
  (he:starEach (a::[]) X.env=(false,eval a X.env)::starEach [] X.env:=by rfl) (hpl:(backTo pos (starEach [] X.env)).any (·.1)=false:=by rfl) :
  PMX X W (.Call (.Name nm p) [a] [] pos) (tEx C f ta) (xErr nm f fa):=⟨pe_ex T hr ha.pe hg hdb he hpl,snd_xErr hC ha.sd⟩
theorem px_err0 (T:Err0 X.K X.mg nm C) (hC:ClsAt X.K nm C) (hg:Gl X nm) (hdb:(nm==("__debug__":Str))=false:=by decide) :
  PMX X W (.Call (.Name nm p) [] [] pos) (fun _ H Q=>∀ a,H a=none→Q (.ref a) (upd H a (EX a C none))) (xErr0 nm):=⟨pe_ex0 T hg hdb,snd_xErr0 hC⟩
theorem pm_exf (K:PySem.W.Frag)(T:XfC K C)(hno:PySem.W.findIn K (.ref C) f=some none)(hC:ClsAt K nm C)(ho:PM X W e te fe)(hK:X.K=K:=by rfl)(hb:attributeBase e f X.env (eval e X.env)=eval e X.env:=by rfl) :
  PM X W (.Attribute e f pos) (tExf C f te) (eExf nm f fe):=by
 subst hK
 exact⟨pe_exf T hno ho.pe hb,snd_exf hC ho.sd⟩
end
section
variable {QR:R→Mem→Prop}{QV:DV→Mem→Prop}{E:Xc→Mem→Prop}{δ:Env}{μ:Mem}{nm f:Str}{fa:AM}{fe fx:EM}{n:Nat}
theorem x_xErr (h:Sat (fa δ μ) (fun xs μ1=>∃ x,xs=[x]∧μ.length≤μ1.length∧QV (.loc μ1.length) (μ1++[.er nm f [x]])) E):Sat (xErr nm f fa δ μ) QV E :=
 sat_bind (h.mono (fun xs m ⟨x,e,hl,q⟩=>by subst e;simp only;rw[if_pos hl];exact q) fun _ _ q=>q)
theorem x_xErr0 (h:QV (.loc μ.length) (μ++[.er nm "" []])):Sat (xErr0 nm δ μ) QV E:=h
theorem x_exf (h:Sat (frzV fe δ μ) (fun x μ1=>∃ n y,x=.loc n∧μ1[n]?=some (.er nm f [y])∧QR (ofV y) μ1) E):Sat (eExf nm f fe δ μ) QR E :=
 sat_bind (h.mono (fun x m ⟨n,y,e1,e2,q⟩=>by subst e1;simp only[e2,and_self,if_true];exact q) fun _ _ q=>q)
theorem l_isiX {l:List (Str×Bool)}{xs:List DV}{b:Bool}(e:μ[n]?=some (.er nm f xs))(hb:l.lookup nm=some b)(h:QR (.dat (.bl b)) μ):Sat (dIsi (tabX l) (.loc n) μ) QR E:=by
 have:dIsi (tabX l) (.loc n) μ=.ok (.dat (.bl b)) μ:=by
  unfold dIsi kindOf tabX
  simp only[e,hb]
 rw[this];exact h
theorem x_neRep {k:Nat}(hk:k≤1000)(h:Sat (frzV fe δ μ) (fun y μ1=>Sat (frzV fx δ μ1) (fun x μ2=>∃ m,y=.loc m∧μ2[m]?=some (.lst (List.replicate k x))∧(∀ d,x=.dat d→ItS d)∧QR (.dat (.bl false)) μ2) E) E):Sat (eNeRep fe fx k δ μ) QR E :=
 sat_bind (h.mono (fun y m q=>sat_bind (q.mono (fun x m2 ⟨i,e1,e2,e3,q'⟩=>by
  subst e1
  have c:(∃ n,atPl m2 (.loc i)=some (n,List.replicate k x))∧k≤1000∧(∀ d,x=.dat d→ItS d):=⟨⟨i,by unfold atPl;simp only[e2]⟩,hk,e3⟩
  rw[if_pos c];exact q') fun _ _ q=>q)) fun _ _ q=>q)
end
theorem kit_bO {K:PySem.W.Frag} {C C':Addr} {b:Bool} (c:PySem.W.isClsIn K C=true) (ty:PySem.W.typeIn K (.ref C)=some (.type "type")) (ne:(C'==C)=false) (h:PySem.W.subIn K (.ref C') (.ref C)=some b):PySem.W.kitOne K (.ref C') (.ref C)=some b:=by
 unfold PySem.W.kitOne PySem.W.kitCls;rw[if_neg (by simpa using ne)];simp only
 rw[if_pos (by rw[show(PySem.W.clsIn K C).isSome=true from c,ty];decide)];exact h
theorem kit_bT {K:PySem.W.Frag}{C:Addr}{T:String}{b:Bool}(h:PySem.W.subIn K (.ref C) (.type T)=some b)(hm:PySem.W.kitMeta T=true):PySem.W.kitOne K (.ref C) (.type T)=some b:=by
 unfold PySem.W.kitOne PySem.W.kitCls;rw[if_neg (by simp)];simp only;rw[if_pos hm];exact h
theorem eo_lk {K:PySem.W.Frag}{l:List (Str×Bool)}(h:∀ nm∈l.map (·.1),EoTy K nm):∀ nm b,l.lookup nm=some b→EoTy K nm:=fun nm b e=>by
 refine h nm ?_
 induction l with
 | nil=>cases e
 | cons p l ih =>
  obtain⟨m,c⟩:=p
  rw[List.lookup_cons] at e
  cases q:nm==m with
  | true=>rw[eq_of_beq q];simp
  | false=>rw[q] at e;exact List.mem_cons_of_mem _ (ih (fun z hz=>h z (List.mem_cons_of_mem _ hz)) e)
section
variable {X:Cx}{W:WX}{e x:Expr}{te tx:TE}{fe fx:EM}{pos bp:Pos}
theorem pt_neRep (K:PySem.W.Frag)(k:Nat){lp:Pos}{j ip}(hu:X.A.units+64<cLine)(he:PM X W e te fe)(hx:PM X W x tx fx)(hK:X.K=K:=by rfl)
  (hst:starEach [x] X.env=(false,eval x X.env)::starEach [] X.env:=by rfl) (hm:behindInMarks .NotEq (.BinOp (.List [x] lp) .Mult (.Constant (.int (k:Nat)) j ip) bp)=false:=by rfl) :
  PMT X W (.Compare e [.NotEq] [.BinOp (.List [x] lp) .Mult (.Constant (.int (k:Nat)) j ip) bp] pos) (tTest (tOp (rNeP K) te (tOp rRep (tLst (tCons tx tNil)) (tC (.int (k:Nat)))))) (tmB (eNeRep fe fx k)):=by
 subst hK
 exact⟨pt_cmpR (op_neP X.K hu) he.pe (pe_op op_rep (pe_lst (pa_cons hx.pe pa_nil hst)) pe_int) hm,snd_tmB (snd_neRep he.sd hx.sd) fun _ _ _ h=>h⟩
end
abbrev dMulW:DV→DV→Mem→Res R:=d2I (fun i j=>decide (i.natAbs.log2+j.natAbs.log2<1000000)) fun i j=>.int (i*j)
section
variable {K:PySem.W.Frag}{X:Cx}{W:WX}{pos:Pos}
theorem od_mulW:OpD K (rI CMulW fun i j=>V.int (i*j)) dMulW:=od_I (fun i j h=>of_decide_eq_true (p:=i.natAbs.log2+j.natAbs.log2<1000000) h) fun _ _ _=>.int _
theorem pm_mulW {a b:Expr}{ta tb:TE}{fa fb:EM}(ha:PM X W a ta fa)(hb:PM X W b tb fb):PM X W (.BinOp a .Mult b pos) (tOp (rI CMulW fun i j=>V.int (i*j)) ta tb) (eOp dMulW fa fb):=pm_op op_mulW od_mulW ha hb
theorem l_mulW {i j:Int}{μ:Mem}{QR:R→Mem→Prop}{E:Xc→Mem→Prop}(h:i.natAbs.log2+j.natAbs.log2<1000000)(q:QR (.dat (.int (i*j))) μ):Sat (dMulW (.dat (.int i)) (.dat (.int j)) μ) QR E:=by
 have:dMulW (.dat (.int i)) (.dat (.int j)) μ=.ok (.dat (.int (i*j))) μ:=by simp[d2I,asI,h]
 rw[this];exact q
end
section
variable {QR:R→Mem→Prop}{E:Xc→Mem→Prop}{μ:Mem}{δ:Env}{P:PO}{N:Nat}
theorem s_raise0 {nm:Str}(h:P.ex ⟨nm,[]⟩ δ μ):SatS (gRaise0 nm N δ μ) P:=h
theorem x_isE0 {i:Nat}{a C d:Addr}{tab:List (Str×Bool)}{nm:Str}{b:Bool}(e:δ[i]?=some (some (.dat (.err a C d nm []))))(hb:tab.lookup nm=some b)(h:QR (.dat (.bl b)) μ):Sat (eIsE0 i a C tab δ μ) QR E:=by
 unfold eIsE0 errAt0
 simp only[e,and_self,if_true,hb]
 exact h
def TryE (cat:List (Str×Bool))(i:Nat)(gs:Addr→Addr→Addr→SM)(gs0:Addr→Addr→SM)(N:Nat)(P:PO)(x:Xc)(δ:Env)(μ:Mem):Prop :=
 cat.lookup x.nm=some true∧((x.fs≠[]∧∃ o,(∀ a C d,SatS (gs a C d N (δ.set i (some (.dat (.err a C d x.nm x.fs)))) μ) (IsP o))∧SatS (unset i o) P) ∨
  (x.fs=[]∧∃ o,(∀ a C,SatS (gs0 a C N (δ.set i (some (.dat (.err a C 0 x.nm [])))) μ) (IsP o))∧SatS (unset i o) P))
theorem s_tryE {cat:List (Str×Bool)}{i:Nat}{gb:SM}{gs:Addr→Addr→Addr→SM}{gs0:Addr→Addr→SM}(h:SatS (gb N δ μ) { P with ex:=fun x δ' μ'=>TryE cat i gs gs0 N P x δ' μ' }):SatS (gTryE cat i gb gs gs0 N δ μ) P:=by
 unfold gTryE
 cases e:gb N δ μ with
 | exc x δ' μ' =>
  rw[e] at h
  obtain⟨h1,h2⟩:=h
  simp only[h1]
  rcases h2 with⟨h2,o,h3,h4⟩|⟨h2,o,h3,h4⟩
  ·rw[if_pos h2,suiteOut_of fun a C d=>isP (h3 a C d)]
   exact h4
  ·rw[if_neg (fun z=>z h2),suiteOut_of fun a C _=>isP (h3 a C)]
   exact h4
 | next _ _=>rw[e] at h;exact h
 | ret _ _=>rw[e] at h;exact h
 | brk _ _=>rw[e] at h;exact h
 | cnt _ _=>rw[e] at h;exact h
 | bad=>rw[e] at h;exact h
end
def letters:Str:="abcdefghijklmnopqrstuvwxyz"
def nameB (s:Str):Bool:=decide (1≤s.length∧s.length≤8)&&s.cps.toList.all fun c=>decide (c∈letters.cps.toList)
structure DdOk (as os:List Str)(xs:List Sp1):Prop where
 nd:as.Nodup
 nm:∀ s∈as++os,nameB s=true∧PyData.strOk s=true∧s.cps.size≤16
 a1:1≤as.length
 a3:as.length≤3
 o2:os.length≤2
 x1:1≤xs.length
 x8:xs.length≤8
 st:∀ x∈xs,StOk false (as++os) x
theorem menu_name:∀ s∈menu,nameB s=true:=by decide +kernel
theorem StOk.wide {b:Bool}{ss:List Str}{x:Sp1}(h:StOk b ss x):StOk false ss x:=⟨h.word,h.sh,h.ot⟩
theorem DeedOk.dd {b:Bool}{as os:List Str}{xs:List Sp1}(h:DeedOk b as os xs):DdOk as os xs :=
 ⟨(List.nodup_append.mp h.nd).1,fun s hs=>⟨menu_name s (h.me s hs),menu_fit s (h.me s hs)⟩,h.a1,h.a3,h.o2,h.x1,h.x8,fun x hx=>(h.st x hx).wide⟩
abbrev Dd:=List Str×List Sp1
def DdV (d:Dd):Prop:=∃ os,DdOk d.1 os d.2
abbrev Sd:=List (Str×Dd)
structure SdOk (sd:Sd):Prop where
 n1:1≤sd.length
 n5:sd.length≤5
 nd:(sd.map (·.1)).Nodup
 nm:∀ p∈sd,nameB p.1=true∧PyData.strOk p.1=true∧p.1.cps.size≤16
 dd:∀ p∈sd,DdV p.2
variable {sd sd':Sd}{n:Str}{d:Dd}
end DL
namespace K10
open PySem PySem.Spec PyProof.Rows L2 DL
noncomputable section
def topS (i:Nat):Stmt:=PySem.Challenge.pw_smallcount_k10_errors_apart.main.body.getD i (.Pass ⟨0,0,0,0⟩)
abbrev s__law_bag:Stmt:=topS 17
abbrev N__law_bag:List Str:=["_law_script","_law_cell"]
theorem sc__law_bag:FnScope N__law_bag ["_law_script"] (defScope s__law_bag):=⟨rfl,rfl,rfl,by decide +kernel,rfl,by decide +kernel,by decide +kernel⟩
abbrev s__law_errors:Stmt:=topS 20
abbrev N__law_errors:List Str:=["_law_x","_law_found"]
theorem sc__law_errors:FnScope N__law_errors ["_law_x"] (defScope s__law_errors):=⟨rfl,rfl,rfl,by decide +kernel,rfl,by decide +kernel,by decide +kernel⟩
abbrev s__law_flags:Stmt:=topS 21
abbrev N__law_flags:List Str:=["_law_e","_law_found"]
theorem sc__law_flags:FnScope N__law_flags ["_law_e"] (defScope s__law_flags):=⟨rfl,rfl,rfl,by decide +kernel,rfl,by decide +kernel,by decide +kernel⟩
abbrev s__law_take:Stmt:=topS 18
abbrev N__law_take:List Str:=["_law_bag_here","_law_many","_law_cell","_law_mixed","_law_drawn","_law_early","_law_second"]
theorem sc__law_take:FnScope N__law_take ["_law_bag_here","_law_many"] (defScope s__law_take):=⟨rfl,rfl,rfl,by decide +kernel,rfl,by decide +kernel,by decide +kernel⟩
abbrev s__law_value:Stmt:=topS 19
abbrev N__law_value:List Str:=["_law_bag_here","_law_great","_law_k","_law_menu"]
theorem sc__law_value:FnScope N__law_value ["_law_bag_here"] (defScope s__law_value):=⟨rfl,rfl,rfl,by decide +kernel,rfl,by decide +kernel,by decide +kernel⟩
abbrev s_law:Stmt:=topS 22
abbrev N_law:List Str:=["_law_script","_law_bag_here","_law_turn","_law_x","_law_some","_law_fields","_law_at","_law_e","_law_k"]
theorem sc_law:FnScope N_law ["_law_script"] (defScope s_law):=⟨rfl,rfl,rfl,by decide +kernel,rfl,by decide +kernel,by decide +kernel⟩
@[irreducible] def g__law_bag:SM :=
  (gRet (eLst (aCons (eD (.int 0)) (aCons (eD (.int 1234567891)) (aCons (eD (.int 0)) (aCons (eLc (imSeq (eSl (eVar 0) oNone (oSome (eD (.int 63))))) (tgName 1) tmYes (eCB (d1 dAbs) (aCons (eVar 1) aNil)) [1]) aNil))))))
def F__law_bag:List DV→Mem→Res R:=callD g__law_bag 1 1
theorem e__law_bag:F__law_bag=callD gBag 1 1:=by unfold F__law_bag g__law_bag gBag;try rfl
@[irreducible] def g__law_errors:SM :=
  (gSeq (gAsgX 1 (xLst (xaCons (xErr "Wrong" "place" (aCons (eVar 0) aNil)) (xaCons (xErr "NoDeed" "name" (aCons (eVar 0) aNil)) (xaCons (xErr "BadDeed" "name" (aCons (eVar 0) aNil)) (xaCons (xErr "BadStep" "index" (aCons (eVar 0) aNil)) (xaCons (xErr "BadProgram" "at" (aCons (eVar 0) aNil)) (xaCons (xErr "NoMark" "number" (aCons (eVar 0) aNil)) (xaCons (xErr "TooFew" "many" (aCons (eVar 0) aNil)) (xaCons (xErr "TooMany" "most" (aCons (eVar 0) aNil)) (xaCons (xErr "NotLoud" "name" (aCons (eVar 0) aNil)) xaNil)))))))))))
  (gRetX (xOp dAdd (xOf (eVar 1)) (xLst (xaCons (xErr "NoText" "line" (aCons (eVar 0) aNil)) (xaCons (xErr0 "BadCall") (xaCons (xErr0 "Nothing") (xaCons (xErr0 "BadEdit") (xaCons (xErr0 "NoCommand") xaNil)))))))))
def F__law_errors:List DV→Mem→Res DV:=callDX g__law_errors 1 1
theorem w__law_errors {a0:DV}{μ:Mem}{Q:DV→Mem→Prop}{E:Xc→Mem→Prop}(h:SatS (g__law_errors μ.length [some a0,none] μ) (endX μ.length Q E)):Sat (F__law_errors [a0] μ) Q E:=x_callX rfl h
@[irreducible] def g__law_flags:SM :=
  (gSeq (gAsg 1 (eLst (aCons (eUn (dIsi (tabX [("Wrong",true),("NoDeed",false),("BadDeed",false),("BadStep",false),("BadProgram",false),("NoMark",false),("TooFew",false),("TooMany",false),("NotLoud",false),("NoText",false),("BadCall",false),("Nothing",false),("BadEdit",false),("NoCommand",false)])) (eVar 0)) (aCons (eUn (dIsi (tabX [("Wrong",false),("NoDeed",true),("BadDeed",false),("BadStep",false),("BadProgram",false),("NoMark",false),("TooFew",false),("TooMany",false),("NotLoud",false),("NoText",false),("BadCall",false),("Nothing",false),("BadEdit",false),("NoCommand",false)])) (eVar 0)) (aCons (eUn (dIsi (tabX [("Wrong",false),("NoDeed",false),("BadDeed",true),("BadStep",false),("BadProgram",false),("NoMark",false),("TooFew",false),("TooMany",false),("NotLoud",false),("NoText",false),("BadCall",false),("Nothing",false),("BadEdit",false),("NoCommand",false)])) (eVar 0)) (aCons (eUn (dIsi (tabX [("Wrong",false),("NoDeed",false),("BadDeed",false),("BadStep",true),("BadProgram",false),("NoMark",false),("TooFew",false),("TooMany",false),("NotLoud",false),("NoText",false),("BadCall",false),("Nothing",false),("BadEdit",false),("NoCommand",false)])) (eVar 0)) aNil))))))
  (gSeq (gAsg 1 (eOp dAdd (eVar 1) (eLst (aCons (eUn (dIsi (tabX [("Wrong",false),("NoDeed",false),("BadDeed",false),("BadStep",false),("BadProgram",true),("NoMark",false),("TooFew",false),("TooMany",false),("NotLoud",false),("NoText",false),("BadCall",false),("Nothing",false),("BadEdit",false),("NoCommand",false)])) (eVar 0)) (aCons (eUn (dIsi (tabX [("Wrong",false),("NoDeed",false),("BadDeed",false),("BadStep",false),("BadProgram",false),("NoMark",true),("TooFew",false),("TooMany",false),("NotLoud",false),("NoText",false),("BadCall",false),("Nothing",false),("BadEdit",false),("NoCommand",false)])) (eVar 0)) (aCons (eUn (dIsi (tabX [("Wrong",false),("NoDeed",false),("BadDeed",false),("BadStep",false),("BadProgram",false),("NoMark",false),("TooFew",true),("TooMany",false),("NotLoud",false),("NoText",false),("BadCall",false),("Nothing",false),("BadEdit",false),("NoCommand",false)])) (eVar 0)) (aCons (eUn (dIsi (tabX [("Wrong",false),("NoDeed",false),("BadDeed",false),("BadStep",false),("BadProgram",false),("NoMark",false),("TooFew",false),("TooMany",true),("NotLoud",false),("NoText",false),("BadCall",false),("Nothing",false),("BadEdit",false),("NoCommand",false)])) (eVar 0)) aNil)))))))
  (gSeq (gAsg 1 (eOp dAdd (eVar 1) (eLst (aCons (eUn (dIsi (tabX [("Wrong",false),("NoDeed",false),("BadDeed",false),("BadStep",false),("BadProgram",false),("NoMark",false),("TooFew",false),("TooMany",false),("NotLoud",true),("NoText",false),("BadCall",false),("Nothing",false),("BadEdit",false),("NoCommand",false)])) (eVar 0)) (aCons (eUn (dIsi (tabX [("Wrong",false),("NoDeed",false),("BadDeed",false),("BadStep",false),("BadProgram",false),("NoMark",false),("TooFew",false),("TooMany",false),("NotLoud",false),("NoText",true),("BadCall",false),("Nothing",false),("BadEdit",false),("NoCommand",false)])) (eVar 0)) (aCons (eUn (dIsi (tabX [("Wrong",false),("NoDeed",false),("BadDeed",false),("BadStep",false),("BadProgram",false),("NoMark",false),("TooFew",false),("TooMany",false),("NotLoud",false),("NoText",false),("BadCall",true),("Nothing",false),("BadEdit",false),("NoCommand",false)])) (eVar 0)) (aCons (eUn (dIsi (tabX [("Wrong",false),("NoDeed",false),("BadDeed",false),("BadStep",false),("BadProgram",false),("NoMark",false),("TooFew",false),("TooMany",false),("NotLoud",false),("NoText",false),("BadCall",false),("Nothing",true),("BadEdit",false),("NoCommand",false)])) (eVar 0)) aNil)))))))
  (gRet (eOp dAdd (eVar 1) (eLst (aCons (eUn (dIsi (tabX [("Wrong",false),("NoDeed",false),("BadDeed",false),("BadStep",false),("BadProgram",false),("NoMark",false),("TooFew",false),("TooMany",false),("NotLoud",false),("NoText",false),("BadCall",false),("Nothing",false),("BadEdit",true),("NoCommand",false)])) (eVar 0)) (aCons (eUn (dIsi (tabX [("Wrong",false),("NoDeed",false),("BadDeed",false),("BadStep",false),("BadProgram",false),("NoMark",false),("TooFew",false),("TooMany",false),("NotLoud",false),("NoText",false),("BadCall",false),("Nothing",false),("BadEdit",false),("NoCommand",true)])) (eVar 0)) aNil))))))))
def F__law_flags:List DV→Mem→Res R:=callD g__law_flags 1 1
theorem w__law_flags {a0:DV}{μ:Mem}{Q:R→Mem→Prop}{E:Xc→Mem→Prop}(h:SatS (g__law_flags μ.length [some a0,none] μ) (endP μ.length Q E)):Sat (F__law_flags [a0] μ) Q E:=x_call rfl h
@[irreducible] def g__law_take:SM :=
  (gSeq (gIf (tmB (eOp dEq (eOp dIx (eVar 0) (eD (.int 0))) (eD (.int 0)))) (gSeq (gAsg 2 (eD (.int 0)))
  (gSeq (gIf (tmB (eOp dLt (eOp dIx (eVar 0) (eD (.int 2))) (eCB (d1 dLen) (aCons (eOp dIx (eVar 0) (eD (.int 3))) aNil)))) (gAsg 2 (eOp dIx (eOp dIx (eVar 0) (eD (.int 3))) (eOp dIx (eVar 0) (eD (.int 2))))) gNext)
  (gSeq (gAugS (fun i j=>i+j) (eVar 0) (eD (.int 2)) (eD (.int 1)))
  (gSeq (gIf (tmB (eOp dGe (eVar 2) (eD (.int 1000000000000000000)))) (gSet (eVar 0) (eD (.int 0)) (eVar 2)) gNext)
  (gSeq (gAsg 3 (eOp dAdd (eOp dAdd (eOp dMul (eOp dIx (eVar 0) (eD (.int 1))) (eD (.int 48271))) (eOp dMod (eCB (d1 dInt) (aCons (eVar 2) aNil)) (eD (.int 2147483647)))) (eOp dMul (eD (.int 7919)) (eOp dIx (eVar 0) (eD (.int 2))))))
  (gSet (eVar 0) (eD (.int 1)) (eOp dMod (eCB (d1 dInt) (aCons (eVar 3) aNil)) (eD (.int 2147483647))))))))) gNext)
  (gSeq (gIf (tmB (eOp dGt (eOp dIx (eVar 0) (eD (.int 0))) (eD (.int 0)))) (gSeq (gAsg 4 (eOp dMod (eCB (d1 dInt) (aCons (eOp dIx (eVar 0) (eD (.int 0))) aNil)) (eVar 1)))
  (gSeq (gSet (eVar 0) (eD (.int 0)) (eOp dDiv (eCB (d1 dInt) (aCons (eOp dIx (eVar 0) (eD (.int 0))) aNil)) (eVar 1)))
  (gRet (eVar 4)))) gNext)
  (gSeq (gAsg 5 (eOp dMod (eCB (d1 dInt) (aCons (eOp dMul (eOp dAdd (eOp dIx (eVar 0) (eD (.int 1))) (eD (.int 1))) (eD (.int 39373))) aNil)) (eD (.int 1000000007))))
  (gSeq (gAsg 6 (eOp dMod (eCB (d1 dInt) (aCons (eOp dMul (eOp dMod (eCB (d1 dInt) (aCons (eOp dMul (eVar 5) (eVar 5)) aNil)) (eD (.int 998244353))) (eD (.int 30011))) aNil)) (eD (.int 998244353))))
  (gRet (eOp dMod (eCB (d1 dInt) (aCons (eOp dDiv (eVar 6) (eD (.int 7))) aNil)) (eVar 1)))))))
def F__law_take:List DV→Mem→Res R:=callD g__law_take 2 5
theorem e__law_take:F__law_take=callD gTake 2 5:=by unfold F__law_take g__law_take gTake;try rfl
@[irreducible] def b__law_value_1:SM :=
  (gAsg 1 (eOp dMulW (eVar 1) (eOp dPow (eD (.int 10)) (eD (.int 64)))))
@[irreducible] def g__law_value:SM :=
  (gSeq (gAsg 1 (eOp dPow (eD (.int 10)) (eD (.int 64))))
  (gSeq (gFor [true,true,false,false] (imRng (aCons (eD (.int 100)) aNil)) (tgName 2) b__law_value_1)
  (gSeq (gAsgX 3 (xLst (xaCons (xOf (eD .non)) (xaCons (xOf (eD (.str ""))) (xaCons (xOf (eTup (aCons (eD (.str "a")) (aCons (eD (.str "b")) aNil)))) (xaCons (xOf (eLst (aCons (eD (.int 0)) (aCons (eLst (aCons (eD (.int 1)) aNil)) aNil)))) (xaCons (xOf (eDisK (psCons (eD (.str "a")) (eLst (aCons (eD (.int 2)) aNil)) psNil))) (xaCons (xOf (eD (.bl true))) (xaCons (xOf (eOp dPow (eD (.int 10)) (eD (.int 39)))) (xaCons (xOf (eUn dNeg (eVar 1))) (xaCons (xOf (eLst (aCons (eLst aNil) aNil))) (xaCons (xOf (eTup aNil)) (xaCons (xOf (eD (.int 0))) (xaCons (xOf (eD (.bl false))) xaNil))))))))))))))
  (gRetX (xOf (eOp dIxA (eVar 3) (eCB F__law_take (aCons (eVar 0) (aCons (eD (.int 12)) aNil)))))))))
def F__law_value:List DV→Mem→Res DV:=callDX g__law_value 1 3
theorem w__law_value {a0:DV}{μ:Mem}{Q:DV→Mem→Prop}{E:Xc→Mem→Prop}(h:SatS (g__law_value μ.length [some a0,none,none,none] μ) (endX μ.length Q E)):Sat (F__law_value [a0] μ) Q E:=x_callX rfl h
@[irreducible] def b_law_1:SM :=
  (gSeq (gIf (tmB (eOp dNeS (eCB F__law_flags (aCons (eVar 7) aNil)) (eLc (imRng (aCons (eD (.int 14)) aNil)) (tgName 8) tmYes (eOp dEqA (eVar 8) (eVar 6)) [8]))) (gRet (eD (.bl false))) gNext)
  (gIf (tmOr (tmNot (tmB (eUn (dIsi (tabX [("Wrong",true),("NoDeed",true),("BadDeed",true),("BadStep",true),("BadProgram",true),("NoMark",true),("TooFew",true),("TooMany",true),("NotLoud",true),("NoText",true),("BadCall",true),("Nothing",true),("BadEdit",true),("NoCommand",true)])) (eVar 7)))) (tmNot (tmB (eUn (dIsi (tabX [("Wrong",true),("NoDeed",true),("BadDeed",true),("BadStep",true),("BadProgram",true),("NoMark",true),("TooFew",true),("TooMany",true),("NotLoud",true),("NoText",true),("BadCall",true),("Nothing",true),("BadEdit",true),("NoCommand",true)])) (eVar 7))))) (gRet (eD (.bl false))) gNext))
@[irreducible] def b_law_2:SM :=
  (gSeq (gAsgX 3 (xCall F__law_value (aCons (eVar 1) aNil)))
  (gSeq (gAsgX 4 (xCall F__law_errors (aCons (eVar 3) aNil)))
  (gSeq (gIf (tmB (eUn (dIsi (tabT "list" [])) (eVar 3))) (gDrop (eBM tyL dAppend (eVar 3) (aCons (eD (.str "more")) aNil))) gNext)
  (gSeq (gIf (tmB (eUn (dIsi (tabT "dict" [])) (eVar 3))) (gDPut (eVar 3) (eD (.str "more")) (eD (.int 0))) gNext)
  (gSeq (gAsgX 5 (xLst (xaCons (xOf (eExf "Wrong" "place" (eOp dIxA (eVar 4) (eD (.int 0))))) (xaCons (xOf (eExf "NoDeed" "name" (eOp dIxA (eVar 4) (eD (.int 1))))) (xaCons (xOf (eExf "BadDeed" "name" (eOp dIxA (eVar 4) (eD (.int 2))))) (xaCons (xOf (eExf "BadStep" "index" (eOp dIxA (eVar 4) (eD (.int 3))))) (xaCons (xOf (eExf "BadProgram" "at" (eOp dIxA (eVar 4) (eD (.int 4))))) (xaCons (xOf (eExf "NoMark" "number" (eOp dIxA (eVar 4) (eD (.int 5))))) (xaCons (xOf (eExf "TooFew" "many" (eOp dIxA (eVar 4) (eD (.int 6))))) xaNil)))))))))
  (gSeq (gAsgX 5 (xOp dAdd (xOf (eVar 5)) (xLst (xaCons (xOf (eExf "TooMany" "most" (eOp dIxA (eVar 4) (eD (.int 7))))) (xaCons (xOf (eExf "NotLoud" "name" (eOp dIxA (eVar 4) (eD (.int 8))))) (xaCons (xOf (eExf "NoText" "line" (eOp dIxA (eVar 4) (eD (.int 9))))) xaNil))))))
  (gSeq (gIf (tmB (eNeRep (eVar 5) (eVar 3) 10)) (gRet (eD (.bl false))) gNext)
  (gForPE [true,true,true,true,true,true,false,false,false] (aCons (eVar 4) aNil) 6 7 b_law_1))))))))
@[irreducible] def g_law:SM :=
  (gSeq (gNew 1 (eCB F__law_bag (aCons (eVar 0) aNil)))
  (gSeq (gFor [true,true,false,false,false,false,false,false,false] (imRng (aCons (eD (.int 8)) aNil)) (tgName 2) b_law_2)
  (gRet (eD (.bl true)))))
def F_law:List DV→Mem→Res R:=callD g_law 1 8
theorem w_law {a0:DV}{μ:Mem}{Q:R→Mem→Prop}{E:Xc→Mem→Prop}(h:SatS (g_law μ.length [some a0,none,none,none,none,none,none,none,none] μ) (endP μ.length Q E)):Sat (F_law [a0] μ) Q E:=x_call rfl h
structure Tx (P:Program)(w:World)(K:PySem.W.Frag)(mg:Str→Option Value)(c_BadCall:Addr)(c_BadDeed:Addr)(c_BadEdit:Addr)(c_BadProgram:Addr)(c_BadStep:Addr)(c_CountError:Addr)(c_NoCommand:Addr)(c_NoDeed:Addr)(c_NoMark:Addr)(c_NoText:Addr)(c_NotLoud:Addr)(c_Nothing:Addr)(c_TooFew:Addr)(c_TooMany:Addr)(c_Wrong:Addr)(i_BadDeed:Addr)(i_BadProgram:Addr)(i_BadStep:Addr)(i_NoDeed:Addr)(i_NoMark:Addr)(i_NoText:Addr)(i_NotLoud:Addr)(i_TooFew:Addr)(i_TooMany:Addr)(i_Wrong:Addr):Prop where
 m_ValueError:mg "ValueError"=none
 m_abs:mg "abs"=none
 m_dict:mg "dict"=none
 m_enumerate:mg "enumerate"=none
 m_int:mg "int"=none
 m_isinstance:mg "isinstance"=none
 m_len:mg "len"=none
 m_list:mg "list"=none
 m_range:mg "range"=none
 g_BadCall:mg "BadCall"=some (.ref c_BadCall)
 k_BadCall:ClsAt K "BadCall" c_BadCall
 g_BadDeed:mg "BadDeed"=some (.ref c_BadDeed)
 k_BadDeed:ClsAt K "BadDeed" c_BadDeed
 g_BadEdit:mg "BadEdit"=some (.ref c_BadEdit)
 k_BadEdit:ClsAt K "BadEdit" c_BadEdit
 g_BadProgram:mg "BadProgram"=some (.ref c_BadProgram)
 k_BadProgram:ClsAt K "BadProgram" c_BadProgram
 g_BadStep:mg "BadStep"=some (.ref c_BadStep)
 k_BadStep:ClsAt K "BadStep" c_BadStep
 g_CountError:mg "CountError"=some (.ref c_CountError)
 k_CountError:ClsAt K "CountError" c_CountError
 g_NoCommand:mg "NoCommand"=some (.ref c_NoCommand)
 k_NoCommand:ClsAt K "NoCommand" c_NoCommand
 g_NoDeed:mg "NoDeed"=some (.ref c_NoDeed)
 k_NoDeed:ClsAt K "NoDeed" c_NoDeed
 g_NoMark:mg "NoMark"=some (.ref c_NoMark)
 k_NoMark:ClsAt K "NoMark" c_NoMark
 g_NoText:mg "NoText"=some (.ref c_NoText)
 k_NoText:ClsAt K "NoText" c_NoText
 g_NotLoud:mg "NotLoud"=some (.ref c_NotLoud)
 k_NotLoud:ClsAt K "NotLoud" c_NotLoud
 g_Nothing:mg "Nothing"=some (.ref c_Nothing)
 k_Nothing:ClsAt K "Nothing" c_Nothing
 g_TooFew:mg "TooFew"=some (.ref c_TooFew)
 k_TooFew:ClsAt K "TooFew" c_TooFew
 g_TooMany:mg "TooMany"=some (.ref c_TooMany)
 k_TooMany:ClsAt K "TooMany" c_TooMany
 g_Wrong:mg "Wrong"=some (.ref c_Wrong)
 k_Wrong:ClsAt K "Wrong" c_Wrong
 er_BadDeed:DX.ErrTxt P K mg "BadDeed" "name" c_BadDeed i_BadDeed
 er_BadProgram:DX.ErrTxt P K mg "BadProgram" "at" c_BadProgram i_BadProgram
 er_BadStep:DX.ErrTxt P K mg "BadStep" "index" c_BadStep i_BadStep
 er_NoDeed:DX.ErrTxt P K mg "NoDeed" "name" c_NoDeed i_NoDeed
 er_NoMark:DX.ErrTxt P K mg "NoMark" "number" c_NoMark i_NoMark
 er_NoText:DX.ErrTxt P K mg "NoText" "line" c_NoText i_NoText
 er_NotLoud:DX.ErrTxt P K mg "NotLoud" "name" c_NotLoud i_NotLoud
 er_TooFew:DX.ErrTxt P K mg "TooFew" "many" c_TooFew i_TooFew
 er_TooMany:DX.ErrTxt P K mg "TooMany" "most" c_TooMany i_TooMany
 er_Wrong:DX.ErrTxt P K mg "Wrong" "place" c_Wrong i_Wrong
 e0_BadCall:Err0 K mg "BadCall" c_BadCall
 e0_BadEdit:Err0 K mg "BadEdit" c_BadEdit
 e0_NoCommand:Err0 K mg "NoCommand" c_NoCommand
 e0_Nothing:Err0 K mg "Nothing" c_Nothing
 xf_BadDeed:XfC K c_BadDeed
 xn_BadDeed:PySem.W.findIn K (.ref c_BadDeed) "name"=some none
 xf_BadProgram:XfC K c_BadProgram
 xn_BadProgram:PySem.W.findIn K (.ref c_BadProgram) "at"=some none
 xf_BadStep:XfC K c_BadStep
 xn_BadStep:PySem.W.findIn K (.ref c_BadStep) "index"=some none
 xf_NoDeed:XfC K c_NoDeed
 xn_NoDeed:PySem.W.findIn K (.ref c_NoDeed) "name"=some none
 xf_NoMark:XfC K c_NoMark
 xn_NoMark:PySem.W.findIn K (.ref c_NoMark) "number"=some none
 xf_NoText:XfC K c_NoText
 xn_NoText:PySem.W.findIn K (.ref c_NoText) "line"=some none
 xf_NotLoud:XfC K c_NotLoud
 xn_NotLoud:PySem.W.findIn K (.ref c_NotLoud) "name"=some none
 xf_TooFew:XfC K c_TooFew
 xn_TooFew:PySem.W.findIn K (.ref c_TooFew) "many"=some none
 xf_TooMany:XfC K c_TooMany
 xn_TooMany:PySem.W.findIn K (.ref c_TooMany) "most"=some none
 xf_Wrong:XfC K c_Wrong
 xn_Wrong:PySem.W.findIn K (.ref c_Wrong) "place"=some none
 iT_dict:TabOk K (tabT "dict" []) fun t b=>PySem.W.kitOne K t (.type "dict")=some b
 iT_list:TabOk K (tabT "list" []) fun t b=>PySem.W.kitOne K t (.type "list")=some b
 iX_BadCall:TabOk K (tabX [("Wrong",false),("NoDeed",false),("BadDeed",false),("BadStep",false),("BadProgram",false),("NoMark",false),("TooFew",false),("TooMany",false),("NotLoud",false),("NoText",false),("BadCall",true),("Nothing",false),("BadEdit",false),("NoCommand",false)]) fun t b=>PySem.W.kitOne K t (.ref c_BadCall)=some b
 iX_BadDeed:TabOk K (tabX [("Wrong",false),("NoDeed",false),("BadDeed",true),("BadStep",false),("BadProgram",false),("NoMark",false),("TooFew",false),("TooMany",false),("NotLoud",false),("NoText",false),("BadCall",false),("Nothing",false),("BadEdit",false),("NoCommand",false)]) fun t b=>PySem.W.kitOne K t (.ref c_BadDeed)=some b
 iX_BadEdit:TabOk K (tabX [("Wrong",false),("NoDeed",false),("BadDeed",false),("BadStep",false),("BadProgram",false),("NoMark",false),("TooFew",false),("TooMany",false),("NotLoud",false),("NoText",false),("BadCall",false),("Nothing",false),("BadEdit",true),("NoCommand",false)]) fun t b=>PySem.W.kitOne K t (.ref c_BadEdit)=some b
 iX_BadProgram:TabOk K (tabX [("Wrong",false),("NoDeed",false),("BadDeed",false),("BadStep",false),("BadProgram",true),("NoMark",false),("TooFew",false),("TooMany",false),("NotLoud",false),("NoText",false),("BadCall",false),("Nothing",false),("BadEdit",false),("NoCommand",false)]) fun t b=>PySem.W.kitOne K t (.ref c_BadProgram)=some b
 iX_BadStep:TabOk K (tabX [("Wrong",false),("NoDeed",false),("BadDeed",false),("BadStep",true),("BadProgram",false),("NoMark",false),("TooFew",false),("TooMany",false),("NotLoud",false),("NoText",false),("BadCall",false),("Nothing",false),("BadEdit",false),("NoCommand",false)]) fun t b=>PySem.W.kitOne K t (.ref c_BadStep)=some b
 iX_CountError:TabOk K (tabX [("Wrong",true),("NoDeed",true),("BadDeed",true),("BadStep",true),("BadProgram",true),("NoMark",true),("TooFew",true),("TooMany",true),("NotLoud",true),("NoText",true),("BadCall",true),("Nothing",true),("BadEdit",true),("NoCommand",true)]) fun t b=>PySem.W.kitOne K t (.ref c_CountError)=some b
 iX_NoCommand:TabOk K (tabX [("Wrong",false),("NoDeed",false),("BadDeed",false),("BadStep",false),("BadProgram",false),("NoMark",false),("TooFew",false),("TooMany",false),("NotLoud",false),("NoText",false),("BadCall",false),("Nothing",false),("BadEdit",false),("NoCommand",true)]) fun t b=>PySem.W.kitOne K t (.ref c_NoCommand)=some b
 iX_NoDeed:TabOk K (tabX [("Wrong",false),("NoDeed",true),("BadDeed",false),("BadStep",false),("BadProgram",false),("NoMark",false),("TooFew",false),("TooMany",false),("NotLoud",false),("NoText",false),("BadCall",false),("Nothing",false),("BadEdit",false),("NoCommand",false)]) fun t b=>PySem.W.kitOne K t (.ref c_NoDeed)=some b
 iX_NoMark:TabOk K (tabX [("Wrong",false),("NoDeed",false),("BadDeed",false),("BadStep",false),("BadProgram",false),("NoMark",true),("TooFew",false),("TooMany",false),("NotLoud",false),("NoText",false),("BadCall",false),("Nothing",false),("BadEdit",false),("NoCommand",false)]) fun t b=>PySem.W.kitOne K t (.ref c_NoMark)=some b
 iX_NoText:TabOk K (tabX [("Wrong",false),("NoDeed",false),("BadDeed",false),("BadStep",false),("BadProgram",false),("NoMark",false),("TooFew",false),("TooMany",false),("NotLoud",false),("NoText",true),("BadCall",false),("Nothing",false),("BadEdit",false),("NoCommand",false)]) fun t b=>PySem.W.kitOne K t (.ref c_NoText)=some b
 iX_NotLoud:TabOk K (tabX [("Wrong",false),("NoDeed",false),("BadDeed",false),("BadStep",false),("BadProgram",false),("NoMark",false),("TooFew",false),("TooMany",false),("NotLoud",true),("NoText",false),("BadCall",false),("Nothing",false),("BadEdit",false),("NoCommand",false)]) fun t b=>PySem.W.kitOne K t (.ref c_NotLoud)=some b
 iX_Nothing:TabOk K (tabX [("Wrong",false),("NoDeed",false),("BadDeed",false),("BadStep",false),("BadProgram",false),("NoMark",false),("TooFew",false),("TooMany",false),("NotLoud",false),("NoText",false),("BadCall",false),("Nothing",true),("BadEdit",false),("NoCommand",false)]) fun t b=>PySem.W.kitOne K t (.ref c_Nothing)=some b
 iX_TooFew:TabOk K (tabX [("Wrong",false),("NoDeed",false),("BadDeed",false),("BadStep",false),("BadProgram",false),("NoMark",false),("TooFew",true),("TooMany",false),("NotLoud",false),("NoText",false),("BadCall",false),("Nothing",false),("BadEdit",false),("NoCommand",false)]) fun t b=>PySem.W.kitOne K t (.ref c_TooFew)=some b
 iX_TooMany:TabOk K (tabX [("Wrong",false),("NoDeed",false),("BadDeed",false),("BadStep",false),("BadProgram",false),("NoMark",false),("TooFew",false),("TooMany",true),("NotLoud",false),("NoText",false),("BadCall",false),("Nothing",false),("BadEdit",false),("NoCommand",false)]) fun t b=>PySem.W.kitOne K t (.ref c_TooMany)=some b
 iX_Wrong:TabOk K (tabX [("Wrong",true),("NoDeed",false),("BadDeed",false),("BadStep",false),("BadProgram",false),("NoMark",false),("TooFew",false),("TooMany",false),("NotLoud",false),("NoText",false),("BadCall",false),("Nothing",false),("BadEdit",false),("NoCommand",false)]) fun t b=>PySem.W.kitOne K t (.ref c_Wrong)=some b
 iX_ValueError:TabOk K (tabX [("Wrong",true),("NoDeed",true),("BadDeed",true),("BadStep",true),("BadProgram",true),("NoMark",true),("TooFew",true),("TooMany",true),("NotLoud",true),("NoText",true),("BadCall",true),("Nothing",true),("BadEdit",true),("NoCommand",true)]) fun t b=>PySem.W.kitOne K t (.type "ValueError")=some b
section
variable {P:Program}{w:World}{K:PySem.W.Frag}{mg:Str→Option Value}{base:Heap}{c_BadCall c_BadDeed c_BadEdit c_BadProgram c_BadStep c_CountError c_NoCommand c_NoDeed c_NoMark c_NoText c_NotLoud c_Nothing c_TooFew c_TooMany c_Wrong i_BadDeed i_BadProgram i_BadStep i_NoDeed i_NoMark i_NoText i_NotLoud i_TooFew i_TooMany i_Wrong:Addr}
set_option maxHeartbeats 4000000 in
theorem ok__law_bag {f:Addr} {fd:FuncData} (F:Fun K "_law_bag" "_law_bag" s__law_bag f fd) (hm:mg "_law_bag"=some (.ref f)) (T:Tx P w K mg c_BadCall c_BadDeed c_BadEdit c_BadProgram c_BadStep c_CountError c_NoCommand c_NoDeed c_NoMark c_NoText c_NotLoud c_Nothing c_TooFew c_TooMany c_Wrong i_BadDeed i_BadProgram i_BadStep i_NoDeed i_NoMark i_NoText i_NotLoud i_TooFew i_TooMany i_Wrong) :FnD P w K mg base CX0 1 "_law_bag" 1 F__law_bag:=by
 refine fn_ok F sc__law_bag hm rfl rfl (fun _ _ _ _ _ _ us hl=>match us,hl with | [_],_=>rfl) fun cdv A out s H E hr hgd=>?_
 have nd:=(sc__law_bag).nd
 unfold g__law_bag
 exact Exists.intro _ (ss_one (sm_ret (pm_lst (pma_cons pm_int (pma_cons pm_int (pma_cons pm_int (pma_cons (pm_lc (own:=[("_law_cell",1)]) rfl nd (mi_seqK K (pm_slK K (pm_var 0) mo_none (mo_some pm_int))) (blkOk_by (N:=N__law_bag) (sc:=defScope s__law_bag) (by decide +kernel)) (fun _ _ _ _ _=>(pg_nm 1 nd)) (by decide) (fun _ _ _ _ _=>ts_nil) (fun _ _ _ _ _=>(pm_cbK call_abs (cd_abs (K:=K)) (by rfl) T.m_abs (by decide +kernel) (pma_cons (pm_var 1) pma_nil)))) pma_nil)))))))
set_option maxHeartbeats 4000000 in
theorem ok__law_errors {f:Addr} {fd:FuncData} (F:Fun K "_law_errors" "_law_errors" s__law_errors f fd) (hm:mg "_law_errors"=some (.ref f)) (T:Tx P w K mg c_BadCall c_BadDeed c_BadEdit c_BadProgram c_BadStep c_CountError c_NoCommand c_NoDeed c_NoMark c_NoText c_NotLoud c_Nothing c_TooFew c_TooMany c_Wrong i_BadDeed i_BadProgram i_BadStep i_NoDeed i_NoMark i_NoText i_NotLoud i_TooFew i_TooMany i_Wrong) :FnDX P w K mg base CX0 1 "_law_errors" 1 F__law_errors:=by
 refine fn_okg F sc__law_errors hm rfl rfl (fun _ _ _ _ _ _ us hl=>match us,hl with | [_],_=>rfl) fun cdv A out s H E hr hgd=>?_
 have nd:=(sc__law_errors).nd
 unfold g__law_errors
 exact Exists.intro _ (ss_cons (sm_asgX 1 nd (px_lst (pxa_cons (px_err T.er_Wrong T.k_Wrong hr (pma_cons (pm_var 0) pma_nil) rfl) (pxa_cons (px_err T.er_NoDeed T.k_NoDeed hr (pma_cons (pm_var 0) pma_nil) rfl) (pxa_cons (px_err T.er_BadDeed T.k_BadDeed hr (pma_cons (pm_var 0) pma_nil) rfl) (pxa_cons (px_err T.er_BadStep T.k_BadStep hr (pma_cons (pm_var 0) pma_nil) rfl) (pxa_cons (px_err T.er_BadProgram T.k_BadProgram hr (pma_cons (pm_var 0) pma_nil) rfl) (pxa_cons (px_err T.er_NoMark T.k_NoMark hr (pma_cons (pm_var 0) pma_nil) rfl) (pxa_cons (px_err T.er_TooFew T.k_TooFew hr (pma_cons (pm_var 0) pma_nil) rfl) (pxa_cons (px_err T.er_TooMany T.k_TooMany hr (pma_cons (pm_var 0) pma_nil) rfl) (pxa_cons (px_err T.er_NotLoud T.k_NotLoud hr (pma_cons (pm_var 0) pma_nil) rfl) pxa_nil)))))))))))
   (ss_one (sm_retX (px_addK K (px_of (pm_var 1)) (px_lst (pxa_cons (px_err T.er_NoText T.k_NoText hr (pma_cons (pm_var 0) pma_nil) rfl) (pxa_cons (px_err0 T.e0_BadCall T.k_BadCall rfl) (pxa_cons (px_err0 T.e0_Nothing T.k_Nothing rfl) (pxa_cons (px_err0 T.e0_BadEdit T.k_BadEdit rfl) (pxa_cons (px_err0 T.e0_NoCommand T.k_NoCommand rfl) pxa_nil))))))))))
set_option maxHeartbeats 4000000 in
theorem ok__law_flags {f:Addr} {fd:FuncData} (F:Fun K "_law_flags" "_law_flags" s__law_flags f fd) (hm:mg "_law_flags"=some (.ref f)) (T:Tx P w K mg c_BadCall c_BadDeed c_BadEdit c_BadProgram c_BadStep c_CountError c_NoCommand c_NoDeed c_NoMark c_NoText c_NotLoud c_Nothing c_TooFew c_TooMany c_Wrong i_BadDeed i_BadProgram i_BadStep i_NoDeed i_NoMark i_NoText i_NotLoud i_TooFew i_TooMany i_Wrong) :FnD P w K mg base CX0 1 "_law_flags" 1 F__law_flags:=by
 refine fn_ok F sc__law_flags hm rfl rfl (fun _ _ _ _ _ _ us hl=>match us,hl with | [_],_=>rfl) fun cdv A out s H E hr hgd=>?_
 have nd:=(sc__law_flags).nd
 unfold g__law_flags
 exact Exists.intro _ (ss_cons (sm_asg 1 nd (pm_lst (pma_cons (pm_isi K rfl T.m_isinstance (.own c_Wrong) T.iX_Wrong (pm_var 0) (pe_glob (v:=.ref c_Wrong) rfl T.g_Wrong rfl)) (pma_cons (pm_isi K rfl T.m_isinstance (.own c_NoDeed) T.iX_NoDeed (pm_var 0) (pe_glob (v:=.ref c_NoDeed) rfl T.g_NoDeed rfl)) (pma_cons (pm_isi K rfl T.m_isinstance (.own c_BadDeed) T.iX_BadDeed (pm_var 0) (pe_glob (v:=.ref c_BadDeed) rfl T.g_BadDeed rfl)) (pma_cons (pm_isi K rfl T.m_isinstance (.own c_BadStep) T.iX_BadStep (pm_var 0) (pe_glob (v:=.ref c_BadStep) rfl T.g_BadStep rfl)) pma_nil))))))
   (ss_cons (sm_asg 1 nd (pm_addK K (pm_var 1) (pm_lst (pma_cons (pm_isi K rfl T.m_isinstance (.own c_BadProgram) T.iX_BadProgram (pm_var 0) (pe_glob (v:=.ref c_BadProgram) rfl T.g_BadProgram rfl)) (pma_cons (pm_isi K rfl T.m_isinstance (.own c_NoMark) T.iX_NoMark (pm_var 0) (pe_glob (v:=.ref c_NoMark) rfl T.g_NoMark rfl)) (pma_cons (pm_isi K rfl T.m_isinstance (.own c_TooFew) T.iX_TooFew (pm_var 0) (pe_glob (v:=.ref c_TooFew) rfl T.g_TooFew rfl)) (pma_cons (pm_isi K rfl T.m_isinstance (.own c_TooMany) T.iX_TooMany (pm_var 0) (pe_glob (v:=.ref c_TooMany) rfl T.g_TooMany rfl)) pma_nil)))))))
   (ss_cons (sm_asg 1 nd (pm_addK K (pm_var 1) (pm_lst (pma_cons (pm_isi K rfl T.m_isinstance (.own c_NotLoud) T.iX_NotLoud (pm_var 0) (pe_glob (v:=.ref c_NotLoud) rfl T.g_NotLoud rfl)) (pma_cons (pm_isi K rfl T.m_isinstance (.own c_NoText) T.iX_NoText (pm_var 0) (pe_glob (v:=.ref c_NoText) rfl T.g_NoText rfl)) (pma_cons (pm_isi K rfl T.m_isinstance (.own c_BadCall) T.iX_BadCall (pm_var 0) (pe_glob (v:=.ref c_BadCall) rfl T.g_BadCall rfl)) (pma_cons (pm_isi K rfl T.m_isinstance (.own c_Nothing) T.iX_Nothing (pm_var 0) (pe_glob (v:=.ref c_Nothing) rfl T.g_Nothing rfl)) pma_nil)))))))
   (ss_one (sm_ret (pm_addK K (pm_var 1) (pm_lst (pma_cons (pm_isi K rfl T.m_isinstance (.own c_BadEdit) T.iX_BadEdit (pm_var 0) (pe_glob (v:=.ref c_BadEdit) rfl T.g_BadEdit rfl)) (pma_cons (pm_isi K rfl T.m_isinstance (.own c_NoCommand) T.iX_NoCommand (pm_var 0) (pe_glob (v:=.ref c_NoCommand) rfl T.g_NoCommand rfl)) pma_nil)))))))))
set_option maxHeartbeats 4000000 in
theorem ok__law_take {f:Addr} {fd:FuncData} (F:Fun K "_law_take" "_law_take" s__law_take f fd) (hm:mg "_law_take"=some (.ref f)) (T:Tx P w K mg c_BadCall c_BadDeed c_BadEdit c_BadProgram c_BadStep c_CountError c_NoCommand c_NoDeed c_NoMark c_NoText c_NotLoud c_Nothing c_TooFew c_TooMany c_Wrong i_BadDeed i_BadProgram i_BadStep i_NoDeed i_NoMark i_NoText i_NotLoud i_TooFew i_TooMany i_Wrong) :FnD P w K mg base CX0 1 "_law_take" 2 F__law_take:=by
 refine fn_ok F sc__law_take hm rfl rfl (fun _ _ _ _ _ _ us hl=>match us,hl with | [_,_],_=>rfl) fun cdv A out s H E hr hgd=>?_
 have nd:=(sc__law_take).nd
 unfold g__law_take
 exact Exists.intro _ (ss_cons (sm_if (pt_cmpK (op_eqK K hr.units) (od_eq (K:=K)) (pm_idxK K (pm_var 0) pm_int (fun _ _=>rfl)) pm_int (nomark _)) (ss_cons (sm_asg 2 nd pm_int)
   (ss_cons (sm_if (pt_cmpK op_lt (od_lt (K:=K)) (pm_idxK K (pm_var 0) pm_int (fun _ _=>rfl)) (pm_cbK (call_lenK K) (cd_len (K:=K)) (by rfl) T.m_len PySem.boot_len (pma_cons (pm_idxK K (pm_var 0) pm_int (fun _ _=>rfl)) pma_nil)) (nomark _)) (ss_one (sm_asg 2 nd (pm_idxK K (pm_idxK K (pm_var 0) pm_int (fun _ _=>rfl)) (pm_idxK K (pm_var 0) pm_int (fun _ _=>rfl)) (fun _ _=>rfl)))) ss_nil)
   (ss_cons (sm_augSK K (pm_var 0) pm_int pm_int)
   (ss_cons (sm_if (pt_cmpK op_ge (od_ge (K:=K)) (pm_var 2) pm_int (nomark _)) (ss_one (sm_set (pm_var 0) pm_int (pm_var 2))) ss_nil)
   (ss_cons (sm_asg 3 nd (pm_addK K (pm_addK K (pm_mul (pm_idxK K (pm_var 0) pm_int (fun _ _=>rfl)) pm_int) (pm_mod (pm_ctK call_int1 (cd_int (K:=K)) (by rfl) T.m_int (by decide +kernel) (pma_cons (pm_var 2) pma_nil)) pm_int)) (pm_mul pm_int (pm_idxK K (pm_var 0) pm_int (fun _ _=>rfl)))))
   (ss_one (sm_set (pm_var 0) pm_int (pm_mod (pm_ctK call_int1 (cd_int (K:=K)) (by rfl) T.m_int (by decide +kernel) (pma_cons (pm_var 3) pma_nil)) pm_int)))))))) ss_nil)
   (ss_cons (sm_if (pt_cmpK op_gt (od_gt (K:=K)) (pm_idxK K (pm_var 0) pm_int (fun _ _=>rfl)) pm_int (nomark _)) (ss_cons (sm_asg 4 nd (pm_mod (pm_ctK call_int1 (cd_int (K:=K)) (by rfl) T.m_int (by decide +kernel) (pma_cons (pm_idxK K (pm_var 0) pm_int (fun _ _=>rfl)) pma_nil)) (pm_var 1)))
   (ss_cons (sm_set (pm_var 0) pm_int (pm_div (pm_ctK call_int1 (cd_int (K:=K)) (by rfl) T.m_int (by decide +kernel) (pma_cons (pm_idxK K (pm_var 0) pm_int (fun _ _=>rfl)) pma_nil)) (pm_var 1)))
   (ss_one (sm_ret (pm_var 4))))) ss_nil)
   (ss_cons (sm_asg 5 nd (pm_mod (pm_ctK call_int1 (cd_int (K:=K)) (by rfl) T.m_int (by decide +kernel) (pma_cons (pm_mul (pm_addK K (pm_idxK K (pm_var 0) pm_int (fun _ _=>rfl)) pm_int) pm_int) pma_nil)) pm_int))
   (ss_cons (sm_asg 6 nd (pm_mod (pm_ctK call_int1 (cd_int (K:=K)) (by rfl) T.m_int (by decide +kernel) (pma_cons (pm_mul (pm_mod (pm_ctK call_int1 (cd_int (K:=K)) (by rfl) T.m_int (by decide +kernel) (pma_cons (pm_mul (pm_var 5) (pm_var 5)) pma_nil)) pm_int) pm_int) pma_nil)) pm_int))
   (ss_one (sm_ret (pm_mod (pm_ctK call_int1 (cd_int (K:=K)) (by rfl) T.m_int (by decide +kernel) (pma_cons (pm_div (pm_var 6) pm_int) pma_nil)) (pm_var 1))))))))
set_option maxHeartbeats 4000000 in
theorem ok__law_value {f:Addr} {fd:FuncData} (F:Fun K "_law_value" "_law_value" s__law_value f fd) (hm:mg "_law_value"=some (.ref f)) (T:Tx P w K mg c_BadCall c_BadDeed c_BadEdit c_BadProgram c_BadStep c_CountError c_NoCommand c_NoDeed c_NoMark c_NoText c_NotLoud c_Nothing c_TooFew c_TooMany c_Wrong i_BadDeed i_BadProgram i_BadStep i_NoDeed i_NoMark i_NoText i_NotLoud i_TooFew i_TooMany i_Wrong) (C__law_take:FnD P w K mg base CX0 1 "_law_take" 2 F__law_take):FnDX P w K mg base CX0 2 "_law_value" 1 F__law_value:=by
 refine fn_okg F sc__law_value hm rfl rfl (fun _ _ _ _ _ _ us hl=>match us,hl with | [_],_=>rfl) fun cdv A out s H E hr hgd=>?_
 have nd:=(sc__law_value).nd
 unfold g__law_value b__law_value_1
 exact Exists.intro _ (ss_cons (sm_asg 1 nd (pm_op op_pow (od_pow (K:=K)) pm_int pm_int))
   (ss_cons (sm_for [true,true,false,false] PassesOwn.never rfl (mi_rng1 rfl T.m_range (pma_cons pm_int pma_nil)) (pg_nm 2 nd) (ss_one (sm_asg 1 nd (pm_mulW (pm_var 1) (pm_op op_pow (od_pow (K:=K)) pm_int pm_int)))))
   (ss_cons (sm_asgX 3 nd (px_lst (pxa_cons (px_of pm_non) (pxa_cons (px_of pm_str) (pxa_cons (px_of (pm_tup (pma_cons pm_str (pma_cons pm_str pma_nil)))) (pxa_cons (px_of (pm_lst (pma_cons pm_int (pma_cons (pm_lst (pma_cons pm_int pma_nil)) pma_nil)))) (pxa_cons (px_of (pm_disK (pp_cons pm_str (pm_lst (pma_cons pm_int pma_nil)) pp_nil))) (pxa_cons (px_of pm_bl) (pxa_cons (px_of (pm_op op_pow (od_pow (K:=K)) pm_int pm_int)) (pxa_cons (px_of (pm_neg (pm_var 1))) (pxa_cons (px_of (pm_lst (pma_cons (pm_lst pma_nil) pma_nil))) (pxa_cons (px_of (pm_tup pma_nil)) (pxa_cons (px_of pm_int) (pxa_cons (px_of pm_bl) pxa_nil))))))))))))))
   (ss_one (sm_retX (px_of (pm_idxA K hr.units (pm_var 3) (pm_callK C__law_take (hr.mono (by decide)) hgd rfl pass_0 (pma_cons (pm_var 0) (pma_cons pm_int pma_nil))) (fun _ _=>rfl))))))))
set_option maxHeartbeats 4000000 in
theorem ok_law {f:Addr} {fd:FuncData} (F:Fun K "law" "law" s_law f fd) (T:Tx P w K mg c_BadCall c_BadDeed c_BadEdit c_BadProgram c_BadStep c_CountError c_NoCommand c_NoDeed c_NoMark c_NoText c_NotLoud c_Nothing c_TooFew c_TooMany c_Wrong i_BadDeed i_BadProgram i_BadStep i_NoDeed i_NoMark i_NoText i_NotLoud i_TooFew i_TooMany i_Wrong) (C__law_bag:FnD P w K mg base CX0 1 "_law_bag" 1 F__law_bag) (C__law_errors:FnDX P w K mg base CX0 1 "_law_errors" 1 F__law_errors) (C__law_flags:FnD P w K mg base CX0 1 "_law_flags" 1 F__law_flags) (C__law_value:FnDX P w K mg base CX0 2 "_law_value" 1 F__law_value):FnG P w K mg base CX0 3 f fd ["_law_script"] (spF K 1 F_law):=by
 refine fn_okG F sc_law rfl rfl fun cdv A out s H E hr hgd=>?_
 have nd:=(sc_law).nd
 unfold g_law b_law_2 b_law_1
 exact Exists.intro _ (ss_cons (sm_new 1 nd (pm_callK C__law_bag (hr.mono (by decide)) hgd rfl pass_0 (pma_cons (pm_var 0) pma_nil)))
   (ss_cons (sm_for [true,true,false,false,false,false,false,false,false] PassesOwn.never rfl (mi_rng1 rfl T.m_range (pma_cons pm_int pma_nil)) (pg_nm 2 nd) (ss_cons (sm_asgX 3 nd (px_callK C__law_value (hr.mono (by decide)) hgd rfl pass_0 (pma_cons (pm_var 1) pma_nil)))
   (ss_cons (sm_asgX 4 nd (px_callK C__law_errors (hr.mono (by decide)) hgd rfl pass_0 (pma_cons (pm_var 3) pma_nil)))
   (ss_cons (sm_if (pt_of (pm_isi K rfl T.m_isinstance (.ty "list") T.iT_list (pm_var 3) (pe_tyN rfl T.m_list (by decide +kernel)))) (ss_one (sm_expr (pm_bmK K PySem.F.plainAttrs_list PySem.F.slot_list_append PySem.F.type_list_append mt_append td_list md_append (pm_var 3) (pma_cons pm_str pma_nil)))) ss_nil)
   (ss_cons (sm_if (pt_of (pm_isi K rfl T.m_isinstance (.ty "dict") T.iT_dict (pm_var 3) (pe_tyN rfl T.m_dict (by decide +kernel)))) (ss_one (sm_dpt hr.units (pm_var 3) pm_str pm_int)) ss_nil)
   (ss_cons (sm_asgX 5 nd (px_lst (pxa_cons (px_of (pm_exf K T.xf_Wrong T.xn_Wrong T.k_Wrong (pm_idxA K hr.units (pm_var 4) pm_int (fun _ _=>rfl)))) (pxa_cons (px_of (pm_exf K T.xf_NoDeed T.xn_NoDeed T.k_NoDeed (pm_idxA K hr.units (pm_var 4) pm_int (fun _ _=>rfl)))) (pxa_cons (px_of (pm_exf K T.xf_BadDeed T.xn_BadDeed T.k_BadDeed (pm_idxA K hr.units (pm_var 4) pm_int (fun _ _=>rfl)))) (pxa_cons (px_of (pm_exf K T.xf_BadStep T.xn_BadStep T.k_BadStep (pm_idxA K hr.units (pm_var 4) pm_int (fun _ _=>rfl)))) (pxa_cons (px_of (pm_exf K T.xf_BadProgram T.xn_BadProgram T.k_BadProgram (pm_idxA K hr.units (pm_var 4) pm_int (fun _ _=>rfl)))) (pxa_cons (px_of (pm_exf K T.xf_NoMark T.xn_NoMark T.k_NoMark (pm_idxA K hr.units (pm_var 4) pm_int (fun _ _=>rfl)))) (pxa_cons (px_of (pm_exf K T.xf_TooFew T.xn_TooFew T.k_TooFew (pm_idxA K hr.units (pm_var 4) pm_int (fun _ _=>rfl)))) pxa_nil)))))))))
   (ss_cons (sm_asgX 5 nd (px_addK K (px_of (pm_var 5)) (px_lst (pxa_cons (px_of (pm_exf K T.xf_TooMany T.xn_TooMany T.k_TooMany (pm_idxA K hr.units (pm_var 4) pm_int (fun _ _=>rfl)))) (pxa_cons (px_of (pm_exf K T.xf_NotLoud T.xn_NotLoud T.k_NotLoud (pm_idxA K hr.units (pm_var 4) pm_int (fun _ _=>rfl)))) (pxa_cons (px_of (pm_exf K T.xf_NoText T.xn_NoText T.k_NoText (pm_idxA K hr.units (pm_var 4) pm_int (fun _ _=>rfl)))) pxa_nil))))))
   (ss_cons (sm_if (pt_neRep K 10 (Nat.lt_of_succ_lt hr.units65) (pm_var 5) (pm_var 3)) (ss_one (sm_ret pm_bl)) ss_nil)
   (ss_one (sm_forPE K [true,true,true,true,true,true,false,false,false] 6 7 nd PassesOwn.never rfl rfl T.m_enumerate (pma_cons (pm_var 4) pma_nil) (ss_cons (sm_if (pt_cmpK (op_neS K hr.units) (od_neS (K:=K)) (pm_callK C__law_flags (hr.mono (by decide)) hgd rfl pass_0 (pma_cons (pm_var 7) pma_nil)) (pm_lc (own:=[("_law_k",8)]) rfl nd (mi_rng1 rfl T.m_range (pma_cons pm_int pma_nil)) (blkOk_by (N:=N_law) (sc:=defScope s_law) (by decide +kernel)) (fun _ _ _ _ _=>(pg_nm 8 nd)) (by decide) (fun _ _ _ _ _=>ts_nil) (fun _ _ _ _ _=>(pm_cmpK (op_eqA K hr.units) (od_eqA (K:=K)) (pm_var 8) (pm_var 6) (nomark _)))) (nomark _)) (ss_one (sm_ret pm_bl)) ss_nil)
   (ss_one (sm_if (PMW.t (w_or (pt_no (pt_of (pm_isi K rfl T.m_isinstance (.own c_CountError) T.iX_CountError (pm_var 7) (pe_glob (v:=.ref c_CountError) rfl T.g_CountError rfl)))) (w_or1 (pt_no (pt_of (pm_isi K rfl T.m_isinstance (.ty "ValueError") T.iX_ValueError (pm_var 7) (pe_tyN rfl T.m_ValueError (by decide +kernel)))))))) (ss_one (sm_ret pm_bl)) ss_nil)))))))))))))
   (ss_one (sm_ret pm_bl))))
end
end
end K10
set_option maxHeartbeats 8000000
noncomputable section
namespace K10
open PySem PySem.Spec PyProof.Rows L2 DL
local macro_rules | `(tactic| walk_at "isi") => `(tactic| first
 | (with_reducible refine is_non_int ?_)|(with_reducible refine is_non_bool ?_)|(with_reducible refine is_non_str ?_)|(with_reducible refine is_non_tuple ?_)|(with_reducible refine is_non_list ?_)|(with_reducible refine is_non_dict ?_)|(with_reducible refine is2_non_list_tuple ?_)|(with_reducible refine isC_non ?_)|(with_reducible refine is_bl_int ?_)|(with_reducible refine is_bl_bool ?_)|(with_reducible refine is_bl_str ?_)|(with_reducible refine is_bl_tuple ?_)|(with_reducible refine is_bl_list ?_)|(with_reducible refine is_bl_dict ?_)|(with_reducible refine is2_bl_list_tuple ?_)|(with_reducible refine isC_bl ?_)|(with_reducible refine is_int_int ?_)|(with_reducible refine is_int_bool ?_)|(with_reducible refine is_int_str ?_)|(with_reducible refine is_int_tuple ?_)|(with_reducible refine is_int_list ?_)|(with_reducible refine is_int_dict ?_)|(with_reducible refine is2_int_list_tuple ?_)|(with_reducible refine isC_int ?_)|(with_reducible refine is_str_int ?_)|(with_reducible refine is_str_bool ?_)|(with_reducible refine is_str_str ?_)|(with_reducible refine is_str_tuple ?_)|(with_reducible refine is_str_list ?_)|(with_reducible refine is_str_dict ?_)|(with_reducible refine is2_str_list_tuple ?_)|(with_reducible refine isC_str ?_)|(with_reducible refine is_tup_int ?_)|(with_reducible refine is_tup_bool ?_)|(with_reducible refine is_tup_str ?_)|(with_reducible refine is_tup_tuple ?_)|(with_reducible refine is_tup_list ?_)|(with_reducible refine is_tup_dict ?_)|(with_reducible refine is2_tup_list_tuple ?_)|(with_reducible refine isC_tup ?_)|(with_reducible refine is_lst_int ?_)|(with_reducible refine is_lst_bool ?_)|(with_reducible refine is_lst_str ?_)|(with_reducible refine is_lst_tuple ?_)|(with_reducible refine is_lst_list ?_)|(with_reducible refine is_lst_dict ?_)|(with_reducible refine is2_lst_list_tuple ?_)|(with_reducible refine isC_lst ?_)|(with_reducible refine is_fro_int ?_)|(with_reducible refine is_fro_bool ?_)|(with_reducible refine is_fro_str ?_)|(with_reducible refine is_fro_tuple ?_)|(with_reducible refine is_fro_list ?_)|(with_reducible refine is_fro_dict ?_)|(with_reducible refine is2_fro_list_tuple ?_)|(with_reducible refine isC_fro ?_)|(with_reducible refine is_dct_int ?_)|(with_reducible refine is_dct_bool ?_)|(with_reducible refine is_dct_str ?_)|(with_reducible refine is_dct_tuple ?_)|(with_reducible refine is_dct_list ?_)|(with_reducible refine is_dct_dict ?_)|(with_reducible refine is2_dct_list_tuple ?_)|(with_reducible refine isC_dct ?_)|(with_reducible refine isC_own ?_)
 | (with_reducible refine is2_ins (by simp) ?_)|(with_reducible refine is_ins_int (by simp) ?_)|(with_reducible refine is_ins_bool (by simp) ?_)|(with_reducible refine is_ins_str (by simp) ?_)|(with_reducible refine is_ins_tuple (by simp) ?_)|(with_reducible refine is_ins_list (by simp) ?_)|(with_reducible refine is_ins_dict (by simp) ?_)|fail "isi")
local macro_rules | `(tactic| walk_at "tk") => `(tactic| first | exact List.take_length | exact take_cons | exact take_consA | exact mem_take | exact take_len | fail "tk")
local macro_rules | `(tactic| walk_at "al") => `(tactic| first | exact allDat_mapf _ _ | exact allDat_map _ | (repeat (first | exact al_nil | apply al_cons)))
local macro_rules | `(tactic| walk_at "set") => `(tactic| (simp only [List.set_cons_succ, List.set_cons_zero]; exact rfl))
local macro_rules | `(tactic| walk_at "sxS") => `(tactic| first | (with_reducible refine set_now (by walk_at "set") ?_) | (with_reducible refine s_seq ?_) | (with_reducible refine s_asg ?_) | (with_reducible refine s_ret ?_) | (with_reducible refine s_if ?_) | (with_reducible refine s_drop ?_) | (with_reducible refine s_next ?_) | (with_reducible refine s_new ?_) | (with_reducible refine s_for ?_) | (with_reducible refine s_tgt ?_) | (with_reducible refine s_par ?_) | (with_reducible refine s_disp ?_) | (with_reducible refine s_wh ?_) | (with_reducible refine s_fld ?_) | (with_reducible refine s_set ?_) | (with_reducible refine s_aug rfl ?_) | (with_reducible refine s_par2 ?_) | (with_reducible refine s_raiseK ?_) | (with_reducible refine s_raise0 ?_) | (with_reducible refine s_tryE ?_) | (with_reducible refine s_try ?_) | (with_reducible refine s_dput ?_) | (with_reducible refine s_tput ?_) | (with_reducible refine s_par3 ?_) | (with_reducible refine s_swp ?_) | (with_reducible refine r_dat ?_) | (with_reducible refine r_loc ?_) | (with_reducible refine s_bld ?_) | (with_reducible refine s_bseq ?_) | (with_reducible refine s_pub ?_) | (with_reducible refine s_tgtM ?_) | (with_reducible refine s_daug ?_) | (with_reducible refine s_fldaug ?_) | fail "sxS")
local macro_rules | `(tactic| walk_at "sxV") => `(tactic| first | (with_reducible refine v_var rfl ?_) | (with_reducible refine v_D ?_) | (with_reducible refine x_fz ?_) | (with_reducible refine x_xof ?_) | (with_reducible refine x_xcall ?_) | (with_reducible refine x_xmeth ?_) | (with_reducible refine x_xmake ?_) | (with_reducible refine x_xix (k := 0) ?_) | (with_reducible refine x_xix (k := 1) ?_) | (with_reducible refine x_xtup ?_) | fail "sxV")
local macro_rules | `(tactic| walk_at "sxA") => `(tactic| first | (with_reducible refine a_consK ?_) | (with_reducible refine a_nilK ?_) | (with_reducible refine n_consK ?_) | (with_reducible refine n_nilK ?_) | (with_reducible refine a_starK ?_) | (with_reducible refine xa_nilK ?_) | (with_reducible refine xa_consK ?_) | fail "sxA")
local macro_rules | `(tactic| walk_at "sxT") => `(tactic| first | (with_reducible refine t_B ?_) | (with_reducible refine t_not ?_) | (with_reducible refine t_and ?_) | (with_reducible refine t_or ?_) | (with_reducible refine t_yes ?_) | fail "sxT")
local macro_rules | `(tactic| walk_at "sxO") => `(tactic| first | (with_reducible refine o_noneK ?_) | (with_reducible refine o_someK ?_) | fail "sxO")
local macro_rules | `(tactic| walk_at "sxP") => `(tactic| first | (with_reducible refine p_nilK ?_) | (with_reducible refine p_consK ?_) | fail "sxP")
local macro_rules | `(tactic| walk_at "sxI") => `(tactic| first | (with_reducible refine i_seq ?_) | (with_reducible refine i_keysT ?_) | (with_reducible refine i_itemsT ?_) | (with_reducible refine i_keysK ?_) | (with_reducible refine i_itemsK ?_) | (with_reducible refine i_vals ?_) | (with_reducible refine i_dwn ?_) | (with_reducible refine i_enum ?_) | (with_reducible refine i_enumL ?_) | (with_reducible refine i_rng ?_) | (with_reducible refine i_rng2 ?_) | (with_reducible refine i_keysL ?_) | (with_reducible refine i_itemsL ?_) | fail "sxI")
local macro_rules | `(tactic| walk_at "sxF") => `(tactic| first | (with_reducible refine z_dat ?_) | (with_reducible refine z_loc ?_) | (with_reducible refine z_ofD ?_) | (with_reducible refine z_nlm ?_) | (with_reducible refine z_nlf ?_) | (with_reducible refine z_nlc ?_) | (with_reducible refine z_nl (by walk_at "al") ?_) | fail "sxF")
local macro_rules | `(tactic| walk_at "sxC") => `(tactic| first | (with_reducible refine if_T ?_) | (with_reducible refine if_F ?_) | (with_reducible refine if_bT (by decide +kernel) ?_) | (with_reducible refine if_bF (by decide +kernel) ?_) | (with_reducible refine if_bT (by with_unfolding_all exact rfl) ?_) | (with_reducible refine if_bF (by with_unfolding_all exact rfl) ?_) | fail "sxC")
local macro_rules | `(tactic| walk_at "sxD") => `(tactic| first | (with_reducible refine l_addI ?_) | (with_reducible refine l_sub ?_) | (with_reducible refine l_neg ?_) | (with_reducible refine l_eqI ?_) | (with_reducible refine l_neI ?_) | (with_reducible refine l_eqS ?_) | (with_reducible refine l_neS ?_) | (with_reducible refine l_lt ?_) | (with_reducible refine l_le ?_) | (with_reducible refine l_gt ?_) | (with_reducible refine l_ge ?_) | (with_reducible refine l_ixT rfl ?_) | (with_reducible refine l_ixL rfl ?_) | (with_reducible refine l_slT ?_) | (with_reducible refine l_slL ?_) | (with_reducible refine l_lenT ?_) | (with_reducible refine l_lenL ?_) | (with_reducible refine l_int ?_) | (with_reducible refine l_intB ?_) | (with_reducible refine l_listT ?_) | (with_reducible refine l_listL ?_) | (with_reducible refine l_tupL ?_) | (with_reducible refine l_tupT ?_) | (with_reducible refine l_inT ?_) | (with_reducible refine l_ninT ?_) | (with_reducible refine l_inL ?_) | (with_reducible refine l_ninL ?_) | (with_reducible refine l_mm ?_) | (with_reducible refine w_ix ?_; first | (with_reducible refine l_ixT rfl ?_) | (with_reducible refine l_ixL rfl ?_) | (with_reducible refine l_ix0T ?_) | (with_reducible refine l_ix0L ?_)) | (with_reducible refine w_in ?_; first | (with_reducible refine l_inT ?_) | (with_reducible refine l_ninT ?_) | (with_reducible refine l_inL ?_) | (with_reducible refine l_ninL ?_)) | (with_reducible refine w_eq ?_; first | (with_reducible refine l_eqI ?_) | (with_reducible refine l_eqS ?_)) | (with_reducible refine w_eqC (w_eq ?_); first | (with_reducible refine l_eqI ?_) | (with_reducible refine l_eqS ?_)) | (with_reducible refine w_len ?_; first | (with_reducible refine l_lenT ?_) | (with_reducible refine l_lenL ?_)) | (with_reducible refine w_list ?_; first | (with_reducible refine l_listT ?_) | (with_reducible refine l_listL ?_)) | (walk_at "isi") | fail "sxD")
local macro_rules | `(tactic| walk_at "sxR") => `(tactic| first | (with_reducible refine x_op ?_) | (with_reducible refine x_cb ?_) | (with_reducible refine x_varD rfl ?_) | (with_reducible refine x_varL rfl ?_) | (with_reducible refine x_D ?_) | (with_reducible refine x_if ?_) | (with_reducible refine x_tup ?_) | (with_reducible refine x_lst ?_) | (with_reducible refine x_bm ?_) | (with_reducible refine x_bm0 ?_) | (with_reducible refine x_sl ?_) | (with_reducible refine x_and ?_) | (with_reducible refine x_or ?_) | (with_reducible refine x_not ?_) | (with_reducible refine x_un ?_) | (with_reducible refine x_isN ?_) | (with_reducible refine x_notN ?_) | (with_reducible refine x_chain ?_) | (with_reducible refine x_inK ?_) | (with_reducible refine x_lc ?_) | (with_reducible refine x_fldK ?_) | (with_reducible refine x_meth ?_) | (with_reducible refine x_make ?_) | (with_reducible refine x_lenO ?_) | (with_reducible refine x_eqO ?_) | (with_reducible refine x_inO ?_) | (with_reducible refine x_kget ?_) | (with_reducible refine x_lk ?_) | (with_reducible refine x_disK ?_) | (with_reducible refine x_dnew ?_) | (with_reducible refine x_dget1 ?_) | (with_reducible refine x_tget ?_) | (with_reducible refine x_tin ?_) | (with_reducible refine x_disT ?_) | (with_reducible refine x_dc ?_) | (with_reducible refine x_lc2 ?_) | (with_reducible refine x_disU ?_) | (with_reducible refine x_neO ?_) | (with_reducible refine x_cbT ?_) | (with_reducible refine x_listRng ?_) | (with_reducible refine x_isE rfl rfl ?_) | (with_reducible refine x_isE0 rfl rfl ?_) | (with_reducible refine l_eq1 ?_) | (with_reducible refine x_ymethA ?_) | (with_reducible refine x_yix (k := 0) ?_) | (with_reducible refine x_yix (k := 1) ?_) | (with_reducible refine x_ycall ?_) | (with_reducible refine l_sortF ?_) | (with_reducible refine x_xf rfl rfl ?_) | (walk_at "sxD") | (with_reducible refine x_dpop1 ?_) | (with_reducible refine x_dpop2 ?_) | (with_reducible refine x_dictZip ?_) | fail "sxR")
local macro_rules | `(tactic| walk_at "sxE") => `(tactic| first | (with_reducible refine e_dat (by walk_at "tk") ?_) | (with_reducible refine e_ofD (by walk_at "tk") ?_) | (with_reducible refine e_nlf (by walk_at "tk") ?_) | (with_reducible refine e_nlm (by walk_at "tk") ?_) | (with_reducible refine e_nl (by walk_at "tk") (by with_unfolding_all exact rfl) ?_) | fail "sxE")
local macro_rules | `(tactic| walk_at "sxX") => `(tactic| first | (with_reducible refine gBlK ?_; first | (with_reducible refine b_bl ?_) | (with_reducible refine b_ofD ?_)) | (with_reducible refine p_dat ?_) | (with_reducible refine p_loc ?_) | (with_reducible refine ik ?_) | (with_reducible refine stk ?_) | (with_reducible refine sk_l ?_) | (with_reducible refine sk_t ?_) | (with_reducible refine sk_f ?_) | (with_reducible refine pk ?_) | (with_reducible refine gTgt' ?_; with_reducible refine gk rfl ?_) | (with_reducible refine gTup ?_; with_reducible refine tk (by walk_at "al") (sz_lit rfl) ?_) | (with_reducible refine gFld' ?_; with_reducible refine fk1 (by simp) ?_) | (with_reducible refine gNxt ?_; with_reducible refine e_nx (by walk_at "tk") ?_) | (with_reducible refine dkk ?_)   | (with_reducible refine gAnd ?_; first | (with_reducible refine And.intro (sz_lit rfl) ?_) | (with_reducible refine And.intro (isDct_dat (by assumption)) ?_) | (with_reducible refine And.intro ty_l ?_) | (with_reducible refine And.intro ty_s ?_) | (with_reducible refine And.intro (isI_one (by decide)) ?_) | (with_reducible refine And.intro (tyL_loc mem_here) ?_))   | (with_reducible refine gBind ?_; first | (with_reducible refine bk_dat ?_) | (with_reducible refine bk_loc ?_) | (with_reducible refine bk_nlF (by walk_at "al") ?_)) | fail "sxX")
local macro_rules | `(tactic| walk_at "sxB") => `(tactic| first | (with_reducible refine b_seqK ?_) | (with_reducible refine b_nilK ?_) | (with_reducible refine b_fldK ?_) | (with_reducible refine b_fldVK ?_) | (with_reducible refine b_tup2K ?_) | fail "sxB")
local macro_rules | `(tactic| walk_at "sxH") => `(tactic| first | (with_reducible refine h_nilK ?_) | (with_reducible refine h_consK ?_) | (with_reducible refine h_nameK ?_) | (with_reducible refine h_fldK ?_) | (with_reducible refine h_dputK ?_) | fail "sxH")
local macro_rules | `(tactic| walk_at "sx1") => `(tactic| first | (with_reducible refine gS ?_; walk_at "sxS") | (with_reducible refine gV ?_; walk_at "sxV") | (with_reducible refine gR ?_; walk_at "sxR") | (with_reducible refine gA ?_; walk_at "sxA") | (with_reducible refine gT ?_; walk_at "sxT") | (with_reducible refine gF ?_; walk_at "sxF") | (with_reducible refine gC ?_; walk_at "sxC") | (with_reducible refine gRt ?_; walk_at "sxE") | (with_reducible refine gO ?_; walk_at "sxO") | (with_reducible refine gI ?_; walk_at "sxI") | (with_reducible refine gP ?_; walk_at "sxP") | (with_reducible refine gBb ?_; walk_at "sxB") | (with_reducible refine gHh ?_; walk_at "sxH") | (walk_at "sxX") | fail "sx")
local macro_rules | `(tactic| walk_at "sx") => `(tactic| repeat' (walk_at "sx1"))
local macro_rules | `(tactic| walk_at "sxs") => `(tactic| repeat' (first | (walk_at "sx1") | (with_reducible refine if_dec (fun _ => ?_) (fun _ => ?_)) | (with_reducible refine if_ndec (fun _ => ?_) (fun _ => ?_)) | fail "sxs"))
section
variable {QR:R→Mem→Prop}{QV:DV→Mem→Prop}{E:Xc→Mem→Prop}{μ ν τ:Mem}{B:Bg}{i n:Int}{b:Bool}{P:PO}{N:Nat}{x:DV}
theorem and_le {a b:Nat}{q:Prop}(h:a≤b)(k:q):a≤b∧q:=⟨h,k⟩
theorem take_s {m:Int}(hB:B.ok)(hm:0<m)(hm':m<1073741824)(h:∀ (r:Nat) (B':Bg),B'.ok→(r:Int)<m→QR (.dat (.int r)) (B'.pl::ν)):Sat (F__law_take [.loc 0,.dat (.int m)] (B.pl::ν)) QR E:=by
 rw[e__law_take];exact d_take hB hm hm' h
@[irreducible] def tP:Int:=10^64
@[irreducible] def tQ:Int:=10^39
@[irreducible] def grI (k:Nat):Int:=tP^(k+1)
theorem pow64 (h:QR (.dat (.int tP)) μ):Sat (dPow (.dat (.int 10)) (.dat (.int 64)) μ) QR E:=l_pow ⟨by decide,by decide,by decide⟩ (by unfold tP at h;exact h)
theorem pow39 (h:QR (.dat (.int tQ)) μ):Sat (dPow (.dat (.int 10)) (.dat (.int 39)) μ) QR E:=l_pow ⟨by decide,by decide,by decide⟩ (by unfold tQ at h;exact h)
theorem tP_lt:tP.natAbs<2^213:=by unfold tP;decide
theorem grI_lt (k:Nat):(grI k).natAbs<2^(213*(k+1)):=by
 unfold grI
 rw[Int.natAbs_pow,Nat.pow_mul]
 exact Nat.pow_lt_pow_left tP_lt (by omega)
theorem grI_zero:tP=grI 0:=by unfold grI;rw[Int.pow_succ,Int.pow_zero,Int.one_mul]
theorem grI_succ (k:Nat):grI k*tP=grI (k+1):=by unfold grI;rw[Int.pow_succ tP (k+1)]
def datD:List D:=[.non,.str "",.tup [.str "a",.str "b"],.bl true,.int tQ,.int (-grI 100),.tup [],.int 0,.bl false]
def menuL:List DV:=[.dat .non,.dat (.str ""),.dat (.tup [.str "a",.str "b"]),.loc 1,.loc 2,.dat (.bl true),.dat (.int tQ),.dat (.int (-grI 100)),.loc 3,.dat (.tup []),.dat (.int 0),.dat (.bl false)]
abbrev vR:Mem:=[.lst [.dat (.int 0),.dat (.lst [.int 1])],.dct [(.k (.inr "a"),.dat (.lst [.int 2]))],.lst [.dat (.lst [])],.lst menuL]
abbrev vM (B:Bg):Mem:=B.pl::vR
theorem value_s (hB:B.ok)(h1:∀ (d:D) (B':Bg),B'.ok→d∈datD→QV (.dat d) [B'.pl])(h2:∀ (n:Nat) (B':Bg),B'.ok→n=1∨n=2∨n=3→QV (.loc n) (vM B')):Sat (F__law_value [.loc 0] [B.pl]) QV E:=by
 refine w__law_value ?_
 unfold g__law_value
 walk_at "sx"
 refine pow64 ?_
 walk_at "sx"
 rw[grI_zero]
 refine And.intro ⟨by decide,by decide⟩ ?_
 refine for_inv (fun k δ μ'=>δ=[some (.loc 0),some (.dat (.int (grI k))),none,none]∧μ'=[B.pl]) ⟨rfl,rfl⟩ (fun k e he δ μ' hI=>?_) fun δ μ' hI=>?_
 ·obtain⟨rfl,rfl⟩:=hI
  refine⟨_,rfl,?_⟩
  unfold b__law_value_1
  walk_at "sx"
  refine pow64 ?_
  walk_at "sx"
  have hk:k<100:=by
   have:=lt_of_at he
   simpa [rngD] using this
  refine l_mulW (L2.wide_mul (a:=213*(k+1)) (b:=213) (grI_lt k) tP_lt (by omega) (by decide) (by omega)) ?_
  walk_at "sx"
  rw[grI_succ]
  exact⟨rfl,rfl⟩
 ·obtain⟨rfl,rfl⟩:=hI
  rw[show(rngD 0 (Int.toNat 100)).length=100 by simp[rngD]]
  walk_at "sx"
  refine s_asgX (Nat.le_refl _) ?_
  refine x_xlst ?_
  repeat (first|(walk_at "sx1")|(with_reducible refine p_nl (by simp) ?_)|(with_reducible refine p_nk (by simp) ?_)|(with_reducible refine pow39 ?_)|(with_reducible refine and_le (by simp) ?_)|fail)
  refine⟨.inr "a",rfl,by simp,?_⟩
  repeat (first|(walk_at "sx1")|(with_reducible refine p_nl (by simp) ?_)|(with_reducible refine p_nk (by simp) ?_)|(with_reducible refine pow39 ?_)|(with_reducible refine and_le (by simp) ?_)|fail)
  refine And.intro ⟨by simp,sl_sz (by simp)⟩ ?_
  walk_at "sx"
  have key:SatS (gRetX (xOf (eOp dIxA (eVar 3) (eCB F__law_take (aCons (eVar 0) (aCons (eD (.int 12)) aNil))))) 1 [some (.loc 0),some (.dat (.int (grI 100))),none,some (.loc 4)] (vM B)) (endX 1 QV E):=by
   refine s_retX (by simp) ?_
   walk_at "sx"
   refine take_s (ν:=vR) hB (by decide) (by decide) fun r B1 hB1 hr=>?_
   walk_at "sx"
   have:r=0∨r=1∨r=2∨r=3∨r=4∨r=5∨r=6∨r=7∨r=8∨r=9∨r=10∨r=11:=by omega
   have fin:∀ {d:D},d∈datD→Sat (closeX 1 (.dat d) (vM B1)) QV E:=fun {d} hd=>h1 d B1 hB1 hd
   rcases this with rfl|rfl|rfl|rfl|rfl|rfl|rfl|rfl|rfl|rfl|rfl|rfl
   all_goals refine w_ix (l_ixM (μ:=vM B1) (n:=4) (xs:=menuL) rfl rfl ?_)
   all_goals walk_at "sx"
   ·exact fin (by simp[datD])
   ·exact fin (by simp[datD])
   ·exact fin (by simp[datD])
   ·exact cx_new (E:=E) (N:=1) (r:=1) (by decide) (h2 1 B1 hB1 (by decide))
   ·exact cx_new (E:=E) (N:=1) (r:=2) (by decide) (h2 2 B1 hB1 (by decide))
   ·exact fin (by simp[datD])
   ·exact fin (by simp[datD])
   ·exact fin (by simp[datD])
   ·exact cx_new (E:=E) (N:=1) (r:=3) (by decide) (h2 3 B1 hB1 (by decide))
   ·exact fin (by simp[datD])
   ·exact fin (by simp[datD])
   ·exact fin (by simp[datD])
  exact key
def e9 (x:DV):Mem:=[.er "Wrong" "place" [x],.er "NoDeed" "name" [x],.er "BadDeed" "name" [x],.er "BadStep" "index" [x],.er "BadProgram" "at" [x],.er "NoMark" "number" [x],.er "TooFew" "many" [x],.er "TooMany" "most" [x],.er "NotLoud" "name" [x]]
def lsF (L k:Nat):List DV:=(List.range k).map fun i=>.loc (L+i)
def eM (x:DV)(L:Nat):Mem:=e9 x++[.lst (lsF L 9),.er "NoText" "line" [x],.er "BadCall" "" [],.er "Nothing" "" [],.er "BadEdit" "" [],.er "NoCommand" "" [],.lst (lsF (L+10) 5),.lst (lsF L 9++lsF (L+10) 5)]
theorem app_at {k:Nat}{σ:Mem}:(μ++σ)[μ.length+k]?=σ[k]?:=by rw[List.getElem?_append_right (by omega),Nat.add_sub_cancel_left]
theorem err1 {nm f:Str}{δ:DL.Env}(h:QV (.loc (μ.length+τ.length)) (μ++(τ++[.er nm f [x]]))):Sat (xErr nm f (aCons (eVar 0) aNil) (some x::δ) (μ++τ)) QV E:=by
 refine x_xErr ?_
 refine a_consK ?_
 refine v_var rfl ?_
 refine a_nilK ?_
 rw[←List.append_assoc,←List.length_append] at h
 exact⟨x,rfl,Nat.le_refl _,h⟩
theorem err0 {nm:Str} {δ:DL.Env} (h:QV (.loc (μ.length+τ.length)) (μ++(τ++[.er nm "" []]))):Sat (xErr0 nm δ (μ++τ)) QV E:=by
 refine x_xErr0 ?_
 rw[←List.append_assoc,←List.length_append] at h
 exact h
theorem l_addPP {a b:Nat}{xs ys:List DV}(e:μ[a]?=some (.lst xs))(e2:μ[b]?=some (.lst ys))(hl:xs.length+ys.length≤sizeLine)(h:QR (.nl (xs++ys)) μ):Sat (dAdd (.loc a) (.loc b) μ) QR E:=by
 have h1:asM μ (.loc a)=some xs:=by simp[asM,e]
 have h2:asM μ (.loc b)=some ys:=by simp[asM,e2]
 have:dAdd (.loc a) (.loc b) μ=.ok (.nl (xs++ys)) μ:=by
  unfold dAdd
  simp only[asI,asStr,asT,h1,h2]
  rw[if_pos hl]
 rw[this];exact h
theorem eq_ab {m m':Nat}{μ1 μ2:Mem}(e1:m=m')(e2:μ1=μ2)(h:QV (.loc m') μ2):QV (.loc m) μ1:=by subst e1;subst e2;exact h
theorem errors_s (h:QV (.loc (μ.length+16)) (μ++eM x μ.length)):Sat (F__law_errors [x] μ) QV E:=by
 refine w__law_errors ?_
 suffices k:∀ μ':Mem,μ'=μ++[]→SatS (g__law_errors μ.length [some x,none] μ') (endX μ.length QV E) from k μ (by simp)
 intro μ' e
 subst e
 unfold g__law_errors
 walk_at "sx"
 refine s_asgX (by simp) ?_
 refine x_xlst ?_
 repeat (first|(walk_at "sx1")|(with_reducible refine err1 ?_)|(with_reducible refine and_le (by simp) ?_)|fail)
 refine And.intro ⟨by simp,sl_sz (by simp)⟩ ?_
 have k2:SatS (gRetX (xOp dAdd (xOf (eVar 1)) (xLst (xaCons (xErr "NoText" "line" (aCons (eVar 0) aNil)) (xaCons (xErr0 "BadCall") (xaCons (xErr0 "Nothing") (xaCons (xErr0 "BadEdit") (xaCons (xErr0 "NoCommand") xaNil))))))) μ.length [some x,some (.loc (μ.length+9))] (μ++(e9 x++[.lst (lsF μ.length 9)]))) (endX μ.length QV E):=by
  refine s_retX (by simp) ?_
  refine x_xop ?_
  refine x_xof ?_
  refine x_varL rfl ?_
  refine p_loc ?_
  refine and_le (Nat.le_refl _) ?_
  refine x_xlst ?_
  repeat (first|(walk_at "sx1")|(with_reducible refine err1 ?_)|(with_reducible refine err0 ?_)|(with_reducible refine and_le (by simp) ?_)|fail)
  refine And.intro ⟨by simp,sl_sz (by simp)⟩ (and_le (by simp) ?_)
  refine l_addPP (xs:=lsF μ.length 9) (ys:=lsF (μ.length+10) 5) (by rw[List.append_assoc];exact app_at.trans rfl) (by rw[List.getElem?_append_right (Nat.le_refl _),Nat.sub_self];rfl) (sl_sz2 (by simp[lsF])) ?_
  refine p_nl (by simp) ?_
  refine cx_new (by simp) ?_
  exact eq_ab (by simp[e9]) (by rw[List.append_assoc,List.append_assoc];rfl) h
 simp only[List.length_append,List.append_assoc,List.cons_append,List.nil_append,List.length_cons,List.length_nil,List.set]
 exact k2
end
section
variable {QR:R→Mem→Prop}{QV:DV→Mem→Prop}{E:Xc→Mem→Prop}{μ ν τ:Mem}{B:Bg}{n:Nat}{b:Bool}{P:PO}{N:Nat}{x:DV}
def erN:List Str:=["Wrong","NoDeed","BadDeed","BadStep","BadProgram","NoMark","TooFew","TooMany","NotLoud","NoText","BadCall","Nothing","BadEdit","NoCommand"]
def flD (i:Nat):List DV:=(List.range 14).map fun(j:Nat)=>DV.dat (.bl (decide ((j:Int)=(i:Int))))
def flE (i:Nat):List D:=(List.range 14).map fun(j:Nat)=>D.bl (decide ((j:Int)=(i:Int)))
theorem flD_E (i:Nat):flD i=(flE i).map DV.dat:=by unfold flD flE;rw[List.map_map];rfl
theorem flags_s {f:Str} {xs:List DV} {i:Nat} (hi:i<14) (e:μ[n]?=some (.er (erN.getD i "") f xs)) (h:QR (.nl (flD i)) μ):Sat (F__law_flags [.loc n] μ) QR E:=by
 have:i=0∨i=1∨i=2∨i=3∨i=4∨i=5∨i=6∨i=7∨i=8∨i=9∨i=10∨i=11∨i=12∨i=13:=by omega
 rcases this with rfl|rfl|rfl|rfl|rfl|rfl|rfl|rfl|rfl|rfl|rfl|rfl|rfl|rfl
 ·replace e:μ[n]?=some (.er "Wrong" f xs):=e
  refine w__law_flags ?_
  unfold g__law_flags
  repeat (first|(walk_at "sx1")|(with_reducible refine l_isiX e rfl ?_)|(with_reducible refine l_addL (by decide) ?_)|fail)
  exact h
 ·replace e:μ[n]?=some (.er "NoDeed" f xs):=e
  refine w__law_flags ?_
  unfold g__law_flags
  repeat (first|(walk_at "sx1")|(with_reducible refine l_isiX e rfl ?_)|(with_reducible refine l_addL (by decide) ?_)|fail)
  exact h
 ·replace e:μ[n]?=some (.er "BadDeed" f xs):=e
  refine w__law_flags ?_
  unfold g__law_flags
  repeat (first|(walk_at "sx1")|(with_reducible refine l_isiX e rfl ?_)|(with_reducible refine l_addL (by decide) ?_)|fail)
  exact h
 ·replace e:μ[n]?=some (.er "BadStep" f xs):=e
  refine w__law_flags ?_
  unfold g__law_flags
  repeat (first|(walk_at "sx1")|(with_reducible refine l_isiX e rfl ?_)|(with_reducible refine l_addL (by decide) ?_)|fail)
  exact h
 ·replace e:μ[n]?=some (.er "BadProgram" f xs):=e
  refine w__law_flags ?_
  unfold g__law_flags
  repeat (first|(walk_at "sx1")|(with_reducible refine l_isiX e rfl ?_)|(with_reducible refine l_addL (by decide) ?_)|fail)
  exact h
 ·replace e:μ[n]?=some (.er "NoMark" f xs):=e
  refine w__law_flags ?_
  unfold g__law_flags
  repeat (first|(walk_at "sx1")|(with_reducible refine l_isiX e rfl ?_)|(with_reducible refine l_addL (by decide) ?_)|fail)
  exact h
 ·replace e:μ[n]?=some (.er "TooFew" f xs):=e
  refine w__law_flags ?_
  unfold g__law_flags
  repeat (first|(walk_at "sx1")|(with_reducible refine l_isiX e rfl ?_)|(with_reducible refine l_addL (by decide) ?_)|fail)
  exact h
 ·replace e:μ[n]?=some (.er "TooMany" f xs):=e
  refine w__law_flags ?_
  unfold g__law_flags
  repeat (first|(walk_at "sx1")|(with_reducible refine l_isiX e rfl ?_)|(with_reducible refine l_addL (by decide) ?_)|fail)
  exact h
 ·replace e:μ[n]?=some (.er "NotLoud" f xs):=e
  refine w__law_flags ?_
  unfold g__law_flags
  repeat (first|(walk_at "sx1")|(with_reducible refine l_isiX e rfl ?_)|(with_reducible refine l_addL (by decide) ?_)|fail)
  exact h
 ·replace e:μ[n]?=some (.er "NoText" f xs):=e
  refine w__law_flags ?_
  unfold g__law_flags
  repeat (first|(walk_at "sx1")|(with_reducible refine l_isiX e rfl ?_)|(with_reducible refine l_addL (by decide) ?_)|fail)
  exact h
 ·replace e:μ[n]?=some (.er "BadCall" f xs):=e
  refine w__law_flags ?_
  unfold g__law_flags
  repeat (first|(walk_at "sx1")|(with_reducible refine l_isiX e rfl ?_)|(with_reducible refine l_addL (by decide) ?_)|fail)
  exact h
 ·replace e:μ[n]?=some (.er "Nothing" f xs):=e
  refine w__law_flags ?_
  unfold g__law_flags
  repeat (first|(walk_at "sx1")|(with_reducible refine l_isiX e rfl ?_)|(with_reducible refine l_addL (by decide) ?_)|fail)
  exact h
 ·replace e:μ[n]?=some (.er "BadEdit" f xs):=e
  refine w__law_flags ?_
  unfold g__law_flags
  repeat (first|(walk_at "sx1")|(with_reducible refine l_isiX e rfl ?_)|(with_reducible refine l_addL (by decide) ?_)|fail)
  exact h
 ·replace e:μ[n]?=some (.er "NoCommand" f xs):=e
  refine w__law_flags ?_
  unfold g__law_flags
  repeat (first|(walk_at "sx1")|(with_reducible refine l_isiX e rfl ?_)|(with_reducible refine l_addL (by decide) ?_)|fail)
  exact h
abbrev TA:SM:=(gAsgX 5 (xLst (xaCons (xOf (eExf "Wrong" "place" (eOp dIxA (eVar 4) (eD (.int 0))))) (xaCons (xOf (eExf "NoDeed" "name" (eOp dIxA (eVar 4) (eD (.int 1))))) (xaCons (xOf (eExf "BadDeed" "name" (eOp dIxA (eVar 4) (eD (.int 2))))) (xaCons (xOf (eExf "BadStep" "index" (eOp dIxA (eVar 4) (eD (.int 3))))) (xaCons (xOf (eExf "BadProgram" "at" (eOp dIxA (eVar 4) (eD (.int 4))))) (xaCons (xOf (eExf "NoMark" "number" (eOp dIxA (eVar 4) (eD (.int 5))))) (xaCons (xOf (eExf "TooFew" "many" (eOp dIxA (eVar 4) (eD (.int 6))))) xaNil)))))))))
abbrev TB:SM:=(gSeq (gAsgX 5 (xOp dAdd (xOf (eVar 5)) (xLst (xaCons (xOf (eExf "TooMany" "most" (eOp dIxA (eVar 4) (eD (.int 7))))) (xaCons (xOf (eExf "NotLoud" "name" (eOp dIxA (eVar 4) (eD (.int 8))))) (xaCons (xOf (eExf "NoText" "line" (eOp dIxA (eVar 4) (eD (.int 9))))) xaNil))))))
  (gSeq (gIf (tmB (eNeRep (eVar 5) (eVar 3) 10)) (gRet (eD (.bl false))) gNext)
  (gForPE [true,true,true,true,true,true,false,false,false] (aCons (eVar 4) aNil) 6 7 b_law_1)))
end
section
variable {QR:R→Mem→Prop}{QV:DV→Mem→Prop}{E:Xc→Mem→Prop}{μ ν τ:Mem}{B:Bg}{n:Nat}{b:Bool}{P:PO}{N k L:Nat}{x y:DV}
def ix (k:Nat):Nat:=if k<9 then k else k+1
theorem er_ix (hk:k<14):∃ f xs,(eM x μ.length)[ix k]?=some (.er (erN.getD k "") f xs):=by
 have:k=0∨k=1∨k=2∨k=3∨k=4∨k=5∨k=6∨k=7∨k=8∨k=9∨k=10∨k=11∨k=12∨k=13:=by omega
 rcases this with rfl|rfl|rfl|rfl|rfl|rfl|rfl|rfl|rfl|rfl|rfl|rfl|rfl|rfl <;> exact⟨_,_,rfl⟩
theorem ls_ix (hk:k<14)(e:(lsF L 9++lsF (L+10) 5)[k]?=some y):y=.loc (L+ix k):=by
 have:k=0∨k=1∨k=2∨k=3∨k=4∨k=5∨k=6∨k=7∨k=8∨k=9∨k=10∨k=11∨k=12∨k=13:=by omega
 rcases this with rfl|rfl|rfl|rfl|rfl|rfl|rfl|rfl|rfl|rfl|rfl|rfl|rfl|rfl <;> (cases e;rfl)
theorem flE_its {i:Nat}:∀ d∈flE i,ItS d:=fun d hd=>by
 unfold flE at hd
 obtain⟨j,_,rfl⟩:=List.mem_map.mp hd
 exact .inr ⟨.bool _,rfl,rfl,Nat.zero_le _⟩
theorem isx_all {l:List (Str×Bool)} {f:Str} {xs:List DV} (hk:k<14) (e:μ[n]?=some (.er (erN.getD k "") f xs)) (hl:∀ m∈erN,l.lookup m=some true) (h:QR (.dat (.bl true)) μ):Sat (dIsi (tabX l) (.loc n) μ) QR E:=by
 refine l_isiX e (hl _ ?_) h
 have:k=0∨k=1∨k=2∨k=3∨k=4∨k=5∨k=6∨k=7∨k=8∨k=9∨k=10∨k=11∨k=12∨k=13:=by omega
 rcases this with rfl|rfl|rfl|rfl|rfl|rfl|rfl|rfl|rfl|rfl|rfl|rfl|rfl|rfl <;> decide
theorem b1_s {d0 d2:D} {y5 y8:Option DV} {k:Nat} {f:Str} {xs:List DV} (hk:k<14) (e:μ[n]?=some (.er (erN.getD k "") f xs)) (h:∀ z8,P.nx [some (.dat d0),some (.loc 0),some (.dat d2),some x,some y,y5,some (.dat (.int (k:Int))),some (.loc n),z8] μ) :
  SatS (b_law_1 N [some (.dat d0),some (.loc 0),some (.dat d2),some x,some y,y5,some (.dat (.int (k:Int))),some (.loc n),y8] μ) P:=by
 unfold b_law_1
 walk_at "sx"
 refine flags_s hk e ?_
 rw[flD_E]
 walk_at "sx"
 refine And.intro ⟨by decide,by decide⟩ ?_
 walk_at "sx"
 rw[show rngD 0 (Int.toNat 14)=(List.range 14).map fun(j:Nat)=>D.int (j:Int) from rfl]
 refine lc_mapK (fun(j:Nat)=>D.bl (decide ((j:Int)=(k:Int)))) (fun j hj=>⟨_,rfl,?_⟩) ?_
 ·walk_at "sx"
  exact⟨rfl,rfl⟩
 walk_at "sx"
 refine l_neItS (ds:=flE k) flE_its ?_
 walk_at "sx"
 refine isx_all hk e (by decide) ?_
 walk_at "sx"
 refine isx_all hk e (by decide) ?_
 walk_at "sx"
 exact h _
theorem np_of {QV:DV→Mem→Prop}{z:DV}(h:QV z μ):NpK N (ofV z) μ QV:=by
 cases z with
 | dat d=>exact p_dat h
 | loc c=>exact p_loc h
theorem exf_at {nm f:Str}{i:Nat}{δ:DL.Env}{σ:Mem}{m:Nat}{xs:List DV}(hv:δ[4]?=some (some (.loc m)))(el:(μ++σ)[m]?=some (.lst xs))(ei:atI xs (i:Int)=some (.loc (μ.length+k)))(ek:σ[k]?=some (.er nm f [x]))(h:QV x (μ++σ)) :
  Sat (xOf (eExf nm f (eOp dIxA (eVar 4) (eD (.int (i:Int))))) δ (μ++σ)) QV E:=by
 refine x_xof ?_
 refine x_exf ?_
 walk_at "sx"
 refine x_varL hv ?_
 walk_at "sx"
 refine w_ix (l_ixM el ei ?_)
 walk_at "sx"
 exact⟨_,x,rfl,app_at.trans ek,np_of h⟩
theorem eM_len:(eM x L).length=17:=rfl
theorem tail_s {d0 d2:D}{y5 y6 y7 y8:Option DV}(h1:1≤μ.length)(hx:∀ d,x=.dat d→ItS d)(hb:∀ c,x=.loc c→c<μ.length)(hN:N≤μ.length)
  (h:∀ z5 z6 z7 z8 τ,P.nx [some (.dat d0),some (.loc 0),some (.dat d2),some x,some (.loc (μ.length+16)),z5,z6,z7,z8] (μ++τ)) :
  SatS (TA N [some (.dat d0),some (.loc 0),some (.dat d2),some x,some (.loc (μ.length+16)),y5,y6,y7,y8] (μ++eM x μ.length)) { nx:=fun δ μ=>SatS (TB N δ μ) P,rt:=P.rt,bk:=P.bk,ct:=P.ct,ex:=P.ex }:=by
 have el:∀ σ:Mem,(μ++(eM x μ.length++σ))[μ.length+16]?=some (.lst (lsF μ.length 9++lsF (μ.length+10) 5)):=fun σ=>app_at.trans rfl
 have el0:(μ++eM x μ.length)[μ.length+16]?=some (.lst (lsF μ.length 9++lsF (μ.length+10) 5)):=app_at.trans rfl
 refine s_asgX (by simp;omega) ?_
 refine x_xlst ?_
 refine xa_consK (exf_at (k:=0) rfl el0 rfl rfl ?_)
 refine and_le (Nat.le_refl _) ?_
 refine xa_consK (exf_at (k:=1) rfl el0 rfl rfl ?_)
 refine and_le (Nat.le_refl _) ?_
 refine xa_consK (exf_at (k:=2) rfl el0 rfl rfl ?_)
 refine and_le (Nat.le_refl _) ?_
 refine xa_consK (exf_at (k:=3) rfl el0 rfl rfl ?_)
 refine and_le (Nat.le_refl _) ?_
 refine xa_consK (exf_at (k:=4) rfl el0 rfl rfl ?_)
 refine and_le (Nat.le_refl _) ?_
 refine xa_consK (exf_at (k:=5) rfl el0 rfl rfl ?_)
 refine and_le (Nat.le_refl _) ?_
 refine xa_consK (exf_at (k:=6) rfl el0 rfl rfl ?_)
 refine and_le (Nat.le_refl _) ?_
 refine xa_nilK ?_
 refine And.intro ⟨Nat.le_refl _,sl_sz (by simp)⟩ ?_
 rw[List.append_assoc]
 walk_at "sx"
 refine s_asgX (by simp;omega) ?_
 refine x_xop ?_
 refine x_xof ?_
 refine x_varL rfl ?_
 refine p_loc ?_
 refine and_le (Nat.le_refl _) ?_
 refine x_xlst ?_
 refine xa_consK (exf_at (k:=7) rfl (el _) rfl rfl ?_)
 refine and_le (Nat.le_refl _) ?_
 refine xa_consK (exf_at (k:=8) rfl (el _) rfl rfl ?_)
 refine and_le (Nat.le_refl _) ?_
 refine xa_consK (exf_at (k:=10) rfl (el _) rfl rfl ?_)
 refine and_le (Nat.le_refl _) ?_
 refine xa_nilK ?_
 refine And.intro ⟨Nat.le_refl _,sl_sz (by simp)⟩ (and_le (by simp) ?_)
 refine l_addPP (xs:=List.replicate 7 x) (ys:=[x,x,x]) ?_ (by rw[List.getElem?_append_right (Nat.le_refl _),Nat.sub_self];rfl) (sl_sz2 (by simp)) ?_
 ·rw[←List.append_assoc μ,List.append_assoc (μ++eM x μ.length),List.getElem?_append_right (Nat.le_refl _),Nat.sub_self];rfl
 refine p_nl (by simp) ?_
 walk_at "sx"
 refine x_neRep (by decide) ?_
 walk_at "sx"
 refine⟨_,rfl,by rw[List.getElem?_append_right (Nat.le_refl _),Nat.sub_self];rfl,hx,?_⟩
 walk_at "sx"
 have em:(μ++(eM x μ.length++[.lst [x,x,x,x,x,x,x]])++[.lst [x,x,x]]++[.lst (List.replicate 7 x++[x,x,x])])=μ++(eM x μ.length++[.lst [x,x,x,x,x,x,x],.lst [x,x,x],.lst (List.replicate 7 x++[x,x,x])]):=by simp
 rw[em]
 refine s_forPE ?_
 walk_at "sx"
 refine⟨_,_,rfl,el _,by simp;omega,?_⟩
 refine forPE_inv (fun k δ μ'=>∃ z6 z7 z8,δ=[some (.dat d0),some (.loc 0),some (.dat d2),some x,some (.loc (μ.length+16)),some (.loc (List.length (μ++(eM x μ.length++[.lst [x,x,x,x,x,x,x]])++[.lst [x,x,x]]))),z6,z7,z8]∧μ'=μ++(eM x μ.length++[.lst [x,x,x,x,x,x,x],.lst [x,x,x],.lst (List.replicate 7 x++[x,x,x])])) ⟨_,_,_,rfl,rfl⟩ (fun k δ μ' hI=>?_) (fun k y hy δ μ' hI=>?_) fun δ μ' hI=>?_
 ·obtain⟨z6,z7,z8,rfl,rfl⟩:=hI
  exact el _
 ·obtain⟨z6,z7,z8,rfl,rfl⟩:=hI
  have hk:k<14:=by
   have:=lt_of_at hy
   simpa [lsF] using this
  obtain rfl:=ls_ix hk hy
  obtain⟨f,xs,e⟩:=er_ix (μ:=μ) (x:=x) hk
  refine b1_s (f:=f) (xs:=xs) hk ?_ fun z8=>?_
  ·refine app_at.trans ?_
   rw[List.getElem?_append_left (lt_of_at e)];exact e
  refine⟨none,none,none,?_,List.take_length⟩
  cases x with
  | dat d=>simp[cut,DL.cutV,eM_len];try omega
  | loc c=>have:=hb c rfl;simp[cut,DL.cutV,eM_len];try omega
 ·obtain⟨z6,z7,z8,rfl,rfl⟩:=hI
  exact h _ _ _ _ _
end
section
variable {QR:R→Mem→Prop}{QV:DV→Mem→Prop}{E:Xc→Mem→Prop}{μ ν τ:Mem}{B:Bg}{n:Nat}{b:Bool}{P:PO}{N k L:Nat}{x y:DV}
theorem dat_its {d:D}(hd:d∈datD):ItS d:=by
 simp only[datD,List.mem_cons,List.not_mem_nil,or_false] at hd
 rcases hd with rfl|rfl|rfl|rfl|rfl|rfl|rfl|rfl|rfl
 ·exact .inr ⟨_,rfl,rfl,by decide⟩
 ·exact .inl ⟨_,rfl⟩
 ·exact .inr ⟨_,rfl,by decide +kernel,by decide +kernel⟩
 ·exact .inr ⟨_,rfl,rfl,by decide⟩
 ·exact .inr ⟨.int _,rfl,rfl,Nat.zero_le _⟩
 ·exact .inr ⟨.int _,rfl,rfl,Nat.zero_le _⟩
 ·exact .inr ⟨_,rfl,rfl,by decide⟩
 ·exact .inr ⟨_,rfl,rfl,by decide⟩
 ·exact .inr ⟨_,rfl,rfl,by decide⟩
theorem dat_li {d:D} (hd:d∈datD) (h:QR (.dat (.bl false)) μ):Sat (dIsi (tabT "list" []) (.dat d) μ) QR E:=by
 simp only[datD,List.mem_cons,List.not_mem_nil,or_false] at hd
 rcases hd with rfl|rfl|rfl|rfl|rfl|rfl|rfl|rfl|rfl <;> (walk_at "isi";exact h)
theorem dat_di {d:D} (hd:d∈datD) (h:QR (.dat (.bl false)) μ):Sat (dIsi (tabT "dict" []) (.dat d) μ) QR E:=by
 simp only[datD,List.mem_cons,List.not_mem_nil,or_false] at hd
 rcases hd with rfl|rfl|rfl|rfl|rfl|rfl|rfl|rfl|rfl <;> (walk_at "isi";exact h)
theorem l_li {xs:List DV} (e:μ[n]?=some (.lst xs)) (h:QR (.dat (.bl true)) μ):Sat (dIsi (tabT "list" []) (.loc n) μ) QR E:=l_isi (kd:=.b "list") (by simp[DL.kindOf,e]) (show tabT "list" [] (.b "list")=some true from kb_list_list) h
theorem l_ld {xs:List DV} (e:μ[n]?=some (.lst xs)) (h:QR (.dat (.bl false)) μ):Sat (dIsi (tabT "dict" []) (.loc n) μ) QR E:=l_isi (kd:=.b "list") (by simp[DL.kindOf,e]) (show tabT "dict" [] (.b "list")=some false from kb_list_dict) h
theorem l_di {xs:List (Ky×DV)} (e:μ[n]?=some (.dct xs)) (h:QR (.dat (.bl false)) μ):Sat (dIsi (tabT "list" []) (.loc n) μ) QR E:=l_isi (kd:=.b "dict") (by simp[DL.kindOf,e]) (show tabT "list" [] (.b "dict")=some false from kb_dict_list) h
theorem l_dd {xs:List (Ky×DV)} (e:μ[n]?=some (.dct xs)) (h:QR (.dat (.bl true)) μ):Sat (dIsi (tabT "dict" []) (.loc n) μ) QR E:=l_isi (kd:=.b "dict") (by simp[DL.kindOf,e]) (show tabT "dict" [] (.b "dict")=some true from kb_dict_dict) h
theorem b2_s {d0 d2:D}{x3 x4 x5 x6 x7 x8:Option DV}(hN:N≤1)(hB:B.ok)(h:∀ (B':Bg) τ z3 z4 z5 z6 z7 z8,B'.ok→P.nx [some (.dat d0),some (.loc 0),some (.dat d2),z3,z4,z5,z6,z7,z8] (B'.pl::τ)) :
  SatS (b_law_2 N [some (.dat d0),some (.loc 0),some (.dat d2),x3,x4,x5,x6,x7,x8] [B.pl]) P:=by
 unfold b_law_2
 walk_at "sx"
 refine s_asgX (by simpa using hN) ?_
 walk_at "sx"
 refine and_le (Nat.le_refl _) ?_
 refine value_s hB (fun d B1 hB1 hd=>?_) (fun n B1 hB1 hn=>?_)
 ·walk_at "sx"
  refine s_asgX (by simpa using hN) ?_
  walk_at "sx"
  refine and_le (by simp) ?_
  refine errors_s ?_
  walk_at "sx"
  refine dat_li hd ?_
  walk_at "sx"
  refine dat_di hd ?_
  walk_at "sx"
  exact tail_s (N:=N) (μ:=[B1.pl]) (x:=.dat d) (Nat.le_refl _) (fun e he=>by cases he;exact dat_its hd) (fun c he=>by cases he) (by simpa using hN) fun z5 z6 z7 z8 τ=>h B1 _ _ _ _ _ _ _ hB1
 ·walk_at "sx"
  refine s_asgX (by simp;omega) ?_
  walk_at "sx"
  refine and_le (by simp) ?_
  refine errors_s ?_
  walk_at "sx"
  rcases hn with rfl|rfl|rfl
  ·refine l_li rfl ?_
   walk_at "sx"
   refine And.intro (tyL_loc rfl) ?_
   walk_at "sx"
   refine l_app (xs:=[.dat (.int 0),.dat (.lst [.int 1])]) rfl (sl_sz2 (by simp)) rfl ?_
   walk_at "sx"
   refine l_ld (xs:=[.dat (.int 0),.dat (.lst [.int 1]),.dat (.str "more")]) rfl ?_
   walk_at "sx"
   exact tail_s (N:=N) (μ:=[B1.pl,.lst [.dat (.int 0),.dat (.lst [.int 1]),.dat (.str "more")],.dct [(.k (.inr "a"),.dat (.lst [.int 2]))],.lst [.dat (.lst [])],.lst menuL]) (x:=.loc 1) (by simp) (fun e he=>by cases he) (fun c he=>by cases he;simp) (by simp;omega) fun z5 z6 z7 z8 τ=>h B1 _ _ _ _ _ _ _ hB1
  ·refine l_di (xs:=[(.k (.inr "a"),.dat (.lst [.int 2]))]) rfl ?_
   walk_at "sx"
   refine l_dd (xs:=[(.k (.inr "a"),.dat (.lst [.int 2]))]) rfl ?_
   walk_at "sx"
   refine⟨_,set_dct (k:=.inr "more") (kvs:=[(.k (.inr "a"),.dat (.lst [.int 2]))]) rfl rfl rfl (Nat.lt_of_lt_of_le (by decide:(1:Nat)<2) (by decide)) rfl,?_⟩
   walk_at "sx"
   exact tail_s (N:=N) (μ:=[B1.pl,.lst [.dat (.int 0),.dat (.lst [.int 1])],.dct [(.k (.inr "a"),.dat (.lst [.int 2])),(.k (.inr "more"),.dat (.int 0))],.lst [.dat (.lst [])],.lst menuL]) (x:=.loc 2) (by simp) (fun e he=>by cases he) (fun c he=>by cases he;simp) (by simp;omega) fun z5 z6 z7 z8 τ=>h B1 _ _ _ _ _ _ _ hB1
  ·refine l_li rfl ?_
   walk_at "sx"
   refine And.intro (tyL_loc rfl) ?_
   walk_at "sx"
   refine l_app (xs:=[.dat (.lst [])]) rfl (sl_sz2 (by simp)) rfl ?_
   walk_at "sx"
   refine l_ld (xs:=[.dat (.lst []),.dat (.str "more")]) rfl ?_
   walk_at "sx"
   exact tail_s (N:=N) (μ:=[B1.pl,.lst [.dat (.int 0),.dat (.lst [.int 1])],.dct [(.k (.inr "a"),.dat (.lst [.int 2]))],.lst [.dat (.lst []),.dat (.str "more")],.lst menuL]) (x:=.loc 3) (by simp) (fun e he=>by cases he) (fun c he=>by cases he;simp) (by simp;omega) fun z5 z6 z7 z8 τ=>h B1 _ _ _ _ _ _ _ hB1
theorem bag_s {ns:List Int}(h:QR (.nl [.dat (.int (bag0 ns).a),.dat (.int (bag0 ns).b),.dat (.int (bag0 ns).c),.dat (.lst ((bag0 ns).cs.map D.int))]) μ):Sat (F__law_bag [.dat (.fro (ns.map D.int))] μ) QR E:=by
 rw[e__law_bag,bag_spec];exact h
theorem law_sat (ns:List Int):Sat (F_law [.dat (.fro (ns.map D.int))] []) (fun r _=>r=.dat (.bl true)) (fun _ _=>False):=by
 with_reducible refine w_law ?_
 unfold g_law
 walk_at "sx"
 with_reducible refine bag_s ?_
 with_reducible refine r_nl (Nat.zero_le _) ?_
 walk_at "sx"
 refine And.intro ⟨by decide,by decide⟩ ?_
 refine for_inv (fun k δ μ'=>∃ (B:Bg) (y2 y3 y4 y5 y6 y7 y8:Option DV),B.ok∧(∃ d,y2=some (.dat d)∨y2=none)∧δ=[some (.dat (.fro (ns.map D.int))),some (.loc 0),y2,y3,y4,y5,y6,y7,y8]∧μ'=[B.pl]) ⟨bag0 ns,_,_,_,_,_,_,_,bag0_ok ns,⟨.non,.inr rfl⟩,rfl,rfl⟩ (fun k d hd δ μ' hI=>?_) fun δ μ' hI=>?_
 ·obtain⟨B,y2,y3,y4,y5,y6,y7,y8,hB,_,rfl,rfl⟩:=hI
  refine⟨_,rfl,b2_s (Nat.zero_le _) hB fun B3 τ z3 z4 z5 z6 z7 z8 hB3=>?_⟩
  exact⟨B3,_,_,_,_,_,_,_,hB3,⟨.non,.inr rfl⟩,rfl,rfl⟩
 ·obtain⟨B,y2,y3,y4,y5,y6,y7,y8,hB,_,rfl,rfl⟩:=hI
  walk_at "sx"
  exact e_dat rfl rfl
theorem law_true (ns:List Int):∃ μ',F_law [.dat (.fro (ns.map D.int))] []=.ok (.dat (.bl true)) μ':=by
 have h:=law_sat ns
 cases e:F_law [.dat (.fro (ns.map D.int))] [] with
 | ok r μ'=>rw[e] at h;exact⟨μ',by rw[show r=.dat (.bl true) from h]⟩
 | exc x μ'=>rw[e] at h;exact h.elim
 | bad=>rw[e] at h;exact h.elim
end
end K10
end
namespace K10
open PySem PySem.Spec PyProof.Rows L2 DL
theorem all_mk {l:PySem.W.OpenLaw} {w:World} {K:PySem.W.Frag} {h:Heap} {mg:Str→Option Value} {fa:Addr} (X:K.In h) (G:h.Ns mainGlobals mg) (hfa:mg "law"=some (.ref fa))
  {f0:Addr} {od0 an0:Option Addr} {sl0:Array (Option Value)} {oc0 kV0 dc0 pm0 cd0 ct0:Value}
  {f1:Addr} {od1 an1:Option Addr} {sl1:Array (Option Value)} {oc1 kV1 dc1 pm1 cd1 ct1:Value}
  {f2:Addr} {od2 an2:Option Addr} {sl2:Array (Option Value)} {oc2 kV2 dc2 pm2 cd2 ct2:Value}
  {f3:Addr} {od3 an3:Option Addr} {sl3:Array (Option Value)} {oc3 kV3 dc3 pm3 cd3 ct3:Value}
  {f4:Addr} {od4 an4:Option Addr} {sl4:Array (Option Value)} {oc4 kV4 dc4 pm4 cd4 ct4:Value}
  {f5:Addr} {od5 an5:Option Addr} {sl5:Array (Option Value)} {oc5 kV5 dc5 pm5 cd5 ct5:Value}
  (a0:PySem.W.nsIn K mainGlobals "_law_bag"=some (some (.ref f0)))
  (l0:K.lookup f0=some ⟨oc0,od0,.func (PySem.W.fnOf "_law_bag" "_law_bag" (defArgs s__law_bag) (defBody s__law_bag) (defScope s__law_bag) .none kV0 dc0 pm0 an0 cd0 ct0),sl0⟩) (c0:PySem.W.codeIn K cd0 "_law_bag"=true) (k0:PySem.W.keepIn K (.ref f0)=true)
  (a1:PySem.W.nsIn K mainGlobals "_law_errors"=some (some (.ref f1)))
  (l1:K.lookup f1=some ⟨oc1,od1,.func (PySem.W.fnOf "_law_errors" "_law_errors" (defArgs s__law_errors) (defBody s__law_errors) (defScope s__law_errors) .none kV1 dc1 pm1 an1 cd1 ct1),sl1⟩) (c1:PySem.W.codeIn K cd1 "_law_errors"=true) (k1:PySem.W.keepIn K (.ref f1)=true)
  (a2:PySem.W.nsIn K mainGlobals "_law_flags"=some (some (.ref f2)))
  (l2:K.lookup f2=some ⟨oc2,od2,.func (PySem.W.fnOf "_law_flags" "_law_flags" (defArgs s__law_flags) (defBody s__law_flags) (defScope s__law_flags) .none kV2 dc2 pm2 an2 cd2 ct2),sl2⟩) (c2:PySem.W.codeIn K cd2 "_law_flags"=true) (k2:PySem.W.keepIn K (.ref f2)=true)
  (a3:PySem.W.nsIn K mainGlobals "_law_take"=some (some (.ref f3)))
  (l3:K.lookup f3=some ⟨oc3,od3,.func (PySem.W.fnOf "_law_take" "_law_take" (defArgs s__law_take) (defBody s__law_take) (defScope s__law_take) .none kV3 dc3 pm3 an3 cd3 ct3),sl3⟩) (c3:PySem.W.codeIn K cd3 "_law_take"=true) (k3:PySem.W.keepIn K (.ref f3)=true)
  (a4:PySem.W.nsIn K mainGlobals "_law_value"=some (some (.ref f4)))
  (l4:K.lookup f4=some ⟨oc4,od4,.func (PySem.W.fnOf "_law_value" "_law_value" (defArgs s__law_value) (defBody s__law_value) (defScope s__law_value) .none kV4 dc4 pm4 an4 cd4 ct4),sl4⟩) (c4:PySem.W.codeIn K cd4 "_law_value"=true) (k4:PySem.W.keepIn K (.ref f4)=true)
  (a5:PySem.W.nsIn K mainGlobals "law"=some (some (.ref f5)))
  (l5:K.lookup f5=some ⟨oc5,od5,.func (PySem.W.fnOf "law" "law" (defArgs s_law) (defBody s_law) (defScope s_law) .none kV5 dc5 pm5 an5 cd5 ct5),sl5⟩) (c5:PySem.W.codeIn K cd5 "law"=true) (k5:PySem.W.keepIn K (.ref f5)=true)
  (z_ValueError:PySem.W.nsIn K mainGlobals "ValueError"=some none)
  (z_abs:PySem.W.nsIn K mainGlobals "abs"=some none)
  (z_dict:PySem.W.nsIn K mainGlobals "dict"=some none)
  (z_enumerate:PySem.W.nsIn K mainGlobals "enumerate"=some none)
  (z_int:PySem.W.nsIn K mainGlobals "int"=some none)
  (z_isinstance:PySem.W.nsIn K mainGlobals "isinstance"=some none)
  (z_len:PySem.W.nsIn K mainGlobals "len"=some none)
  (z_list:PySem.W.nsIn K mainGlobals "list"=some none)
  (z_range:PySem.W.nsIn K mainGlobals "range"=some none)
  {c_BadCall:Addr}
  {c_BadDeed:Addr}
  {c_BadEdit:Addr}
  {c_BadProgram:Addr}
  {c_BadStep:Addr}
  {c_CountError:Addr}
  {c_NoCommand:Addr}
  {c_NoDeed:Addr}
  {c_NoMark:Addr}
  {c_NoText:Addr}
  {c_NotLoud:Addr}
  {c_Nothing:Addr}
  {c_TooFew:Addr}
  {c_TooMany:Addr}
  {c_Wrong:Addr}
  (q_BadCall:PySem.W.nsIn K mainGlobals "BadCall"=some (some (.ref c_BadCall)))
  (ga_BadCall:PySem.W.findIn K (.ref c_BadCall) "__getattribute__"=some (some (.builtin "BaseException.__getattribute__"))) (gg_BadCall:PySem.W.findIn K (.ref c_BadCall) "__getattr__"=some none) (exC_BadCall:PySem.W.subIn K (.ref c_BadCall) (.type "BaseException")=some true) (hdC_BadCall:PySem.W.hasDictIn K c_BadCall=true) (cc_BadCall:PySem.W.findIn K (.ref c_BadCall) "__class__"=some (some (.builtin "object.__class__"))) (mo_BadCall:PySem.W.mroIn K c_BadCall (.type "object")=some true) (iC_BadCall:PySem.W.isClsIn K c_BadCall=true) (tyC_BadCall:PySem.W.typeIn K (.ref c_BadCall)=some (.type "type"))
  (q_BadDeed:PySem.W.nsIn K mainGlobals "BadDeed"=some (some (.ref c_BadDeed)))
  (ga_BadDeed:PySem.W.findIn K (.ref c_BadDeed) "__getattribute__"=some (some (.builtin "BaseException.__getattribute__"))) (gg_BadDeed:PySem.W.findIn K (.ref c_BadDeed) "__getattr__"=some none) (exC_BadDeed:PySem.W.subIn K (.ref c_BadDeed) (.type "BaseException")=some true) (hdC_BadDeed:PySem.W.hasDictIn K c_BadDeed=true) (cc_BadDeed:PySem.W.findIn K (.ref c_BadDeed) "__class__"=some (some (.builtin "object.__class__"))) (mo_BadDeed:PySem.W.mroIn K c_BadDeed (.type "object")=some true) (iC_BadDeed:PySem.W.isClsIn K c_BadDeed=true) (tyC_BadDeed:PySem.W.typeIn K (.ref c_BadDeed)=some (.type "type"))
  (noN_BadDeed:PySem.W.findIn K (.ref c_BadDeed) "name"=some none)
  (q_BadEdit:PySem.W.nsIn K mainGlobals "BadEdit"=some (some (.ref c_BadEdit)))
  (ga_BadEdit:PySem.W.findIn K (.ref c_BadEdit) "__getattribute__"=some (some (.builtin "BaseException.__getattribute__"))) (gg_BadEdit:PySem.W.findIn K (.ref c_BadEdit) "__getattr__"=some none) (exC_BadEdit:PySem.W.subIn K (.ref c_BadEdit) (.type "BaseException")=some true) (hdC_BadEdit:PySem.W.hasDictIn K c_BadEdit=true) (cc_BadEdit:PySem.W.findIn K (.ref c_BadEdit) "__class__"=some (some (.builtin "object.__class__"))) (mo_BadEdit:PySem.W.mroIn K c_BadEdit (.type "object")=some true) (iC_BadEdit:PySem.W.isClsIn K c_BadEdit=true) (tyC_BadEdit:PySem.W.typeIn K (.ref c_BadEdit)=some (.type "type"))
  (q_BadProgram:PySem.W.nsIn K mainGlobals "BadProgram"=some (some (.ref c_BadProgram)))
  (ga_BadProgram:PySem.W.findIn K (.ref c_BadProgram) "__getattribute__"=some (some (.builtin "BaseException.__getattribute__"))) (gg_BadProgram:PySem.W.findIn K (.ref c_BadProgram) "__getattr__"=some none) (exC_BadProgram:PySem.W.subIn K (.ref c_BadProgram) (.type "BaseException")=some true) (hdC_BadProgram:PySem.W.hasDictIn K c_BadProgram=true) (cc_BadProgram:PySem.W.findIn K (.ref c_BadProgram) "__class__"=some (some (.builtin "object.__class__"))) (mo_BadProgram:PySem.W.mroIn K c_BadProgram (.type "object")=some true) (iC_BadProgram:PySem.W.isClsIn K c_BadProgram=true) (tyC_BadProgram:PySem.W.typeIn K (.ref c_BadProgram)=some (.type "type"))
  (noN_BadProgram:PySem.W.findIn K (.ref c_BadProgram) "at"=some none)
  (q_BadStep:PySem.W.nsIn K mainGlobals "BadStep"=some (some (.ref c_BadStep)))
  (ga_BadStep:PySem.W.findIn K (.ref c_BadStep) "__getattribute__"=some (some (.builtin "BaseException.__getattribute__"))) (gg_BadStep:PySem.W.findIn K (.ref c_BadStep) "__getattr__"=some none) (exC_BadStep:PySem.W.subIn K (.ref c_BadStep) (.type "BaseException")=some true) (hdC_BadStep:PySem.W.hasDictIn K c_BadStep=true) (cc_BadStep:PySem.W.findIn K (.ref c_BadStep) "__class__"=some (some (.builtin "object.__class__"))) (mo_BadStep:PySem.W.mroIn K c_BadStep (.type "object")=some true) (iC_BadStep:PySem.W.isClsIn K c_BadStep=true) (tyC_BadStep:PySem.W.typeIn K (.ref c_BadStep)=some (.type "type"))
  (noN_BadStep:PySem.W.findIn K (.ref c_BadStep) "index"=some none)
  (q_CountError:PySem.W.nsIn K mainGlobals "CountError"=some (some (.ref c_CountError)))
  (ga_CountError:PySem.W.findIn K (.ref c_CountError) "__getattribute__"=some (some (.builtin "BaseException.__getattribute__"))) (gg_CountError:PySem.W.findIn K (.ref c_CountError) "__getattr__"=some none) (exC_CountError:PySem.W.subIn K (.ref c_CountError) (.type "BaseException")=some true) (hdC_CountError:PySem.W.hasDictIn K c_CountError=true) (cc_CountError:PySem.W.findIn K (.ref c_CountError) "__class__"=some (some (.builtin "object.__class__"))) (mo_CountError:PySem.W.mroIn K c_CountError (.type "object")=some true) (iC_CountError:PySem.W.isClsIn K c_CountError=true) (tyC_CountError:PySem.W.typeIn K (.ref c_CountError)=some (.type "type"))
  (q_NoCommand:PySem.W.nsIn K mainGlobals "NoCommand"=some (some (.ref c_NoCommand)))
  (ga_NoCommand:PySem.W.findIn K (.ref c_NoCommand) "__getattribute__"=some (some (.builtin "BaseException.__getattribute__"))) (gg_NoCommand:PySem.W.findIn K (.ref c_NoCommand) "__getattr__"=some none) (exC_NoCommand:PySem.W.subIn K (.ref c_NoCommand) (.type "BaseException")=some true) (hdC_NoCommand:PySem.W.hasDictIn K c_NoCommand=true) (cc_NoCommand:PySem.W.findIn K (.ref c_NoCommand) "__class__"=some (some (.builtin "object.__class__"))) (mo_NoCommand:PySem.W.mroIn K c_NoCommand (.type "object")=some true) (iC_NoCommand:PySem.W.isClsIn K c_NoCommand=true) (tyC_NoCommand:PySem.W.typeIn K (.ref c_NoCommand)=some (.type "type"))
  (q_NoDeed:PySem.W.nsIn K mainGlobals "NoDeed"=some (some (.ref c_NoDeed)))
  (ga_NoDeed:PySem.W.findIn K (.ref c_NoDeed) "__getattribute__"=some (some (.builtin "BaseException.__getattribute__"))) (gg_NoDeed:PySem.W.findIn K (.ref c_NoDeed) "__getattr__"=some none) (exC_NoDeed:PySem.W.subIn K (.ref c_NoDeed) (.type "BaseException")=some true) (hdC_NoDeed:PySem.W.hasDictIn K c_NoDeed=true) (cc_NoDeed:PySem.W.findIn K (.ref c_NoDeed) "__class__"=some (some (.builtin "object.__class__"))) (mo_NoDeed:PySem.W.mroIn K c_NoDeed (.type "object")=some true) (iC_NoDeed:PySem.W.isClsIn K c_NoDeed=true) (tyC_NoDeed:PySem.W.typeIn K (.ref c_NoDeed)=some (.type "type"))
  (noN_NoDeed:PySem.W.findIn K (.ref c_NoDeed) "name"=some none)
  (q_NoMark:PySem.W.nsIn K mainGlobals "NoMark"=some (some (.ref c_NoMark)))
  (ga_NoMark:PySem.W.findIn K (.ref c_NoMark) "__getattribute__"=some (some (.builtin "BaseException.__getattribute__"))) (gg_NoMark:PySem.W.findIn K (.ref c_NoMark) "__getattr__"=some none) (exC_NoMark:PySem.W.subIn K (.ref c_NoMark) (.type "BaseException")=some true) (hdC_NoMark:PySem.W.hasDictIn K c_NoMark=true) (cc_NoMark:PySem.W.findIn K (.ref c_NoMark) "__class__"=some (some (.builtin "object.__class__"))) (mo_NoMark:PySem.W.mroIn K c_NoMark (.type "object")=some true) (iC_NoMark:PySem.W.isClsIn K c_NoMark=true) (tyC_NoMark:PySem.W.typeIn K (.ref c_NoMark)=some (.type "type"))
  (noN_NoMark:PySem.W.findIn K (.ref c_NoMark) "number"=some none)
  (q_NoText:PySem.W.nsIn K mainGlobals "NoText"=some (some (.ref c_NoText)))
  (ga_NoText:PySem.W.findIn K (.ref c_NoText) "__getattribute__"=some (some (.builtin "BaseException.__getattribute__"))) (gg_NoText:PySem.W.findIn K (.ref c_NoText) "__getattr__"=some none) (exC_NoText:PySem.W.subIn K (.ref c_NoText) (.type "BaseException")=some true) (hdC_NoText:PySem.W.hasDictIn K c_NoText=true) (cc_NoText:PySem.W.findIn K (.ref c_NoText) "__class__"=some (some (.builtin "object.__class__"))) (mo_NoText:PySem.W.mroIn K c_NoText (.type "object")=some true) (iC_NoText:PySem.W.isClsIn K c_NoText=true) (tyC_NoText:PySem.W.typeIn K (.ref c_NoText)=some (.type "type"))
  (noN_NoText:PySem.W.findIn K (.ref c_NoText) "line"=some none)
  (q_NotLoud:PySem.W.nsIn K mainGlobals "NotLoud"=some (some (.ref c_NotLoud)))
  (ga_NotLoud:PySem.W.findIn K (.ref c_NotLoud) "__getattribute__"=some (some (.builtin "BaseException.__getattribute__"))) (gg_NotLoud:PySem.W.findIn K (.ref c_NotLoud) "__getattr__"=some none) (exC_NotLoud:PySem.W.subIn K (.ref c_NotLoud) (.type "BaseException")=some true) (hdC_NotLoud:PySem.W.hasDictIn K c_NotLoud=true) (cc_NotLoud:PySem.W.findIn K (.ref c_NotLoud) "__class__"=some (some (.builtin "object.__class__"))) (mo_NotLoud:PySem.W.mroIn K c_NotLoud (.type "object")=some true) (iC_NotLoud:PySem.W.isClsIn K c_NotLoud=true) (tyC_NotLoud:PySem.W.typeIn K (.ref c_NotLoud)=some (.type "type"))
  (noN_NotLoud:PySem.W.findIn K (.ref c_NotLoud) "name"=some none)
  (q_Nothing:PySem.W.nsIn K mainGlobals "Nothing"=some (some (.ref c_Nothing)))
  (ga_Nothing:PySem.W.findIn K (.ref c_Nothing) "__getattribute__"=some (some (.builtin "BaseException.__getattribute__"))) (gg_Nothing:PySem.W.findIn K (.ref c_Nothing) "__getattr__"=some none) (exC_Nothing:PySem.W.subIn K (.ref c_Nothing) (.type "BaseException")=some true) (hdC_Nothing:PySem.W.hasDictIn K c_Nothing=true) (cc_Nothing:PySem.W.findIn K (.ref c_Nothing) "__class__"=some (some (.builtin "object.__class__"))) (mo_Nothing:PySem.W.mroIn K c_Nothing (.type "object")=some true) (iC_Nothing:PySem.W.isClsIn K c_Nothing=true) (tyC_Nothing:PySem.W.typeIn K (.ref c_Nothing)=some (.type "type"))
  (q_TooFew:PySem.W.nsIn K mainGlobals "TooFew"=some (some (.ref c_TooFew)))
  (ga_TooFew:PySem.W.findIn K (.ref c_TooFew) "__getattribute__"=some (some (.builtin "BaseException.__getattribute__"))) (gg_TooFew:PySem.W.findIn K (.ref c_TooFew) "__getattr__"=some none) (exC_TooFew:PySem.W.subIn K (.ref c_TooFew) (.type "BaseException")=some true) (hdC_TooFew:PySem.W.hasDictIn K c_TooFew=true) (cc_TooFew:PySem.W.findIn K (.ref c_TooFew) "__class__"=some (some (.builtin "object.__class__"))) (mo_TooFew:PySem.W.mroIn K c_TooFew (.type "object")=some true) (iC_TooFew:PySem.W.isClsIn K c_TooFew=true) (tyC_TooFew:PySem.W.typeIn K (.ref c_TooFew)=some (.type "type"))
  (noN_TooFew:PySem.W.findIn K (.ref c_TooFew) "many"=some none)
  (q_TooMany:PySem.W.nsIn K mainGlobals "TooMany"=some (some (.ref c_TooMany)))
  (ga_TooMany:PySem.W.findIn K (.ref c_TooMany) "__getattribute__"=some (some (.builtin "BaseException.__getattribute__"))) (gg_TooMany:PySem.W.findIn K (.ref c_TooMany) "__getattr__"=some none) (exC_TooMany:PySem.W.subIn K (.ref c_TooMany) (.type "BaseException")=some true) (hdC_TooMany:PySem.W.hasDictIn K c_TooMany=true) (cc_TooMany:PySem.W.findIn K (.ref c_TooMany) "__class__"=some (some (.builtin "object.__class__"))) (mo_TooMany:PySem.W.mroIn K c_TooMany (.type "object")=some true) (iC_TooMany:PySem.W.isClsIn K c_TooMany=true) (tyC_TooMany:PySem.W.typeIn K (.ref c_TooMany)=some (.type "type"))
  (noN_TooMany:PySem.W.findIn K (.ref c_TooMany) "most"=some none)
  (q_Wrong:PySem.W.nsIn K mainGlobals "Wrong"=some (some (.ref c_Wrong)))
  (ga_Wrong:PySem.W.findIn K (.ref c_Wrong) "__getattribute__"=some (some (.builtin "BaseException.__getattribute__"))) (gg_Wrong:PySem.W.findIn K (.ref c_Wrong) "__getattr__"=some none) (exC_Wrong:PySem.W.subIn K (.ref c_Wrong) (.type "BaseException")=some true) (hdC_Wrong:PySem.W.hasDictIn K c_Wrong=true) (cc_Wrong:PySem.W.findIn K (.ref c_Wrong) "__class__"=some (some (.builtin "object.__class__"))) (mo_Wrong:PySem.W.mroIn K c_Wrong (.type "object")=some true) (iC_Wrong:PySem.W.isClsIn K c_Wrong=true) (tyC_Wrong:PySem.W.typeIn K (.ref c_Wrong)=some (.type "type"))
  (noN_Wrong:PySem.W.findIn K (.ref c_Wrong) "place"=some none)
  (cls_sp:PySem.W.specialIn K (.builtin "object.__class__") "__get__"=some (some (.builtin "getset_descriptor.__get__"))) (cls_tk:PySem.W.takesIn K (.builtin "object.__class__")=some true)
  (op_any:PySem.W.nsIn K cStatics "thirdparty.any"=some none) (z_super:PySem.W.nsIn K mainGlobals "super"=some none) (top_s:(l.prog.main.scope.names.lookup ("super":Str)).isSome=false)
  (xq_BadCall:PySem.W.excIn K c_BadCall [.type "ValueError",.type "Exception",.type "BaseException",.type "object"] "ValueError.__new__"=true) (kC_BadCall:PySem.W.keepIn K (.ref c_BadCall)=true)
  (xq_BadEdit:PySem.W.excIn K c_BadEdit [.type "ValueError",.type "Exception",.type "BaseException",.type "object"] "ValueError.__new__"=true) (kC_BadEdit:PySem.W.keepIn K (.ref c_BadEdit)=true)
  (xq_NoCommand:PySem.W.excIn K c_NoCommand [.type "ValueError",.type "Exception",.type "BaseException",.type "object"] "ValueError.__new__"=true) (kC_NoCommand:PySem.W.keepIn K (.ref c_NoCommand)=true)
  (xq_Nothing:PySem.W.excIn K c_Nothing [.type "ValueError",.type "Exception",.type "BaseException",.type "object"] "ValueError.__new__"=true) (kC_Nothing:PySem.W.keepIn K (.ref c_Nothing)=true)
  {i_BadDeed:Addr} {nmx_BadDeed qx_BadDeed:Str} {Nx_BadDeed:Addr} {bsx_BadDeed bmx_BadDeed:List Value} {snx_BadDeed:List Str} {sbx_BadDeed:List Value} {abx_BadDeed:Bool} {cox_BadDeed:Option Bool} {ddx_BadDeed:Option Addr} {k0x_BadDeed k1x_BadDeed k2x_BadDeed k3x_BadDeed k5x_BadDeed:Option Value}
  {ocx_BadDeed:Value} {odx_BadDeed:Option Addr} {dcx_BadDeed pmx_BadDeed:Value} {anx_BadDeed:Option Addr} {ctx_BadDeed:Value} {slx_BadDeed:Array (Option Value)} {qlx_BadDeed:Str} {p1x_BadDeed p2x_BadDeed q1x_BadDeed q2x_BadDeed q3x_BadDeed q4x_BadDeed q5x_BadDeed q6x_BadDeed q7x_BadDeed q8x_BadDeed q9x_BadDeed q10x_BadDeed:Pos} {cdx_BadDeed ccx_BadDeed:Addr} {clx_BadDeed cmx_BadDeed:Value} {dex_BadDeed dfx_BadDeed:Option Addr} {vsx_BadDeed:Array Value} {csx_BadDeed ctl_BadDeed:Array (Option Value)} {fix_BadDeed:Str} {tfx_BadDeed:Tok} {plx_BadDeed:Sem Bool}
  (lk_BadDeed:K.lookup c_BadDeed=some (excClassObj nmx_BadDeed qx_BadDeed c_BadDeed Nx_BadDeed bsx_BadDeed bmx_BadDeed true snx_BadDeed sbx_BadDeed abx_BadDeed cox_BadDeed ddx_BadDeed k0x_BadDeed k1x_BadDeed k2x_BadDeed k3x_BadDeed k5x_BadDeed "ValueError.__new__"))
  (sa_BadDeed:PySem.W.findIn K (.ref c_BadDeed) "__setattr__"=some (some (.builtin "object.__setattr__"))) (in_BadDeed:PySem.W.findIn K (.ref c_BadDeed) "__init__"=some (some (.ref i_BadDeed))) (tf_BadDeed:PySem.W.typeIn K (.ref i_BadDeed)=some (.type "function")) (kC_BadDeed:PySem.W.keepIn K (.ref c_BadDeed)=true) (exV_BadDeed:PySem.W.subIn K (.ref c_BadDeed) (.type "ValueError")=some true) (su_BadDeed:PySem.W.ks_superIn K c_BadDeed c_BadDeed "__init__"=some (some (.builtin "ValueError.__init__"))) (mr_BadDeed:PySem.W.mroIn K c_BadDeed (.ref c_BadDeed)=some true)
  (lfn_BadDeed:K.lookup i_BadDeed=some ⟨ocx_BadDeed,odx_BadDeed,.func (PySem.W.ksFn "__init__" qlx_BadDeed (DX.eArgs "name" p1x_BadDeed p2x_BadDeed) (DX.eBody "name" q1x_BadDeed q2x_BadDeed q3x_BadDeed q4x_BadDeed q5x_BadDeed q6x_BadDeed q7x_BadDeed q8x_BadDeed q9x_BadDeed q10x_BadDeed) (DX.eScope "name") .none .none dcx_BadDeed pmx_BadDeed anx_BadDeed (.ref cdx_BadDeed) ctx_BadDeed ccx_BadDeed),slx_BadDeed⟩)
  (cod_BadDeed:PySem.W.codeIn K (.ref cdx_BadDeed) qlx_BadDeed=true) (lcd_BadDeed:K.lookup cdx_BadDeed=some ⟨clx_BadDeed,dex_BadDeed,.fields vsx_BadDeed,csx_BadDeed⟩) (lcc_BadDeed:K.lookup ccx_BadDeed=some ⟨cmx_BadDeed,dfx_BadDeed,.cell (some (.ref c_BadDeed)),ctl_BadDeed⟩)
  (rv_BadDeed:PySem.HandSPX.refsVE bmx_BadDeed=true) (v2_BadDeed:vsx_BadDeed[2]?=some (.str fix_BadDeed tfx_BadDeed)) (fl_BadDeed:((l.prog.main.file:Str)==fix_BadDeed)=true)
  (ev_BadDeed:∀ env:PySem.Env,eval (.Call (.Attribute (.Call (.Name "super" q1x_BadDeed) [] [] q2x_BadDeed) "__init__" q3x_BadDeed) [.Name "name" q4x_BadDeed] [] q5x_BadDeed) env=(do
   let ov ←attributeBase (.Call (.Name "super" q1x_BadDeed) [] [] q2x_BadDeed) "__init__" env (eval (.Call (.Name "super" q1x_BadDeed) [] [] q2x_BadDeed) env)
   standAt q3x_BadDeed.atName
   let (f1,first) ←holding [ov] (getMethod ov "__init__" plx_BadDeed)
   callWith q5x_BadDeed f1 first (backTo q5x_BadDeed (starEach [.Name "name" q4x_BadDeed] env)) []))
  (s1_BadDeed:∀ env:PySem.Env,swapsWith (.Call (.Attribute (.Call (.Name "super" q1x_BadDeed) [] [] q2x_BadDeed) "__init__" q3x_BadDeed) [.Name "name" q4x_BadDeed] [] q5x_BadDeed) none q6x_BadDeed.line env=pure false) (s2_BadDeed:∀ env:PySem.Env,swapsWith (.Name "name" q9x_BadDeed) (some (.Attribute (.Name "self" q7x_BadDeed) "name" q8x_BadDeed)) q10x_BadDeed.line env=pure false)
  {i_BadProgram:Addr} {nmx_BadProgram qx_BadProgram:Str} {Nx_BadProgram:Addr} {bsx_BadProgram bmx_BadProgram:List Value} {snx_BadProgram:List Str} {sbx_BadProgram:List Value} {abx_BadProgram:Bool} {cox_BadProgram:Option Bool} {ddx_BadProgram:Option Addr} {k0x_BadProgram k1x_BadProgram k2x_BadProgram k3x_BadProgram k5x_BadProgram:Option Value}
  {ocx_BadProgram:Value} {odx_BadProgram:Option Addr} {dcx_BadProgram pmx_BadProgram:Value} {anx_BadProgram:Option Addr} {ctx_BadProgram:Value} {slx_BadProgram:Array (Option Value)} {qlx_BadProgram:Str} {p1x_BadProgram p2x_BadProgram q1x_BadProgram q2x_BadProgram q3x_BadProgram q4x_BadProgram q5x_BadProgram q6x_BadProgram q7x_BadProgram q8x_BadProgram q9x_BadProgram q10x_BadProgram:Pos} {cdx_BadProgram ccx_BadProgram:Addr} {clx_BadProgram cmx_BadProgram:Value} {dex_BadProgram dfx_BadProgram:Option Addr} {vsx_BadProgram:Array Value} {csx_BadProgram ctl_BadProgram:Array (Option Value)} {fix_BadProgram:Str} {tfx_BadProgram:Tok} {plx_BadProgram:Sem Bool}
  (lk_BadProgram:K.lookup c_BadProgram=some (excClassObj nmx_BadProgram qx_BadProgram c_BadProgram Nx_BadProgram bsx_BadProgram bmx_BadProgram true snx_BadProgram sbx_BadProgram abx_BadProgram cox_BadProgram ddx_BadProgram k0x_BadProgram k1x_BadProgram k2x_BadProgram k3x_BadProgram k5x_BadProgram "ValueError.__new__"))
  (sa_BadProgram:PySem.W.findIn K (.ref c_BadProgram) "__setattr__"=some (some (.builtin "object.__setattr__"))) (in_BadProgram:PySem.W.findIn K (.ref c_BadProgram) "__init__"=some (some (.ref i_BadProgram))) (tf_BadProgram:PySem.W.typeIn K (.ref i_BadProgram)=some (.type "function")) (kC_BadProgram:PySem.W.keepIn K (.ref c_BadProgram)=true) (exV_BadProgram:PySem.W.subIn K (.ref c_BadProgram) (.type "ValueError")=some true) (su_BadProgram:PySem.W.ks_superIn K c_BadProgram c_BadProgram "__init__"=some (some (.builtin "ValueError.__init__"))) (mr_BadProgram:PySem.W.mroIn K c_BadProgram (.ref c_BadProgram)=some true)
  (lfn_BadProgram:K.lookup i_BadProgram=some ⟨ocx_BadProgram,odx_BadProgram,.func (PySem.W.ksFn "__init__" qlx_BadProgram (DX.eArgs "at" p1x_BadProgram p2x_BadProgram) (DX.eBody "at" q1x_BadProgram q2x_BadProgram q3x_BadProgram q4x_BadProgram q5x_BadProgram q6x_BadProgram q7x_BadProgram q8x_BadProgram q9x_BadProgram q10x_BadProgram) (DX.eScope "at") .none .none dcx_BadProgram pmx_BadProgram anx_BadProgram (.ref cdx_BadProgram) ctx_BadProgram ccx_BadProgram),slx_BadProgram⟩)
  (cod_BadProgram:PySem.W.codeIn K (.ref cdx_BadProgram) qlx_BadProgram=true) (lcd_BadProgram:K.lookup cdx_BadProgram=some ⟨clx_BadProgram,dex_BadProgram,.fields vsx_BadProgram,csx_BadProgram⟩) (lcc_BadProgram:K.lookup ccx_BadProgram=some ⟨cmx_BadProgram,dfx_BadProgram,.cell (some (.ref c_BadProgram)),ctl_BadProgram⟩)
  (rv_BadProgram:PySem.HandSPX.refsVE bmx_BadProgram=true) (v2_BadProgram:vsx_BadProgram[2]?=some (.str fix_BadProgram tfx_BadProgram)) (fl_BadProgram:((l.prog.main.file:Str)==fix_BadProgram)=true)
  (ev_BadProgram:∀ env:PySem.Env,eval (.Call (.Attribute (.Call (.Name "super" q1x_BadProgram) [] [] q2x_BadProgram) "__init__" q3x_BadProgram) [.Name "at" q4x_BadProgram] [] q5x_BadProgram) env=(do
   let ov ←attributeBase (.Call (.Name "super" q1x_BadProgram) [] [] q2x_BadProgram) "__init__" env (eval (.Call (.Name "super" q1x_BadProgram) [] [] q2x_BadProgram) env)
   standAt q3x_BadProgram.atName
   let (f1,first) ←holding [ov] (getMethod ov "__init__" plx_BadProgram)
   callWith q5x_BadProgram f1 first (backTo q5x_BadProgram (starEach [.Name "at" q4x_BadProgram] env)) []))
  (s1_BadProgram:∀ env:PySem.Env,swapsWith (.Call (.Attribute (.Call (.Name "super" q1x_BadProgram) [] [] q2x_BadProgram) "__init__" q3x_BadProgram) [.Name "at" q4x_BadProgram] [] q5x_BadProgram) none q6x_BadProgram.line env=pure false) (s2_BadProgram:∀ env:PySem.Env,swapsWith (.Name "at" q9x_BadProgram) (some (.Attribute (.Name "self" q7x_BadProgram) "at" q8x_BadProgram)) q10x_BadProgram.line env=pure false)
  {i_BadStep:Addr} {nmx_BadStep qx_BadStep:Str} {Nx_BadStep:Addr} {bsx_BadStep bmx_BadStep:List Value} {snx_BadStep:List Str} {sbx_BadStep:List Value} {abx_BadStep:Bool} {cox_BadStep:Option Bool} {ddx_BadStep:Option Addr} {k0x_BadStep k1x_BadStep k2x_BadStep k3x_BadStep k5x_BadStep:Option Value}
  {ocx_BadStep:Value} {odx_BadStep:Option Addr} {dcx_BadStep pmx_BadStep:Value} {anx_BadStep:Option Addr} {ctx_BadStep:Value} {slx_BadStep:Array (Option Value)} {qlx_BadStep:Str} {p1x_BadStep p2x_BadStep q1x_BadStep q2x_BadStep q3x_BadStep q4x_BadStep q5x_BadStep q6x_BadStep q7x_BadStep q8x_BadStep q9x_BadStep q10x_BadStep:Pos} {cdx_BadStep ccx_BadStep:Addr} {clx_BadStep cmx_BadStep:Value} {dex_BadStep dfx_BadStep:Option Addr} {vsx_BadStep:Array Value} {csx_BadStep ctl_BadStep:Array (Option Value)} {fix_BadStep:Str} {tfx_BadStep:Tok} {plx_BadStep:Sem Bool}
  (lk_BadStep:K.lookup c_BadStep=some (excClassObj nmx_BadStep qx_BadStep c_BadStep Nx_BadStep bsx_BadStep bmx_BadStep true snx_BadStep sbx_BadStep abx_BadStep cox_BadStep ddx_BadStep k0x_BadStep k1x_BadStep k2x_BadStep k3x_BadStep k5x_BadStep "ValueError.__new__"))
  (sa_BadStep:PySem.W.findIn K (.ref c_BadStep) "__setattr__"=some (some (.builtin "object.__setattr__"))) (in_BadStep:PySem.W.findIn K (.ref c_BadStep) "__init__"=some (some (.ref i_BadStep))) (tf_BadStep:PySem.W.typeIn K (.ref i_BadStep)=some (.type "function")) (kC_BadStep:PySem.W.keepIn K (.ref c_BadStep)=true) (exV_BadStep:PySem.W.subIn K (.ref c_BadStep) (.type "ValueError")=some true) (su_BadStep:PySem.W.ks_superIn K c_BadStep c_BadStep "__init__"=some (some (.builtin "ValueError.__init__"))) (mr_BadStep:PySem.W.mroIn K c_BadStep (.ref c_BadStep)=some true)
  (lfn_BadStep:K.lookup i_BadStep=some ⟨ocx_BadStep,odx_BadStep,.func (PySem.W.ksFn "__init__" qlx_BadStep (DX.eArgs "index" p1x_BadStep p2x_BadStep) (DX.eBody "index" q1x_BadStep q2x_BadStep q3x_BadStep q4x_BadStep q5x_BadStep q6x_BadStep q7x_BadStep q8x_BadStep q9x_BadStep q10x_BadStep) (DX.eScope "index") .none .none dcx_BadStep pmx_BadStep anx_BadStep (.ref cdx_BadStep) ctx_BadStep ccx_BadStep),slx_BadStep⟩)
  (cod_BadStep:PySem.W.codeIn K (.ref cdx_BadStep) qlx_BadStep=true) (lcd_BadStep:K.lookup cdx_BadStep=some ⟨clx_BadStep,dex_BadStep,.fields vsx_BadStep,csx_BadStep⟩) (lcc_BadStep:K.lookup ccx_BadStep=some ⟨cmx_BadStep,dfx_BadStep,.cell (some (.ref c_BadStep)),ctl_BadStep⟩)
  (rv_BadStep:PySem.HandSPX.refsVE bmx_BadStep=true) (v2_BadStep:vsx_BadStep[2]?=some (.str fix_BadStep tfx_BadStep)) (fl_BadStep:((l.prog.main.file:Str)==fix_BadStep)=true)
  (ev_BadStep:∀ env:PySem.Env,eval (.Call (.Attribute (.Call (.Name "super" q1x_BadStep) [] [] q2x_BadStep) "__init__" q3x_BadStep) [.Name "index" q4x_BadStep] [] q5x_BadStep) env=(do
   let ov ←attributeBase (.Call (.Name "super" q1x_BadStep) [] [] q2x_BadStep) "__init__" env (eval (.Call (.Name "super" q1x_BadStep) [] [] q2x_BadStep) env)
   standAt q3x_BadStep.atName
   let (f1,first) ←holding [ov] (getMethod ov "__init__" plx_BadStep)
   callWith q5x_BadStep f1 first (backTo q5x_BadStep (starEach [.Name "index" q4x_BadStep] env)) []))
  (s1_BadStep:∀ env:PySem.Env,swapsWith (.Call (.Attribute (.Call (.Name "super" q1x_BadStep) [] [] q2x_BadStep) "__init__" q3x_BadStep) [.Name "index" q4x_BadStep] [] q5x_BadStep) none q6x_BadStep.line env=pure false) (s2_BadStep:∀ env:PySem.Env,swapsWith (.Name "index" q9x_BadStep) (some (.Attribute (.Name "self" q7x_BadStep) "index" q8x_BadStep)) q10x_BadStep.line env=pure false)
  {i_NoDeed:Addr} {nmx_NoDeed qx_NoDeed:Str} {Nx_NoDeed:Addr} {bsx_NoDeed bmx_NoDeed:List Value} {snx_NoDeed:List Str} {sbx_NoDeed:List Value} {abx_NoDeed:Bool} {cox_NoDeed:Option Bool} {ddx_NoDeed:Option Addr} {k0x_NoDeed k1x_NoDeed k2x_NoDeed k3x_NoDeed k5x_NoDeed:Option Value}
  {ocx_NoDeed:Value} {odx_NoDeed:Option Addr} {dcx_NoDeed pmx_NoDeed:Value} {anx_NoDeed:Option Addr} {ctx_NoDeed:Value} {slx_NoDeed:Array (Option Value)} {qlx_NoDeed:Str} {p1x_NoDeed p2x_NoDeed q1x_NoDeed q2x_NoDeed q3x_NoDeed q4x_NoDeed q5x_NoDeed q6x_NoDeed q7x_NoDeed q8x_NoDeed q9x_NoDeed q10x_NoDeed:Pos} {cdx_NoDeed ccx_NoDeed:Addr} {clx_NoDeed cmx_NoDeed:Value} {dex_NoDeed dfx_NoDeed:Option Addr} {vsx_NoDeed:Array Value} {csx_NoDeed ctl_NoDeed:Array (Option Value)} {fix_NoDeed:Str} {tfx_NoDeed:Tok} {plx_NoDeed:Sem Bool}
  (lk_NoDeed:K.lookup c_NoDeed=some (excClassObj nmx_NoDeed qx_NoDeed c_NoDeed Nx_NoDeed bsx_NoDeed bmx_NoDeed true snx_NoDeed sbx_NoDeed abx_NoDeed cox_NoDeed ddx_NoDeed k0x_NoDeed k1x_NoDeed k2x_NoDeed k3x_NoDeed k5x_NoDeed "ValueError.__new__"))
  (sa_NoDeed:PySem.W.findIn K (.ref c_NoDeed) "__setattr__"=some (some (.builtin "object.__setattr__"))) (in_NoDeed:PySem.W.findIn K (.ref c_NoDeed) "__init__"=some (some (.ref i_NoDeed))) (tf_NoDeed:PySem.W.typeIn K (.ref i_NoDeed)=some (.type "function")) (kC_NoDeed:PySem.W.keepIn K (.ref c_NoDeed)=true) (exV_NoDeed:PySem.W.subIn K (.ref c_NoDeed) (.type "ValueError")=some true) (su_NoDeed:PySem.W.ks_superIn K c_NoDeed c_NoDeed "__init__"=some (some (.builtin "ValueError.__init__"))) (mr_NoDeed:PySem.W.mroIn K c_NoDeed (.ref c_NoDeed)=some true)
  (lfn_NoDeed:K.lookup i_NoDeed=some ⟨ocx_NoDeed,odx_NoDeed,.func (PySem.W.ksFn "__init__" qlx_NoDeed (DX.eArgs "name" p1x_NoDeed p2x_NoDeed) (DX.eBody "name" q1x_NoDeed q2x_NoDeed q3x_NoDeed q4x_NoDeed q5x_NoDeed q6x_NoDeed q7x_NoDeed q8x_NoDeed q9x_NoDeed q10x_NoDeed) (DX.eScope "name") .none .none dcx_NoDeed pmx_NoDeed anx_NoDeed (.ref cdx_NoDeed) ctx_NoDeed ccx_NoDeed),slx_NoDeed⟩)
  (cod_NoDeed:PySem.W.codeIn K (.ref cdx_NoDeed) qlx_NoDeed=true) (lcd_NoDeed:K.lookup cdx_NoDeed=some ⟨clx_NoDeed,dex_NoDeed,.fields vsx_NoDeed,csx_NoDeed⟩) (lcc_NoDeed:K.lookup ccx_NoDeed=some ⟨cmx_NoDeed,dfx_NoDeed,.cell (some (.ref c_NoDeed)),ctl_NoDeed⟩)
  (rv_NoDeed:PySem.HandSPX.refsVE bmx_NoDeed=true) (v2_NoDeed:vsx_NoDeed[2]?=some (.str fix_NoDeed tfx_NoDeed)) (fl_NoDeed:((l.prog.main.file:Str)==fix_NoDeed)=true)
  (ev_NoDeed:∀ env:PySem.Env,eval (.Call (.Attribute (.Call (.Name "super" q1x_NoDeed) [] [] q2x_NoDeed) "__init__" q3x_NoDeed) [.Name "name" q4x_NoDeed] [] q5x_NoDeed) env=(do
   let ov ←attributeBase (.Call (.Name "super" q1x_NoDeed) [] [] q2x_NoDeed) "__init__" env (eval (.Call (.Name "super" q1x_NoDeed) [] [] q2x_NoDeed) env)
   standAt q3x_NoDeed.atName
   let (f1,first) ←holding [ov] (getMethod ov "__init__" plx_NoDeed)
   callWith q5x_NoDeed f1 first (backTo q5x_NoDeed (starEach [.Name "name" q4x_NoDeed] env)) []))
  (s1_NoDeed:∀ env:PySem.Env,swapsWith (.Call (.Attribute (.Call (.Name "super" q1x_NoDeed) [] [] q2x_NoDeed) "__init__" q3x_NoDeed) [.Name "name" q4x_NoDeed] [] q5x_NoDeed) none q6x_NoDeed.line env=pure false) (s2_NoDeed:∀ env:PySem.Env,swapsWith (.Name "name" q9x_NoDeed) (some (.Attribute (.Name "self" q7x_NoDeed) "name" q8x_NoDeed)) q10x_NoDeed.line env=pure false)
  {i_NoMark:Addr} {nmx_NoMark qx_NoMark:Str} {Nx_NoMark:Addr} {bsx_NoMark bmx_NoMark:List Value} {snx_NoMark:List Str} {sbx_NoMark:List Value} {abx_NoMark:Bool} {cox_NoMark:Option Bool} {ddx_NoMark:Option Addr} {k0x_NoMark k1x_NoMark k2x_NoMark k3x_NoMark k5x_NoMark:Option Value}
  {ocx_NoMark:Value} {odx_NoMark:Option Addr} {dcx_NoMark pmx_NoMark:Value} {anx_NoMark:Option Addr} {ctx_NoMark:Value} {slx_NoMark:Array (Option Value)} {qlx_NoMark:Str} {p1x_NoMark p2x_NoMark q1x_NoMark q2x_NoMark q3x_NoMark q4x_NoMark q5x_NoMark q6x_NoMark q7x_NoMark q8x_NoMark q9x_NoMark q10x_NoMark:Pos} {cdx_NoMark ccx_NoMark:Addr} {clx_NoMark cmx_NoMark:Value} {dex_NoMark dfx_NoMark:Option Addr} {vsx_NoMark:Array Value} {csx_NoMark ctl_NoMark:Array (Option Value)} {fix_NoMark:Str} {tfx_NoMark:Tok} {plx_NoMark:Sem Bool}
  (lk_NoMark:K.lookup c_NoMark=some (excClassObj nmx_NoMark qx_NoMark c_NoMark Nx_NoMark bsx_NoMark bmx_NoMark true snx_NoMark sbx_NoMark abx_NoMark cox_NoMark ddx_NoMark k0x_NoMark k1x_NoMark k2x_NoMark k3x_NoMark k5x_NoMark "ValueError.__new__"))
  (sa_NoMark:PySem.W.findIn K (.ref c_NoMark) "__setattr__"=some (some (.builtin "object.__setattr__"))) (in_NoMark:PySem.W.findIn K (.ref c_NoMark) "__init__"=some (some (.ref i_NoMark))) (tf_NoMark:PySem.W.typeIn K (.ref i_NoMark)=some (.type "function")) (kC_NoMark:PySem.W.keepIn K (.ref c_NoMark)=true) (exV_NoMark:PySem.W.subIn K (.ref c_NoMark) (.type "ValueError")=some true) (su_NoMark:PySem.W.ks_superIn K c_NoMark c_NoMark "__init__"=some (some (.builtin "ValueError.__init__"))) (mr_NoMark:PySem.W.mroIn K c_NoMark (.ref c_NoMark)=some true)
  (lfn_NoMark:K.lookup i_NoMark=some ⟨ocx_NoMark,odx_NoMark,.func (PySem.W.ksFn "__init__" qlx_NoMark (DX.eArgs "number" p1x_NoMark p2x_NoMark) (DX.eBody "number" q1x_NoMark q2x_NoMark q3x_NoMark q4x_NoMark q5x_NoMark q6x_NoMark q7x_NoMark q8x_NoMark q9x_NoMark q10x_NoMark) (DX.eScope "number") .none .none dcx_NoMark pmx_NoMark anx_NoMark (.ref cdx_NoMark) ctx_NoMark ccx_NoMark),slx_NoMark⟩)
  (cod_NoMark:PySem.W.codeIn K (.ref cdx_NoMark) qlx_NoMark=true) (lcd_NoMark:K.lookup cdx_NoMark=some ⟨clx_NoMark,dex_NoMark,.fields vsx_NoMark,csx_NoMark⟩) (lcc_NoMark:K.lookup ccx_NoMark=some ⟨cmx_NoMark,dfx_NoMark,.cell (some (.ref c_NoMark)),ctl_NoMark⟩)
  (rv_NoMark:PySem.HandSPX.refsVE bmx_NoMark=true) (v2_NoMark:vsx_NoMark[2]?=some (.str fix_NoMark tfx_NoMark)) (fl_NoMark:((l.prog.main.file:Str)==fix_NoMark)=true)
  (ev_NoMark:∀ env:PySem.Env,eval (.Call (.Attribute (.Call (.Name "super" q1x_NoMark) [] [] q2x_NoMark) "__init__" q3x_NoMark) [.Name "number" q4x_NoMark] [] q5x_NoMark) env=(do
   let ov ←attributeBase (.Call (.Name "super" q1x_NoMark) [] [] q2x_NoMark) "__init__" env (eval (.Call (.Name "super" q1x_NoMark) [] [] q2x_NoMark) env)
   standAt q3x_NoMark.atName
   let (f1,first) ←holding [ov] (getMethod ov "__init__" plx_NoMark)
   callWith q5x_NoMark f1 first (backTo q5x_NoMark (starEach [.Name "number" q4x_NoMark] env)) []))
  (s1_NoMark:∀ env:PySem.Env,swapsWith (.Call (.Attribute (.Call (.Name "super" q1x_NoMark) [] [] q2x_NoMark) "__init__" q3x_NoMark) [.Name "number" q4x_NoMark] [] q5x_NoMark) none q6x_NoMark.line env=pure false) (s2_NoMark:∀ env:PySem.Env,swapsWith (.Name "number" q9x_NoMark) (some (.Attribute (.Name "self" q7x_NoMark) "number" q8x_NoMark)) q10x_NoMark.line env=pure false)
  {i_NoText:Addr} {nmx_NoText qx_NoText:Str} {Nx_NoText:Addr} {bsx_NoText bmx_NoText:List Value} {snx_NoText:List Str} {sbx_NoText:List Value} {abx_NoText:Bool} {cox_NoText:Option Bool} {ddx_NoText:Option Addr} {k0x_NoText k1x_NoText k2x_NoText k3x_NoText k5x_NoText:Option Value}
  {ocx_NoText:Value} {odx_NoText:Option Addr} {dcx_NoText pmx_NoText:Value} {anx_NoText:Option Addr} {ctx_NoText:Value} {slx_NoText:Array (Option Value)} {qlx_NoText:Str} {p1x_NoText p2x_NoText q1x_NoText q2x_NoText q3x_NoText q4x_NoText q5x_NoText q6x_NoText q7x_NoText q8x_NoText q9x_NoText q10x_NoText:Pos} {cdx_NoText ccx_NoText:Addr} {clx_NoText cmx_NoText:Value} {dex_NoText dfx_NoText:Option Addr} {vsx_NoText:Array Value} {csx_NoText ctl_NoText:Array (Option Value)} {fix_NoText:Str} {tfx_NoText:Tok} {plx_NoText:Sem Bool}
  (lk_NoText:K.lookup c_NoText=some (excClassObj nmx_NoText qx_NoText c_NoText Nx_NoText bsx_NoText bmx_NoText true snx_NoText sbx_NoText abx_NoText cox_NoText ddx_NoText k0x_NoText k1x_NoText k2x_NoText k3x_NoText k5x_NoText "ValueError.__new__"))
  (sa_NoText:PySem.W.findIn K (.ref c_NoText) "__setattr__"=some (some (.builtin "object.__setattr__"))) (in_NoText:PySem.W.findIn K (.ref c_NoText) "__init__"=some (some (.ref i_NoText))) (tf_NoText:PySem.W.typeIn K (.ref i_NoText)=some (.type "function")) (kC_NoText:PySem.W.keepIn K (.ref c_NoText)=true) (exV_NoText:PySem.W.subIn K (.ref c_NoText) (.type "ValueError")=some true) (su_NoText:PySem.W.ks_superIn K c_NoText c_NoText "__init__"=some (some (.builtin "ValueError.__init__"))) (mr_NoText:PySem.W.mroIn K c_NoText (.ref c_NoText)=some true)
  (lfn_NoText:K.lookup i_NoText=some ⟨ocx_NoText,odx_NoText,.func (PySem.W.ksFn "__init__" qlx_NoText (DX.eArgs "line" p1x_NoText p2x_NoText) (DX.eBody "line" q1x_NoText q2x_NoText q3x_NoText q4x_NoText q5x_NoText q6x_NoText q7x_NoText q8x_NoText q9x_NoText q10x_NoText) (DX.eScope "line") .none .none dcx_NoText pmx_NoText anx_NoText (.ref cdx_NoText) ctx_NoText ccx_NoText),slx_NoText⟩)
  (cod_NoText:PySem.W.codeIn K (.ref cdx_NoText) qlx_NoText=true) (lcd_NoText:K.lookup cdx_NoText=some ⟨clx_NoText,dex_NoText,.fields vsx_NoText,csx_NoText⟩) (lcc_NoText:K.lookup ccx_NoText=some ⟨cmx_NoText,dfx_NoText,.cell (some (.ref c_NoText)),ctl_NoText⟩)
  (rv_NoText:PySem.HandSPX.refsVE bmx_NoText=true) (v2_NoText:vsx_NoText[2]?=some (.str fix_NoText tfx_NoText)) (fl_NoText:((l.prog.main.file:Str)==fix_NoText)=true)
  (ev_NoText:∀ env:PySem.Env,eval (.Call (.Attribute (.Call (.Name "super" q1x_NoText) [] [] q2x_NoText) "__init__" q3x_NoText) [.Name "line" q4x_NoText] [] q5x_NoText) env=(do
   let ov ←attributeBase (.Call (.Name "super" q1x_NoText) [] [] q2x_NoText) "__init__" env (eval (.Call (.Name "super" q1x_NoText) [] [] q2x_NoText) env)
   standAt q3x_NoText.atName
   let (f1,first) ←holding [ov] (getMethod ov "__init__" plx_NoText)
   callWith q5x_NoText f1 first (backTo q5x_NoText (starEach [.Name "line" q4x_NoText] env)) []))
  (s1_NoText:∀ env:PySem.Env,swapsWith (.Call (.Attribute (.Call (.Name "super" q1x_NoText) [] [] q2x_NoText) "__init__" q3x_NoText) [.Name "line" q4x_NoText] [] q5x_NoText) none q6x_NoText.line env=pure false) (s2_NoText:∀ env:PySem.Env,swapsWith (.Name "line" q9x_NoText) (some (.Attribute (.Name "self" q7x_NoText) "line" q8x_NoText)) q10x_NoText.line env=pure false)
  {i_NotLoud:Addr} {nmx_NotLoud qx_NotLoud:Str} {Nx_NotLoud:Addr} {bsx_NotLoud bmx_NotLoud:List Value} {snx_NotLoud:List Str} {sbx_NotLoud:List Value} {abx_NotLoud:Bool} {cox_NotLoud:Option Bool} {ddx_NotLoud:Option Addr} {k0x_NotLoud k1x_NotLoud k2x_NotLoud k3x_NotLoud k5x_NotLoud:Option Value}
  {ocx_NotLoud:Value} {odx_NotLoud:Option Addr} {dcx_NotLoud pmx_NotLoud:Value} {anx_NotLoud:Option Addr} {ctx_NotLoud:Value} {slx_NotLoud:Array (Option Value)} {qlx_NotLoud:Str} {p1x_NotLoud p2x_NotLoud q1x_NotLoud q2x_NotLoud q3x_NotLoud q4x_NotLoud q5x_NotLoud q6x_NotLoud q7x_NotLoud q8x_NotLoud q9x_NotLoud q10x_NotLoud:Pos} {cdx_NotLoud ccx_NotLoud:Addr} {clx_NotLoud cmx_NotLoud:Value} {dex_NotLoud dfx_NotLoud:Option Addr} {vsx_NotLoud:Array Value} {csx_NotLoud ctl_NotLoud:Array (Option Value)} {fix_NotLoud:Str} {tfx_NotLoud:Tok} {plx_NotLoud:Sem Bool}
  (lk_NotLoud:K.lookup c_NotLoud=some (excClassObj nmx_NotLoud qx_NotLoud c_NotLoud Nx_NotLoud bsx_NotLoud bmx_NotLoud true snx_NotLoud sbx_NotLoud abx_NotLoud cox_NotLoud ddx_NotLoud k0x_NotLoud k1x_NotLoud k2x_NotLoud k3x_NotLoud k5x_NotLoud "ValueError.__new__"))
  (sa_NotLoud:PySem.W.findIn K (.ref c_NotLoud) "__setattr__"=some (some (.builtin "object.__setattr__"))) (in_NotLoud:PySem.W.findIn K (.ref c_NotLoud) "__init__"=some (some (.ref i_NotLoud))) (tf_NotLoud:PySem.W.typeIn K (.ref i_NotLoud)=some (.type "function")) (kC_NotLoud:PySem.W.keepIn K (.ref c_NotLoud)=true) (exV_NotLoud:PySem.W.subIn K (.ref c_NotLoud) (.type "ValueError")=some true) (su_NotLoud:PySem.W.ks_superIn K c_NotLoud c_NotLoud "__init__"=some (some (.builtin "ValueError.__init__"))) (mr_NotLoud:PySem.W.mroIn K c_NotLoud (.ref c_NotLoud)=some true)
  (lfn_NotLoud:K.lookup i_NotLoud=some ⟨ocx_NotLoud,odx_NotLoud,.func (PySem.W.ksFn "__init__" qlx_NotLoud (DX.eArgs "name" p1x_NotLoud p2x_NotLoud) (DX.eBody "name" q1x_NotLoud q2x_NotLoud q3x_NotLoud q4x_NotLoud q5x_NotLoud q6x_NotLoud q7x_NotLoud q8x_NotLoud q9x_NotLoud q10x_NotLoud) (DX.eScope "name") .none .none dcx_NotLoud pmx_NotLoud anx_NotLoud (.ref cdx_NotLoud) ctx_NotLoud ccx_NotLoud),slx_NotLoud⟩)
  (cod_NotLoud:PySem.W.codeIn K (.ref cdx_NotLoud) qlx_NotLoud=true) (lcd_NotLoud:K.lookup cdx_NotLoud=some ⟨clx_NotLoud,dex_NotLoud,.fields vsx_NotLoud,csx_NotLoud⟩) (lcc_NotLoud:K.lookup ccx_NotLoud=some ⟨cmx_NotLoud,dfx_NotLoud,.cell (some (.ref c_NotLoud)),ctl_NotLoud⟩)
  (rv_NotLoud:PySem.HandSPX.refsVE bmx_NotLoud=true) (v2_NotLoud:vsx_NotLoud[2]?=some (.str fix_NotLoud tfx_NotLoud)) (fl_NotLoud:((l.prog.main.file:Str)==fix_NotLoud)=true)
  (ev_NotLoud:∀ env:PySem.Env,eval (.Call (.Attribute (.Call (.Name "super" q1x_NotLoud) [] [] q2x_NotLoud) "__init__" q3x_NotLoud) [.Name "name" q4x_NotLoud] [] q5x_NotLoud) env=(do
   let ov ←attributeBase (.Call (.Name "super" q1x_NotLoud) [] [] q2x_NotLoud) "__init__" env (eval (.Call (.Name "super" q1x_NotLoud) [] [] q2x_NotLoud) env)
   standAt q3x_NotLoud.atName
   let (f1,first) ←holding [ov] (getMethod ov "__init__" plx_NotLoud)
   callWith q5x_NotLoud f1 first (backTo q5x_NotLoud (starEach [.Name "name" q4x_NotLoud] env)) []))
  (s1_NotLoud:∀ env:PySem.Env,swapsWith (.Call (.Attribute (.Call (.Name "super" q1x_NotLoud) [] [] q2x_NotLoud) "__init__" q3x_NotLoud) [.Name "name" q4x_NotLoud] [] q5x_NotLoud) none q6x_NotLoud.line env=pure false) (s2_NotLoud:∀ env:PySem.Env,swapsWith (.Name "name" q9x_NotLoud) (some (.Attribute (.Name "self" q7x_NotLoud) "name" q8x_NotLoud)) q10x_NotLoud.line env=pure false)
  {i_TooFew:Addr} {nmx_TooFew qx_TooFew:Str} {Nx_TooFew:Addr} {bsx_TooFew bmx_TooFew:List Value} {snx_TooFew:List Str} {sbx_TooFew:List Value} {abx_TooFew:Bool} {cox_TooFew:Option Bool} {ddx_TooFew:Option Addr} {k0x_TooFew k1x_TooFew k2x_TooFew k3x_TooFew k5x_TooFew:Option Value}
  {ocx_TooFew:Value} {odx_TooFew:Option Addr} {dcx_TooFew pmx_TooFew:Value} {anx_TooFew:Option Addr} {ctx_TooFew:Value} {slx_TooFew:Array (Option Value)} {qlx_TooFew:Str} {p1x_TooFew p2x_TooFew q1x_TooFew q2x_TooFew q3x_TooFew q4x_TooFew q5x_TooFew q6x_TooFew q7x_TooFew q8x_TooFew q9x_TooFew q10x_TooFew:Pos} {cdx_TooFew ccx_TooFew:Addr} {clx_TooFew cmx_TooFew:Value} {dex_TooFew dfx_TooFew:Option Addr} {vsx_TooFew:Array Value} {csx_TooFew ctl_TooFew:Array (Option Value)} {fix_TooFew:Str} {tfx_TooFew:Tok} {plx_TooFew:Sem Bool}
  (lk_TooFew:K.lookup c_TooFew=some (excClassObj nmx_TooFew qx_TooFew c_TooFew Nx_TooFew bsx_TooFew bmx_TooFew true snx_TooFew sbx_TooFew abx_TooFew cox_TooFew ddx_TooFew k0x_TooFew k1x_TooFew k2x_TooFew k3x_TooFew k5x_TooFew "ValueError.__new__"))
  (sa_TooFew:PySem.W.findIn K (.ref c_TooFew) "__setattr__"=some (some (.builtin "object.__setattr__"))) (in_TooFew:PySem.W.findIn K (.ref c_TooFew) "__init__"=some (some (.ref i_TooFew))) (tf_TooFew:PySem.W.typeIn K (.ref i_TooFew)=some (.type "function")) (kC_TooFew:PySem.W.keepIn K (.ref c_TooFew)=true) (exV_TooFew:PySem.W.subIn K (.ref c_TooFew) (.type "ValueError")=some true) (su_TooFew:PySem.W.ks_superIn K c_TooFew c_TooFew "__init__"=some (some (.builtin "ValueError.__init__"))) (mr_TooFew:PySem.W.mroIn K c_TooFew (.ref c_TooFew)=some true)
  (lfn_TooFew:K.lookup i_TooFew=some ⟨ocx_TooFew,odx_TooFew,.func (PySem.W.ksFn "__init__" qlx_TooFew (DX.eArgs "many" p1x_TooFew p2x_TooFew) (DX.eBody "many" q1x_TooFew q2x_TooFew q3x_TooFew q4x_TooFew q5x_TooFew q6x_TooFew q7x_TooFew q8x_TooFew q9x_TooFew q10x_TooFew) (DX.eScope "many") .none .none dcx_TooFew pmx_TooFew anx_TooFew (.ref cdx_TooFew) ctx_TooFew ccx_TooFew),slx_TooFew⟩)
  (cod_TooFew:PySem.W.codeIn K (.ref cdx_TooFew) qlx_TooFew=true) (lcd_TooFew:K.lookup cdx_TooFew=some ⟨clx_TooFew,dex_TooFew,.fields vsx_TooFew,csx_TooFew⟩) (lcc_TooFew:K.lookup ccx_TooFew=some ⟨cmx_TooFew,dfx_TooFew,.cell (some (.ref c_TooFew)),ctl_TooFew⟩)
  (rv_TooFew:PySem.HandSPX.refsVE bmx_TooFew=true) (v2_TooFew:vsx_TooFew[2]?=some (.str fix_TooFew tfx_TooFew)) (fl_TooFew:((l.prog.main.file:Str)==fix_TooFew)=true)
  (ev_TooFew:∀ env:PySem.Env,eval (.Call (.Attribute (.Call (.Name "super" q1x_TooFew) [] [] q2x_TooFew) "__init__" q3x_TooFew) [.Name "many" q4x_TooFew] [] q5x_TooFew) env=(do
   let ov ←attributeBase (.Call (.Name "super" q1x_TooFew) [] [] q2x_TooFew) "__init__" env (eval (.Call (.Name "super" q1x_TooFew) [] [] q2x_TooFew) env)
   standAt q3x_TooFew.atName
   let (f1,first) ←holding [ov] (getMethod ov "__init__" plx_TooFew)
   callWith q5x_TooFew f1 first (backTo q5x_TooFew (starEach [.Name "many" q4x_TooFew] env)) []))
  (s1_TooFew:∀ env:PySem.Env,swapsWith (.Call (.Attribute (.Call (.Name "super" q1x_TooFew) [] [] q2x_TooFew) "__init__" q3x_TooFew) [.Name "many" q4x_TooFew] [] q5x_TooFew) none q6x_TooFew.line env=pure false) (s2_TooFew:∀ env:PySem.Env,swapsWith (.Name "many" q9x_TooFew) (some (.Attribute (.Name "self" q7x_TooFew) "many" q8x_TooFew)) q10x_TooFew.line env=pure false)
  {i_TooMany:Addr} {nmx_TooMany qx_TooMany:Str} {Nx_TooMany:Addr} {bsx_TooMany bmx_TooMany:List Value} {snx_TooMany:List Str} {sbx_TooMany:List Value} {abx_TooMany:Bool} {cox_TooMany:Option Bool} {ddx_TooMany:Option Addr} {k0x_TooMany k1x_TooMany k2x_TooMany k3x_TooMany k5x_TooMany:Option Value}
  {ocx_TooMany:Value} {odx_TooMany:Option Addr} {dcx_TooMany pmx_TooMany:Value} {anx_TooMany:Option Addr} {ctx_TooMany:Value} {slx_TooMany:Array (Option Value)} {qlx_TooMany:Str} {p1x_TooMany p2x_TooMany q1x_TooMany q2x_TooMany q3x_TooMany q4x_TooMany q5x_TooMany q6x_TooMany q7x_TooMany q8x_TooMany q9x_TooMany q10x_TooMany:Pos} {cdx_TooMany ccx_TooMany:Addr} {clx_TooMany cmx_TooMany:Value} {dex_TooMany dfx_TooMany:Option Addr} {vsx_TooMany:Array Value} {csx_TooMany ctl_TooMany:Array (Option Value)} {fix_TooMany:Str} {tfx_TooMany:Tok} {plx_TooMany:Sem Bool}
  (lk_TooMany:K.lookup c_TooMany=some (excClassObj nmx_TooMany qx_TooMany c_TooMany Nx_TooMany bsx_TooMany bmx_TooMany true snx_TooMany sbx_TooMany abx_TooMany cox_TooMany ddx_TooMany k0x_TooMany k1x_TooMany k2x_TooMany k3x_TooMany k5x_TooMany "ValueError.__new__"))
  (sa_TooMany:PySem.W.findIn K (.ref c_TooMany) "__setattr__"=some (some (.builtin "object.__setattr__"))) (in_TooMany:PySem.W.findIn K (.ref c_TooMany) "__init__"=some (some (.ref i_TooMany))) (tf_TooMany:PySem.W.typeIn K (.ref i_TooMany)=some (.type "function")) (kC_TooMany:PySem.W.keepIn K (.ref c_TooMany)=true) (exV_TooMany:PySem.W.subIn K (.ref c_TooMany) (.type "ValueError")=some true) (su_TooMany:PySem.W.ks_superIn K c_TooMany c_TooMany "__init__"=some (some (.builtin "ValueError.__init__"))) (mr_TooMany:PySem.W.mroIn K c_TooMany (.ref c_TooMany)=some true)
  (lfn_TooMany:K.lookup i_TooMany=some ⟨ocx_TooMany,odx_TooMany,.func (PySem.W.ksFn "__init__" qlx_TooMany (DX.eArgs "most" p1x_TooMany p2x_TooMany) (DX.eBody "most" q1x_TooMany q2x_TooMany q3x_TooMany q4x_TooMany q5x_TooMany q6x_TooMany q7x_TooMany q8x_TooMany q9x_TooMany q10x_TooMany) (DX.eScope "most") .none .none dcx_TooMany pmx_TooMany anx_TooMany (.ref cdx_TooMany) ctx_TooMany ccx_TooMany),slx_TooMany⟩)
  (cod_TooMany:PySem.W.codeIn K (.ref cdx_TooMany) qlx_TooMany=true) (lcd_TooMany:K.lookup cdx_TooMany=some ⟨clx_TooMany,dex_TooMany,.fields vsx_TooMany,csx_TooMany⟩) (lcc_TooMany:K.lookup ccx_TooMany=some ⟨cmx_TooMany,dfx_TooMany,.cell (some (.ref c_TooMany)),ctl_TooMany⟩)
  (rv_TooMany:PySem.HandSPX.refsVE bmx_TooMany=true) (v2_TooMany:vsx_TooMany[2]?=some (.str fix_TooMany tfx_TooMany)) (fl_TooMany:((l.prog.main.file:Str)==fix_TooMany)=true)
  (ev_TooMany:∀ env:PySem.Env,eval (.Call (.Attribute (.Call (.Name "super" q1x_TooMany) [] [] q2x_TooMany) "__init__" q3x_TooMany) [.Name "most" q4x_TooMany] [] q5x_TooMany) env=(do
   let ov ←attributeBase (.Call (.Name "super" q1x_TooMany) [] [] q2x_TooMany) "__init__" env (eval (.Call (.Name "super" q1x_TooMany) [] [] q2x_TooMany) env)
   standAt q3x_TooMany.atName
   let (f1,first) ←holding [ov] (getMethod ov "__init__" plx_TooMany)
   callWith q5x_TooMany f1 first (backTo q5x_TooMany (starEach [.Name "most" q4x_TooMany] env)) []))
  (s1_TooMany:∀ env:PySem.Env,swapsWith (.Call (.Attribute (.Call (.Name "super" q1x_TooMany) [] [] q2x_TooMany) "__init__" q3x_TooMany) [.Name "most" q4x_TooMany] [] q5x_TooMany) none q6x_TooMany.line env=pure false) (s2_TooMany:∀ env:PySem.Env,swapsWith (.Name "most" q9x_TooMany) (some (.Attribute (.Name "self" q7x_TooMany) "most" q8x_TooMany)) q10x_TooMany.line env=pure false)
  {i_Wrong:Addr} {nmx_Wrong qx_Wrong:Str} {Nx_Wrong:Addr} {bsx_Wrong bmx_Wrong:List Value} {snx_Wrong:List Str} {sbx_Wrong:List Value} {abx_Wrong:Bool} {cox_Wrong:Option Bool} {ddx_Wrong:Option Addr} {k0x_Wrong k1x_Wrong k2x_Wrong k3x_Wrong k5x_Wrong:Option Value}
  {ocx_Wrong:Value} {odx_Wrong:Option Addr} {dcx_Wrong pmx_Wrong:Value} {anx_Wrong:Option Addr} {ctx_Wrong:Value} {slx_Wrong:Array (Option Value)} {qlx_Wrong:Str} {p1x_Wrong p2x_Wrong q1x_Wrong q2x_Wrong q3x_Wrong q4x_Wrong q5x_Wrong q6x_Wrong q7x_Wrong q8x_Wrong q9x_Wrong q10x_Wrong:Pos} {cdx_Wrong ccx_Wrong:Addr} {clx_Wrong cmx_Wrong:Value} {dex_Wrong dfx_Wrong:Option Addr} {vsx_Wrong:Array Value} {csx_Wrong ctl_Wrong:Array (Option Value)} {fix_Wrong:Str} {tfx_Wrong:Tok} {plx_Wrong:Sem Bool}
  (lk_Wrong:K.lookup c_Wrong=some (excClassObj nmx_Wrong qx_Wrong c_Wrong Nx_Wrong bsx_Wrong bmx_Wrong true snx_Wrong sbx_Wrong abx_Wrong cox_Wrong ddx_Wrong k0x_Wrong k1x_Wrong k2x_Wrong k3x_Wrong k5x_Wrong "ValueError.__new__"))
  (sa_Wrong:PySem.W.findIn K (.ref c_Wrong) "__setattr__"=some (some (.builtin "object.__setattr__"))) (in_Wrong:PySem.W.findIn K (.ref c_Wrong) "__init__"=some (some (.ref i_Wrong))) (tf_Wrong:PySem.W.typeIn K (.ref i_Wrong)=some (.type "function")) (kC_Wrong:PySem.W.keepIn K (.ref c_Wrong)=true) (exV_Wrong:PySem.W.subIn K (.ref c_Wrong) (.type "ValueError")=some true) (su_Wrong:PySem.W.ks_superIn K c_Wrong c_Wrong "__init__"=some (some (.builtin "ValueError.__init__"))) (mr_Wrong:PySem.W.mroIn K c_Wrong (.ref c_Wrong)=some true)
  (lfn_Wrong:K.lookup i_Wrong=some ⟨ocx_Wrong,odx_Wrong,.func (PySem.W.ksFn "__init__" qlx_Wrong (DX.eArgs "place" p1x_Wrong p2x_Wrong) (DX.eBody "place" q1x_Wrong q2x_Wrong q3x_Wrong q4x_Wrong q5x_Wrong q6x_Wrong q7x_Wrong q8x_Wrong q9x_Wrong q10x_Wrong) (DX.eScope "place") .none .none dcx_Wrong pmx_Wrong anx_Wrong (.ref cdx_Wrong) ctx_Wrong ccx_Wrong),slx_Wrong⟩)
  (cod_Wrong:PySem.W.codeIn K (.ref cdx_Wrong) qlx_Wrong=true) (lcd_Wrong:K.lookup cdx_Wrong=some ⟨clx_Wrong,dex_Wrong,.fields vsx_Wrong,csx_Wrong⟩) (lcc_Wrong:K.lookup ccx_Wrong=some ⟨cmx_Wrong,dfx_Wrong,.cell (some (.ref c_Wrong)),ctl_Wrong⟩)
  (rv_Wrong:PySem.HandSPX.refsVE bmx_Wrong=true) (v2_Wrong:vsx_Wrong[2]?=some (.str fix_Wrong tfx_Wrong)) (fl_Wrong:((l.prog.main.file:Str)==fix_Wrong)=true)
  (ev_Wrong:∀ env:PySem.Env,eval (.Call (.Attribute (.Call (.Name "super" q1x_Wrong) [] [] q2x_Wrong) "__init__" q3x_Wrong) [.Name "place" q4x_Wrong] [] q5x_Wrong) env=(do
   let ov ←attributeBase (.Call (.Name "super" q1x_Wrong) [] [] q2x_Wrong) "__init__" env (eval (.Call (.Name "super" q1x_Wrong) [] [] q2x_Wrong) env)
   standAt q3x_Wrong.atName
   let (f1,first) ←holding [ov] (getMethod ov "__init__" plx_Wrong)
   callWith q5x_Wrong f1 first (backTo q5x_Wrong (starEach [.Name "place" q4x_Wrong] env)) []))
  (s1_Wrong:∀ env:PySem.Env,swapsWith (.Call (.Attribute (.Call (.Name "super" q1x_Wrong) [] [] q2x_Wrong) "__init__" q3x_Wrong) [.Name "place" q4x_Wrong] [] q5x_Wrong) none q6x_Wrong.line env=pure false) (s2_Wrong:∀ env:PySem.Env,swapsWith (.Name "place" q9x_Wrong) (some (.Attribute (.Name "self" q7x_Wrong) "place" q8x_Wrong)) q10x_Wrong.line env=pure false)
  (no_Wrong_BadCall:PySem.W.subIn K (.ref c_Wrong) (.ref c_BadCall)=some false) (ne_Wrong_BadCall:(c_Wrong==c_BadCall)=false)
  (no_NoDeed_BadCall:PySem.W.subIn K (.ref c_NoDeed) (.ref c_BadCall)=some false) (ne_NoDeed_BadCall:(c_NoDeed==c_BadCall)=false)
  (no_BadDeed_BadCall:PySem.W.subIn K (.ref c_BadDeed) (.ref c_BadCall)=some false) (ne_BadDeed_BadCall:(c_BadDeed==c_BadCall)=false)
  (no_BadStep_BadCall:PySem.W.subIn K (.ref c_BadStep) (.ref c_BadCall)=some false) (ne_BadStep_BadCall:(c_BadStep==c_BadCall)=false)
  (no_BadProgram_BadCall:PySem.W.subIn K (.ref c_BadProgram) (.ref c_BadCall)=some false) (ne_BadProgram_BadCall:(c_BadProgram==c_BadCall)=false)
  (no_NoMark_BadCall:PySem.W.subIn K (.ref c_NoMark) (.ref c_BadCall)=some false) (ne_NoMark_BadCall:(c_NoMark==c_BadCall)=false)
  (no_TooFew_BadCall:PySem.W.subIn K (.ref c_TooFew) (.ref c_BadCall)=some false) (ne_TooFew_BadCall:(c_TooFew==c_BadCall)=false)
  (no_TooMany_BadCall:PySem.W.subIn K (.ref c_TooMany) (.ref c_BadCall)=some false) (ne_TooMany_BadCall:(c_TooMany==c_BadCall)=false)
  (no_NotLoud_BadCall:PySem.W.subIn K (.ref c_NotLoud) (.ref c_BadCall)=some false) (ne_NotLoud_BadCall:(c_NotLoud==c_BadCall)=false)
  (no_NoText_BadCall:PySem.W.subIn K (.ref c_NoText) (.ref c_BadCall)=some false) (ne_NoText_BadCall:(c_NoText==c_BadCall)=false)
  (no_Nothing_BadCall:PySem.W.subIn K (.ref c_Nothing) (.ref c_BadCall)=some false) (ne_Nothing_BadCall:(c_Nothing==c_BadCall)=false)
  (no_BadEdit_BadCall:PySem.W.subIn K (.ref c_BadEdit) (.ref c_BadCall)=some false) (ne_BadEdit_BadCall:(c_BadEdit==c_BadCall)=false)
  (no_NoCommand_BadCall:PySem.W.subIn K (.ref c_NoCommand) (.ref c_BadCall)=some false) (ne_NoCommand_BadCall:(c_NoCommand==c_BadCall)=false)
  (no_Wrong_BadDeed:PySem.W.subIn K (.ref c_Wrong) (.ref c_BadDeed)=some false) (ne_Wrong_BadDeed:(c_Wrong==c_BadDeed)=false)
  (no_NoDeed_BadDeed:PySem.W.subIn K (.ref c_NoDeed) (.ref c_BadDeed)=some false) (ne_NoDeed_BadDeed:(c_NoDeed==c_BadDeed)=false)
  (no_BadStep_BadDeed:PySem.W.subIn K (.ref c_BadStep) (.ref c_BadDeed)=some false) (ne_BadStep_BadDeed:(c_BadStep==c_BadDeed)=false)
  (no_BadProgram_BadDeed:PySem.W.subIn K (.ref c_BadProgram) (.ref c_BadDeed)=some false) (ne_BadProgram_BadDeed:(c_BadProgram==c_BadDeed)=false)
  (no_NoMark_BadDeed:PySem.W.subIn K (.ref c_NoMark) (.ref c_BadDeed)=some false) (ne_NoMark_BadDeed:(c_NoMark==c_BadDeed)=false)
  (no_TooFew_BadDeed:PySem.W.subIn K (.ref c_TooFew) (.ref c_BadDeed)=some false) (ne_TooFew_BadDeed:(c_TooFew==c_BadDeed)=false)
  (no_TooMany_BadDeed:PySem.W.subIn K (.ref c_TooMany) (.ref c_BadDeed)=some false) (ne_TooMany_BadDeed:(c_TooMany==c_BadDeed)=false)
  (no_NotLoud_BadDeed:PySem.W.subIn K (.ref c_NotLoud) (.ref c_BadDeed)=some false) (ne_NotLoud_BadDeed:(c_NotLoud==c_BadDeed)=false)
  (no_NoText_BadDeed:PySem.W.subIn K (.ref c_NoText) (.ref c_BadDeed)=some false) (ne_NoText_BadDeed:(c_NoText==c_BadDeed)=false)
  (no_BadCall_BadDeed:PySem.W.subIn K (.ref c_BadCall) (.ref c_BadDeed)=some false) (ne_BadCall_BadDeed:(c_BadCall==c_BadDeed)=false)
  (no_Nothing_BadDeed:PySem.W.subIn K (.ref c_Nothing) (.ref c_BadDeed)=some false) (ne_Nothing_BadDeed:(c_Nothing==c_BadDeed)=false)
  (no_BadEdit_BadDeed:PySem.W.subIn K (.ref c_BadEdit) (.ref c_BadDeed)=some false) (ne_BadEdit_BadDeed:(c_BadEdit==c_BadDeed)=false)
  (no_NoCommand_BadDeed:PySem.W.subIn K (.ref c_NoCommand) (.ref c_BadDeed)=some false) (ne_NoCommand_BadDeed:(c_NoCommand==c_BadDeed)=false)
  (no_Wrong_BadEdit:PySem.W.subIn K (.ref c_Wrong) (.ref c_BadEdit)=some false) (ne_Wrong_BadEdit:(c_Wrong==c_BadEdit)=false)
  (no_NoDeed_BadEdit:PySem.W.subIn K (.ref c_NoDeed) (.ref c_BadEdit)=some false) (ne_NoDeed_BadEdit:(c_NoDeed==c_BadEdit)=false)
  (no_BadDeed_BadEdit:PySem.W.subIn K (.ref c_BadDeed) (.ref c_BadEdit)=some false) (ne_BadDeed_BadEdit:(c_BadDeed==c_BadEdit)=false)
  (no_BadStep_BadEdit:PySem.W.subIn K (.ref c_BadStep) (.ref c_BadEdit)=some false) (ne_BadStep_BadEdit:(c_BadStep==c_BadEdit)=false)
  (no_BadProgram_BadEdit:PySem.W.subIn K (.ref c_BadProgram) (.ref c_BadEdit)=some false) (ne_BadProgram_BadEdit:(c_BadProgram==c_BadEdit)=false)
  (no_NoMark_BadEdit:PySem.W.subIn K (.ref c_NoMark) (.ref c_BadEdit)=some false) (ne_NoMark_BadEdit:(c_NoMark==c_BadEdit)=false)
  (no_TooFew_BadEdit:PySem.W.subIn K (.ref c_TooFew) (.ref c_BadEdit)=some false) (ne_TooFew_BadEdit:(c_TooFew==c_BadEdit)=false)
  (no_TooMany_BadEdit:PySem.W.subIn K (.ref c_TooMany) (.ref c_BadEdit)=some false) (ne_TooMany_BadEdit:(c_TooMany==c_BadEdit)=false)
  (no_NotLoud_BadEdit:PySem.W.subIn K (.ref c_NotLoud) (.ref c_BadEdit)=some false) (ne_NotLoud_BadEdit:(c_NotLoud==c_BadEdit)=false)
  (no_NoText_BadEdit:PySem.W.subIn K (.ref c_NoText) (.ref c_BadEdit)=some false) (ne_NoText_BadEdit:(c_NoText==c_BadEdit)=false)
  (no_BadCall_BadEdit:PySem.W.subIn K (.ref c_BadCall) (.ref c_BadEdit)=some false) (ne_BadCall_BadEdit:(c_BadCall==c_BadEdit)=false)
  (no_Nothing_BadEdit:PySem.W.subIn K (.ref c_Nothing) (.ref c_BadEdit)=some false) (ne_Nothing_BadEdit:(c_Nothing==c_BadEdit)=false)
  (no_NoCommand_BadEdit:PySem.W.subIn K (.ref c_NoCommand) (.ref c_BadEdit)=some false) (ne_NoCommand_BadEdit:(c_NoCommand==c_BadEdit)=false)
  (no_Wrong_BadProgram:PySem.W.subIn K (.ref c_Wrong) (.ref c_BadProgram)=some false) (ne_Wrong_BadProgram:(c_Wrong==c_BadProgram)=false)
  (no_NoDeed_BadProgram:PySem.W.subIn K (.ref c_NoDeed) (.ref c_BadProgram)=some false) (ne_NoDeed_BadProgram:(c_NoDeed==c_BadProgram)=false)
  (no_BadDeed_BadProgram:PySem.W.subIn K (.ref c_BadDeed) (.ref c_BadProgram)=some false) (ne_BadDeed_BadProgram:(c_BadDeed==c_BadProgram)=false)
  (no_BadStep_BadProgram:PySem.W.subIn K (.ref c_BadStep) (.ref c_BadProgram)=some false) (ne_BadStep_BadProgram:(c_BadStep==c_BadProgram)=false)
  (no_NoMark_BadProgram:PySem.W.subIn K (.ref c_NoMark) (.ref c_BadProgram)=some false) (ne_NoMark_BadProgram:(c_NoMark==c_BadProgram)=false)
  (no_TooFew_BadProgram:PySem.W.subIn K (.ref c_TooFew) (.ref c_BadProgram)=some false) (ne_TooFew_BadProgram:(c_TooFew==c_BadProgram)=false)
  (no_TooMany_BadProgram:PySem.W.subIn K (.ref c_TooMany) (.ref c_BadProgram)=some false) (ne_TooMany_BadProgram:(c_TooMany==c_BadProgram)=false)
  (no_NotLoud_BadProgram:PySem.W.subIn K (.ref c_NotLoud) (.ref c_BadProgram)=some false) (ne_NotLoud_BadProgram:(c_NotLoud==c_BadProgram)=false)
  (no_NoText_BadProgram:PySem.W.subIn K (.ref c_NoText) (.ref c_BadProgram)=some false) (ne_NoText_BadProgram:(c_NoText==c_BadProgram)=false)
  (no_BadCall_BadProgram:PySem.W.subIn K (.ref c_BadCall) (.ref c_BadProgram)=some false) (ne_BadCall_BadProgram:(c_BadCall==c_BadProgram)=false)
  (no_Nothing_BadProgram:PySem.W.subIn K (.ref c_Nothing) (.ref c_BadProgram)=some false) (ne_Nothing_BadProgram:(c_Nothing==c_BadProgram)=false)
  (no_BadEdit_BadProgram:PySem.W.subIn K (.ref c_BadEdit) (.ref c_BadProgram)=some false) (ne_BadEdit_BadProgram:(c_BadEdit==c_BadProgram)=false)
  (no_NoCommand_BadProgram:PySem.W.subIn K (.ref c_NoCommand) (.ref c_BadProgram)=some false) (ne_NoCommand_BadProgram:(c_NoCommand==c_BadProgram)=false)
  (no_Wrong_BadStep:PySem.W.subIn K (.ref c_Wrong) (.ref c_BadStep)=some false) (ne_Wrong_BadStep:(c_Wrong==c_BadStep)=false)
  (no_NoDeed_BadStep:PySem.W.subIn K (.ref c_NoDeed) (.ref c_BadStep)=some false) (ne_NoDeed_BadStep:(c_NoDeed==c_BadStep)=false)
  (no_BadDeed_BadStep:PySem.W.subIn K (.ref c_BadDeed) (.ref c_BadStep)=some false) (ne_BadDeed_BadStep:(c_BadDeed==c_BadStep)=false)
  (no_BadProgram_BadStep:PySem.W.subIn K (.ref c_BadProgram) (.ref c_BadStep)=some false) (ne_BadProgram_BadStep:(c_BadProgram==c_BadStep)=false)
  (no_NoMark_BadStep:PySem.W.subIn K (.ref c_NoMark) (.ref c_BadStep)=some false) (ne_NoMark_BadStep:(c_NoMark==c_BadStep)=false)
  (no_TooFew_BadStep:PySem.W.subIn K (.ref c_TooFew) (.ref c_BadStep)=some false) (ne_TooFew_BadStep:(c_TooFew==c_BadStep)=false)
  (no_TooMany_BadStep:PySem.W.subIn K (.ref c_TooMany) (.ref c_BadStep)=some false) (ne_TooMany_BadStep:(c_TooMany==c_BadStep)=false)
  (no_NotLoud_BadStep:PySem.W.subIn K (.ref c_NotLoud) (.ref c_BadStep)=some false) (ne_NotLoud_BadStep:(c_NotLoud==c_BadStep)=false)
  (no_NoText_BadStep:PySem.W.subIn K (.ref c_NoText) (.ref c_BadStep)=some false) (ne_NoText_BadStep:(c_NoText==c_BadStep)=false)
  (no_BadCall_BadStep:PySem.W.subIn K (.ref c_BadCall) (.ref c_BadStep)=some false) (ne_BadCall_BadStep:(c_BadCall==c_BadStep)=false)
  (no_Nothing_BadStep:PySem.W.subIn K (.ref c_Nothing) (.ref c_BadStep)=some false) (ne_Nothing_BadStep:(c_Nothing==c_BadStep)=false)
  (no_BadEdit_BadStep:PySem.W.subIn K (.ref c_BadEdit) (.ref c_BadStep)=some false) (ne_BadEdit_BadStep:(c_BadEdit==c_BadStep)=false)
  (no_NoCommand_BadStep:PySem.W.subIn K (.ref c_NoCommand) (.ref c_BadStep)=some false) (ne_NoCommand_BadStep:(c_NoCommand==c_BadStep)=false)
  (no_Wrong_CountError:PySem.W.subIn K (.ref c_Wrong) (.ref c_CountError)=some true) (ne_Wrong_CountError:(c_Wrong==c_CountError)=false)
  (no_NoDeed_CountError:PySem.W.subIn K (.ref c_NoDeed) (.ref c_CountError)=some true) (ne_NoDeed_CountError:(c_NoDeed==c_CountError)=false)
  (no_BadDeed_CountError:PySem.W.subIn K (.ref c_BadDeed) (.ref c_CountError)=some true) (ne_BadDeed_CountError:(c_BadDeed==c_CountError)=false)
  (no_BadStep_CountError:PySem.W.subIn K (.ref c_BadStep) (.ref c_CountError)=some true) (ne_BadStep_CountError:(c_BadStep==c_CountError)=false)
  (no_BadProgram_CountError:PySem.W.subIn K (.ref c_BadProgram) (.ref c_CountError)=some true) (ne_BadProgram_CountError:(c_BadProgram==c_CountError)=false)
  (no_NoMark_CountError:PySem.W.subIn K (.ref c_NoMark) (.ref c_CountError)=some true) (ne_NoMark_CountError:(c_NoMark==c_CountError)=false)
  (no_TooFew_CountError:PySem.W.subIn K (.ref c_TooFew) (.ref c_CountError)=some true) (ne_TooFew_CountError:(c_TooFew==c_CountError)=false)
  (no_TooMany_CountError:PySem.W.subIn K (.ref c_TooMany) (.ref c_CountError)=some true) (ne_TooMany_CountError:(c_TooMany==c_CountError)=false)
  (no_NotLoud_CountError:PySem.W.subIn K (.ref c_NotLoud) (.ref c_CountError)=some true) (ne_NotLoud_CountError:(c_NotLoud==c_CountError)=false)
  (no_NoText_CountError:PySem.W.subIn K (.ref c_NoText) (.ref c_CountError)=some true) (ne_NoText_CountError:(c_NoText==c_CountError)=false)
  (no_BadCall_CountError:PySem.W.subIn K (.ref c_BadCall) (.ref c_CountError)=some true) (ne_BadCall_CountError:(c_BadCall==c_CountError)=false)
  (no_Nothing_CountError:PySem.W.subIn K (.ref c_Nothing) (.ref c_CountError)=some true) (ne_Nothing_CountError:(c_Nothing==c_CountError)=false)
  (no_BadEdit_CountError:PySem.W.subIn K (.ref c_BadEdit) (.ref c_CountError)=some true) (ne_BadEdit_CountError:(c_BadEdit==c_CountError)=false)
  (no_NoCommand_CountError:PySem.W.subIn K (.ref c_NoCommand) (.ref c_CountError)=some true) (ne_NoCommand_CountError:(c_NoCommand==c_CountError)=false)
  (no_Wrong_NoCommand:PySem.W.subIn K (.ref c_Wrong) (.ref c_NoCommand)=some false) (ne_Wrong_NoCommand:(c_Wrong==c_NoCommand)=false)
  (no_NoDeed_NoCommand:PySem.W.subIn K (.ref c_NoDeed) (.ref c_NoCommand)=some false) (ne_NoDeed_NoCommand:(c_NoDeed==c_NoCommand)=false)
  (no_BadDeed_NoCommand:PySem.W.subIn K (.ref c_BadDeed) (.ref c_NoCommand)=some false) (ne_BadDeed_NoCommand:(c_BadDeed==c_NoCommand)=false)
  (no_BadStep_NoCommand:PySem.W.subIn K (.ref c_BadStep) (.ref c_NoCommand)=some false) (ne_BadStep_NoCommand:(c_BadStep==c_NoCommand)=false)
  (no_BadProgram_NoCommand:PySem.W.subIn K (.ref c_BadProgram) (.ref c_NoCommand)=some false) (ne_BadProgram_NoCommand:(c_BadProgram==c_NoCommand)=false)
  (no_NoMark_NoCommand:PySem.W.subIn K (.ref c_NoMark) (.ref c_NoCommand)=some false) (ne_NoMark_NoCommand:(c_NoMark==c_NoCommand)=false)
  (no_TooFew_NoCommand:PySem.W.subIn K (.ref c_TooFew) (.ref c_NoCommand)=some false) (ne_TooFew_NoCommand:(c_TooFew==c_NoCommand)=false)
  (no_TooMany_NoCommand:PySem.W.subIn K (.ref c_TooMany) (.ref c_NoCommand)=some false) (ne_TooMany_NoCommand:(c_TooMany==c_NoCommand)=false)
  (no_NotLoud_NoCommand:PySem.W.subIn K (.ref c_NotLoud) (.ref c_NoCommand)=some false) (ne_NotLoud_NoCommand:(c_NotLoud==c_NoCommand)=false)
  (no_NoText_NoCommand:PySem.W.subIn K (.ref c_NoText) (.ref c_NoCommand)=some false) (ne_NoText_NoCommand:(c_NoText==c_NoCommand)=false)
  (no_BadCall_NoCommand:PySem.W.subIn K (.ref c_BadCall) (.ref c_NoCommand)=some false) (ne_BadCall_NoCommand:(c_BadCall==c_NoCommand)=false)
  (no_Nothing_NoCommand:PySem.W.subIn K (.ref c_Nothing) (.ref c_NoCommand)=some false) (ne_Nothing_NoCommand:(c_Nothing==c_NoCommand)=false)
  (no_BadEdit_NoCommand:PySem.W.subIn K (.ref c_BadEdit) (.ref c_NoCommand)=some false) (ne_BadEdit_NoCommand:(c_BadEdit==c_NoCommand)=false)
  (no_Wrong_NoDeed:PySem.W.subIn K (.ref c_Wrong) (.ref c_NoDeed)=some false) (ne_Wrong_NoDeed:(c_Wrong==c_NoDeed)=false)
  (no_BadDeed_NoDeed:PySem.W.subIn K (.ref c_BadDeed) (.ref c_NoDeed)=some false) (ne_BadDeed_NoDeed:(c_BadDeed==c_NoDeed)=false)
  (no_BadStep_NoDeed:PySem.W.subIn K (.ref c_BadStep) (.ref c_NoDeed)=some false) (ne_BadStep_NoDeed:(c_BadStep==c_NoDeed)=false)
  (no_BadProgram_NoDeed:PySem.W.subIn K (.ref c_BadProgram) (.ref c_NoDeed)=some false) (ne_BadProgram_NoDeed:(c_BadProgram==c_NoDeed)=false)
  (no_NoMark_NoDeed:PySem.W.subIn K (.ref c_NoMark) (.ref c_NoDeed)=some false) (ne_NoMark_NoDeed:(c_NoMark==c_NoDeed)=false)
  (no_TooFew_NoDeed:PySem.W.subIn K (.ref c_TooFew) (.ref c_NoDeed)=some false) (ne_TooFew_NoDeed:(c_TooFew==c_NoDeed)=false)
  (no_TooMany_NoDeed:PySem.W.subIn K (.ref c_TooMany) (.ref c_NoDeed)=some false) (ne_TooMany_NoDeed:(c_TooMany==c_NoDeed)=false)
  (no_NotLoud_NoDeed:PySem.W.subIn K (.ref c_NotLoud) (.ref c_NoDeed)=some false) (ne_NotLoud_NoDeed:(c_NotLoud==c_NoDeed)=false)
  (no_NoText_NoDeed:PySem.W.subIn K (.ref c_NoText) (.ref c_NoDeed)=some false) (ne_NoText_NoDeed:(c_NoText==c_NoDeed)=false)
  (no_BadCall_NoDeed:PySem.W.subIn K (.ref c_BadCall) (.ref c_NoDeed)=some false) (ne_BadCall_NoDeed:(c_BadCall==c_NoDeed)=false)
  (no_Nothing_NoDeed:PySem.W.subIn K (.ref c_Nothing) (.ref c_NoDeed)=some false) (ne_Nothing_NoDeed:(c_Nothing==c_NoDeed)=false)
  (no_BadEdit_NoDeed:PySem.W.subIn K (.ref c_BadEdit) (.ref c_NoDeed)=some false) (ne_BadEdit_NoDeed:(c_BadEdit==c_NoDeed)=false)
  (no_NoCommand_NoDeed:PySem.W.subIn K (.ref c_NoCommand) (.ref c_NoDeed)=some false) (ne_NoCommand_NoDeed:(c_NoCommand==c_NoDeed)=false)
  (no_Wrong_NoMark:PySem.W.subIn K (.ref c_Wrong) (.ref c_NoMark)=some false) (ne_Wrong_NoMark:(c_Wrong==c_NoMark)=false)
  (no_NoDeed_NoMark:PySem.W.subIn K (.ref c_NoDeed) (.ref c_NoMark)=some false) (ne_NoDeed_NoMark:(c_NoDeed==c_NoMark)=false)
  (no_BadDeed_NoMark:PySem.W.subIn K (.ref c_BadDeed) (.ref c_NoMark)=some false) (ne_BadDeed_NoMark:(c_BadDeed==c_NoMark)=false)
  (no_BadStep_NoMark:PySem.W.subIn K (.ref c_BadStep) (.ref c_NoMark)=some false) (ne_BadStep_NoMark:(c_BadStep==c_NoMark)=false)
  (no_BadProgram_NoMark:PySem.W.subIn K (.ref c_BadProgram) (.ref c_NoMark)=some false) (ne_BadProgram_NoMark:(c_BadProgram==c_NoMark)=false)
  (no_TooFew_NoMark:PySem.W.subIn K (.ref c_TooFew) (.ref c_NoMark)=some false) (ne_TooFew_NoMark:(c_TooFew==c_NoMark)=false)
  (no_TooMany_NoMark:PySem.W.subIn K (.ref c_TooMany) (.ref c_NoMark)=some false) (ne_TooMany_NoMark:(c_TooMany==c_NoMark)=false)
  (no_NotLoud_NoMark:PySem.W.subIn K (.ref c_NotLoud) (.ref c_NoMark)=some false) (ne_NotLoud_NoMark:(c_NotLoud==c_NoMark)=false)
  (no_NoText_NoMark:PySem.W.subIn K (.ref c_NoText) (.ref c_NoMark)=some false) (ne_NoText_NoMark:(c_NoText==c_NoMark)=false)
  (no_BadCall_NoMark:PySem.W.subIn K (.ref c_BadCall) (.ref c_NoMark)=some false) (ne_BadCall_NoMark:(c_BadCall==c_NoMark)=false)
  (no_Nothing_NoMark:PySem.W.subIn K (.ref c_Nothing) (.ref c_NoMark)=some false) (ne_Nothing_NoMark:(c_Nothing==c_NoMark)=false)
  (no_BadEdit_NoMark:PySem.W.subIn K (.ref c_BadEdit) (.ref c_NoMark)=some false) (ne_BadEdit_NoMark:(c_BadEdit==c_NoMark)=false)
  (no_NoCommand_NoMark:PySem.W.subIn K (.ref c_NoCommand) (.ref c_NoMark)=some false) (ne_NoCommand_NoMark:(c_NoCommand==c_NoMark)=false)
  (no_Wrong_NoText:PySem.W.subIn K (.ref c_Wrong) (.ref c_NoText)=some false) (ne_Wrong_NoText:(c_Wrong==c_NoText)=false)
  (no_NoDeed_NoText:PySem.W.subIn K (.ref c_NoDeed) (.ref c_NoText)=some false) (ne_NoDeed_NoText:(c_NoDeed==c_NoText)=false)
  (no_BadDeed_NoText:PySem.W.subIn K (.ref c_BadDeed) (.ref c_NoText)=some false) (ne_BadDeed_NoText:(c_BadDeed==c_NoText)=false)
  (no_BadStep_NoText:PySem.W.subIn K (.ref c_BadStep) (.ref c_NoText)=some false) (ne_BadStep_NoText:(c_BadStep==c_NoText)=false)
  (no_BadProgram_NoText:PySem.W.subIn K (.ref c_BadProgram) (.ref c_NoText)=some false) (ne_BadProgram_NoText:(c_BadProgram==c_NoText)=false)
  (no_NoMark_NoText:PySem.W.subIn K (.ref c_NoMark) (.ref c_NoText)=some false) (ne_NoMark_NoText:(c_NoMark==c_NoText)=false)
  (no_TooFew_NoText:PySem.W.subIn K (.ref c_TooFew) (.ref c_NoText)=some false) (ne_TooFew_NoText:(c_TooFew==c_NoText)=false)
  (no_TooMany_NoText:PySem.W.subIn K (.ref c_TooMany) (.ref c_NoText)=some false) (ne_TooMany_NoText:(c_TooMany==c_NoText)=false)
  (no_NotLoud_NoText:PySem.W.subIn K (.ref c_NotLoud) (.ref c_NoText)=some false) (ne_NotLoud_NoText:(c_NotLoud==c_NoText)=false)
  (no_BadCall_NoText:PySem.W.subIn K (.ref c_BadCall) (.ref c_NoText)=some false) (ne_BadCall_NoText:(c_BadCall==c_NoText)=false)
  (no_Nothing_NoText:PySem.W.subIn K (.ref c_Nothing) (.ref c_NoText)=some false) (ne_Nothing_NoText:(c_Nothing==c_NoText)=false)
  (no_BadEdit_NoText:PySem.W.subIn K (.ref c_BadEdit) (.ref c_NoText)=some false) (ne_BadEdit_NoText:(c_BadEdit==c_NoText)=false)
  (no_NoCommand_NoText:PySem.W.subIn K (.ref c_NoCommand) (.ref c_NoText)=some false) (ne_NoCommand_NoText:(c_NoCommand==c_NoText)=false)
  (no_Wrong_NotLoud:PySem.W.subIn K (.ref c_Wrong) (.ref c_NotLoud)=some false) (ne_Wrong_NotLoud:(c_Wrong==c_NotLoud)=false)
  (no_NoDeed_NotLoud:PySem.W.subIn K (.ref c_NoDeed) (.ref c_NotLoud)=some false) (ne_NoDeed_NotLoud:(c_NoDeed==c_NotLoud)=false)
  (no_BadDeed_NotLoud:PySem.W.subIn K (.ref c_BadDeed) (.ref c_NotLoud)=some false) (ne_BadDeed_NotLoud:(c_BadDeed==c_NotLoud)=false)
  (no_BadStep_NotLoud:PySem.W.subIn K (.ref c_BadStep) (.ref c_NotLoud)=some false) (ne_BadStep_NotLoud:(c_BadStep==c_NotLoud)=false)
  (no_BadProgram_NotLoud:PySem.W.subIn K (.ref c_BadProgram) (.ref c_NotLoud)=some false) (ne_BadProgram_NotLoud:(c_BadProgram==c_NotLoud)=false)
  (no_NoMark_NotLoud:PySem.W.subIn K (.ref c_NoMark) (.ref c_NotLoud)=some false) (ne_NoMark_NotLoud:(c_NoMark==c_NotLoud)=false)
  (no_TooFew_NotLoud:PySem.W.subIn K (.ref c_TooFew) (.ref c_NotLoud)=some false) (ne_TooFew_NotLoud:(c_TooFew==c_NotLoud)=false)
  (no_TooMany_NotLoud:PySem.W.subIn K (.ref c_TooMany) (.ref c_NotLoud)=some false) (ne_TooMany_NotLoud:(c_TooMany==c_NotLoud)=false)
  (no_NoText_NotLoud:PySem.W.subIn K (.ref c_NoText) (.ref c_NotLoud)=some false) (ne_NoText_NotLoud:(c_NoText==c_NotLoud)=false)
  (no_BadCall_NotLoud:PySem.W.subIn K (.ref c_BadCall) (.ref c_NotLoud)=some false) (ne_BadCall_NotLoud:(c_BadCall==c_NotLoud)=false)
  (no_Nothing_NotLoud:PySem.W.subIn K (.ref c_Nothing) (.ref c_NotLoud)=some false) (ne_Nothing_NotLoud:(c_Nothing==c_NotLoud)=false)
  (no_BadEdit_NotLoud:PySem.W.subIn K (.ref c_BadEdit) (.ref c_NotLoud)=some false) (ne_BadEdit_NotLoud:(c_BadEdit==c_NotLoud)=false)
  (no_NoCommand_NotLoud:PySem.W.subIn K (.ref c_NoCommand) (.ref c_NotLoud)=some false) (ne_NoCommand_NotLoud:(c_NoCommand==c_NotLoud)=false)
  (no_Wrong_Nothing:PySem.W.subIn K (.ref c_Wrong) (.ref c_Nothing)=some false) (ne_Wrong_Nothing:(c_Wrong==c_Nothing)=false)
  (no_NoDeed_Nothing:PySem.W.subIn K (.ref c_NoDeed) (.ref c_Nothing)=some false) (ne_NoDeed_Nothing:(c_NoDeed==c_Nothing)=false)
  (no_BadDeed_Nothing:PySem.W.subIn K (.ref c_BadDeed) (.ref c_Nothing)=some false) (ne_BadDeed_Nothing:(c_BadDeed==c_Nothing)=false)
  (no_BadStep_Nothing:PySem.W.subIn K (.ref c_BadStep) (.ref c_Nothing)=some false) (ne_BadStep_Nothing:(c_BadStep==c_Nothing)=false)
  (no_BadProgram_Nothing:PySem.W.subIn K (.ref c_BadProgram) (.ref c_Nothing)=some false) (ne_BadProgram_Nothing:(c_BadProgram==c_Nothing)=false)
  (no_NoMark_Nothing:PySem.W.subIn K (.ref c_NoMark) (.ref c_Nothing)=some false) (ne_NoMark_Nothing:(c_NoMark==c_Nothing)=false)
  (no_TooFew_Nothing:PySem.W.subIn K (.ref c_TooFew) (.ref c_Nothing)=some false) (ne_TooFew_Nothing:(c_TooFew==c_Nothing)=false)
  (no_TooMany_Nothing:PySem.W.subIn K (.ref c_TooMany) (.ref c_Nothing)=some false) (ne_TooMany_Nothing:(c_TooMany==c_Nothing)=false)
  (no_NotLoud_Nothing:PySem.W.subIn K (.ref c_NotLoud) (.ref c_Nothing)=some false) (ne_NotLoud_Nothing:(c_NotLoud==c_Nothing)=false)
  (no_NoText_Nothing:PySem.W.subIn K (.ref c_NoText) (.ref c_Nothing)=some false) (ne_NoText_Nothing:(c_NoText==c_Nothing)=false)
  (no_BadCall_Nothing:PySem.W.subIn K (.ref c_BadCall) (.ref c_Nothing)=some false) (ne_BadCall_Nothing:(c_BadCall==c_Nothing)=false)
  (no_BadEdit_Nothing:PySem.W.subIn K (.ref c_BadEdit) (.ref c_Nothing)=some false) (ne_BadEdit_Nothing:(c_BadEdit==c_Nothing)=false)
  (no_NoCommand_Nothing:PySem.W.subIn K (.ref c_NoCommand) (.ref c_Nothing)=some false) (ne_NoCommand_Nothing:(c_NoCommand==c_Nothing)=false)
  (no_Wrong_TooFew:PySem.W.subIn K (.ref c_Wrong) (.ref c_TooFew)=some false) (ne_Wrong_TooFew:(c_Wrong==c_TooFew)=false)
  (no_NoDeed_TooFew:PySem.W.subIn K (.ref c_NoDeed) (.ref c_TooFew)=some false) (ne_NoDeed_TooFew:(c_NoDeed==c_TooFew)=false)
  (no_BadDeed_TooFew:PySem.W.subIn K (.ref c_BadDeed) (.ref c_TooFew)=some false) (ne_BadDeed_TooFew:(c_BadDeed==c_TooFew)=false)
  (no_BadStep_TooFew:PySem.W.subIn K (.ref c_BadStep) (.ref c_TooFew)=some false) (ne_BadStep_TooFew:(c_BadStep==c_TooFew)=false)
  (no_BadProgram_TooFew:PySem.W.subIn K (.ref c_BadProgram) (.ref c_TooFew)=some false) (ne_BadProgram_TooFew:(c_BadProgram==c_TooFew)=false)
  (no_NoMark_TooFew:PySem.W.subIn K (.ref c_NoMark) (.ref c_TooFew)=some false) (ne_NoMark_TooFew:(c_NoMark==c_TooFew)=false)
  (no_TooMany_TooFew:PySem.W.subIn K (.ref c_TooMany) (.ref c_TooFew)=some false) (ne_TooMany_TooFew:(c_TooMany==c_TooFew)=false)
  (no_NotLoud_TooFew:PySem.W.subIn K (.ref c_NotLoud) (.ref c_TooFew)=some false) (ne_NotLoud_TooFew:(c_NotLoud==c_TooFew)=false)
  (no_NoText_TooFew:PySem.W.subIn K (.ref c_NoText) (.ref c_TooFew)=some false) (ne_NoText_TooFew:(c_NoText==c_TooFew)=false)
  (no_BadCall_TooFew:PySem.W.subIn K (.ref c_BadCall) (.ref c_TooFew)=some false) (ne_BadCall_TooFew:(c_BadCall==c_TooFew)=false)
  (no_Nothing_TooFew:PySem.W.subIn K (.ref c_Nothing) (.ref c_TooFew)=some false) (ne_Nothing_TooFew:(c_Nothing==c_TooFew)=false)
  (no_BadEdit_TooFew:PySem.W.subIn K (.ref c_BadEdit) (.ref c_TooFew)=some false) (ne_BadEdit_TooFew:(c_BadEdit==c_TooFew)=false)
  (no_NoCommand_TooFew:PySem.W.subIn K (.ref c_NoCommand) (.ref c_TooFew)=some false) (ne_NoCommand_TooFew:(c_NoCommand==c_TooFew)=false)
  (no_Wrong_TooMany:PySem.W.subIn K (.ref c_Wrong) (.ref c_TooMany)=some false) (ne_Wrong_TooMany:(c_Wrong==c_TooMany)=false)
  (no_NoDeed_TooMany:PySem.W.subIn K (.ref c_NoDeed) (.ref c_TooMany)=some false) (ne_NoDeed_TooMany:(c_NoDeed==c_TooMany)=false)
  (no_BadDeed_TooMany:PySem.W.subIn K (.ref c_BadDeed) (.ref c_TooMany)=some false) (ne_BadDeed_TooMany:(c_BadDeed==c_TooMany)=false)
  (no_BadStep_TooMany:PySem.W.subIn K (.ref c_BadStep) (.ref c_TooMany)=some false) (ne_BadStep_TooMany:(c_BadStep==c_TooMany)=false)
  (no_BadProgram_TooMany:PySem.W.subIn K (.ref c_BadProgram) (.ref c_TooMany)=some false) (ne_BadProgram_TooMany:(c_BadProgram==c_TooMany)=false)
  (no_NoMark_TooMany:PySem.W.subIn K (.ref c_NoMark) (.ref c_TooMany)=some false) (ne_NoMark_TooMany:(c_NoMark==c_TooMany)=false)
  (no_TooFew_TooMany:PySem.W.subIn K (.ref c_TooFew) (.ref c_TooMany)=some false) (ne_TooFew_TooMany:(c_TooFew==c_TooMany)=false)
  (no_NotLoud_TooMany:PySem.W.subIn K (.ref c_NotLoud) (.ref c_TooMany)=some false) (ne_NotLoud_TooMany:(c_NotLoud==c_TooMany)=false)
  (no_NoText_TooMany:PySem.W.subIn K (.ref c_NoText) (.ref c_TooMany)=some false) (ne_NoText_TooMany:(c_NoText==c_TooMany)=false)
  (no_BadCall_TooMany:PySem.W.subIn K (.ref c_BadCall) (.ref c_TooMany)=some false) (ne_BadCall_TooMany:(c_BadCall==c_TooMany)=false)
  (no_Nothing_TooMany:PySem.W.subIn K (.ref c_Nothing) (.ref c_TooMany)=some false) (ne_Nothing_TooMany:(c_Nothing==c_TooMany)=false)
  (no_BadEdit_TooMany:PySem.W.subIn K (.ref c_BadEdit) (.ref c_TooMany)=some false) (ne_BadEdit_TooMany:(c_BadEdit==c_TooMany)=false)
  (no_NoCommand_TooMany:PySem.W.subIn K (.ref c_NoCommand) (.ref c_TooMany)=some false) (ne_NoCommand_TooMany:(c_NoCommand==c_TooMany)=false)
  (no_NoDeed_Wrong:PySem.W.subIn K (.ref c_NoDeed) (.ref c_Wrong)=some false) (ne_NoDeed_Wrong:(c_NoDeed==c_Wrong)=false)
  (no_BadDeed_Wrong:PySem.W.subIn K (.ref c_BadDeed) (.ref c_Wrong)=some false) (ne_BadDeed_Wrong:(c_BadDeed==c_Wrong)=false)
  (no_BadStep_Wrong:PySem.W.subIn K (.ref c_BadStep) (.ref c_Wrong)=some false) (ne_BadStep_Wrong:(c_BadStep==c_Wrong)=false)
  (no_BadProgram_Wrong:PySem.W.subIn K (.ref c_BadProgram) (.ref c_Wrong)=some false) (ne_BadProgram_Wrong:(c_BadProgram==c_Wrong)=false)
  (no_NoMark_Wrong:PySem.W.subIn K (.ref c_NoMark) (.ref c_Wrong)=some false) (ne_NoMark_Wrong:(c_NoMark==c_Wrong)=false)
  (no_TooFew_Wrong:PySem.W.subIn K (.ref c_TooFew) (.ref c_Wrong)=some false) (ne_TooFew_Wrong:(c_TooFew==c_Wrong)=false)
  (no_TooMany_Wrong:PySem.W.subIn K (.ref c_TooMany) (.ref c_Wrong)=some false) (ne_TooMany_Wrong:(c_TooMany==c_Wrong)=false)
  (no_NotLoud_Wrong:PySem.W.subIn K (.ref c_NotLoud) (.ref c_Wrong)=some false) (ne_NotLoud_Wrong:(c_NotLoud==c_Wrong)=false)
  (no_NoText_Wrong:PySem.W.subIn K (.ref c_NoText) (.ref c_Wrong)=some false) (ne_NoText_Wrong:(c_NoText==c_Wrong)=false)
  (no_BadCall_Wrong:PySem.W.subIn K (.ref c_BadCall) (.ref c_Wrong)=some false) (ne_BadCall_Wrong:(c_BadCall==c_Wrong)=false)
  (no_Nothing_Wrong:PySem.W.subIn K (.ref c_Nothing) (.ref c_Wrong)=some false) (ne_Nothing_Wrong:(c_Nothing==c_Wrong)=false)
  (no_BadEdit_Wrong:PySem.W.subIn K (.ref c_BadEdit) (.ref c_Wrong)=some false) (ne_BadEdit_Wrong:(c_BadEdit==c_Wrong)=false)
  (no_NoCommand_Wrong:PySem.W.subIn K (.ref c_NoCommand) (.ref c_Wrong)=some false) (ne_NoCommand_Wrong:(c_NoCommand==c_Wrong)=false)
  (yT_Wrong_ValueError:PySem.W.subIn K (.ref c_Wrong) (.type "ValueError")=some true)
  (yT_NoDeed_ValueError:PySem.W.subIn K (.ref c_NoDeed) (.type "ValueError")=some true)
  (yT_BadDeed_ValueError:PySem.W.subIn K (.ref c_BadDeed) (.type "ValueError")=some true)
  (yT_BadStep_ValueError:PySem.W.subIn K (.ref c_BadStep) (.type "ValueError")=some true)
  (yT_BadProgram_ValueError:PySem.W.subIn K (.ref c_BadProgram) (.type "ValueError")=some true)
  (yT_NoMark_ValueError:PySem.W.subIn K (.ref c_NoMark) (.type "ValueError")=some true)
  (yT_TooFew_ValueError:PySem.W.subIn K (.ref c_TooFew) (.type "ValueError")=some true)
  (yT_TooMany_ValueError:PySem.W.subIn K (.ref c_TooMany) (.type "ValueError")=some true)
  (yT_NotLoud_ValueError:PySem.W.subIn K (.ref c_NotLoud) (.type "ValueError")=some true)
  (yT_NoText_ValueError:PySem.W.subIn K (.ref c_NoText) (.type "ValueError")=some true)
  (yT_BadCall_ValueError:PySem.W.subIn K (.ref c_BadCall) (.type "ValueError")=some true)
  (yT_Nothing_ValueError:PySem.W.subIn K (.ref c_Nothing) (.type "ValueError")=some true)
  (yT_BadEdit_ValueError:PySem.W.subIn K (.ref c_BadEdit) (.type "ValueError")=some true)
  (yT_NoCommand_ValueError:PySem.W.subIn K (.ref c_NoCommand) (.type "ValueError")=some true)
  : ∃ fd:FuncData,(∀ (s:Shared) (v:Value),BindsTo s fd ⟨[v],[]⟩ [("_law_script",v)])∧∀ base:Heap,K.In base→base.Ns mainGlobals mg→FnG l.prog w K mg base CX0 3 fa fd ["_law_script"] (spF K 1 F_law):=by
 have e:=hfa.symm.trans (PySem.W.mg_of X G a5)
 cases e
 have er_BadDeed:DX.ErrTxt l.prog K mg "BadDeed" "name" c_BadDeed i_BadDeed:=DX.errTxt_mk (PySem.W.mg_of X G q_BadDeed) lk_BadDeed sa_BadDeed ga_BadDeed gg_BadDeed noN_BadDeed in_BadDeed tf_BadDeed kC_BadDeed exC_BadDeed exV_BadDeed tyC_BadDeed hdC_BadDeed su_BadDeed mr_BadDeed op_any (PySem.W.mg_none_of X G z_super) lfn_BadDeed cod_BadDeed lcd_BadDeed lcc_BadDeed rv_BadDeed top_s (by decide) (by decide) rfl rfl rfl (fun _ _ _ _ _ _ _ _ _ _ _ _=>rfl) v2_BadDeed fl_BadDeed ev_BadDeed s1_BadDeed s2_BadDeed
 have er_BadProgram:DX.ErrTxt l.prog K mg "BadProgram" "at" c_BadProgram i_BadProgram:=DX.errTxt_mk (PySem.W.mg_of X G q_BadProgram) lk_BadProgram sa_BadProgram ga_BadProgram gg_BadProgram noN_BadProgram in_BadProgram tf_BadProgram kC_BadProgram exC_BadProgram exV_BadProgram tyC_BadProgram hdC_BadProgram su_BadProgram mr_BadProgram op_any (PySem.W.mg_none_of X G z_super) lfn_BadProgram cod_BadProgram lcd_BadProgram lcc_BadProgram rv_BadProgram top_s (by decide) (by decide) rfl rfl rfl (fun _ _ _ _ _ _ _ _ _ _ _ _=>rfl) v2_BadProgram fl_BadProgram ev_BadProgram s1_BadProgram s2_BadProgram
 have er_BadStep:DX.ErrTxt l.prog K mg "BadStep" "index" c_BadStep i_BadStep:=DX.errTxt_mk (PySem.W.mg_of X G q_BadStep) lk_BadStep sa_BadStep ga_BadStep gg_BadStep noN_BadStep in_BadStep tf_BadStep kC_BadStep exC_BadStep exV_BadStep tyC_BadStep hdC_BadStep su_BadStep mr_BadStep op_any (PySem.W.mg_none_of X G z_super) lfn_BadStep cod_BadStep lcd_BadStep lcc_BadStep rv_BadStep top_s (by decide) (by decide) rfl rfl rfl (fun _ _ _ _ _ _ _ _ _ _ _ _=>rfl) v2_BadStep fl_BadStep ev_BadStep s1_BadStep s2_BadStep
 have er_NoDeed:DX.ErrTxt l.prog K mg "NoDeed" "name" c_NoDeed i_NoDeed:=DX.errTxt_mk (PySem.W.mg_of X G q_NoDeed) lk_NoDeed sa_NoDeed ga_NoDeed gg_NoDeed noN_NoDeed in_NoDeed tf_NoDeed kC_NoDeed exC_NoDeed exV_NoDeed tyC_NoDeed hdC_NoDeed su_NoDeed mr_NoDeed op_any (PySem.W.mg_none_of X G z_super) lfn_NoDeed cod_NoDeed lcd_NoDeed lcc_NoDeed rv_NoDeed top_s (by decide) (by decide) rfl rfl rfl (fun _ _ _ _ _ _ _ _ _ _ _ _=>rfl) v2_NoDeed fl_NoDeed ev_NoDeed s1_NoDeed s2_NoDeed
 have er_NoMark:DX.ErrTxt l.prog K mg "NoMark" "number" c_NoMark i_NoMark:=DX.errTxt_mk (PySem.W.mg_of X G q_NoMark) lk_NoMark sa_NoMark ga_NoMark gg_NoMark noN_NoMark in_NoMark tf_NoMark kC_NoMark exC_NoMark exV_NoMark tyC_NoMark hdC_NoMark su_NoMark mr_NoMark op_any (PySem.W.mg_none_of X G z_super) lfn_NoMark cod_NoMark lcd_NoMark lcc_NoMark rv_NoMark top_s (by decide) (by decide) rfl rfl rfl (fun _ _ _ _ _ _ _ _ _ _ _ _=>rfl) v2_NoMark fl_NoMark ev_NoMark s1_NoMark s2_NoMark
 have er_NoText:DX.ErrTxt l.prog K mg "NoText" "line" c_NoText i_NoText:=DX.errTxt_mk (PySem.W.mg_of X G q_NoText) lk_NoText sa_NoText ga_NoText gg_NoText noN_NoText in_NoText tf_NoText kC_NoText exC_NoText exV_NoText tyC_NoText hdC_NoText su_NoText mr_NoText op_any (PySem.W.mg_none_of X G z_super) lfn_NoText cod_NoText lcd_NoText lcc_NoText rv_NoText top_s (by decide) (by decide) rfl rfl rfl (fun _ _ _ _ _ _ _ _ _ _ _ _=>rfl) v2_NoText fl_NoText ev_NoText s1_NoText s2_NoText
 have er_NotLoud:DX.ErrTxt l.prog K mg "NotLoud" "name" c_NotLoud i_NotLoud:=DX.errTxt_mk (PySem.W.mg_of X G q_NotLoud) lk_NotLoud sa_NotLoud ga_NotLoud gg_NotLoud noN_NotLoud in_NotLoud tf_NotLoud kC_NotLoud exC_NotLoud exV_NotLoud tyC_NotLoud hdC_NotLoud su_NotLoud mr_NotLoud op_any (PySem.W.mg_none_of X G z_super) lfn_NotLoud cod_NotLoud lcd_NotLoud lcc_NotLoud rv_NotLoud top_s (by decide) (by decide) rfl rfl rfl (fun _ _ _ _ _ _ _ _ _ _ _ _=>rfl) v2_NotLoud fl_NotLoud ev_NotLoud s1_NotLoud s2_NotLoud
 have er_TooFew:DX.ErrTxt l.prog K mg "TooFew" "many" c_TooFew i_TooFew:=DX.errTxt_mk (PySem.W.mg_of X G q_TooFew) lk_TooFew sa_TooFew ga_TooFew gg_TooFew noN_TooFew in_TooFew tf_TooFew kC_TooFew exC_TooFew exV_TooFew tyC_TooFew hdC_TooFew su_TooFew mr_TooFew op_any (PySem.W.mg_none_of X G z_super) lfn_TooFew cod_TooFew lcd_TooFew lcc_TooFew rv_TooFew top_s (by decide) (by decide) rfl rfl rfl (fun _ _ _ _ _ _ _ _ _ _ _ _=>rfl) v2_TooFew fl_TooFew ev_TooFew s1_TooFew s2_TooFew
 have er_TooMany:DX.ErrTxt l.prog K mg "TooMany" "most" c_TooMany i_TooMany:=DX.errTxt_mk (PySem.W.mg_of X G q_TooMany) lk_TooMany sa_TooMany ga_TooMany gg_TooMany noN_TooMany in_TooMany tf_TooMany kC_TooMany exC_TooMany exV_TooMany tyC_TooMany hdC_TooMany su_TooMany mr_TooMany op_any (PySem.W.mg_none_of X G z_super) lfn_TooMany cod_TooMany lcd_TooMany lcc_TooMany rv_TooMany top_s (by decide) (by decide) rfl rfl rfl (fun _ _ _ _ _ _ _ _ _ _ _ _=>rfl) v2_TooMany fl_TooMany ev_TooMany s1_TooMany s2_TooMany
 have er_Wrong:DX.ErrTxt l.prog K mg "Wrong" "place" c_Wrong i_Wrong:=DX.errTxt_mk (PySem.W.mg_of X G q_Wrong) lk_Wrong sa_Wrong ga_Wrong gg_Wrong noN_Wrong in_Wrong tf_Wrong kC_Wrong exC_Wrong exV_Wrong tyC_Wrong hdC_Wrong su_Wrong mr_Wrong op_any (PySem.W.mg_none_of X G z_super) lfn_Wrong cod_Wrong lcd_Wrong lcc_Wrong rv_Wrong top_s (by decide) (by decide) rfl rfl rfl (fun _ _ _ _ _ _ _ _ _ _ _ _=>rfl) v2_Wrong fl_Wrong ev_Wrong s1_Wrong s2_Wrong
 have eoA:∀ nm∈(["Wrong","NoDeed","BadDeed","BadStep","BadProgram","NoMark","TooFew","TooMany","NotLoud","NoText","BadCall","Nothing","BadEdit","NoCommand"]:List Str),EoTy K nm:=(fun _ h=>by
   simp only[List.mem_cons,List.not_mem_nil,or_false] at h
   rcases h with rfl|rfl|rfl|rfl|rfl|rfl|rfl|rfl|rfl|rfl|rfl|rfl|rfl|rfl
   ·exact⟨c_Wrong,q_Wrong,⟨hcl_of hdC_Wrong,ga_Wrong,gg_Wrong,exC_Wrong,cc_Wrong,mo_Wrong⟩⟩
   ·exact⟨c_NoDeed,q_NoDeed,⟨hcl_of hdC_NoDeed,ga_NoDeed,gg_NoDeed,exC_NoDeed,cc_NoDeed,mo_NoDeed⟩⟩
   ·exact⟨c_BadDeed,q_BadDeed,⟨hcl_of hdC_BadDeed,ga_BadDeed,gg_BadDeed,exC_BadDeed,cc_BadDeed,mo_BadDeed⟩⟩
   ·exact⟨c_BadStep,q_BadStep,⟨hcl_of hdC_BadStep,ga_BadStep,gg_BadStep,exC_BadStep,cc_BadStep,mo_BadStep⟩⟩
   ·exact⟨c_BadProgram,q_BadProgram,⟨hcl_of hdC_BadProgram,ga_BadProgram,gg_BadProgram,exC_BadProgram,cc_BadProgram,mo_BadProgram⟩⟩
   ·exact⟨c_NoMark,q_NoMark,⟨hcl_of hdC_NoMark,ga_NoMark,gg_NoMark,exC_NoMark,cc_NoMark,mo_NoMark⟩⟩
   ·exact⟨c_TooFew,q_TooFew,⟨hcl_of hdC_TooFew,ga_TooFew,gg_TooFew,exC_TooFew,cc_TooFew,mo_TooFew⟩⟩
   ·exact⟨c_TooMany,q_TooMany,⟨hcl_of hdC_TooMany,ga_TooMany,gg_TooMany,exC_TooMany,cc_TooMany,mo_TooMany⟩⟩
   ·exact⟨c_NotLoud,q_NotLoud,⟨hcl_of hdC_NotLoud,ga_NotLoud,gg_NotLoud,exC_NotLoud,cc_NotLoud,mo_NotLoud⟩⟩
   ·exact⟨c_NoText,q_NoText,⟨hcl_of hdC_NoText,ga_NoText,gg_NoText,exC_NoText,cc_NoText,mo_NoText⟩⟩
   ·exact⟨c_BadCall,q_BadCall,⟨hcl_of hdC_BadCall,ga_BadCall,gg_BadCall,exC_BadCall,cc_BadCall,mo_BadCall⟩⟩
   ·exact⟨c_Nothing,q_Nothing,⟨hcl_of hdC_Nothing,ga_Nothing,gg_Nothing,exC_Nothing,cc_Nothing,mo_Nothing⟩⟩
   ·exact⟨c_BadEdit,q_BadEdit,⟨hcl_of hdC_BadEdit,ga_BadEdit,gg_BadEdit,exC_BadEdit,cc_BadEdit,mo_BadEdit⟩⟩
   ·exact⟨c_NoCommand,q_NoCommand,⟨hcl_of hdC_NoCommand,ga_NoCommand,gg_NoCommand,exC_NoCommand,cc_NoCommand,mo_NoCommand⟩⟩)
 have t15:TabOk K (tabT "dict" []) (fun t b=>PySem.W.kitOne K t (.type "dict")=some b):=tabT_ok (fun _ h=>nomatch h)
 have t16:TabOk K (tabT "list" []) (fun t b=>PySem.W.kitOne K t (.type "list")=some b):=tabT_ok (fun _ h=>nomatch h)
 have t17:TabOk K (tabX [("Wrong",false),("NoDeed",false),("BadDeed",false),("BadStep",false),("BadProgram",false),("NoMark",false),("TooFew",false),("TooMany",false),("NotLoud",false),("NoText",false),("BadCall",true),("Nothing",false),("BadEdit",false),("NoCommand",false)]) (fun t b=>PySem.W.kitOne K t (.ref c_BadCall)=some b):=tabX_ok (tabE_cons q_Wrong ⟨ga_Wrong,gg_Wrong,exC_Wrong,hdC_Wrong,cc_Wrong,cls_sp,cls_tk,mo_Wrong⟩ (kit_bO iC_BadCall tyC_BadCall ne_Wrong_BadCall no_Wrong_BadCall) (tabE_cons q_NoDeed ⟨ga_NoDeed,gg_NoDeed,exC_NoDeed,hdC_NoDeed,cc_NoDeed,cls_sp,cls_tk,mo_NoDeed⟩ (kit_bO iC_BadCall tyC_BadCall ne_NoDeed_BadCall no_NoDeed_BadCall) (tabE_cons q_BadDeed ⟨ga_BadDeed,gg_BadDeed,exC_BadDeed,hdC_BadDeed,cc_BadDeed,cls_sp,cls_tk,mo_BadDeed⟩ (kit_bO iC_BadCall tyC_BadCall ne_BadDeed_BadCall no_BadDeed_BadCall) (tabE_cons q_BadStep ⟨ga_BadStep,gg_BadStep,exC_BadStep,hdC_BadStep,cc_BadStep,cls_sp,cls_tk,mo_BadStep⟩ (kit_bO iC_BadCall tyC_BadCall ne_BadStep_BadCall no_BadStep_BadCall) (tabE_cons q_BadProgram ⟨ga_BadProgram,gg_BadProgram,exC_BadProgram,hdC_BadProgram,cc_BadProgram,cls_sp,cls_tk,mo_BadProgram⟩ (kit_bO iC_BadCall tyC_BadCall ne_BadProgram_BadCall no_BadProgram_BadCall) (tabE_cons q_NoMark ⟨ga_NoMark,gg_NoMark,exC_NoMark,hdC_NoMark,cc_NoMark,cls_sp,cls_tk,mo_NoMark⟩ (kit_bO iC_BadCall tyC_BadCall ne_NoMark_BadCall no_NoMark_BadCall) (tabE_cons q_TooFew ⟨ga_TooFew,gg_TooFew,exC_TooFew,hdC_TooFew,cc_TooFew,cls_sp,cls_tk,mo_TooFew⟩ (kit_bO iC_BadCall tyC_BadCall ne_TooFew_BadCall no_TooFew_BadCall) (tabE_cons q_TooMany ⟨ga_TooMany,gg_TooMany,exC_TooMany,hdC_TooMany,cc_TooMany,cls_sp,cls_tk,mo_TooMany⟩ (kit_bO iC_BadCall tyC_BadCall ne_TooMany_BadCall no_TooMany_BadCall) (tabE_cons q_NotLoud ⟨ga_NotLoud,gg_NotLoud,exC_NotLoud,hdC_NotLoud,cc_NotLoud,cls_sp,cls_tk,mo_NotLoud⟩ (kit_bO iC_BadCall tyC_BadCall ne_NotLoud_BadCall no_NotLoud_BadCall) (tabE_cons q_NoText ⟨ga_NoText,gg_NoText,exC_NoText,hdC_NoText,cc_NoText,cls_sp,cls_tk,mo_NoText⟩ (kit_bO iC_BadCall tyC_BadCall ne_NoText_BadCall no_NoText_BadCall) (tabE_cons q_BadCall ⟨ga_BadCall,gg_BadCall,exC_BadCall,hdC_BadCall,cc_BadCall,cls_sp,cls_tk,mo_BadCall⟩ kit_same (tabE_cons q_Nothing ⟨ga_Nothing,gg_Nothing,exC_Nothing,hdC_Nothing,cc_Nothing,cls_sp,cls_tk,mo_Nothing⟩ (kit_bO iC_BadCall tyC_BadCall ne_Nothing_BadCall no_Nothing_BadCall) (tabE_cons q_BadEdit ⟨ga_BadEdit,gg_BadEdit,exC_BadEdit,hdC_BadEdit,cc_BadEdit,cls_sp,cls_tk,mo_BadEdit⟩ (kit_bO iC_BadCall tyC_BadCall ne_BadEdit_BadCall no_BadEdit_BadCall) (tabE_cons q_NoCommand ⟨ga_NoCommand,gg_NoCommand,exC_NoCommand,hdC_NoCommand,cc_NoCommand,cls_sp,cls_tk,mo_NoCommand⟩ (kit_bO iC_BadCall tyC_BadCall ne_NoCommand_BadCall no_NoCommand_BadCall) tabE_nil)))))))))))))) (eo_lk eoA)
 have t18:TabOk K (tabX [("Wrong",false),("NoDeed",false),("BadDeed",true),("BadStep",false),("BadProgram",false),("NoMark",false),("TooFew",false),("TooMany",false),("NotLoud",false),("NoText",false),("BadCall",false),("Nothing",false),("BadEdit",false),("NoCommand",false)]) (fun t b=>PySem.W.kitOne K t (.ref c_BadDeed)=some b):=tabX_ok (tabE_cons q_Wrong ⟨ga_Wrong,gg_Wrong,exC_Wrong,hdC_Wrong,cc_Wrong,cls_sp,cls_tk,mo_Wrong⟩ (kit_bO iC_BadDeed tyC_BadDeed ne_Wrong_BadDeed no_Wrong_BadDeed) (tabE_cons q_NoDeed ⟨ga_NoDeed,gg_NoDeed,exC_NoDeed,hdC_NoDeed,cc_NoDeed,cls_sp,cls_tk,mo_NoDeed⟩ (kit_bO iC_BadDeed tyC_BadDeed ne_NoDeed_BadDeed no_NoDeed_BadDeed) (tabE_cons q_BadDeed ⟨ga_BadDeed,gg_BadDeed,exC_BadDeed,hdC_BadDeed,cc_BadDeed,cls_sp,cls_tk,mo_BadDeed⟩ kit_same (tabE_cons q_BadStep ⟨ga_BadStep,gg_BadStep,exC_BadStep,hdC_BadStep,cc_BadStep,cls_sp,cls_tk,mo_BadStep⟩ (kit_bO iC_BadDeed tyC_BadDeed ne_BadStep_BadDeed no_BadStep_BadDeed) (tabE_cons q_BadProgram ⟨ga_BadProgram,gg_BadProgram,exC_BadProgram,hdC_BadProgram,cc_BadProgram,cls_sp,cls_tk,mo_BadProgram⟩ (kit_bO iC_BadDeed tyC_BadDeed ne_BadProgram_BadDeed no_BadProgram_BadDeed) (tabE_cons q_NoMark ⟨ga_NoMark,gg_NoMark,exC_NoMark,hdC_NoMark,cc_NoMark,cls_sp,cls_tk,mo_NoMark⟩ (kit_bO iC_BadDeed tyC_BadDeed ne_NoMark_BadDeed no_NoMark_BadDeed) (tabE_cons q_TooFew ⟨ga_TooFew,gg_TooFew,exC_TooFew,hdC_TooFew,cc_TooFew,cls_sp,cls_tk,mo_TooFew⟩ (kit_bO iC_BadDeed tyC_BadDeed ne_TooFew_BadDeed no_TooFew_BadDeed) (tabE_cons q_TooMany ⟨ga_TooMany,gg_TooMany,exC_TooMany,hdC_TooMany,cc_TooMany,cls_sp,cls_tk,mo_TooMany⟩ (kit_bO iC_BadDeed tyC_BadDeed ne_TooMany_BadDeed no_TooMany_BadDeed) (tabE_cons q_NotLoud ⟨ga_NotLoud,gg_NotLoud,exC_NotLoud,hdC_NotLoud,cc_NotLoud,cls_sp,cls_tk,mo_NotLoud⟩ (kit_bO iC_BadDeed tyC_BadDeed ne_NotLoud_BadDeed no_NotLoud_BadDeed) (tabE_cons q_NoText ⟨ga_NoText,gg_NoText,exC_NoText,hdC_NoText,cc_NoText,cls_sp,cls_tk,mo_NoText⟩ (kit_bO iC_BadDeed tyC_BadDeed ne_NoText_BadDeed no_NoText_BadDeed) (tabE_cons q_BadCall ⟨ga_BadCall,gg_BadCall,exC_BadCall,hdC_BadCall,cc_BadCall,cls_sp,cls_tk,mo_BadCall⟩ (kit_bO iC_BadDeed tyC_BadDeed ne_BadCall_BadDeed no_BadCall_BadDeed) (tabE_cons q_Nothing ⟨ga_Nothing,gg_Nothing,exC_Nothing,hdC_Nothing,cc_Nothing,cls_sp,cls_tk,mo_Nothing⟩ (kit_bO iC_BadDeed tyC_BadDeed ne_Nothing_BadDeed no_Nothing_BadDeed) (tabE_cons q_BadEdit ⟨ga_BadEdit,gg_BadEdit,exC_BadEdit,hdC_BadEdit,cc_BadEdit,cls_sp,cls_tk,mo_BadEdit⟩ (kit_bO iC_BadDeed tyC_BadDeed ne_BadEdit_BadDeed no_BadEdit_BadDeed) (tabE_cons q_NoCommand ⟨ga_NoCommand,gg_NoCommand,exC_NoCommand,hdC_NoCommand,cc_NoCommand,cls_sp,cls_tk,mo_NoCommand⟩ (kit_bO iC_BadDeed tyC_BadDeed ne_NoCommand_BadDeed no_NoCommand_BadDeed) tabE_nil)))))))))))))) (eo_lk eoA)
 have t19:TabOk K (tabX [("Wrong",false),("NoDeed",false),("BadDeed",false),("BadStep",false),("BadProgram",false),("NoMark",false),("TooFew",false),("TooMany",false),("NotLoud",false),("NoText",false),("BadCall",false),("Nothing",false),("BadEdit",true),("NoCommand",false)]) (fun t b=>PySem.W.kitOne K t (.ref c_BadEdit)=some b):=tabX_ok (tabE_cons q_Wrong ⟨ga_Wrong,gg_Wrong,exC_Wrong,hdC_Wrong,cc_Wrong,cls_sp,cls_tk,mo_Wrong⟩ (kit_bO iC_BadEdit tyC_BadEdit ne_Wrong_BadEdit no_Wrong_BadEdit) (tabE_cons q_NoDeed ⟨ga_NoDeed,gg_NoDeed,exC_NoDeed,hdC_NoDeed,cc_NoDeed,cls_sp,cls_tk,mo_NoDeed⟩ (kit_bO iC_BadEdit tyC_BadEdit ne_NoDeed_BadEdit no_NoDeed_BadEdit) (tabE_cons q_BadDeed ⟨ga_BadDeed,gg_BadDeed,exC_BadDeed,hdC_BadDeed,cc_BadDeed,cls_sp,cls_tk,mo_BadDeed⟩ (kit_bO iC_BadEdit tyC_BadEdit ne_BadDeed_BadEdit no_BadDeed_BadEdit) (tabE_cons q_BadStep ⟨ga_BadStep,gg_BadStep,exC_BadStep,hdC_BadStep,cc_BadStep,cls_sp,cls_tk,mo_BadStep⟩ (kit_bO iC_BadEdit tyC_BadEdit ne_BadStep_BadEdit no_BadStep_BadEdit) (tabE_cons q_BadProgram ⟨ga_BadProgram,gg_BadProgram,exC_BadProgram,hdC_BadProgram,cc_BadProgram,cls_sp,cls_tk,mo_BadProgram⟩ (kit_bO iC_BadEdit tyC_BadEdit ne_BadProgram_BadEdit no_BadProgram_BadEdit) (tabE_cons q_NoMark ⟨ga_NoMark,gg_NoMark,exC_NoMark,hdC_NoMark,cc_NoMark,cls_sp,cls_tk,mo_NoMark⟩ (kit_bO iC_BadEdit tyC_BadEdit ne_NoMark_BadEdit no_NoMark_BadEdit) (tabE_cons q_TooFew ⟨ga_TooFew,gg_TooFew,exC_TooFew,hdC_TooFew,cc_TooFew,cls_sp,cls_tk,mo_TooFew⟩ (kit_bO iC_BadEdit tyC_BadEdit ne_TooFew_BadEdit no_TooFew_BadEdit) (tabE_cons q_TooMany ⟨ga_TooMany,gg_TooMany,exC_TooMany,hdC_TooMany,cc_TooMany,cls_sp,cls_tk,mo_TooMany⟩ (kit_bO iC_BadEdit tyC_BadEdit ne_TooMany_BadEdit no_TooMany_BadEdit) (tabE_cons q_NotLoud ⟨ga_NotLoud,gg_NotLoud,exC_NotLoud,hdC_NotLoud,cc_NotLoud,cls_sp,cls_tk,mo_NotLoud⟩ (kit_bO iC_BadEdit tyC_BadEdit ne_NotLoud_BadEdit no_NotLoud_BadEdit) (tabE_cons q_NoText ⟨ga_NoText,gg_NoText,exC_NoText,hdC_NoText,cc_NoText,cls_sp,cls_tk,mo_NoText⟩ (kit_bO iC_BadEdit tyC_BadEdit ne_NoText_BadEdit no_NoText_BadEdit) (tabE_cons q_BadCall ⟨ga_BadCall,gg_BadCall,exC_BadCall,hdC_BadCall,cc_BadCall,cls_sp,cls_tk,mo_BadCall⟩ (kit_bO iC_BadEdit tyC_BadEdit ne_BadCall_BadEdit no_BadCall_BadEdit) (tabE_cons q_Nothing ⟨ga_Nothing,gg_Nothing,exC_Nothing,hdC_Nothing,cc_Nothing,cls_sp,cls_tk,mo_Nothing⟩ (kit_bO iC_BadEdit tyC_BadEdit ne_Nothing_BadEdit no_Nothing_BadEdit) (tabE_cons q_BadEdit ⟨ga_BadEdit,gg_BadEdit,exC_BadEdit,hdC_BadEdit,cc_BadEdit,cls_sp,cls_tk,mo_BadEdit⟩ kit_same (tabE_cons q_NoCommand ⟨ga_NoCommand,gg_NoCommand,exC_NoCommand,hdC_NoCommand,cc_NoCommand,cls_sp,cls_tk,mo_NoCommand⟩ (kit_bO iC_BadEdit tyC_BadEdit ne_NoCommand_BadEdit no_NoCommand_BadEdit) tabE_nil)))))))))))))) (eo_lk eoA)
 have t20:TabOk K (tabX [("Wrong",false),("NoDeed",false),("BadDeed",false),("BadStep",false),("BadProgram",true),("NoMark",false),("TooFew",false),("TooMany",false),("NotLoud",false),("NoText",false),("BadCall",false),("Nothing",false),("BadEdit",false),("NoCommand",false)]) (fun t b=>PySem.W.kitOne K t (.ref c_BadProgram)=some b):=tabX_ok (tabE_cons q_Wrong ⟨ga_Wrong,gg_Wrong,exC_Wrong,hdC_Wrong,cc_Wrong,cls_sp,cls_tk,mo_Wrong⟩ (kit_bO iC_BadProgram tyC_BadProgram ne_Wrong_BadProgram no_Wrong_BadProgram) (tabE_cons q_NoDeed ⟨ga_NoDeed,gg_NoDeed,exC_NoDeed,hdC_NoDeed,cc_NoDeed,cls_sp,cls_tk,mo_NoDeed⟩ (kit_bO iC_BadProgram tyC_BadProgram ne_NoDeed_BadProgram no_NoDeed_BadProgram) (tabE_cons q_BadDeed ⟨ga_BadDeed,gg_BadDeed,exC_BadDeed,hdC_BadDeed,cc_BadDeed,cls_sp,cls_tk,mo_BadDeed⟩ (kit_bO iC_BadProgram tyC_BadProgram ne_BadDeed_BadProgram no_BadDeed_BadProgram) (tabE_cons q_BadStep ⟨ga_BadStep,gg_BadStep,exC_BadStep,hdC_BadStep,cc_BadStep,cls_sp,cls_tk,mo_BadStep⟩ (kit_bO iC_BadProgram tyC_BadProgram ne_BadStep_BadProgram no_BadStep_BadProgram) (tabE_cons q_BadProgram ⟨ga_BadProgram,gg_BadProgram,exC_BadProgram,hdC_BadProgram,cc_BadProgram,cls_sp,cls_tk,mo_BadProgram⟩ kit_same (tabE_cons q_NoMark ⟨ga_NoMark,gg_NoMark,exC_NoMark,hdC_NoMark,cc_NoMark,cls_sp,cls_tk,mo_NoMark⟩ (kit_bO iC_BadProgram tyC_BadProgram ne_NoMark_BadProgram no_NoMark_BadProgram) (tabE_cons q_TooFew ⟨ga_TooFew,gg_TooFew,exC_TooFew,hdC_TooFew,cc_TooFew,cls_sp,cls_tk,mo_TooFew⟩ (kit_bO iC_BadProgram tyC_BadProgram ne_TooFew_BadProgram no_TooFew_BadProgram) (tabE_cons q_TooMany ⟨ga_TooMany,gg_TooMany,exC_TooMany,hdC_TooMany,cc_TooMany,cls_sp,cls_tk,mo_TooMany⟩ (kit_bO iC_BadProgram tyC_BadProgram ne_TooMany_BadProgram no_TooMany_BadProgram) (tabE_cons q_NotLoud ⟨ga_NotLoud,gg_NotLoud,exC_NotLoud,hdC_NotLoud,cc_NotLoud,cls_sp,cls_tk,mo_NotLoud⟩ (kit_bO iC_BadProgram tyC_BadProgram ne_NotLoud_BadProgram no_NotLoud_BadProgram) (tabE_cons q_NoText ⟨ga_NoText,gg_NoText,exC_NoText,hdC_NoText,cc_NoText,cls_sp,cls_tk,mo_NoText⟩ (kit_bO iC_BadProgram tyC_BadProgram ne_NoText_BadProgram no_NoText_BadProgram) (tabE_cons q_BadCall ⟨ga_BadCall,gg_BadCall,exC_BadCall,hdC_BadCall,cc_BadCall,cls_sp,cls_tk,mo_BadCall⟩ (kit_bO iC_BadProgram tyC_BadProgram ne_BadCall_BadProgram no_BadCall_BadProgram) (tabE_cons q_Nothing ⟨ga_Nothing,gg_Nothing,exC_Nothing,hdC_Nothing,cc_Nothing,cls_sp,cls_tk,mo_Nothing⟩ (kit_bO iC_BadProgram tyC_BadProgram ne_Nothing_BadProgram no_Nothing_BadProgram) (tabE_cons q_BadEdit ⟨ga_BadEdit,gg_BadEdit,exC_BadEdit,hdC_BadEdit,cc_BadEdit,cls_sp,cls_tk,mo_BadEdit⟩ (kit_bO iC_BadProgram tyC_BadProgram ne_BadEdit_BadProgram no_BadEdit_BadProgram) (tabE_cons q_NoCommand ⟨ga_NoCommand,gg_NoCommand,exC_NoCommand,hdC_NoCommand,cc_NoCommand,cls_sp,cls_tk,mo_NoCommand⟩ (kit_bO iC_BadProgram tyC_BadProgram ne_NoCommand_BadProgram no_NoCommand_BadProgram) tabE_nil)))))))))))))) (eo_lk eoA)
 have t21:TabOk K (tabX [("Wrong",false),("NoDeed",false),("BadDeed",false),("BadStep",true),("BadProgram",false),("NoMark",false),("TooFew",false),("TooMany",false),("NotLoud",false),("NoText",false),("BadCall",false),("Nothing",false),("BadEdit",false),("NoCommand",false)]) (fun t b=>PySem.W.kitOne K t (.ref c_BadStep)=some b):=tabX_ok (tabE_cons q_Wrong ⟨ga_Wrong,gg_Wrong,exC_Wrong,hdC_Wrong,cc_Wrong,cls_sp,cls_tk,mo_Wrong⟩ (kit_bO iC_BadStep tyC_BadStep ne_Wrong_BadStep no_Wrong_BadStep) (tabE_cons q_NoDeed ⟨ga_NoDeed,gg_NoDeed,exC_NoDeed,hdC_NoDeed,cc_NoDeed,cls_sp,cls_tk,mo_NoDeed⟩ (kit_bO iC_BadStep tyC_BadStep ne_NoDeed_BadStep no_NoDeed_BadStep) (tabE_cons q_BadDeed ⟨ga_BadDeed,gg_BadDeed,exC_BadDeed,hdC_BadDeed,cc_BadDeed,cls_sp,cls_tk,mo_BadDeed⟩ (kit_bO iC_BadStep tyC_BadStep ne_BadDeed_BadStep no_BadDeed_BadStep) (tabE_cons q_BadStep ⟨ga_BadStep,gg_BadStep,exC_BadStep,hdC_BadStep,cc_BadStep,cls_sp,cls_tk,mo_BadStep⟩ kit_same (tabE_cons q_BadProgram ⟨ga_BadProgram,gg_BadProgram,exC_BadProgram,hdC_BadProgram,cc_BadProgram,cls_sp,cls_tk,mo_BadProgram⟩ (kit_bO iC_BadStep tyC_BadStep ne_BadProgram_BadStep no_BadProgram_BadStep) (tabE_cons q_NoMark ⟨ga_NoMark,gg_NoMark,exC_NoMark,hdC_NoMark,cc_NoMark,cls_sp,cls_tk,mo_NoMark⟩ (kit_bO iC_BadStep tyC_BadStep ne_NoMark_BadStep no_NoMark_BadStep) (tabE_cons q_TooFew ⟨ga_TooFew,gg_TooFew,exC_TooFew,hdC_TooFew,cc_TooFew,cls_sp,cls_tk,mo_TooFew⟩ (kit_bO iC_BadStep tyC_BadStep ne_TooFew_BadStep no_TooFew_BadStep) (tabE_cons q_TooMany ⟨ga_TooMany,gg_TooMany,exC_TooMany,hdC_TooMany,cc_TooMany,cls_sp,cls_tk,mo_TooMany⟩ (kit_bO iC_BadStep tyC_BadStep ne_TooMany_BadStep no_TooMany_BadStep) (tabE_cons q_NotLoud ⟨ga_NotLoud,gg_NotLoud,exC_NotLoud,hdC_NotLoud,cc_NotLoud,cls_sp,cls_tk,mo_NotLoud⟩ (kit_bO iC_BadStep tyC_BadStep ne_NotLoud_BadStep no_NotLoud_BadStep) (tabE_cons q_NoText ⟨ga_NoText,gg_NoText,exC_NoText,hdC_NoText,cc_NoText,cls_sp,cls_tk,mo_NoText⟩ (kit_bO iC_BadStep tyC_BadStep ne_NoText_BadStep no_NoText_BadStep) (tabE_cons q_BadCall ⟨ga_BadCall,gg_BadCall,exC_BadCall,hdC_BadCall,cc_BadCall,cls_sp,cls_tk,mo_BadCall⟩ (kit_bO iC_BadStep tyC_BadStep ne_BadCall_BadStep no_BadCall_BadStep) (tabE_cons q_Nothing ⟨ga_Nothing,gg_Nothing,exC_Nothing,hdC_Nothing,cc_Nothing,cls_sp,cls_tk,mo_Nothing⟩ (kit_bO iC_BadStep tyC_BadStep ne_Nothing_BadStep no_Nothing_BadStep) (tabE_cons q_BadEdit ⟨ga_BadEdit,gg_BadEdit,exC_BadEdit,hdC_BadEdit,cc_BadEdit,cls_sp,cls_tk,mo_BadEdit⟩ (kit_bO iC_BadStep tyC_BadStep ne_BadEdit_BadStep no_BadEdit_BadStep) (tabE_cons q_NoCommand ⟨ga_NoCommand,gg_NoCommand,exC_NoCommand,hdC_NoCommand,cc_NoCommand,cls_sp,cls_tk,mo_NoCommand⟩ (kit_bO iC_BadStep tyC_BadStep ne_NoCommand_BadStep no_NoCommand_BadStep) tabE_nil)))))))))))))) (eo_lk eoA)
 have t22:TabOk K (tabX [("Wrong",true),("NoDeed",true),("BadDeed",true),("BadStep",true),("BadProgram",true),("NoMark",true),("TooFew",true),("TooMany",true),("NotLoud",true),("NoText",true),("BadCall",true),("Nothing",true),("BadEdit",true),("NoCommand",true)]) (fun t b=>PySem.W.kitOne K t (.ref c_CountError)=some b):=tabX_ok (tabE_cons q_Wrong ⟨ga_Wrong,gg_Wrong,exC_Wrong,hdC_Wrong,cc_Wrong,cls_sp,cls_tk,mo_Wrong⟩ (kit_bO iC_CountError tyC_CountError ne_Wrong_CountError no_Wrong_CountError) (tabE_cons q_NoDeed ⟨ga_NoDeed,gg_NoDeed,exC_NoDeed,hdC_NoDeed,cc_NoDeed,cls_sp,cls_tk,mo_NoDeed⟩ (kit_bO iC_CountError tyC_CountError ne_NoDeed_CountError no_NoDeed_CountError) (tabE_cons q_BadDeed ⟨ga_BadDeed,gg_BadDeed,exC_BadDeed,hdC_BadDeed,cc_BadDeed,cls_sp,cls_tk,mo_BadDeed⟩ (kit_bO iC_CountError tyC_CountError ne_BadDeed_CountError no_BadDeed_CountError) (tabE_cons q_BadStep ⟨ga_BadStep,gg_BadStep,exC_BadStep,hdC_BadStep,cc_BadStep,cls_sp,cls_tk,mo_BadStep⟩ (kit_bO iC_CountError tyC_CountError ne_BadStep_CountError no_BadStep_CountError) (tabE_cons q_BadProgram ⟨ga_BadProgram,gg_BadProgram,exC_BadProgram,hdC_BadProgram,cc_BadProgram,cls_sp,cls_tk,mo_BadProgram⟩ (kit_bO iC_CountError tyC_CountError ne_BadProgram_CountError no_BadProgram_CountError) (tabE_cons q_NoMark ⟨ga_NoMark,gg_NoMark,exC_NoMark,hdC_NoMark,cc_NoMark,cls_sp,cls_tk,mo_NoMark⟩ (kit_bO iC_CountError tyC_CountError ne_NoMark_CountError no_NoMark_CountError) (tabE_cons q_TooFew ⟨ga_TooFew,gg_TooFew,exC_TooFew,hdC_TooFew,cc_TooFew,cls_sp,cls_tk,mo_TooFew⟩ (kit_bO iC_CountError tyC_CountError ne_TooFew_CountError no_TooFew_CountError) (tabE_cons q_TooMany ⟨ga_TooMany,gg_TooMany,exC_TooMany,hdC_TooMany,cc_TooMany,cls_sp,cls_tk,mo_TooMany⟩ (kit_bO iC_CountError tyC_CountError ne_TooMany_CountError no_TooMany_CountError) (tabE_cons q_NotLoud ⟨ga_NotLoud,gg_NotLoud,exC_NotLoud,hdC_NotLoud,cc_NotLoud,cls_sp,cls_tk,mo_NotLoud⟩ (kit_bO iC_CountError tyC_CountError ne_NotLoud_CountError no_NotLoud_CountError) (tabE_cons q_NoText ⟨ga_NoText,gg_NoText,exC_NoText,hdC_NoText,cc_NoText,cls_sp,cls_tk,mo_NoText⟩ (kit_bO iC_CountError tyC_CountError ne_NoText_CountError no_NoText_CountError) (tabE_cons q_BadCall ⟨ga_BadCall,gg_BadCall,exC_BadCall,hdC_BadCall,cc_BadCall,cls_sp,cls_tk,mo_BadCall⟩ (kit_bO iC_CountError tyC_CountError ne_BadCall_CountError no_BadCall_CountError) (tabE_cons q_Nothing ⟨ga_Nothing,gg_Nothing,exC_Nothing,hdC_Nothing,cc_Nothing,cls_sp,cls_tk,mo_Nothing⟩ (kit_bO iC_CountError tyC_CountError ne_Nothing_CountError no_Nothing_CountError) (tabE_cons q_BadEdit ⟨ga_BadEdit,gg_BadEdit,exC_BadEdit,hdC_BadEdit,cc_BadEdit,cls_sp,cls_tk,mo_BadEdit⟩ (kit_bO iC_CountError tyC_CountError ne_BadEdit_CountError no_BadEdit_CountError) (tabE_cons q_NoCommand ⟨ga_NoCommand,gg_NoCommand,exC_NoCommand,hdC_NoCommand,cc_NoCommand,cls_sp,cls_tk,mo_NoCommand⟩ (kit_bO iC_CountError tyC_CountError ne_NoCommand_CountError no_NoCommand_CountError) tabE_nil)))))))))))))) (eo_lk eoA)
 have t23:TabOk K (tabX [("Wrong",false),("NoDeed",false),("BadDeed",false),("BadStep",false),("BadProgram",false),("NoMark",false),("TooFew",false),("TooMany",false),("NotLoud",false),("NoText",false),("BadCall",false),("Nothing",false),("BadEdit",false),("NoCommand",true)]) (fun t b=>PySem.W.kitOne K t (.ref c_NoCommand)=some b):=tabX_ok (tabE_cons q_Wrong ⟨ga_Wrong,gg_Wrong,exC_Wrong,hdC_Wrong,cc_Wrong,cls_sp,cls_tk,mo_Wrong⟩ (kit_bO iC_NoCommand tyC_NoCommand ne_Wrong_NoCommand no_Wrong_NoCommand) (tabE_cons q_NoDeed ⟨ga_NoDeed,gg_NoDeed,exC_NoDeed,hdC_NoDeed,cc_NoDeed,cls_sp,cls_tk,mo_NoDeed⟩ (kit_bO iC_NoCommand tyC_NoCommand ne_NoDeed_NoCommand no_NoDeed_NoCommand) (tabE_cons q_BadDeed ⟨ga_BadDeed,gg_BadDeed,exC_BadDeed,hdC_BadDeed,cc_BadDeed,cls_sp,cls_tk,mo_BadDeed⟩ (kit_bO iC_NoCommand tyC_NoCommand ne_BadDeed_NoCommand no_BadDeed_NoCommand) (tabE_cons q_BadStep ⟨ga_BadStep,gg_BadStep,exC_BadStep,hdC_BadStep,cc_BadStep,cls_sp,cls_tk,mo_BadStep⟩ (kit_bO iC_NoCommand tyC_NoCommand ne_BadStep_NoCommand no_BadStep_NoCommand) (tabE_cons q_BadProgram ⟨ga_BadProgram,gg_BadProgram,exC_BadProgram,hdC_BadProgram,cc_BadProgram,cls_sp,cls_tk,mo_BadProgram⟩ (kit_bO iC_NoCommand tyC_NoCommand ne_BadProgram_NoCommand no_BadProgram_NoCommand) (tabE_cons q_NoMark ⟨ga_NoMark,gg_NoMark,exC_NoMark,hdC_NoMark,cc_NoMark,cls_sp,cls_tk,mo_NoMark⟩ (kit_bO iC_NoCommand tyC_NoCommand ne_NoMark_NoCommand no_NoMark_NoCommand) (tabE_cons q_TooFew ⟨ga_TooFew,gg_TooFew,exC_TooFew,hdC_TooFew,cc_TooFew,cls_sp,cls_tk,mo_TooFew⟩ (kit_bO iC_NoCommand tyC_NoCommand ne_TooFew_NoCommand no_TooFew_NoCommand) (tabE_cons q_TooMany ⟨ga_TooMany,gg_TooMany,exC_TooMany,hdC_TooMany,cc_TooMany,cls_sp,cls_tk,mo_TooMany⟩ (kit_bO iC_NoCommand tyC_NoCommand ne_TooMany_NoCommand no_TooMany_NoCommand) (tabE_cons q_NotLoud ⟨ga_NotLoud,gg_NotLoud,exC_NotLoud,hdC_NotLoud,cc_NotLoud,cls_sp,cls_tk,mo_NotLoud⟩ (kit_bO iC_NoCommand tyC_NoCommand ne_NotLoud_NoCommand no_NotLoud_NoCommand) (tabE_cons q_NoText ⟨ga_NoText,gg_NoText,exC_NoText,hdC_NoText,cc_NoText,cls_sp,cls_tk,mo_NoText⟩ (kit_bO iC_NoCommand tyC_NoCommand ne_NoText_NoCommand no_NoText_NoCommand) (tabE_cons q_BadCall ⟨ga_BadCall,gg_BadCall,exC_BadCall,hdC_BadCall,cc_BadCall,cls_sp,cls_tk,mo_BadCall⟩ (kit_bO iC_NoCommand tyC_NoCommand ne_BadCall_NoCommand no_BadCall_NoCommand) (tabE_cons q_Nothing ⟨ga_Nothing,gg_Nothing,exC_Nothing,hdC_Nothing,cc_Nothing,cls_sp,cls_tk,mo_Nothing⟩ (kit_bO iC_NoCommand tyC_NoCommand ne_Nothing_NoCommand no_Nothing_NoCommand) (tabE_cons q_BadEdit ⟨ga_BadEdit,gg_BadEdit,exC_BadEdit,hdC_BadEdit,cc_BadEdit,cls_sp,cls_tk,mo_BadEdit⟩ (kit_bO iC_NoCommand tyC_NoCommand ne_BadEdit_NoCommand no_BadEdit_NoCommand) (tabE_cons q_NoCommand ⟨ga_NoCommand,gg_NoCommand,exC_NoCommand,hdC_NoCommand,cc_NoCommand,cls_sp,cls_tk,mo_NoCommand⟩ kit_same tabE_nil)))))))))))))) (eo_lk eoA)
 have t24:TabOk K (tabX [("Wrong",false),("NoDeed",true),("BadDeed",false),("BadStep",false),("BadProgram",false),("NoMark",false),("TooFew",false),("TooMany",false),("NotLoud",false),("NoText",false),("BadCall",false),("Nothing",false),("BadEdit",false),("NoCommand",false)]) (fun t b=>PySem.W.kitOne K t (.ref c_NoDeed)=some b):=tabX_ok (tabE_cons q_Wrong ⟨ga_Wrong,gg_Wrong,exC_Wrong,hdC_Wrong,cc_Wrong,cls_sp,cls_tk,mo_Wrong⟩ (kit_bO iC_NoDeed tyC_NoDeed ne_Wrong_NoDeed no_Wrong_NoDeed) (tabE_cons q_NoDeed ⟨ga_NoDeed,gg_NoDeed,exC_NoDeed,hdC_NoDeed,cc_NoDeed,cls_sp,cls_tk,mo_NoDeed⟩ kit_same (tabE_cons q_BadDeed ⟨ga_BadDeed,gg_BadDeed,exC_BadDeed,hdC_BadDeed,cc_BadDeed,cls_sp,cls_tk,mo_BadDeed⟩ (kit_bO iC_NoDeed tyC_NoDeed ne_BadDeed_NoDeed no_BadDeed_NoDeed) (tabE_cons q_BadStep ⟨ga_BadStep,gg_BadStep,exC_BadStep,hdC_BadStep,cc_BadStep,cls_sp,cls_tk,mo_BadStep⟩ (kit_bO iC_NoDeed tyC_NoDeed ne_BadStep_NoDeed no_BadStep_NoDeed) (tabE_cons q_BadProgram ⟨ga_BadProgram,gg_BadProgram,exC_BadProgram,hdC_BadProgram,cc_BadProgram,cls_sp,cls_tk,mo_BadProgram⟩ (kit_bO iC_NoDeed tyC_NoDeed ne_BadProgram_NoDeed no_BadProgram_NoDeed) (tabE_cons q_NoMark ⟨ga_NoMark,gg_NoMark,exC_NoMark,hdC_NoMark,cc_NoMark,cls_sp,cls_tk,mo_NoMark⟩ (kit_bO iC_NoDeed tyC_NoDeed ne_NoMark_NoDeed no_NoMark_NoDeed) (tabE_cons q_TooFew ⟨ga_TooFew,gg_TooFew,exC_TooFew,hdC_TooFew,cc_TooFew,cls_sp,cls_tk,mo_TooFew⟩ (kit_bO iC_NoDeed tyC_NoDeed ne_TooFew_NoDeed no_TooFew_NoDeed) (tabE_cons q_TooMany ⟨ga_TooMany,gg_TooMany,exC_TooMany,hdC_TooMany,cc_TooMany,cls_sp,cls_tk,mo_TooMany⟩ (kit_bO iC_NoDeed tyC_NoDeed ne_TooMany_NoDeed no_TooMany_NoDeed) (tabE_cons q_NotLoud ⟨ga_NotLoud,gg_NotLoud,exC_NotLoud,hdC_NotLoud,cc_NotLoud,cls_sp,cls_tk,mo_NotLoud⟩ (kit_bO iC_NoDeed tyC_NoDeed ne_NotLoud_NoDeed no_NotLoud_NoDeed) (tabE_cons q_NoText ⟨ga_NoText,gg_NoText,exC_NoText,hdC_NoText,cc_NoText,cls_sp,cls_tk,mo_NoText⟩ (kit_bO iC_NoDeed tyC_NoDeed ne_NoText_NoDeed no_NoText_NoDeed) (tabE_cons q_BadCall ⟨ga_BadCall,gg_BadCall,exC_BadCall,hdC_BadCall,cc_BadCall,cls_sp,cls_tk,mo_BadCall⟩ (kit_bO iC_NoDeed tyC_NoDeed ne_BadCall_NoDeed no_BadCall_NoDeed) (tabE_cons q_Nothing ⟨ga_Nothing,gg_Nothing,exC_Nothing,hdC_Nothing,cc_Nothing,cls_sp,cls_tk,mo_Nothing⟩ (kit_bO iC_NoDeed tyC_NoDeed ne_Nothing_NoDeed no_Nothing_NoDeed) (tabE_cons q_BadEdit ⟨ga_BadEdit,gg_BadEdit,exC_BadEdit,hdC_BadEdit,cc_BadEdit,cls_sp,cls_tk,mo_BadEdit⟩ (kit_bO iC_NoDeed tyC_NoDeed ne_BadEdit_NoDeed no_BadEdit_NoDeed) (tabE_cons q_NoCommand ⟨ga_NoCommand,gg_NoCommand,exC_NoCommand,hdC_NoCommand,cc_NoCommand,cls_sp,cls_tk,mo_NoCommand⟩ (kit_bO iC_NoDeed tyC_NoDeed ne_NoCommand_NoDeed no_NoCommand_NoDeed) tabE_nil)))))))))))))) (eo_lk eoA)
 have t25:TabOk K (tabX [("Wrong",false),("NoDeed",false),("BadDeed",false),("BadStep",false),("BadProgram",false),("NoMark",true),("TooFew",false),("TooMany",false),("NotLoud",false),("NoText",false),("BadCall",false),("Nothing",false),("BadEdit",false),("NoCommand",false)]) (fun t b=>PySem.W.kitOne K t (.ref c_NoMark)=some b):=tabX_ok (tabE_cons q_Wrong ⟨ga_Wrong,gg_Wrong,exC_Wrong,hdC_Wrong,cc_Wrong,cls_sp,cls_tk,mo_Wrong⟩ (kit_bO iC_NoMark tyC_NoMark ne_Wrong_NoMark no_Wrong_NoMark) (tabE_cons q_NoDeed ⟨ga_NoDeed,gg_NoDeed,exC_NoDeed,hdC_NoDeed,cc_NoDeed,cls_sp,cls_tk,mo_NoDeed⟩ (kit_bO iC_NoMark tyC_NoMark ne_NoDeed_NoMark no_NoDeed_NoMark) (tabE_cons q_BadDeed ⟨ga_BadDeed,gg_BadDeed,exC_BadDeed,hdC_BadDeed,cc_BadDeed,cls_sp,cls_tk,mo_BadDeed⟩ (kit_bO iC_NoMark tyC_NoMark ne_BadDeed_NoMark no_BadDeed_NoMark) (tabE_cons q_BadStep ⟨ga_BadStep,gg_BadStep,exC_BadStep,hdC_BadStep,cc_BadStep,cls_sp,cls_tk,mo_BadStep⟩ (kit_bO iC_NoMark tyC_NoMark ne_BadStep_NoMark no_BadStep_NoMark) (tabE_cons q_BadProgram ⟨ga_BadProgram,gg_BadProgram,exC_BadProgram,hdC_BadProgram,cc_BadProgram,cls_sp,cls_tk,mo_BadProgram⟩ (kit_bO iC_NoMark tyC_NoMark ne_BadProgram_NoMark no_BadProgram_NoMark) (tabE_cons q_NoMark ⟨ga_NoMark,gg_NoMark,exC_NoMark,hdC_NoMark,cc_NoMark,cls_sp,cls_tk,mo_NoMark⟩ kit_same (tabE_cons q_TooFew ⟨ga_TooFew,gg_TooFew,exC_TooFew,hdC_TooFew,cc_TooFew,cls_sp,cls_tk,mo_TooFew⟩ (kit_bO iC_NoMark tyC_NoMark ne_TooFew_NoMark no_TooFew_NoMark) (tabE_cons q_TooMany ⟨ga_TooMany,gg_TooMany,exC_TooMany,hdC_TooMany,cc_TooMany,cls_sp,cls_tk,mo_TooMany⟩ (kit_bO iC_NoMark tyC_NoMark ne_TooMany_NoMark no_TooMany_NoMark) (tabE_cons q_NotLoud ⟨ga_NotLoud,gg_NotLoud,exC_NotLoud,hdC_NotLoud,cc_NotLoud,cls_sp,cls_tk,mo_NotLoud⟩ (kit_bO iC_NoMark tyC_NoMark ne_NotLoud_NoMark no_NotLoud_NoMark) (tabE_cons q_NoText ⟨ga_NoText,gg_NoText,exC_NoText,hdC_NoText,cc_NoText,cls_sp,cls_tk,mo_NoText⟩ (kit_bO iC_NoMark tyC_NoMark ne_NoText_NoMark no_NoText_NoMark) (tabE_cons q_BadCall ⟨ga_BadCall,gg_BadCall,exC_BadCall,hdC_BadCall,cc_BadCall,cls_sp,cls_tk,mo_BadCall⟩ (kit_bO iC_NoMark tyC_NoMark ne_BadCall_NoMark no_BadCall_NoMark) (tabE_cons q_Nothing ⟨ga_Nothing,gg_Nothing,exC_Nothing,hdC_Nothing,cc_Nothing,cls_sp,cls_tk,mo_Nothing⟩ (kit_bO iC_NoMark tyC_NoMark ne_Nothing_NoMark no_Nothing_NoMark) (tabE_cons q_BadEdit ⟨ga_BadEdit,gg_BadEdit,exC_BadEdit,hdC_BadEdit,cc_BadEdit,cls_sp,cls_tk,mo_BadEdit⟩ (kit_bO iC_NoMark tyC_NoMark ne_BadEdit_NoMark no_BadEdit_NoMark) (tabE_cons q_NoCommand ⟨ga_NoCommand,gg_NoCommand,exC_NoCommand,hdC_NoCommand,cc_NoCommand,cls_sp,cls_tk,mo_NoCommand⟩ (kit_bO iC_NoMark tyC_NoMark ne_NoCommand_NoMark no_NoCommand_NoMark) tabE_nil)))))))))))))) (eo_lk eoA)
 have t26:TabOk K (tabX [("Wrong",false),("NoDeed",false),("BadDeed",false),("BadStep",false),("BadProgram",false),("NoMark",false),("TooFew",false),("TooMany",false),("NotLoud",false),("NoText",true),("BadCall",false),("Nothing",false),("BadEdit",false),("NoCommand",false)]) (fun t b=>PySem.W.kitOne K t (.ref c_NoText)=some b):=tabX_ok (tabE_cons q_Wrong ⟨ga_Wrong,gg_Wrong,exC_Wrong,hdC_Wrong,cc_Wrong,cls_sp,cls_tk,mo_Wrong⟩ (kit_bO iC_NoText tyC_NoText ne_Wrong_NoText no_Wrong_NoText) (tabE_cons q_NoDeed ⟨ga_NoDeed,gg_NoDeed,exC_NoDeed,hdC_NoDeed,cc_NoDeed,cls_sp,cls_tk,mo_NoDeed⟩ (kit_bO iC_NoText tyC_NoText ne_NoDeed_NoText no_NoDeed_NoText) (tabE_cons q_BadDeed ⟨ga_BadDeed,gg_BadDeed,exC_BadDeed,hdC_BadDeed,cc_BadDeed,cls_sp,cls_tk,mo_BadDeed⟩ (kit_bO iC_NoText tyC_NoText ne_BadDeed_NoText no_BadDeed_NoText) (tabE_cons q_BadStep ⟨ga_BadStep,gg_BadStep,exC_BadStep,hdC_BadStep,cc_BadStep,cls_sp,cls_tk,mo_BadStep⟩ (kit_bO iC_NoText tyC_NoText ne_BadStep_NoText no_BadStep_NoText) (tabE_cons q_BadProgram ⟨ga_BadProgram,gg_BadProgram,exC_BadProgram,hdC_BadProgram,cc_BadProgram,cls_sp,cls_tk,mo_BadProgram⟩ (kit_bO iC_NoText tyC_NoText ne_BadProgram_NoText no_BadProgram_NoText) (tabE_cons q_NoMark ⟨ga_NoMark,gg_NoMark,exC_NoMark,hdC_NoMark,cc_NoMark,cls_sp,cls_tk,mo_NoMark⟩ (kit_bO iC_NoText tyC_NoText ne_NoMark_NoText no_NoMark_NoText) (tabE_cons q_TooFew ⟨ga_TooFew,gg_TooFew,exC_TooFew,hdC_TooFew,cc_TooFew,cls_sp,cls_tk,mo_TooFew⟩ (kit_bO iC_NoText tyC_NoText ne_TooFew_NoText no_TooFew_NoText) (tabE_cons q_TooMany ⟨ga_TooMany,gg_TooMany,exC_TooMany,hdC_TooMany,cc_TooMany,cls_sp,cls_tk,mo_TooMany⟩ (kit_bO iC_NoText tyC_NoText ne_TooMany_NoText no_TooMany_NoText) (tabE_cons q_NotLoud ⟨ga_NotLoud,gg_NotLoud,exC_NotLoud,hdC_NotLoud,cc_NotLoud,cls_sp,cls_tk,mo_NotLoud⟩ (kit_bO iC_NoText tyC_NoText ne_NotLoud_NoText no_NotLoud_NoText) (tabE_cons q_NoText ⟨ga_NoText,gg_NoText,exC_NoText,hdC_NoText,cc_NoText,cls_sp,cls_tk,mo_NoText⟩ kit_same (tabE_cons q_BadCall ⟨ga_BadCall,gg_BadCall,exC_BadCall,hdC_BadCall,cc_BadCall,cls_sp,cls_tk,mo_BadCall⟩ (kit_bO iC_NoText tyC_NoText ne_BadCall_NoText no_BadCall_NoText) (tabE_cons q_Nothing ⟨ga_Nothing,gg_Nothing,exC_Nothing,hdC_Nothing,cc_Nothing,cls_sp,cls_tk,mo_Nothing⟩ (kit_bO iC_NoText tyC_NoText ne_Nothing_NoText no_Nothing_NoText) (tabE_cons q_BadEdit ⟨ga_BadEdit,gg_BadEdit,exC_BadEdit,hdC_BadEdit,cc_BadEdit,cls_sp,cls_tk,mo_BadEdit⟩ (kit_bO iC_NoText tyC_NoText ne_BadEdit_NoText no_BadEdit_NoText) (tabE_cons q_NoCommand ⟨ga_NoCommand,gg_NoCommand,exC_NoCommand,hdC_NoCommand,cc_NoCommand,cls_sp,cls_tk,mo_NoCommand⟩ (kit_bO iC_NoText tyC_NoText ne_NoCommand_NoText no_NoCommand_NoText) tabE_nil)))))))))))))) (eo_lk eoA)
 have t27:TabOk K (tabX [("Wrong",false),("NoDeed",false),("BadDeed",false),("BadStep",false),("BadProgram",false),("NoMark",false),("TooFew",false),("TooMany",false),("NotLoud",true),("NoText",false),("BadCall",false),("Nothing",false),("BadEdit",false),("NoCommand",false)]) (fun t b=>PySem.W.kitOne K t (.ref c_NotLoud)=some b):=tabX_ok (tabE_cons q_Wrong ⟨ga_Wrong,gg_Wrong,exC_Wrong,hdC_Wrong,cc_Wrong,cls_sp,cls_tk,mo_Wrong⟩ (kit_bO iC_NotLoud tyC_NotLoud ne_Wrong_NotLoud no_Wrong_NotLoud) (tabE_cons q_NoDeed ⟨ga_NoDeed,gg_NoDeed,exC_NoDeed,hdC_NoDeed,cc_NoDeed,cls_sp,cls_tk,mo_NoDeed⟩ (kit_bO iC_NotLoud tyC_NotLoud ne_NoDeed_NotLoud no_NoDeed_NotLoud) (tabE_cons q_BadDeed ⟨ga_BadDeed,gg_BadDeed,exC_BadDeed,hdC_BadDeed,cc_BadDeed,cls_sp,cls_tk,mo_BadDeed⟩ (kit_bO iC_NotLoud tyC_NotLoud ne_BadDeed_NotLoud no_BadDeed_NotLoud) (tabE_cons q_BadStep ⟨ga_BadStep,gg_BadStep,exC_BadStep,hdC_BadStep,cc_BadStep,cls_sp,cls_tk,mo_BadStep⟩ (kit_bO iC_NotLoud tyC_NotLoud ne_BadStep_NotLoud no_BadStep_NotLoud) (tabE_cons q_BadProgram ⟨ga_BadProgram,gg_BadProgram,exC_BadProgram,hdC_BadProgram,cc_BadProgram,cls_sp,cls_tk,mo_BadProgram⟩ (kit_bO iC_NotLoud tyC_NotLoud ne_BadProgram_NotLoud no_BadProgram_NotLoud) (tabE_cons q_NoMark ⟨ga_NoMark,gg_NoMark,exC_NoMark,hdC_NoMark,cc_NoMark,cls_sp,cls_tk,mo_NoMark⟩ (kit_bO iC_NotLoud tyC_NotLoud ne_NoMark_NotLoud no_NoMark_NotLoud) (tabE_cons q_TooFew ⟨ga_TooFew,gg_TooFew,exC_TooFew,hdC_TooFew,cc_TooFew,cls_sp,cls_tk,mo_TooFew⟩ (kit_bO iC_NotLoud tyC_NotLoud ne_TooFew_NotLoud no_TooFew_NotLoud) (tabE_cons q_TooMany ⟨ga_TooMany,gg_TooMany,exC_TooMany,hdC_TooMany,cc_TooMany,cls_sp,cls_tk,mo_TooMany⟩ (kit_bO iC_NotLoud tyC_NotLoud ne_TooMany_NotLoud no_TooMany_NotLoud) (tabE_cons q_NotLoud ⟨ga_NotLoud,gg_NotLoud,exC_NotLoud,hdC_NotLoud,cc_NotLoud,cls_sp,cls_tk,mo_NotLoud⟩ kit_same (tabE_cons q_NoText ⟨ga_NoText,gg_NoText,exC_NoText,hdC_NoText,cc_NoText,cls_sp,cls_tk,mo_NoText⟩ (kit_bO iC_NotLoud tyC_NotLoud ne_NoText_NotLoud no_NoText_NotLoud) (tabE_cons q_BadCall ⟨ga_BadCall,gg_BadCall,exC_BadCall,hdC_BadCall,cc_BadCall,cls_sp,cls_tk,mo_BadCall⟩ (kit_bO iC_NotLoud tyC_NotLoud ne_BadCall_NotLoud no_BadCall_NotLoud) (tabE_cons q_Nothing ⟨ga_Nothing,gg_Nothing,exC_Nothing,hdC_Nothing,cc_Nothing,cls_sp,cls_tk,mo_Nothing⟩ (kit_bO iC_NotLoud tyC_NotLoud ne_Nothing_NotLoud no_Nothing_NotLoud) (tabE_cons q_BadEdit ⟨ga_BadEdit,gg_BadEdit,exC_BadEdit,hdC_BadEdit,cc_BadEdit,cls_sp,cls_tk,mo_BadEdit⟩ (kit_bO iC_NotLoud tyC_NotLoud ne_BadEdit_NotLoud no_BadEdit_NotLoud) (tabE_cons q_NoCommand ⟨ga_NoCommand,gg_NoCommand,exC_NoCommand,hdC_NoCommand,cc_NoCommand,cls_sp,cls_tk,mo_NoCommand⟩ (kit_bO iC_NotLoud tyC_NotLoud ne_NoCommand_NotLoud no_NoCommand_NotLoud) tabE_nil)))))))))))))) (eo_lk eoA)
 have t28:TabOk K (tabX [("Wrong",false),("NoDeed",false),("BadDeed",false),("BadStep",false),("BadProgram",false),("NoMark",false),("TooFew",false),("TooMany",false),("NotLoud",false),("NoText",false),("BadCall",false),("Nothing",true),("BadEdit",false),("NoCommand",false)]) (fun t b=>PySem.W.kitOne K t (.ref c_Nothing)=some b):=tabX_ok (tabE_cons q_Wrong ⟨ga_Wrong,gg_Wrong,exC_Wrong,hdC_Wrong,cc_Wrong,cls_sp,cls_tk,mo_Wrong⟩ (kit_bO iC_Nothing tyC_Nothing ne_Wrong_Nothing no_Wrong_Nothing) (tabE_cons q_NoDeed ⟨ga_NoDeed,gg_NoDeed,exC_NoDeed,hdC_NoDeed,cc_NoDeed,cls_sp,cls_tk,mo_NoDeed⟩ (kit_bO iC_Nothing tyC_Nothing ne_NoDeed_Nothing no_NoDeed_Nothing) (tabE_cons q_BadDeed ⟨ga_BadDeed,gg_BadDeed,exC_BadDeed,hdC_BadDeed,cc_BadDeed,cls_sp,cls_tk,mo_BadDeed⟩ (kit_bO iC_Nothing tyC_Nothing ne_BadDeed_Nothing no_BadDeed_Nothing) (tabE_cons q_BadStep ⟨ga_BadStep,gg_BadStep,exC_BadStep,hdC_BadStep,cc_BadStep,cls_sp,cls_tk,mo_BadStep⟩ (kit_bO iC_Nothing tyC_Nothing ne_BadStep_Nothing no_BadStep_Nothing) (tabE_cons q_BadProgram ⟨ga_BadProgram,gg_BadProgram,exC_BadProgram,hdC_BadProgram,cc_BadProgram,cls_sp,cls_tk,mo_BadProgram⟩ (kit_bO iC_Nothing tyC_Nothing ne_BadProgram_Nothing no_BadProgram_Nothing) (tabE_cons q_NoMark ⟨ga_NoMark,gg_NoMark,exC_NoMark,hdC_NoMark,cc_NoMark,cls_sp,cls_tk,mo_NoMark⟩ (kit_bO iC_Nothing tyC_Nothing ne_NoMark_Nothing no_NoMark_Nothing) (tabE_cons q_TooFew ⟨ga_TooFew,gg_TooFew,exC_TooFew,hdC_TooFew,cc_TooFew,cls_sp,cls_tk,mo_TooFew⟩ (kit_bO iC_Nothing tyC_Nothing ne_TooFew_Nothing no_TooFew_Nothing) (tabE_cons q_TooMany ⟨ga_TooMany,gg_TooMany,exC_TooMany,hdC_TooMany,cc_TooMany,cls_sp,cls_tk,mo_TooMany⟩ (kit_bO iC_Nothing tyC_Nothing ne_TooMany_Nothing no_TooMany_Nothing) (tabE_cons q_NotLoud ⟨ga_NotLoud,gg_NotLoud,exC_NotLoud,hdC_NotLoud,cc_NotLoud,cls_sp,cls_tk,mo_NotLoud⟩ (kit_bO iC_Nothing tyC_Nothing ne_NotLoud_Nothing no_NotLoud_Nothing) (tabE_cons q_NoText ⟨ga_NoText,gg_NoText,exC_NoText,hdC_NoText,cc_NoText,cls_sp,cls_tk,mo_NoText⟩ (kit_bO iC_Nothing tyC_Nothing ne_NoText_Nothing no_NoText_Nothing) (tabE_cons q_BadCall ⟨ga_BadCall,gg_BadCall,exC_BadCall,hdC_BadCall,cc_BadCall,cls_sp,cls_tk,mo_BadCall⟩ (kit_bO iC_Nothing tyC_Nothing ne_BadCall_Nothing no_BadCall_Nothing) (tabE_cons q_Nothing ⟨ga_Nothing,gg_Nothing,exC_Nothing,hdC_Nothing,cc_Nothing,cls_sp,cls_tk,mo_Nothing⟩ kit_same (tabE_cons q_BadEdit ⟨ga_BadEdit,gg_BadEdit,exC_BadEdit,hdC_BadEdit,cc_BadEdit,cls_sp,cls_tk,mo_BadEdit⟩ (kit_bO iC_Nothing tyC_Nothing ne_BadEdit_Nothing no_BadEdit_Nothing) (tabE_cons q_NoCommand ⟨ga_NoCommand,gg_NoCommand,exC_NoCommand,hdC_NoCommand,cc_NoCommand,cls_sp,cls_tk,mo_NoCommand⟩ (kit_bO iC_Nothing tyC_Nothing ne_NoCommand_Nothing no_NoCommand_Nothing) tabE_nil)))))))))))))) (eo_lk eoA)
 have t29:TabOk K (tabX [("Wrong",false),("NoDeed",false),("BadDeed",false),("BadStep",false),("BadProgram",false),("NoMark",false),("TooFew",true),("TooMany",false),("NotLoud",false),("NoText",false),("BadCall",false),("Nothing",false),("BadEdit",false),("NoCommand",false)]) (fun t b=>PySem.W.kitOne K t (.ref c_TooFew)=some b):=tabX_ok (tabE_cons q_Wrong ⟨ga_Wrong,gg_Wrong,exC_Wrong,hdC_Wrong,cc_Wrong,cls_sp,cls_tk,mo_Wrong⟩ (kit_bO iC_TooFew tyC_TooFew ne_Wrong_TooFew no_Wrong_TooFew) (tabE_cons q_NoDeed ⟨ga_NoDeed,gg_NoDeed,exC_NoDeed,hdC_NoDeed,cc_NoDeed,cls_sp,cls_tk,mo_NoDeed⟩ (kit_bO iC_TooFew tyC_TooFew ne_NoDeed_TooFew no_NoDeed_TooFew) (tabE_cons q_BadDeed ⟨ga_BadDeed,gg_BadDeed,exC_BadDeed,hdC_BadDeed,cc_BadDeed,cls_sp,cls_tk,mo_BadDeed⟩ (kit_bO iC_TooFew tyC_TooFew ne_BadDeed_TooFew no_BadDeed_TooFew) (tabE_cons q_BadStep ⟨ga_BadStep,gg_BadStep,exC_BadStep,hdC_BadStep,cc_BadStep,cls_sp,cls_tk,mo_BadStep⟩ (kit_bO iC_TooFew tyC_TooFew ne_BadStep_TooFew no_BadStep_TooFew) (tabE_cons q_BadProgram ⟨ga_BadProgram,gg_BadProgram,exC_BadProgram,hdC_BadProgram,cc_BadProgram,cls_sp,cls_tk,mo_BadProgram⟩ (kit_bO iC_TooFew tyC_TooFew ne_BadProgram_TooFew no_BadProgram_TooFew) (tabE_cons q_NoMark ⟨ga_NoMark,gg_NoMark,exC_NoMark,hdC_NoMark,cc_NoMark,cls_sp,cls_tk,mo_NoMark⟩ (kit_bO iC_TooFew tyC_TooFew ne_NoMark_TooFew no_NoMark_TooFew) (tabE_cons q_TooFew ⟨ga_TooFew,gg_TooFew,exC_TooFew,hdC_TooFew,cc_TooFew,cls_sp,cls_tk,mo_TooFew⟩ kit_same (tabE_cons q_TooMany ⟨ga_TooMany,gg_TooMany,exC_TooMany,hdC_TooMany,cc_TooMany,cls_sp,cls_tk,mo_TooMany⟩ (kit_bO iC_TooFew tyC_TooFew ne_TooMany_TooFew no_TooMany_TooFew) (tabE_cons q_NotLoud ⟨ga_NotLoud,gg_NotLoud,exC_NotLoud,hdC_NotLoud,cc_NotLoud,cls_sp,cls_tk,mo_NotLoud⟩ (kit_bO iC_TooFew tyC_TooFew ne_NotLoud_TooFew no_NotLoud_TooFew) (tabE_cons q_NoText ⟨ga_NoText,gg_NoText,exC_NoText,hdC_NoText,cc_NoText,cls_sp,cls_tk,mo_NoText⟩ (kit_bO iC_TooFew tyC_TooFew ne_NoText_TooFew no_NoText_TooFew) (tabE_cons q_BadCall ⟨ga_BadCall,gg_BadCall,exC_BadCall,hdC_BadCall,cc_BadCall,cls_sp,cls_tk,mo_BadCall⟩ (kit_bO iC_TooFew tyC_TooFew ne_BadCall_TooFew no_BadCall_TooFew) (tabE_cons q_Nothing ⟨ga_Nothing,gg_Nothing,exC_Nothing,hdC_Nothing,cc_Nothing,cls_sp,cls_tk,mo_Nothing⟩ (kit_bO iC_TooFew tyC_TooFew ne_Nothing_TooFew no_Nothing_TooFew) (tabE_cons q_BadEdit ⟨ga_BadEdit,gg_BadEdit,exC_BadEdit,hdC_BadEdit,cc_BadEdit,cls_sp,cls_tk,mo_BadEdit⟩ (kit_bO iC_TooFew tyC_TooFew ne_BadEdit_TooFew no_BadEdit_TooFew) (tabE_cons q_NoCommand ⟨ga_NoCommand,gg_NoCommand,exC_NoCommand,hdC_NoCommand,cc_NoCommand,cls_sp,cls_tk,mo_NoCommand⟩ (kit_bO iC_TooFew tyC_TooFew ne_NoCommand_TooFew no_NoCommand_TooFew) tabE_nil)))))))))))))) (eo_lk eoA)
 have t30:TabOk K (tabX [("Wrong",false),("NoDeed",false),("BadDeed",false),("BadStep",false),("BadProgram",false),("NoMark",false),("TooFew",false),("TooMany",true),("NotLoud",false),("NoText",false),("BadCall",false),("Nothing",false),("BadEdit",false),("NoCommand",false)]) (fun t b=>PySem.W.kitOne K t (.ref c_TooMany)=some b):=tabX_ok (tabE_cons q_Wrong ⟨ga_Wrong,gg_Wrong,exC_Wrong,hdC_Wrong,cc_Wrong,cls_sp,cls_tk,mo_Wrong⟩ (kit_bO iC_TooMany tyC_TooMany ne_Wrong_TooMany no_Wrong_TooMany) (tabE_cons q_NoDeed ⟨ga_NoDeed,gg_NoDeed,exC_NoDeed,hdC_NoDeed,cc_NoDeed,cls_sp,cls_tk,mo_NoDeed⟩ (kit_bO iC_TooMany tyC_TooMany ne_NoDeed_TooMany no_NoDeed_TooMany) (tabE_cons q_BadDeed ⟨ga_BadDeed,gg_BadDeed,exC_BadDeed,hdC_BadDeed,cc_BadDeed,cls_sp,cls_tk,mo_BadDeed⟩ (kit_bO iC_TooMany tyC_TooMany ne_BadDeed_TooMany no_BadDeed_TooMany) (tabE_cons q_BadStep ⟨ga_BadStep,gg_BadStep,exC_BadStep,hdC_BadStep,cc_BadStep,cls_sp,cls_tk,mo_BadStep⟩ (kit_bO iC_TooMany tyC_TooMany ne_BadStep_TooMany no_BadStep_TooMany) (tabE_cons q_BadProgram ⟨ga_BadProgram,gg_BadProgram,exC_BadProgram,hdC_BadProgram,cc_BadProgram,cls_sp,cls_tk,mo_BadProgram⟩ (kit_bO iC_TooMany tyC_TooMany ne_BadProgram_TooMany no_BadProgram_TooMany) (tabE_cons q_NoMark ⟨ga_NoMark,gg_NoMark,exC_NoMark,hdC_NoMark,cc_NoMark,cls_sp,cls_tk,mo_NoMark⟩ (kit_bO iC_TooMany tyC_TooMany ne_NoMark_TooMany no_NoMark_TooMany) (tabE_cons q_TooFew ⟨ga_TooFew,gg_TooFew,exC_TooFew,hdC_TooFew,cc_TooFew,cls_sp,cls_tk,mo_TooFew⟩ (kit_bO iC_TooMany tyC_TooMany ne_TooFew_TooMany no_TooFew_TooMany) (tabE_cons q_TooMany ⟨ga_TooMany,gg_TooMany,exC_TooMany,hdC_TooMany,cc_TooMany,cls_sp,cls_tk,mo_TooMany⟩ kit_same (tabE_cons q_NotLoud ⟨ga_NotLoud,gg_NotLoud,exC_NotLoud,hdC_NotLoud,cc_NotLoud,cls_sp,cls_tk,mo_NotLoud⟩ (kit_bO iC_TooMany tyC_TooMany ne_NotLoud_TooMany no_NotLoud_TooMany) (tabE_cons q_NoText ⟨ga_NoText,gg_NoText,exC_NoText,hdC_NoText,cc_NoText,cls_sp,cls_tk,mo_NoText⟩ (kit_bO iC_TooMany tyC_TooMany ne_NoText_TooMany no_NoText_TooMany) (tabE_cons q_BadCall ⟨ga_BadCall,gg_BadCall,exC_BadCall,hdC_BadCall,cc_BadCall,cls_sp,cls_tk,mo_BadCall⟩ (kit_bO iC_TooMany tyC_TooMany ne_BadCall_TooMany no_BadCall_TooMany) (tabE_cons q_Nothing ⟨ga_Nothing,gg_Nothing,exC_Nothing,hdC_Nothing,cc_Nothing,cls_sp,cls_tk,mo_Nothing⟩ (kit_bO iC_TooMany tyC_TooMany ne_Nothing_TooMany no_Nothing_TooMany) (tabE_cons q_BadEdit ⟨ga_BadEdit,gg_BadEdit,exC_BadEdit,hdC_BadEdit,cc_BadEdit,cls_sp,cls_tk,mo_BadEdit⟩ (kit_bO iC_TooMany tyC_TooMany ne_BadEdit_TooMany no_BadEdit_TooMany) (tabE_cons q_NoCommand ⟨ga_NoCommand,gg_NoCommand,exC_NoCommand,hdC_NoCommand,cc_NoCommand,cls_sp,cls_tk,mo_NoCommand⟩ (kit_bO iC_TooMany tyC_TooMany ne_NoCommand_TooMany no_NoCommand_TooMany) tabE_nil)))))))))))))) (eo_lk eoA)
 have t31:TabOk K (tabX [("Wrong",true),("NoDeed",false),("BadDeed",false),("BadStep",false),("BadProgram",false),("NoMark",false),("TooFew",false),("TooMany",false),("NotLoud",false),("NoText",false),("BadCall",false),("Nothing",false),("BadEdit",false),("NoCommand",false)]) (fun t b=>PySem.W.kitOne K t (.ref c_Wrong)=some b):=tabX_ok (tabE_cons q_Wrong ⟨ga_Wrong,gg_Wrong,exC_Wrong,hdC_Wrong,cc_Wrong,cls_sp,cls_tk,mo_Wrong⟩ kit_same (tabE_cons q_NoDeed ⟨ga_NoDeed,gg_NoDeed,exC_NoDeed,hdC_NoDeed,cc_NoDeed,cls_sp,cls_tk,mo_NoDeed⟩ (kit_bO iC_Wrong tyC_Wrong ne_NoDeed_Wrong no_NoDeed_Wrong) (tabE_cons q_BadDeed ⟨ga_BadDeed,gg_BadDeed,exC_BadDeed,hdC_BadDeed,cc_BadDeed,cls_sp,cls_tk,mo_BadDeed⟩ (kit_bO iC_Wrong tyC_Wrong ne_BadDeed_Wrong no_BadDeed_Wrong) (tabE_cons q_BadStep ⟨ga_BadStep,gg_BadStep,exC_BadStep,hdC_BadStep,cc_BadStep,cls_sp,cls_tk,mo_BadStep⟩ (kit_bO iC_Wrong tyC_Wrong ne_BadStep_Wrong no_BadStep_Wrong) (tabE_cons q_BadProgram ⟨ga_BadProgram,gg_BadProgram,exC_BadProgram,hdC_BadProgram,cc_BadProgram,cls_sp,cls_tk,mo_BadProgram⟩ (kit_bO iC_Wrong tyC_Wrong ne_BadProgram_Wrong no_BadProgram_Wrong) (tabE_cons q_NoMark ⟨ga_NoMark,gg_NoMark,exC_NoMark,hdC_NoMark,cc_NoMark,cls_sp,cls_tk,mo_NoMark⟩ (kit_bO iC_Wrong tyC_Wrong ne_NoMark_Wrong no_NoMark_Wrong) (tabE_cons q_TooFew ⟨ga_TooFew,gg_TooFew,exC_TooFew,hdC_TooFew,cc_TooFew,cls_sp,cls_tk,mo_TooFew⟩ (kit_bO iC_Wrong tyC_Wrong ne_TooFew_Wrong no_TooFew_Wrong) (tabE_cons q_TooMany ⟨ga_TooMany,gg_TooMany,exC_TooMany,hdC_TooMany,cc_TooMany,cls_sp,cls_tk,mo_TooMany⟩ (kit_bO iC_Wrong tyC_Wrong ne_TooMany_Wrong no_TooMany_Wrong) (tabE_cons q_NotLoud ⟨ga_NotLoud,gg_NotLoud,exC_NotLoud,hdC_NotLoud,cc_NotLoud,cls_sp,cls_tk,mo_NotLoud⟩ (kit_bO iC_Wrong tyC_Wrong ne_NotLoud_Wrong no_NotLoud_Wrong) (tabE_cons q_NoText ⟨ga_NoText,gg_NoText,exC_NoText,hdC_NoText,cc_NoText,cls_sp,cls_tk,mo_NoText⟩ (kit_bO iC_Wrong tyC_Wrong ne_NoText_Wrong no_NoText_Wrong) (tabE_cons q_BadCall ⟨ga_BadCall,gg_BadCall,exC_BadCall,hdC_BadCall,cc_BadCall,cls_sp,cls_tk,mo_BadCall⟩ (kit_bO iC_Wrong tyC_Wrong ne_BadCall_Wrong no_BadCall_Wrong) (tabE_cons q_Nothing ⟨ga_Nothing,gg_Nothing,exC_Nothing,hdC_Nothing,cc_Nothing,cls_sp,cls_tk,mo_Nothing⟩ (kit_bO iC_Wrong tyC_Wrong ne_Nothing_Wrong no_Nothing_Wrong) (tabE_cons q_BadEdit ⟨ga_BadEdit,gg_BadEdit,exC_BadEdit,hdC_BadEdit,cc_BadEdit,cls_sp,cls_tk,mo_BadEdit⟩ (kit_bO iC_Wrong tyC_Wrong ne_BadEdit_Wrong no_BadEdit_Wrong) (tabE_cons q_NoCommand ⟨ga_NoCommand,gg_NoCommand,exC_NoCommand,hdC_NoCommand,cc_NoCommand,cls_sp,cls_tk,mo_NoCommand⟩ (kit_bO iC_Wrong tyC_Wrong ne_NoCommand_Wrong no_NoCommand_Wrong) tabE_nil)))))))))))))) (eo_lk eoA)
 have t32:TabOk K (tabX [("Wrong",true),("NoDeed",true),("BadDeed",true),("BadStep",true),("BadProgram",true),("NoMark",true),("TooFew",true),("TooMany",true),("NotLoud",true),("NoText",true),("BadCall",true),("Nothing",true),("BadEdit",true),("NoCommand",true)]) (fun t b=>PySem.W.kitOne K t (.type "ValueError")=some b):=tabX_ok (tabE_cons q_Wrong ⟨ga_Wrong,gg_Wrong,exC_Wrong,hdC_Wrong,cc_Wrong,cls_sp,cls_tk,mo_Wrong⟩ (kit_bT yT_Wrong_ValueError (by decide +kernel)) (tabE_cons q_NoDeed ⟨ga_NoDeed,gg_NoDeed,exC_NoDeed,hdC_NoDeed,cc_NoDeed,cls_sp,cls_tk,mo_NoDeed⟩ (kit_bT yT_NoDeed_ValueError (by decide +kernel)) (tabE_cons q_BadDeed ⟨ga_BadDeed,gg_BadDeed,exC_BadDeed,hdC_BadDeed,cc_BadDeed,cls_sp,cls_tk,mo_BadDeed⟩ (kit_bT yT_BadDeed_ValueError (by decide +kernel)) (tabE_cons q_BadStep ⟨ga_BadStep,gg_BadStep,exC_BadStep,hdC_BadStep,cc_BadStep,cls_sp,cls_tk,mo_BadStep⟩ (kit_bT yT_BadStep_ValueError (by decide +kernel)) (tabE_cons q_BadProgram ⟨ga_BadProgram,gg_BadProgram,exC_BadProgram,hdC_BadProgram,cc_BadProgram,cls_sp,cls_tk,mo_BadProgram⟩ (kit_bT yT_BadProgram_ValueError (by decide +kernel)) (tabE_cons q_NoMark ⟨ga_NoMark,gg_NoMark,exC_NoMark,hdC_NoMark,cc_NoMark,cls_sp,cls_tk,mo_NoMark⟩ (kit_bT yT_NoMark_ValueError (by decide +kernel)) (tabE_cons q_TooFew ⟨ga_TooFew,gg_TooFew,exC_TooFew,hdC_TooFew,cc_TooFew,cls_sp,cls_tk,mo_TooFew⟩ (kit_bT yT_TooFew_ValueError (by decide +kernel)) (tabE_cons q_TooMany ⟨ga_TooMany,gg_TooMany,exC_TooMany,hdC_TooMany,cc_TooMany,cls_sp,cls_tk,mo_TooMany⟩ (kit_bT yT_TooMany_ValueError (by decide +kernel)) (tabE_cons q_NotLoud ⟨ga_NotLoud,gg_NotLoud,exC_NotLoud,hdC_NotLoud,cc_NotLoud,cls_sp,cls_tk,mo_NotLoud⟩ (kit_bT yT_NotLoud_ValueError (by decide +kernel)) (tabE_cons q_NoText ⟨ga_NoText,gg_NoText,exC_NoText,hdC_NoText,cc_NoText,cls_sp,cls_tk,mo_NoText⟩ (kit_bT yT_NoText_ValueError (by decide +kernel)) (tabE_cons q_BadCall ⟨ga_BadCall,gg_BadCall,exC_BadCall,hdC_BadCall,cc_BadCall,cls_sp,cls_tk,mo_BadCall⟩ (kit_bT yT_BadCall_ValueError (by decide +kernel)) (tabE_cons q_Nothing ⟨ga_Nothing,gg_Nothing,exC_Nothing,hdC_Nothing,cc_Nothing,cls_sp,cls_tk,mo_Nothing⟩ (kit_bT yT_Nothing_ValueError (by decide +kernel)) (tabE_cons q_BadEdit ⟨ga_BadEdit,gg_BadEdit,exC_BadEdit,hdC_BadEdit,cc_BadEdit,cls_sp,cls_tk,mo_BadEdit⟩ (kit_bT yT_BadEdit_ValueError (by decide +kernel)) (tabE_cons q_NoCommand ⟨ga_NoCommand,gg_NoCommand,exC_NoCommand,hdC_NoCommand,cc_NoCommand,cls_sp,cls_tk,mo_NoCommand⟩ (kit_bT yT_NoCommand_ValueError (by decide +kernel)) tabE_nil)))))))))))))) (eo_lk eoA)
 have T:Tx l.prog w K mg c_BadCall c_BadDeed c_BadEdit c_BadProgram c_BadStep c_CountError c_NoCommand c_NoDeed c_NoMark c_NoText c_NotLoud c_Nothing c_TooFew c_TooMany c_Wrong i_BadDeed i_BadProgram i_BadStep i_NoDeed i_NoMark i_NoText i_NotLoud i_TooFew i_TooMany i_Wrong:=⟨PySem.W.mg_none_of X G z_ValueError,PySem.W.mg_none_of X G z_abs,PySem.W.mg_none_of X G z_dict,PySem.W.mg_none_of X G z_enumerate,PySem.W.mg_none_of X G z_int,PySem.W.mg_none_of X G z_isinstance,PySem.W.mg_none_of X G z_len,PySem.W.mg_none_of X G z_list,PySem.W.mg_none_of X G z_range,PySem.W.mg_of X G q_BadCall,q_BadCall,PySem.W.mg_of X G q_BadDeed,q_BadDeed,PySem.W.mg_of X G q_BadEdit,q_BadEdit,PySem.W.mg_of X G q_BadProgram,q_BadProgram,PySem.W.mg_of X G q_BadStep,q_BadStep,PySem.W.mg_of X G q_CountError,q_CountError,PySem.W.mg_of X G q_NoCommand,q_NoCommand,PySem.W.mg_of X G q_NoDeed,q_NoDeed,PySem.W.mg_of X G q_NoMark,q_NoMark,PySem.W.mg_of X G q_NoText,q_NoText,PySem.W.mg_of X G q_NotLoud,q_NotLoud,PySem.W.mg_of X G q_Nothing,q_Nothing,PySem.W.mg_of X G q_TooFew,q_TooFew,PySem.W.mg_of X G q_TooMany,q_TooMany,PySem.W.mg_of X G q_Wrong,q_Wrong,er_BadDeed,er_BadProgram,er_BadStep,er_NoDeed,er_NoMark,er_NoText,er_NotLoud,er_TooFew,er_TooMany,er_Wrong,⟨PySem.W.mg_of X G q_BadCall,xq_BadCall,kC_BadCall,exC_BadCall,tyC_BadCall⟩,⟨PySem.W.mg_of X G q_BadEdit,xq_BadEdit,kC_BadEdit,exC_BadEdit,tyC_BadEdit⟩,⟨PySem.W.mg_of X G q_NoCommand,xq_NoCommand,kC_NoCommand,exC_NoCommand,tyC_NoCommand⟩,⟨PySem.W.mg_of X G q_Nothing,xq_Nothing,kC_Nothing,exC_Nothing,tyC_Nothing⟩,⟨ga_BadDeed,gg_BadDeed,exC_BadDeed,hdC_BadDeed⟩,noN_BadDeed,⟨ga_BadProgram,gg_BadProgram,exC_BadProgram,hdC_BadProgram⟩,noN_BadProgram,⟨ga_BadStep,gg_BadStep,exC_BadStep,hdC_BadStep⟩,noN_BadStep,⟨ga_NoDeed,gg_NoDeed,exC_NoDeed,hdC_NoDeed⟩,noN_NoDeed,⟨ga_NoMark,gg_NoMark,exC_NoMark,hdC_NoMark⟩,noN_NoMark,⟨ga_NoText,gg_NoText,exC_NoText,hdC_NoText⟩,noN_NoText,⟨ga_NotLoud,gg_NotLoud,exC_NotLoud,hdC_NotLoud⟩,noN_NotLoud,⟨ga_TooFew,gg_TooFew,exC_TooFew,hdC_TooFew⟩,noN_TooFew,⟨ga_TooMany,gg_TooMany,exC_TooMany,hdC_TooMany⟩,noN_TooMany,⟨ga_Wrong,gg_Wrong,exC_Wrong,hdC_Wrong⟩,noN_Wrong,t15,t16,t17,t18,t19,t20,t21,t22,t23,t24,t25,t26,t27,t28,t29,t30,t31,t32⟩
 refine⟨PySem.W.fnOf "law" "law" (defArgs s_law) (defBody s_law) (defScope s_law) .none kV5 dc5 pm5 an5 cd5 ct5,fun s v=>.of_eq rfl,fun base _ _=>?_⟩
 have C__law_bag:=ok__law_bag (P:=l.prog) (w:=w) (base:=base) (fun_mk (st:=s__law_bag) l0 c0 k0) (PySem.W.mg_of X G a0) T
 have C__law_errors:=ok__law_errors (P:=l.prog) (w:=w) (base:=base) (fun_mk (st:=s__law_errors) l1 c1 k1) (PySem.W.mg_of X G a1) T
 have C__law_flags:=ok__law_flags (P:=l.prog) (w:=w) (base:=base) (fun_mk (st:=s__law_flags) l2 c2 k2) (PySem.W.mg_of X G a2) T
 have C__law_take:=ok__law_take (P:=l.prog) (w:=w) (base:=base) (fun_mk (st:=s__law_take) l3 c3 k3) (PySem.W.mg_of X G a3) T
 have C__law_value:=ok__law_value (P:=l.prog) (w:=w) (base:=base) (fun_mk (st:=s__law_value) l4 c4 k4) (PySem.W.mg_of X G a4) T C__law_take
 exact ok_law (fun_mk (st:=s_law) l5 c5 k5) T C__law_bag C__law_errors C__law_flags C__law_value
end K10
open PySem PySem.W PyProof.Rows
set_option maxHeartbeats 0 in
theorem PySem.Challenge.cw_smallcount_k10_errors_apart_holds : PySem.Challenge.rw_smallcount_k10_errors_apart.Holds := by
 refine K10HD.hd ?_
 k_fill
 refine DL.walk_ofG (l:=PySem.Challenge.rw_smallcount_k10_errors_apart) (n:=63) (k:=3) (x:="_law_script") (cx:=fun _=>L2.CX0) (sp:=fun w=>DL.spF _ 1 K10.F_law) rfl (by decide) rfl ⟨rfl,by decide,by decide⟩ (fun w h Y=>PySem.W.kIn_of Y) ?F (fun _ _ a ns _ _ hS=>let ⟨_,h⟩:=K10.law_true ns;DL.law_sp hS h) (fun _ _ _ _ _ h=>h)
 case F =>
  intro w mg fa h KX G hmg
  refine' K10.all_mk KX G hmg ?a0 ?l0 ?c0 ?k0 ?a1 ?l1 ?c1 ?k1 ?a2 ?l2 ?c2 ?k2 ?a3 ?l3 ?c3 ?k3 ?a4 ?l4 ?c4 ?k4 ?a5 ?l5 ?c5 ?k5 ?z_ValueError ?z_abs ?z_dict ?z_enumerate ?z_int ?z_isinstance ?z_len ?z_list ?z_range ?q_BadCall ?ga_BadCall ?gg_BadCall ?exC_BadCall ?hdC_BadCall ?cc_BadCall ?mo_BadCall ?iC_BadCall ?tyC_BadCall ?q_BadDeed ?ga_BadDeed ?gg_BadDeed ?exC_BadDeed ?hdC_BadDeed ?cc_BadDeed ?mo_BadDeed ?iC_BadDeed ?tyC_BadDeed ?noN_BadDeed ?q_BadEdit ?ga_BadEdit ?gg_BadEdit ?exC_BadEdit ?hdC_BadEdit ?cc_BadEdit ?mo_BadEdit ?iC_BadEdit ?tyC_BadEdit ?q_BadProgram ?ga_BadProgram ?gg_BadProgram ?exC_BadProgram ?hdC_BadProgram ?cc_BadProgram ?mo_BadProgram ?iC_BadProgram ?tyC_BadProgram ?noN_BadProgram ?q_BadStep ?ga_BadStep ?gg_BadStep ?exC_BadStep ?hdC_BadStep ?cc_BadStep ?mo_BadStep ?iC_BadStep ?tyC_BadStep ?noN_BadStep ?q_CountError ?ga_CountError ?gg_CountError ?exC_CountError ?hdC_CountError ?cc_CountError ?mo_CountError ?iC_CountError ?tyC_CountError ?q_NoCommand ?ga_NoCommand ?gg_NoCommand ?exC_NoCommand ?hdC_NoCommand ?cc_NoCommand ?mo_NoCommand ?iC_NoCommand ?tyC_NoCommand ?q_NoDeed ?ga_NoDeed ?gg_NoDeed ?exC_NoDeed ?hdC_NoDeed ?cc_NoDeed ?mo_NoDeed ?iC_NoDeed ?tyC_NoDeed ?noN_NoDeed ?q_NoMark ?ga_NoMark ?gg_NoMark ?exC_NoMark ?hdC_NoMark ?cc_NoMark ?mo_NoMark ?iC_NoMark ?tyC_NoMark ?noN_NoMark ?q_NoText ?ga_NoText ?gg_NoText ?exC_NoText ?hdC_NoText ?cc_NoText ?mo_NoText ?iC_NoText ?tyC_NoText ?noN_NoText ?q_NotLoud ?ga_NotLoud ?gg_NotLoud ?exC_NotLoud ?hdC_NotLoud ?cc_NotLoud ?mo_NotLoud ?iC_NotLoud ?tyC_NotLoud ?noN_NotLoud ?q_Nothing ?ga_Nothing ?gg_Nothing ?exC_Nothing ?hdC_Nothing ?cc_Nothing ?mo_Nothing ?iC_Nothing ?tyC_Nothing ?q_TooFew ?ga_TooFew ?gg_TooFew ?exC_TooFew ?hdC_TooFew ?cc_TooFew ?mo_TooFew ?iC_TooFew ?tyC_TooFew ?noN_TooFew ?q_TooMany ?ga_TooMany ?gg_TooMany ?exC_TooMany ?hdC_TooMany ?cc_TooMany ?mo_TooMany ?iC_TooMany ?tyC_TooMany ?noN_TooMany ?q_Wrong ?ga_Wrong ?gg_Wrong ?exC_Wrong ?hdC_Wrong ?cc_Wrong ?mo_Wrong ?iC_Wrong ?tyC_Wrong ?noN_Wrong ?cls_sp ?cls_tk ?op_any ?z_super ?top_s ?xq_BadCall ?kC_BadCall ?xq_BadEdit ?kC_BadEdit ?xq_NoCommand ?kC_NoCommand ?xq_Nothing ?kC_Nothing ?lk_BadDeed ?sa_BadDeed ?in_BadDeed ?tf_BadDeed ?kC_BadDeed ?exV_BadDeed ?su_BadDeed ?mr_BadDeed ?lfn_BadDeed ?cod_BadDeed ?lcd_BadDeed ?lcc_BadDeed ?rv_BadDeed ?v2_BadDeed ?fl_BadDeed ?ev_BadDeed ?s1_BadDeed ?s2_BadDeed ?lk_BadProgram ?sa_BadProgram ?in_BadProgram ?tf_BadProgram ?kC_BadProgram ?exV_BadProgram ?su_BadProgram ?mr_BadProgram ?lfn_BadProgram ?cod_BadProgram ?lcd_BadProgram ?lcc_BadProgram ?rv_BadProgram ?v2_BadProgram ?fl_BadProgram ?ev_BadProgram ?s1_BadProgram ?s2_BadProgram ?lk_BadStep ?sa_BadStep ?in_BadStep ?tf_BadStep ?kC_BadStep ?exV_BadStep ?su_BadStep ?mr_BadStep ?lfn_BadStep ?cod_BadStep ?lcd_BadStep ?lcc_BadStep ?rv_BadStep ?v2_BadStep ?fl_BadStep ?ev_BadStep ?s1_BadStep ?s2_BadStep ?lk_NoDeed ?sa_NoDeed ?in_NoDeed ?tf_NoDeed ?kC_NoDeed ?exV_NoDeed ?su_NoDeed ?mr_NoDeed ?lfn_NoDeed ?cod_NoDeed ?lcd_NoDeed ?lcc_NoDeed ?rv_NoDeed ?v2_NoDeed ?fl_NoDeed ?ev_NoDeed ?s1_NoDeed ?s2_NoDeed ?lk_NoMark ?sa_NoMark ?in_NoMark ?tf_NoMark ?kC_NoMark ?exV_NoMark ?su_NoMark ?mr_NoMark ?lfn_NoMark ?cod_NoMark ?lcd_NoMark ?lcc_NoMark ?rv_NoMark ?v2_NoMark ?fl_NoMark ?ev_NoMark ?s1_NoMark ?s2_NoMark ?lk_NoText ?sa_NoText ?in_NoText ?tf_NoText ?kC_NoText ?exV_NoText ?su_NoText ?mr_NoText ?lfn_NoText ?cod_NoText ?lcd_NoText ?lcc_NoText ?rv_NoText ?v2_NoText ?fl_NoText ?ev_NoText ?s1_NoText ?s2_NoText ?lk_NotLoud ?sa_NotLoud ?in_NotLoud ?tf_NotLoud ?kC_NotLoud ?exV_NotLoud ?su_NotLoud ?mr_NotLoud ?lfn_NotLoud ?cod_NotLoud ?lcd_NotLoud ?lcc_NotLoud ?rv_NotLoud ?v2_NotLoud ?fl_NotLoud ?ev_NotLoud ?s1_NotLoud ?s2_NotLoud ?lk_TooFew ?sa_TooFew ?in_TooFew ?tf_TooFew ?kC_TooFew ?exV_TooFew ?su_TooFew ?mr_TooFew ?lfn_TooFew ?cod_TooFew ?lcd_TooFew ?lcc_TooFew ?rv_TooFew ?v2_TooFew ?fl_TooFew ?ev_TooFew ?s1_TooFew ?s2_TooFew ?lk_TooMany ?sa_TooMany ?in_TooMany ?tf_TooMany ?kC_TooMany ?exV_TooMany ?su_TooMany ?mr_TooMany ?lfn_TooMany ?cod_TooMany ?lcd_TooMany ?lcc_TooMany ?rv_TooMany ?v2_TooMany ?fl_TooMany ?ev_TooMany ?s1_TooMany ?s2_TooMany ?lk_Wrong ?sa_Wrong ?in_Wrong ?tf_Wrong ?kC_Wrong ?exV_Wrong ?su_Wrong ?mr_Wrong ?lfn_Wrong ?cod_Wrong ?lcd_Wrong ?lcc_Wrong ?rv_Wrong ?v2_Wrong ?fl_Wrong ?ev_Wrong ?s1_Wrong ?s2_Wrong ?no_Wrong_BadCall ?ne_Wrong_BadCall ?no_NoDeed_BadCall ?ne_NoDeed_BadCall ?no_BadDeed_BadCall ?ne_BadDeed_BadCall ?no_BadStep_BadCall ?ne_BadStep_BadCall ?no_BadProgram_BadCall ?ne_BadProgram_BadCall ?no_NoMark_BadCall ?ne_NoMark_BadCall ?no_TooFew_BadCall ?ne_TooFew_BadCall ?no_TooMany_BadCall ?ne_TooMany_BadCall ?no_NotLoud_BadCall ?ne_NotLoud_BadCall ?no_NoText_BadCall ?ne_NoText_BadCall ?no_Nothing_BadCall ?ne_Nothing_BadCall ?no_BadEdit_BadCall ?ne_BadEdit_BadCall ?no_NoCommand_BadCall ?ne_NoCommand_BadCall ?no_Wrong_BadDeed ?ne_Wrong_BadDeed ?no_NoDeed_BadDeed ?ne_NoDeed_BadDeed ?no_BadStep_BadDeed ?ne_BadStep_BadDeed ?no_BadProgram_BadDeed ?ne_BadProgram_BadDeed ?no_NoMark_BadDeed ?ne_NoMark_BadDeed ?no_TooFew_BadDeed ?ne_TooFew_BadDeed ?no_TooMany_BadDeed ?ne_TooMany_BadDeed ?no_NotLoud_BadDeed ?ne_NotLoud_BadDeed ?no_NoText_BadDeed ?ne_NoText_BadDeed ?no_BadCall_BadDeed ?ne_BadCall_BadDeed ?no_Nothing_BadDeed ?ne_Nothing_BadDeed ?no_BadEdit_BadDeed ?ne_BadEdit_BadDeed ?no_NoCommand_BadDeed ?ne_NoCommand_BadDeed ?no_Wrong_BadEdit ?ne_Wrong_BadEdit ?no_NoDeed_BadEdit ?ne_NoDeed_BadEdit ?no_BadDeed_BadEdit ?ne_BadDeed_BadEdit ?no_BadStep_BadEdit ?ne_BadStep_BadEdit ?no_BadProgram_BadEdit ?ne_BadProgram_BadEdit ?no_NoMark_BadEdit ?ne_NoMark_BadEdit ?no_TooFew_BadEdit ?ne_TooFew_BadEdit ?no_TooMany_BadEdit ?ne_TooMany_BadEdit ?no_NotLoud_BadEdit ?ne_NotLoud_BadEdit ?no_NoText_BadEdit ?ne_NoText_BadEdit ?no_BadCall_BadEdit ?ne_BadCall_BadEdit ?no_Nothing_BadEdit ?ne_Nothing_BadEdit ?no_NoCommand_BadEdit ?ne_NoCommand_BadEdit ?no_Wrong_BadProgram ?ne_Wrong_BadProgram ?no_NoDeed_BadProgram ?ne_NoDeed_BadProgram ?no_BadDeed_BadProgram ?ne_BadDeed_BadProgram ?no_BadStep_BadProgram ?ne_BadStep_BadProgram ?no_NoMark_BadProgram ?ne_NoMark_BadProgram ?no_TooFew_BadProgram ?ne_TooFew_BadProgram ?no_TooMany_BadProgram ?ne_TooMany_BadProgram ?no_NotLoud_BadProgram ?ne_NotLoud_BadProgram ?no_NoText_BadProgram ?ne_NoText_BadProgram ?no_BadCall_BadProgram ?ne_BadCall_BadProgram ?no_Nothing_BadProgram ?ne_Nothing_BadProgram ?no_BadEdit_BadProgram ?ne_BadEdit_BadProgram ?no_NoCommand_BadProgram ?ne_NoCommand_BadProgram ?no_Wrong_BadStep ?ne_Wrong_BadStep ?no_NoDeed_BadStep ?ne_NoDeed_BadStep ?no_BadDeed_BadStep ?ne_BadDeed_BadStep ?no_BadProgram_BadStep ?ne_BadProgram_BadStep ?no_NoMark_BadStep ?ne_NoMark_BadStep ?no_TooFew_BadStep ?ne_TooFew_BadStep ?no_TooMany_BadStep ?ne_TooMany_BadStep ?no_NotLoud_BadStep ?ne_NotLoud_BadStep ?no_NoText_BadStep ?ne_NoText_BadStep ?no_BadCall_BadStep ?ne_BadCall_BadStep ?no_Nothing_BadStep ?ne_Nothing_BadStep ?no_BadEdit_BadStep ?ne_BadEdit_BadStep ?no_NoCommand_BadStep ?ne_NoCommand_BadStep ?no_Wrong_CountError ?ne_Wrong_CountError ?no_NoDeed_CountError ?ne_NoDeed_CountError ?no_BadDeed_CountError ?ne_BadDeed_CountError ?no_BadStep_CountError ?ne_BadStep_CountError ?no_BadProgram_CountError ?ne_BadProgram_CountError ?no_NoMark_CountError ?ne_NoMark_CountError ?no_TooFew_CountError ?ne_TooFew_CountError ?no_TooMany_CountError ?ne_TooMany_CountError ?no_NotLoud_CountError ?ne_NotLoud_CountError ?no_NoText_CountError ?ne_NoText_CountError ?no_BadCall_CountError ?ne_BadCall_CountError ?no_Nothing_CountError ?ne_Nothing_CountError ?no_BadEdit_CountError ?ne_BadEdit_CountError ?no_NoCommand_CountError ?ne_NoCommand_CountError ?no_Wrong_NoCommand ?ne_Wrong_NoCommand ?no_NoDeed_NoCommand ?ne_NoDeed_NoCommand ?no_BadDeed_NoCommand ?ne_BadDeed_NoCommand ?no_BadStep_NoCommand ?ne_BadStep_NoCommand ?no_BadProgram_NoCommand ?ne_BadProgram_NoCommand ?no_NoMark_NoCommand ?ne_NoMark_NoCommand ?no_TooFew_NoCommand ?ne_TooFew_NoCommand ?no_TooMany_NoCommand ?ne_TooMany_NoCommand ?no_NotLoud_NoCommand ?ne_NotLoud_NoCommand ?no_NoText_NoCommand ?ne_NoText_NoCommand ?no_BadCall_NoCommand ?ne_BadCall_NoCommand ?no_Nothing_NoCommand ?ne_Nothing_NoCommand ?no_BadEdit_NoCommand ?ne_BadEdit_NoCommand ?no_Wrong_NoDeed ?ne_Wrong_NoDeed ?no_BadDeed_NoDeed ?ne_BadDeed_NoDeed ?no_BadStep_NoDeed ?ne_BadStep_NoDeed ?no_BadProgram_NoDeed ?ne_BadProgram_NoDeed ?no_NoMark_NoDeed ?ne_NoMark_NoDeed ?no_TooFew_NoDeed ?ne_TooFew_NoDeed ?no_TooMany_NoDeed ?ne_TooMany_NoDeed ?no_NotLoud_NoDeed ?ne_NotLoud_NoDeed ?no_NoText_NoDeed ?ne_NoText_NoDeed ?no_BadCall_NoDeed ?ne_BadCall_NoDeed ?no_Nothing_NoDeed ?ne_Nothing_NoDeed ?no_BadEdit_NoDeed ?ne_BadEdit_NoDeed ?no_NoCommand_NoDeed ?ne_NoCommand_NoDeed ?no_Wrong_NoMark ?ne_Wrong_NoMark ?no_NoDeed_NoMark ?ne_NoDeed_NoMark ?no_BadDeed_NoMark ?ne_BadDeed_NoMark ?no_BadStep_NoMark ?ne_BadStep_NoMark ?no_BadProgram_NoMark ?ne_BadProgram_NoMark ?no_TooFew_NoMark ?ne_TooFew_NoMark ?no_TooMany_NoMark ?ne_TooMany_NoMark ?no_NotLoud_NoMark ?ne_NotLoud_NoMark ?no_NoText_NoMark ?ne_NoText_NoMark ?no_BadCall_NoMark ?ne_BadCall_NoMark ?no_Nothing_NoMark ?ne_Nothing_NoMark ?no_BadEdit_NoMark ?ne_BadEdit_NoMark ?no_NoCommand_NoMark ?ne_NoCommand_NoMark ?no_Wrong_NoText ?ne_Wrong_NoText ?no_NoDeed_NoText ?ne_NoDeed_NoText ?no_BadDeed_NoText ?ne_BadDeed_NoText ?no_BadStep_NoText ?ne_BadStep_NoText ?no_BadProgram_NoText ?ne_BadProgram_NoText ?no_NoMark_NoText ?ne_NoMark_NoText ?no_TooFew_NoText ?ne_TooFew_NoText ?no_TooMany_NoText ?ne_TooMany_NoText ?no_NotLoud_NoText ?ne_NotLoud_NoText ?no_BadCall_NoText ?ne_BadCall_NoText ?no_Nothing_NoText ?ne_Nothing_NoText ?no_BadEdit_NoText ?ne_BadEdit_NoText ?no_NoCommand_NoText ?ne_NoCommand_NoText ?no_Wrong_NotLoud ?ne_Wrong_NotLoud ?no_NoDeed_NotLoud ?ne_NoDeed_NotLoud ?no_BadDeed_NotLoud ?ne_BadDeed_NotLoud ?no_BadStep_NotLoud ?ne_BadStep_NotLoud ?no_BadProgram_NotLoud ?ne_BadProgram_NotLoud ?no_NoMark_NotLoud ?ne_NoMark_NotLoud ?no_TooFew_NotLoud ?ne_TooFew_NotLoud ?no_TooMany_NotLoud ?ne_TooMany_NotLoud ?no_NoText_NotLoud ?ne_NoText_NotLoud ?no_BadCall_NotLoud ?ne_BadCall_NotLoud ?no_Nothing_NotLoud ?ne_Nothing_NotLoud ?no_BadEdit_NotLoud ?ne_BadEdit_NotLoud ?no_NoCommand_NotLoud ?ne_NoCommand_NotLoud ?no_Wrong_Nothing ?ne_Wrong_Nothing ?no_NoDeed_Nothing ?ne_NoDeed_Nothing ?no_BadDeed_Nothing ?ne_BadDeed_Nothing ?no_BadStep_Nothing ?ne_BadStep_Nothing ?no_BadProgram_Nothing ?ne_BadProgram_Nothing ?no_NoMark_Nothing ?ne_NoMark_Nothing ?no_TooFew_Nothing ?ne_TooFew_Nothing ?no_TooMany_Nothing ?ne_TooMany_Nothing ?no_NotLoud_Nothing ?ne_NotLoud_Nothing ?no_NoText_Nothing ?ne_NoText_Nothing ?no_BadCall_Nothing ?ne_BadCall_Nothing ?no_BadEdit_Nothing ?ne_BadEdit_Nothing ?no_NoCommand_Nothing ?ne_NoCommand_Nothing ?no_Wrong_TooFew ?ne_Wrong_TooFew ?no_NoDeed_TooFew ?ne_NoDeed_TooFew ?no_BadDeed_TooFew ?ne_BadDeed_TooFew ?no_BadStep_TooFew ?ne_BadStep_TooFew ?no_BadProgram_TooFew ?ne_BadProgram_TooFew ?no_NoMark_TooFew ?ne_NoMark_TooFew ?no_TooMany_TooFew ?ne_TooMany_TooFew ?no_NotLoud_TooFew ?ne_NotLoud_TooFew ?no_NoText_TooFew ?ne_NoText_TooFew ?no_BadCall_TooFew ?ne_BadCall_TooFew ?no_Nothing_TooFew ?ne_Nothing_TooFew ?no_BadEdit_TooFew ?ne_BadEdit_TooFew ?no_NoCommand_TooFew ?ne_NoCommand_TooFew ?no_Wrong_TooMany ?ne_Wrong_TooMany ?no_NoDeed_TooMany ?ne_NoDeed_TooMany ?no_BadDeed_TooMany ?ne_BadDeed_TooMany ?no_BadStep_TooMany ?ne_BadStep_TooMany ?no_BadProgram_TooMany ?ne_BadProgram_TooMany ?no_NoMark_TooMany ?ne_NoMark_TooMany ?no_TooFew_TooMany ?ne_TooFew_TooMany ?no_NotLoud_TooMany ?ne_NotLoud_TooMany ?no_NoText_TooMany ?ne_NoText_TooMany ?no_BadCall_TooMany ?ne_BadCall_TooMany ?no_Nothing_TooMany ?ne_Nothing_TooMany ?no_BadEdit_TooMany ?ne_BadEdit_TooMany ?no_NoCommand_TooMany ?ne_NoCommand_TooMany ?no_NoDeed_Wrong ?ne_NoDeed_Wrong ?no_BadDeed_Wrong ?ne_BadDeed_Wrong ?no_BadStep_Wrong ?ne_BadStep_Wrong ?no_BadProgram_Wrong ?ne_BadProgram_Wrong ?no_NoMark_Wrong ?ne_NoMark_Wrong ?no_TooFew_Wrong ?ne_TooFew_Wrong ?no_TooMany_Wrong ?ne_TooMany_Wrong ?no_NotLoud_Wrong ?ne_NotLoud_Wrong ?no_NoText_Wrong ?ne_NoText_Wrong ?no_BadCall_Wrong ?ne_BadCall_Wrong ?no_Nothing_Wrong ?ne_Nothing_Wrong ?no_BadEdit_Wrong ?ne_BadEdit_Wrong ?no_NoCommand_Wrong ?ne_NoCommand_Wrong ?yT_Wrong_ValueError ?yT_NoDeed_ValueError ?yT_BadDeed_ValueError ?yT_BadStep_ValueError ?yT_BadProgram_ValueError ?yT_NoMark_ValueError ?yT_TooFew_ValueError ?yT_TooMany_ValueError ?yT_NotLoud_ValueError ?yT_NoText_ValueError ?yT_BadCall_ValueError ?yT_Nothing_ValueError ?yT_BadEdit_ValueError ?yT_NoCommand_ValueError
  (case a0=>k_is)
  (case l0=>k_is)
  (case c0=>k_is)
  (case k0=>k_is)
  (case a1=>k_is)
  (case l1=>k_is)
  (case c1=>k_is)
  (case k1=>k_is)
  (case a2=>k_is)
  (case l2=>k_is)
  (case c2=>k_is)
  (case k2=>k_is)
  (case a3=>k_is)
  (case l3=>k_is)
  (case c3=>k_is)
  (case k3=>k_is)
  (case a4=>k_is)
  (case l4=>k_is)
  (case c4=>k_is)
  (case k4=>k_is)
  (case a5=>k_is)
  (case l5=>k_is)
  (case c5=>k_is)
  (case k5=>k_is)
  (case z_ValueError=>k_is)
  (case z_abs=>k_is)
  (case z_dict=>k_is)
  (case z_enumerate=>k_is)
  (case z_int=>k_is)
  (case z_isinstance=>k_is)
  (case z_len=>k_is)
  (case z_list=>k_is)
  (case z_range=>k_is)
  (case q_BadCall=>k_is)
  (case ga_BadCall=>k_is)
  (case gg_BadCall=>k_is)
  (case exC_BadCall=>k_is)
  (case hdC_BadCall=>k_is)
  (case cc_BadCall=>k_is)
  (case mo_BadCall=>k_is)
  (case iC_BadCall=>k_is)
  (case tyC_BadCall=>k_is)
  (case q_BadDeed=>k_is)
  (case ga_BadDeed=>k_is)
  (case gg_BadDeed=>k_is)
  (case exC_BadDeed=>k_is)
  (case hdC_BadDeed=>k_is)
  (case cc_BadDeed=>k_is)
  (case mo_BadDeed=>k_is)
  (case iC_BadDeed=>k_is)
  (case tyC_BadDeed=>k_is)
  (case noN_BadDeed=>k_is)
  (case q_BadEdit=>k_is)
  (case ga_BadEdit=>k_is)
  (case gg_BadEdit=>k_is)
  (case exC_BadEdit=>k_is)
  (case hdC_BadEdit=>k_is)
  (case cc_BadEdit=>k_is)
  (case mo_BadEdit=>k_is)
  (case iC_BadEdit=>k_is)
  (case tyC_BadEdit=>k_is)
  (case q_BadProgram=>k_is)
  (case ga_BadProgram=>k_is)
  (case gg_BadProgram=>k_is)
  (case exC_BadProgram=>k_is)
  (case hdC_BadProgram=>k_is)
  (case cc_BadProgram=>k_is)
  (case mo_BadProgram=>k_is)
  (case iC_BadProgram=>k_is)
  (case tyC_BadProgram=>k_is)
  (case noN_BadProgram=>k_is)
  (case q_BadStep=>k_is)
  (case ga_BadStep=>k_is)
  (case gg_BadStep=>k_is)
  (case exC_BadStep=>k_is)
  (case hdC_BadStep=>k_is)
  (case cc_BadStep=>k_is)
  (case mo_BadStep=>k_is)
  (case iC_BadStep=>k_is)
  (case tyC_BadStep=>k_is)
  (case noN_BadStep=>k_is)
  (case q_CountError=>k_is)
  (case ga_CountError=>k_is)
  (case gg_CountError=>k_is)
  (case exC_CountError=>k_is)
  (case hdC_CountError=>k_is)
  (case cc_CountError=>k_is)
  (case mo_CountError=>k_is)
  (case iC_CountError=>k_is)
  (case tyC_CountError=>k_is)
  (case q_NoCommand=>k_is)
  (case ga_NoCommand=>k_is)
  (case gg_NoCommand=>k_is)
  (case exC_NoCommand=>k_is)
  (case hdC_NoCommand=>k_is)
  (case cc_NoCommand=>k_is)
  (case mo_NoCommand=>k_is)
  (case iC_NoCommand=>k_is)
  (case tyC_NoCommand=>k_is)
  (case q_NoDeed=>k_is)
  (case ga_NoDeed=>k_is)
  (case gg_NoDeed=>k_is)
  (case exC_NoDeed=>k_is)
  (case hdC_NoDeed=>k_is)
  (case cc_NoDeed=>k_is)
  (case mo_NoDeed=>k_is)
  (case iC_NoDeed=>k_is)
  (case tyC_NoDeed=>k_is)
  (case noN_NoDeed=>k_is)
  (case q_NoMark=>k_is)
  (case ga_NoMark=>k_is)
  (case gg_NoMark=>k_is)
  (case exC_NoMark=>k_is)
  (case hdC_NoMark=>k_is)
  (case cc_NoMark=>k_is)
  (case mo_NoMark=>k_is)
  (case iC_NoMark=>k_is)
  (case tyC_NoMark=>k_is)
  (case noN_NoMark=>k_is)
  (case q_NoText=>k_is)
  (case ga_NoText=>k_is)
  (case gg_NoText=>k_is)
  (case exC_NoText=>k_is)
  (case hdC_NoText=>k_is)
  (case cc_NoText=>k_is)
  (case mo_NoText=>k_is)
  (case iC_NoText=>k_is)
  (case tyC_NoText=>k_is)
  (case noN_NoText=>k_is)
  (case q_NotLoud=>k_is)
  (case ga_NotLoud=>k_is)
  (case gg_NotLoud=>k_is)
  (case exC_NotLoud=>k_is)
  (case hdC_NotLoud=>k_is)
  (case cc_NotLoud=>k_is)
  (case mo_NotLoud=>k_is)
  (case iC_NotLoud=>k_is)
  (case tyC_NotLoud=>k_is)
  (case noN_NotLoud=>k_is)
  (case q_Nothing=>k_is)
  (case ga_Nothing=>k_is)
  (case gg_Nothing=>k_is)
  (case exC_Nothing=>k_is)
  (case hdC_Nothing=>k_is)
  (case cc_Nothing=>k_is)
  (case mo_Nothing=>k_is)
  (case iC_Nothing=>k_is)
  (case tyC_Nothing=>k_is)
  (case q_TooFew=>k_is)
  (case ga_TooFew=>k_is)
  (case gg_TooFew=>k_is)
  (case exC_TooFew=>k_is)
  (case hdC_TooFew=>k_is)
  (case cc_TooFew=>k_is)
  (case mo_TooFew=>k_is)
  (case iC_TooFew=>k_is)
  (case tyC_TooFew=>k_is)
  (case noN_TooFew=>k_is)
  (case q_TooMany=>k_is)
  (case ga_TooMany=>k_is)
  (case gg_TooMany=>k_is)
  (case exC_TooMany=>k_is)
  (case hdC_TooMany=>k_is)
  (case cc_TooMany=>k_is)
  (case mo_TooMany=>k_is)
  (case iC_TooMany=>k_is)
  (case tyC_TooMany=>k_is)
  (case noN_TooMany=>k_is)
  (case q_Wrong=>k_is)
  (case ga_Wrong=>k_is)
  (case gg_Wrong=>k_is)
  (case exC_Wrong=>k_is)
  (case hdC_Wrong=>k_is)
  (case cc_Wrong=>k_is)
  (case mo_Wrong=>k_is)
  (case iC_Wrong=>k_is)
  (case tyC_Wrong=>k_is)
  (case noN_Wrong=>k_is)
  (case cls_sp=>k_is)
  (case cls_tk=>k_is)
  (case op_any=>k_is)
  (case z_super=>k_is)
  (case kC_BadCall=>k_is)
  (case kC_BadEdit=>k_is)
  (case kC_NoCommand=>k_is)
  (case kC_Nothing=>k_is)
  (case lk_BadDeed=>k_is)
  (case sa_BadDeed=>k_is)
  (case in_BadDeed=>k_is)
  (case tf_BadDeed=>k_is)
  (case kC_BadDeed=>k_is)
  (case exV_BadDeed=>k_is)
  (case su_BadDeed=>ks_is)
  (case mr_BadDeed=>k_is)
  (case lfn_BadDeed=>k_is)
  (case cod_BadDeed=>k_is)
  (case lcd_BadDeed=>k_is)
  (case lcc_BadDeed=>k_is)
  (case lk_BadProgram=>k_is)
  (case sa_BadProgram=>k_is)
  (case in_BadProgram=>k_is)
  (case tf_BadProgram=>k_is)
  (case kC_BadProgram=>k_is)
  (case exV_BadProgram=>k_is)
  (case su_BadProgram=>ks_is)
  (case mr_BadProgram=>k_is)
  (case lfn_BadProgram=>k_is)
  (case cod_BadProgram=>k_is)
  (case lcd_BadProgram=>k_is)
  (case lcc_BadProgram=>k_is)
  (case lk_BadStep=>k_is)
  (case sa_BadStep=>k_is)
  (case in_BadStep=>k_is)
  (case tf_BadStep=>k_is)
  (case kC_BadStep=>k_is)
  (case exV_BadStep=>k_is)
  (case su_BadStep=>ks_is)
  (case mr_BadStep=>k_is)
  (case lfn_BadStep=>k_is)
  (case cod_BadStep=>k_is)
  (case lcd_BadStep=>k_is)
  (case lcc_BadStep=>k_is)
  (case lk_NoDeed=>k_is)
  (case sa_NoDeed=>k_is)
  (case in_NoDeed=>k_is)
  (case tf_NoDeed=>k_is)
  (case kC_NoDeed=>k_is)
  (case exV_NoDeed=>k_is)
  (case su_NoDeed=>ks_is)
  (case mr_NoDeed=>k_is)
  (case lfn_NoDeed=>k_is)
  (case cod_NoDeed=>k_is)
  (case lcd_NoDeed=>k_is)
  (case lcc_NoDeed=>k_is)
  (case lk_NoMark=>k_is)
  (case sa_NoMark=>k_is)
  (case in_NoMark=>k_is)
  (case tf_NoMark=>k_is)
  (case kC_NoMark=>k_is)
  (case exV_NoMark=>k_is)
  (case su_NoMark=>ks_is)
  (case mr_NoMark=>k_is)
  (case lfn_NoMark=>k_is)
  (case cod_NoMark=>k_is)
  (case lcd_NoMark=>k_is)
  (case lcc_NoMark=>k_is)
  (case lk_NoText=>k_is)
  (case sa_NoText=>k_is)
  (case in_NoText=>k_is)
  (case tf_NoText=>k_is)
  (case kC_NoText=>k_is)
  (case exV_NoText=>k_is)
  (case su_NoText=>ks_is)
  (case mr_NoText=>k_is)
  (case lfn_NoText=>k_is)
  (case cod_NoText=>k_is)
  (case lcd_NoText=>k_is)
  (case lcc_NoText=>k_is)
  (case lk_NotLoud=>k_is)
  (case sa_NotLoud=>k_is)
  (case in_NotLoud=>k_is)
  (case tf_NotLoud=>k_is)
  (case kC_NotLoud=>k_is)
  (case exV_NotLoud=>k_is)
  (case su_NotLoud=>ks_is)
  (case mr_NotLoud=>k_is)
  (case lfn_NotLoud=>k_is)
  (case cod_NotLoud=>k_is)
  (case lcd_NotLoud=>k_is)
  (case lcc_NotLoud=>k_is)
  (case lk_TooFew=>k_is)
  (case sa_TooFew=>k_is)
  (case in_TooFew=>k_is)
  (case tf_TooFew=>k_is)
  (case kC_TooFew=>k_is)
  (case exV_TooFew=>k_is)
  (case su_TooFew=>ks_is)
  (case mr_TooFew=>k_is)
  (case lfn_TooFew=>k_is)
  (case cod_TooFew=>k_is)
  (case lcd_TooFew=>k_is)
  (case lcc_TooFew=>k_is)
  (case lk_TooMany=>k_is)
  (case sa_TooMany=>k_is)
  (case in_TooMany=>k_is)
  (case tf_TooMany=>k_is)
  (case kC_TooMany=>k_is)
  (case exV_TooMany=>k_is)
  (case su_TooMany=>ks_is)
  (case mr_TooMany=>k_is)
  (case lfn_TooMany=>k_is)
  (case cod_TooMany=>k_is)
  (case lcd_TooMany=>k_is)
  (case lcc_TooMany=>k_is)
  (case lk_Wrong=>k_is)
  (case sa_Wrong=>k_is)
  (case in_Wrong=>k_is)
  (case tf_Wrong=>k_is)
  (case kC_Wrong=>k_is)
  (case exV_Wrong=>k_is)
  (case su_Wrong=>ks_is)
  (case mr_Wrong=>k_is)
  (case lfn_Wrong=>k_is)
  (case cod_Wrong=>k_is)
  (case lcd_Wrong=>k_is)
  (case lcc_Wrong=>k_is)
  (case no_Wrong_BadCall=>k_is)
  (case no_NoDeed_BadCall=>k_is)
  (case no_BadDeed_BadCall=>k_is)
  (case no_BadStep_BadCall=>k_is)
  (case no_BadProgram_BadCall=>k_is)
  (case no_NoMark_BadCall=>k_is)
  (case no_TooFew_BadCall=>k_is)
  (case no_TooMany_BadCall=>k_is)
  (case no_NotLoud_BadCall=>k_is)
  (case no_NoText_BadCall=>k_is)
  (case no_Nothing_BadCall=>k_is)
  (case no_BadEdit_BadCall=>k_is)
  (case no_NoCommand_BadCall=>k_is)
  (case no_Wrong_BadDeed=>k_is)
  (case no_NoDeed_BadDeed=>k_is)
  (case no_BadStep_BadDeed=>k_is)
  (case no_BadProgram_BadDeed=>k_is)
  (case no_NoMark_BadDeed=>k_is)
  (case no_TooFew_BadDeed=>k_is)
  (case no_TooMany_BadDeed=>k_is)
  (case no_NotLoud_BadDeed=>k_is)
  (case no_NoText_BadDeed=>k_is)
  (case no_BadCall_BadDeed=>k_is)
  (case no_Nothing_BadDeed=>k_is)
  (case no_BadEdit_BadDeed=>k_is)
  (case no_NoCommand_BadDeed=>k_is)
  (case no_Wrong_BadEdit=>k_is)
  (case no_NoDeed_BadEdit=>k_is)
  (case no_BadDeed_BadEdit=>k_is)
  (case no_BadStep_BadEdit=>k_is)
  (case no_BadProgram_BadEdit=>k_is)
  (case no_NoMark_BadEdit=>k_is)
  (case no_TooFew_BadEdit=>k_is)
  (case no_TooMany_BadEdit=>k_is)
  (case no_NotLoud_BadEdit=>k_is)
  (case no_NoText_BadEdit=>k_is)
  (case no_BadCall_BadEdit=>k_is)
  (case no_Nothing_BadEdit=>k_is)
  (case no_NoCommand_BadEdit=>k_is)
  (case no_Wrong_BadProgram=>k_is)
  (case no_NoDeed_BadProgram=>k_is)
  (case no_BadDeed_BadProgram=>k_is)
  (case no_BadStep_BadProgram=>k_is)
  (case no_NoMark_BadProgram=>k_is)
  (case no_TooFew_BadProgram=>k_is)
  (case no_TooMany_BadProgram=>k_is)
  (case no_NotLoud_BadProgram=>k_is)
  (case no_NoText_BadProgram=>k_is)
  (case no_BadCall_BadProgram=>k_is)
  (case no_Nothing_BadProgram=>k_is)
  (case no_BadEdit_BadProgram=>k_is)
  (case no_NoCommand_BadProgram=>k_is)
  (case no_Wrong_BadStep=>k_is)
  (case no_NoDeed_BadStep=>k_is)
  (case no_BadDeed_BadStep=>k_is)
  (case no_BadProgram_BadStep=>k_is)
  (case no_NoMark_BadStep=>k_is)
  (case no_TooFew_BadStep=>k_is)
  (case no_TooMany_BadStep=>k_is)
  (case no_NotLoud_BadStep=>k_is)
  (case no_NoText_BadStep=>k_is)
  (case no_BadCall_BadStep=>k_is)
  (case no_Nothing_BadStep=>k_is)
  (case no_BadEdit_BadStep=>k_is)
  (case no_NoCommand_BadStep=>k_is)
  (case no_Wrong_CountError=>k_is)
  (case no_NoDeed_CountError=>k_is)
  (case no_BadDeed_CountError=>k_is)
  (case no_BadStep_CountError=>k_is)
  (case no_BadProgram_CountError=>k_is)
  (case no_NoMark_CountError=>k_is)
  (case no_TooFew_CountError=>k_is)
  (case no_TooMany_CountError=>k_is)
  (case no_NotLoud_CountError=>k_is)
  (case no_NoText_CountError=>k_is)
  (case no_BadCall_CountError=>k_is)
  (case no_Nothing_CountError=>k_is)
  (case no_BadEdit_CountError=>k_is)
  (case no_NoCommand_CountError=>k_is)
  (case no_Wrong_NoCommand=>k_is)
  (case no_NoDeed_NoCommand=>k_is)
  (case no_BadDeed_NoCommand=>k_is)
  (case no_BadStep_NoCommand=>k_is)
  (case no_BadProgram_NoCommand=>k_is)
  (case no_NoMark_NoCommand=>k_is)
  (case no_TooFew_NoCommand=>k_is)
  (case no_TooMany_NoCommand=>k_is)
  (case no_NotLoud_NoCommand=>k_is)
  (case no_NoText_NoCommand=>k_is)
  (case no_BadCall_NoCommand=>k_is)
  (case no_Nothing_NoCommand=>k_is)
  (case no_BadEdit_NoCommand=>k_is)
  (case no_Wrong_NoDeed=>k_is)
  (case no_BadDeed_NoDeed=>k_is)
  (case no_BadStep_NoDeed=>k_is)
  (case no_BadProgram_NoDeed=>k_is)
  (case no_NoMark_NoDeed=>k_is)
  (case no_TooFew_NoDeed=>k_is)
  (case no_TooMany_NoDeed=>k_is)
  (case no_NotLoud_NoDeed=>k_is)
  (case no_NoText_NoDeed=>k_is)
  (case no_BadCall_NoDeed=>k_is)
  (case no_Nothing_NoDeed=>k_is)
  (case no_BadEdit_NoDeed=>k_is)
  (case no_NoCommand_NoDeed=>k_is)
  (case no_Wrong_NoMark=>k_is)
  (case no_NoDeed_NoMark=>k_is)
  (case no_BadDeed_NoMark=>k_is)
  (case no_BadStep_NoMark=>k_is)
  (case no_BadProgram_NoMark=>k_is)
  (case no_TooFew_NoMark=>k_is)
  (case no_TooMany_NoMark=>k_is)
  (case no_NotLoud_NoMark=>k_is)
  (case no_NoText_NoMark=>k_is)
  (case no_BadCall_NoMark=>k_is)
  (case no_Nothing_NoMark=>k_is)
  (case no_BadEdit_NoMark=>k_is)
  (case no_NoCommand_NoMark=>k_is)
  (case no_Wrong_NoText=>k_is)
  (case no_NoDeed_NoText=>k_is)
  (case no_BadDeed_NoText=>k_is)
  (case no_BadStep_NoText=>k_is)
  (case no_BadProgram_NoText=>k_is)
  (case no_NoMark_NoText=>k_is)
  (case no_TooFew_NoText=>k_is)
  (case no_TooMany_NoText=>k_is)
  (case no_NotLoud_NoText=>k_is)
  (case no_BadCall_NoText=>k_is)
  (case no_Nothing_NoText=>k_is)
  (case no_BadEdit_NoText=>k_is)
  (case no_NoCommand_NoText=>k_is)
  (case no_Wrong_NotLoud=>k_is)
  (case no_NoDeed_NotLoud=>k_is)
  (case no_BadDeed_NotLoud=>k_is)
  (case no_BadStep_NotLoud=>k_is)
  (case no_BadProgram_NotLoud=>k_is)
  (case no_NoMark_NotLoud=>k_is)
  (case no_TooFew_NotLoud=>k_is)
  (case no_TooMany_NotLoud=>k_is)
  (case no_NoText_NotLoud=>k_is)
  (case no_BadCall_NotLoud=>k_is)
  (case no_Nothing_NotLoud=>k_is)
  (case no_BadEdit_NotLoud=>k_is)
  (case no_NoCommand_NotLoud=>k_is)
  (case no_Wrong_Nothing=>k_is)
  (case no_NoDeed_Nothing=>k_is)
  (case no_BadDeed_Nothing=>k_is)
  (case no_BadStep_Nothing=>k_is)
  (case no_BadProgram_Nothing=>k_is)
  (case no_NoMark_Nothing=>k_is)
  (case no_TooFew_Nothing=>k_is)
  (case no_TooMany_Nothing=>k_is)
  (case no_NotLoud_Nothing=>k_is)
  (case no_NoText_Nothing=>k_is)
  (case no_BadCall_Nothing=>k_is)
  (case no_BadEdit_Nothing=>k_is)
  (case no_NoCommand_Nothing=>k_is)
  (case no_Wrong_TooFew=>k_is)
  (case no_NoDeed_TooFew=>k_is)
  (case no_BadDeed_TooFew=>k_is)
  (case no_BadStep_TooFew=>k_is)
  (case no_BadProgram_TooFew=>k_is)
  (case no_NoMark_TooFew=>k_is)
  (case no_TooMany_TooFew=>k_is)
  (case no_NotLoud_TooFew=>k_is)
  (case no_NoText_TooFew=>k_is)
  (case no_BadCall_TooFew=>k_is)
  (case no_Nothing_TooFew=>k_is)
  (case no_BadEdit_TooFew=>k_is)
  (case no_NoCommand_TooFew=>k_is)
  (case no_Wrong_TooMany=>k_is)
  (case no_NoDeed_TooMany=>k_is)
  (case no_BadDeed_TooMany=>k_is)
  (case no_BadStep_TooMany=>k_is)
  (case no_BadProgram_TooMany=>k_is)
  (case no_NoMark_TooMany=>k_is)
  (case no_TooFew_TooMany=>k_is)
  (case no_NotLoud_TooMany=>k_is)
  (case no_NoText_TooMany=>k_is)
  (case no_BadCall_TooMany=>k_is)
  (case no_Nothing_TooMany=>k_is)
  (case no_BadEdit_TooMany=>k_is)
  (case no_NoCommand_TooMany=>k_is)
  (case no_NoDeed_Wrong=>k_is)
  (case no_BadDeed_Wrong=>k_is)
  (case no_BadStep_Wrong=>k_is)
  (case no_BadProgram_Wrong=>k_is)
  (case no_NoMark_Wrong=>k_is)
  (case no_TooFew_Wrong=>k_is)
  (case no_TooMany_Wrong=>k_is)
  (case no_NotLoud_Wrong=>k_is)
  (case no_NoText_Wrong=>k_is)
  (case no_BadCall_Wrong=>k_is)
  (case no_Nothing_Wrong=>k_is)
  (case no_BadEdit_Wrong=>k_is)
  (case no_NoCommand_Wrong=>k_is)
  (case yT_Wrong_ValueError=>k_is)
  (case yT_NoDeed_ValueError=>k_is)
  (case yT_BadDeed_ValueError=>k_is)
  (case yT_BadStep_ValueError=>k_is)
  (case yT_BadProgram_ValueError=>k_is)
  (case yT_NoMark_ValueError=>k_is)
  (case yT_TooFew_ValueError=>k_is)
  (case yT_TooMany_ValueError=>k_is)
  (case yT_NotLoud_ValueError=>k_is)
  (case yT_NoText_ValueError=>k_is)
  (case yT_BadCall_ValueError=>k_is)
  (case yT_Nothing_ValueError=>k_is)
  (case yT_BadEdit_ValueError=>k_is)
  (case yT_NoCommand_ValueError=>k_is)
  (case top_s=>rfl)
  (case xq_BadCall=>k_exc)
  (case xq_BadEdit=>k_exc)
  (case xq_NoCommand=>k_exc)
  (case xq_Nothing=>k_exc)
  (case rv_BadDeed=>decide +kernel)
  (case v2_BadDeed=>rfl)
  (case fl_BadDeed=>first|rfl|decide +kernel)
  (case ev_BadDeed=>exact fun _=>rfl)
  (case s1_BadDeed=>exact fun _=>rfl)
  (case s2_BadDeed=>exact fun _=>rfl)
  (case rv_BadProgram=>decide +kernel)
  (case v2_BadProgram=>rfl)
  (case fl_BadProgram=>first|rfl|decide +kernel)
  (case ev_BadProgram=>exact fun _=>rfl)
  (case s1_BadProgram=>exact fun _=>rfl)
  (case s2_BadProgram=>exact fun _=>rfl)
  (case rv_BadStep=>decide +kernel)
  (case v2_BadStep=>rfl)
  (case fl_BadStep=>first|rfl|decide +kernel)
  (case ev_BadStep=>exact fun _=>rfl)
  (case s1_BadStep=>exact fun _=>rfl)
  (case s2_BadStep=>exact fun _=>rfl)
  (case rv_NoDeed=>decide +kernel)
  (case v2_NoDeed=>rfl)
  (case fl_NoDeed=>first|rfl|decide +kernel)
  (case ev_NoDeed=>exact fun _=>rfl)
  (case s1_NoDeed=>exact fun _=>rfl)
  (case s2_NoDeed=>exact fun _=>rfl)
  (case rv_NoMark=>decide +kernel)
  (case v2_NoMark=>rfl)
  (case fl_NoMark=>first|rfl|decide +kernel)
  (case ev_NoMark=>exact fun _=>rfl)
  (case s1_NoMark=>exact fun _=>rfl)
  (case s2_NoMark=>exact fun _=>rfl)
  (case rv_NoText=>decide +kernel)
  (case v2_NoText=>rfl)
  (case fl_NoText=>first|rfl|decide +kernel)
  (case ev_NoText=>exact fun _=>rfl)
  (case s1_NoText=>exact fun _=>rfl)
  (case s2_NoText=>exact fun _=>rfl)
  (case rv_NotLoud=>decide +kernel)
  (case v2_NotLoud=>rfl)
  (case fl_NotLoud=>first|rfl|decide +kernel)
  (case ev_NotLoud=>exact fun _=>rfl)
  (case s1_NotLoud=>exact fun _=>rfl)
  (case s2_NotLoud=>exact fun _=>rfl)
  (case rv_TooFew=>decide +kernel)
  (case v2_TooFew=>rfl)
  (case fl_TooFew=>first|rfl|decide +kernel)
  (case ev_TooFew=>exact fun _=>rfl)
  (case s1_TooFew=>exact fun _=>rfl)
  (case s2_TooFew=>exact fun _=>rfl)
  (case rv_TooMany=>decide +kernel)
  (case v2_TooMany=>rfl)
  (case fl_TooMany=>first|rfl|decide +kernel)
  (case ev_TooMany=>exact fun _=>rfl)
  (case s1_TooMany=>exact fun _=>rfl)
  (case s2_TooMany=>exact fun _=>rfl)
  (case rv_Wrong=>decide +kernel)
  (case v2_Wrong=>rfl)
  (case fl_Wrong=>first|rfl|decide +kernel)
  (case ev_Wrong=>exact fun _=>rfl)
  (case s1_Wrong=>exact fun _=>rfl)
  (case s2_Wrong=>exact fun _=>rfl)
  (case ne_Wrong_BadCall=>rfl)
  (case ne_NoDeed_BadCall=>rfl)
  (case ne_BadDeed_BadCall=>rfl)
  (case ne_BadStep_BadCall=>rfl)
  (case ne_BadProgram_BadCall=>rfl)
  (case ne_NoMark_BadCall=>rfl)
  (case ne_TooFew_BadCall=>rfl)
  (case ne_TooMany_BadCall=>rfl)
  (case ne_NotLoud_BadCall=>rfl)
  (case ne_NoText_BadCall=>rfl)
  (case ne_Nothing_BadCall=>rfl)
  (case ne_BadEdit_BadCall=>rfl)
  (case ne_NoCommand_BadCall=>rfl)
  (case ne_Wrong_BadDeed=>rfl)
  (case ne_NoDeed_BadDeed=>rfl)
  (case ne_BadStep_BadDeed=>rfl)
  (case ne_BadProgram_BadDeed=>rfl)
  (case ne_NoMark_BadDeed=>rfl)
  (case ne_TooFew_BadDeed=>rfl)
  (case ne_TooMany_BadDeed=>rfl)
  (case ne_NotLoud_BadDeed=>rfl)
  (case ne_NoText_BadDeed=>rfl)
  (case ne_BadCall_BadDeed=>rfl)
  (case ne_Nothing_BadDeed=>rfl)
  (case ne_BadEdit_BadDeed=>rfl)
  (case ne_NoCommand_BadDeed=>rfl)
  (case ne_Wrong_BadEdit=>rfl)
  (case ne_NoDeed_BadEdit=>rfl)
  (case ne_BadDeed_BadEdit=>rfl)
  (case ne_BadStep_BadEdit=>rfl)
  (case ne_BadProgram_BadEdit=>rfl)
  (case ne_NoMark_BadEdit=>rfl)
  (case ne_TooFew_BadEdit=>rfl)
  (case ne_TooMany_BadEdit=>rfl)
  (case ne_NotLoud_BadEdit=>rfl)
  (case ne_NoText_BadEdit=>rfl)
  (case ne_BadCall_BadEdit=>rfl)
  (case ne_Nothing_BadEdit=>rfl)
  (case ne_NoCommand_BadEdit=>rfl)
  (case ne_Wrong_BadProgram=>rfl)
  (case ne_NoDeed_BadProgram=>rfl)
  (case ne_BadDeed_BadProgram=>rfl)
  (case ne_BadStep_BadProgram=>rfl)
  (case ne_NoMark_BadProgram=>rfl)
  (case ne_TooFew_BadProgram=>rfl)
  (case ne_TooMany_BadProgram=>rfl)
  (case ne_NotLoud_BadProgram=>rfl)
  (case ne_NoText_BadProgram=>rfl)
  (case ne_BadCall_BadProgram=>rfl)
  (case ne_Nothing_BadProgram=>rfl)
  (case ne_BadEdit_BadProgram=>rfl)
  (case ne_NoCommand_BadProgram=>rfl)
  (case ne_Wrong_BadStep=>rfl)
  (case ne_NoDeed_BadStep=>rfl)
  (case ne_BadDeed_BadStep=>rfl)
  (case ne_BadProgram_BadStep=>rfl)
  (case ne_NoMark_BadStep=>rfl)
  (case ne_TooFew_BadStep=>rfl)
  (case ne_TooMany_BadStep=>rfl)
  (case ne_NotLoud_BadStep=>rfl)
  (case ne_NoText_BadStep=>rfl)
  (case ne_BadCall_BadStep=>rfl)
  (case ne_Nothing_BadStep=>rfl)
  (case ne_BadEdit_BadStep=>rfl)
  (case ne_NoCommand_BadStep=>rfl)
  (case ne_Wrong_CountError=>rfl)
  (case ne_NoDeed_CountError=>rfl)
  (case ne_BadDeed_CountError=>rfl)
  (case ne_BadStep_CountError=>rfl)
  (case ne_BadProgram_CountError=>rfl)
  (case ne_NoMark_CountError=>rfl)
  (case ne_TooFew_CountError=>rfl)
  (case ne_TooMany_CountError=>rfl)
  (case ne_NotLoud_CountError=>rfl)
  (case ne_NoText_CountError=>rfl)
  (case ne_BadCall_CountError=>rfl)
  (case ne_Nothing_CountError=>rfl)
  (case ne_BadEdit_CountError=>rfl)
  (case ne_NoCommand_CountError=>rfl)
  (case ne_Wrong_NoCommand=>rfl)
  (case ne_NoDeed_NoCommand=>rfl)
  (case ne_BadDeed_NoCommand=>rfl)
  (case ne_BadStep_NoCommand=>rfl)
  (case ne_BadProgram_NoCommand=>rfl)
  (case ne_NoMark_NoCommand=>rfl)
  (case ne_TooFew_NoCommand=>rfl)
  (case ne_TooMany_NoCommand=>rfl)
  (case ne_NotLoud_NoCommand=>rfl)
  (case ne_NoText_NoCommand=>rfl)
  (case ne_BadCall_NoCommand=>rfl)
  (case ne_Nothing_NoCommand=>rfl)
  (case ne_BadEdit_NoCommand=>rfl)
  (case ne_Wrong_NoDeed=>rfl)
  (case ne_BadDeed_NoDeed=>rfl)
  (case ne_BadStep_NoDeed=>rfl)
  (case ne_BadProgram_NoDeed=>rfl)
  (case ne_NoMark_NoDeed=>rfl)
  (case ne_TooFew_NoDeed=>rfl)
  (case ne_TooMany_NoDeed=>rfl)
  (case ne_NotLoud_NoDeed=>rfl)
  (case ne_NoText_NoDeed=>rfl)
  (case ne_BadCall_NoDeed=>rfl)
  (case ne_Nothing_NoDeed=>rfl)
  (case ne_BadEdit_NoDeed=>rfl)
  (case ne_NoCommand_NoDeed=>rfl)
  (case ne_Wrong_NoMark=>rfl)
  (case ne_NoDeed_NoMark=>rfl)
  (case ne_BadDeed_NoMark=>rfl)
  (case ne_BadStep_NoMark=>rfl)
  (case ne_BadProgram_NoMark=>rfl)
  (case ne_TooFew_NoMark=>rfl)
  (case ne_TooMany_NoMark=>rfl)
  (case ne_NotLoud_NoMark=>rfl)
  (case ne_NoText_NoMark=>rfl)
  (case ne_BadCall_NoMark=>rfl)
  (case ne_Nothing_NoMark=>rfl)
  (case ne_BadEdit_NoMark=>rfl)
  (case ne_NoCommand_NoMark=>rfl)
  (case ne_Wrong_NoText=>rfl)
  (case ne_NoDeed_NoText=>rfl)
  (case ne_BadDeed_NoText=>rfl)
  (case ne_BadStep_NoText=>rfl)
  (case ne_BadProgram_NoText=>rfl)
  (case ne_NoMark_NoText=>rfl)
  (case ne_TooFew_NoText=>rfl)
  (case ne_TooMany_NoText=>rfl)
  (case ne_NotLoud_NoText=>rfl)
  (case ne_BadCall_NoText=>rfl)
  (case ne_Nothing_NoText=>rfl)
  (case ne_BadEdit_NoText=>rfl)
  (case ne_NoCommand_NoText=>rfl)
  (case ne_Wrong_NotLoud=>rfl)
  (case ne_NoDeed_NotLoud=>rfl)
  (case ne_BadDeed_NotLoud=>rfl)
  (case ne_BadStep_NotLoud=>rfl)
  (case ne_BadProgram_NotLoud=>rfl)
  (case ne_NoMark_NotLoud=>rfl)
  (case ne_TooFew_NotLoud=>rfl)
  (case ne_TooMany_NotLoud=>rfl)
  (case ne_NoText_NotLoud=>rfl)
  (case ne_BadCall_NotLoud=>rfl)
  (case ne_Nothing_NotLoud=>rfl)
  (case ne_BadEdit_NotLoud=>rfl)
  (case ne_NoCommand_NotLoud=>rfl)
  (case ne_Wrong_Nothing=>rfl)
  (case ne_NoDeed_Nothing=>rfl)
  (case ne_BadDeed_Nothing=>rfl)
  (case ne_BadStep_Nothing=>rfl)
  (case ne_BadProgram_Nothing=>rfl)
  (case ne_NoMark_Nothing=>rfl)
  (case ne_TooFew_Nothing=>rfl)
  (case ne_TooMany_Nothing=>rfl)
  (case ne_NotLoud_Nothing=>rfl)
  (case ne_NoText_Nothing=>rfl)
  (case ne_BadCall_Nothing=>rfl)
  (case ne_BadEdit_Nothing=>rfl)
  (case ne_NoCommand_Nothing=>rfl)
  (case ne_Wrong_TooFew=>rfl)
  (case ne_NoDeed_TooFew=>rfl)
  (case ne_BadDeed_TooFew=>rfl)
  (case ne_BadStep_TooFew=>rfl)
  (case ne_BadProgram_TooFew=>rfl)
  (case ne_NoMark_TooFew=>rfl)
  (case ne_TooMany_TooFew=>rfl)
  (case ne_NotLoud_TooFew=>rfl)
  (case ne_NoText_TooFew=>rfl)
  (case ne_BadCall_TooFew=>rfl)
  (case ne_Nothing_TooFew=>rfl)
  (case ne_BadEdit_TooFew=>rfl)
  (case ne_NoCommand_TooFew=>rfl)
  (case ne_Wrong_TooMany=>rfl)
  (case ne_NoDeed_TooMany=>rfl)
  (case ne_BadDeed_TooMany=>rfl)
  (case ne_BadStep_TooMany=>rfl)
  (case ne_BadProgram_TooMany=>rfl)
  (case ne_NoMark_TooMany=>rfl)
  (case ne_TooFew_TooMany=>rfl)
  (case ne_NotLoud_TooMany=>rfl)
  (case ne_NoText_TooMany=>rfl)
  (case ne_BadCall_TooMany=>rfl)
  (case ne_Nothing_TooMany=>rfl)
  (case ne_BadEdit_TooMany=>rfl)
  (case ne_NoCommand_TooMany=>rfl)
  (case ne_NoDeed_Wrong=>rfl)
  (case ne_BadDeed_Wrong=>rfl)
  (case ne_BadStep_Wrong=>rfl)
  (case ne_BadProgram_Wrong=>rfl)
  (case ne_NoMark_Wrong=>rfl)
  (case ne_TooFew_Wrong=>rfl)
  (case ne_TooMany_Wrong=>rfl)
  (case ne_NotLoud_Wrong=>rfl)
  (case ne_NoText_Wrong=>rfl)
  (case ne_BadCall_Wrong=>rfl)
  (case ne_Nothing_Wrong=>rfl)
  (case ne_BadEdit_Wrong=>rfl)
  (case ne_NoCommand_Wrong=>rfl)
