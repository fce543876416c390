import PyProof.Rows.All
import KE.RegKSuper
import KE.OsRunLaw
import PySem.Challenge.RW_smallcount_k54_forms_known
import HandS.ForMost
import HandS.Evl
import HandS.ForExc
import HandS.CallSlots
import HandS.Flow
import HandS.SetKeys
import HandS.More
import HandS.TupAny
import KE.GoesMore
import KE.GoesEnum
import HandS.IsInst
import HandS.Dict
import HandS.Iter
import HandS.WordsDict
import HandS.Zip
import PyProof.Rows.TupDisplay
import KE.KDictDisplayH
import KE.KDictWalk
import HandS.Exc
import HandS.ExcSuper
import KE.KExcSuper
import KE.KExcIs
import HandS.ExcField
import HandS.ExcIs
import PyProof.ReprRoads
import HandS.DictEq
import HandS.SortInts
import HandS.Conv
import KE.DatumOrd
import KE.SortData
import HandS.Style
import HandS.ListItems
import HandS.Codes
import PyProof.DictUpdate
import PyProof.InstNe
import HandS.Star
import HandS.Property
import HandS.Small
import PyProof.AssignAttr
import HandS.Set
import HandS.SetFor
import PyProof.Rows.SortShellAny
import HandS.SetBool
import HandS.DictComp
import KE.KDictZip
import PyProof.NeKinds
import PyProof.StrOps2
import HandS.Defaults
import HandS.ExcOwn
import OpenK.KOwn
import HandS.TupMul
import KE.KEqDict
import HandS.Text
import PyProof.SeqRoads2
import KE.KStar
import KE.KDictSum
import HandS.SortKw
import KE.SortKeyHeap
import HandS.MethStar
import HandS.Deep
import KE.KSortKey
import HandS.Wide
import KE.KRevSl
import KE.DatumMoreOrd
import KE.DatumMore
set_option Elab.async false
set_option linter.all false
set_option autoImplicit false
set_option maxRecDepth 100000
namespace K54HD
open PySem PySem.W PySem.Calls PyProof.Rows
noncomputable def seenP:Program:=view PySem.Challenge.pw_smallcount_k54_forms_known [22]
def rest0:List PySem.Str:=["is_integer","MOST_NUMBER","MOST_STEP","are_numbers","is_form","has","upto","_law_bag","_law_take","_law_alike","_law_one","_law_is_whole","_law_form","_law_tells","_law_are_numbers","_law_is_form","_law_odd_value","_law_bent","_law_great_form"]
def restN:List PySem.Str:=rest0
set_option hygiene false in
local macro_rules | `(tactic| o_headL $H:term) => `(tactic| ((refine PySem.W.holds_open (q := seenP) (loose := restN) (Xt := fun s => PySem.W.xlAt seenP [] s && PySem.W.recOk [] s) (XP := PySem.W.XL seenP []) (Yf := PySem.W.Hook.obs $H) (Ya := PySem.W.Hook.val $H) (YP := PySem.W.Hook.says $H) (N := 40000) ?hl (PySem.W.Hook.of $H) (PySem.W.Hook.keeps $H) (fun s e => PySem.W.xl_of s (Bool.and_eq_true_iff.mp e).1) PySem.W.XL.keeps (by rfl) (by rfl) (by rfl) (fun s e => PySem.W.recFacts_of (Bool.and_eq_true_iff.mp e).2) (by rfl) (by first | assumption | decide +kernel) (by decide +kernel) ⟨rfl, rfl, rfl, rfl, rfl, by decide +kernel⟩ ?hw ?hc); (case hl => refine HeadRun.left_oneK (M := 40000) (by kernel_rfl) (by rfl) (fun s => by kernel_rfl) (by rfl) ?_; intro w os; kernel_rfl)))
local macro_rules | `(tactic| k_head) => `(tactic| k_headL)
set_option maxHeartbeats 0 in
open_top hd for PySem.Challenge.rw_smallcount_k54_forms_known
end K54HD
namespace DL
open PySem PySem.Spec PyProof.Rows L2
structure FnG (P:Program)(w:World)(K:PySem.W.Frag)(mg:Str→Option Value)(base:Heap)(cx:CXT)
  (k:Nat) (f:Addr) (fd:FuncData) (ps:List Str) (sp:Sp):Prop where
 len:∀ vs H Q E,sp vs H Q E→vs.length=ps.length
 run:∀ (A:Around) (out:List Env) (s:Shared) (H:Hp) (args:Args) (us:List Value) (vs:List V) (Q:VK) (E:XK),
  Room k A→A.guards=some []→Env0 P w K mg base A out s H→BindsTo s fd args (ps.zip us)→Vals vs us →
  sp vs H Q E→codeAny (model P w) A (.call (.ref f) args) (CR cx out P w H s Q E) s
theorem FnG.mono {P:Program}{w:World}{K:PySem.W.Frag}{mg:Str→Option Value}{base:Heap}{cx:CXT}
  {j k:Nat} {f:Addr} {fd:FuncData} {ps:List Str} {sp:Sp} (F:FnG P w K mg base cx j f fd ps sp) (h:j≤k) :
  FnG P w K mg base cx k f fd ps sp :=
 ⟨F.len,fun A o s H a us vs Q E hr=>F.run A o s H a us vs Q E (hr.mono h)⟩
theorem fnG_of {cx:CXT}{P:Program}{w:World}{K:PySem.W.Frag}{mg:Str→Option Value}{base:Heap}{k:Nat}
  {f:Addr} {name qual:Str} {params:Arguments} {body:List Stmt} {sc:Scope} {dV kV doc pm cdv ct oc:Value}
  {an od:Option Addr} {osl:Array (Option Value)} {N ps:List Str} {sp:Sp}
  (lk:K.lookup f=some ⟨oc,od,.func (PySem.W.fnOf name qual params body sc dV kV doc pm an cdv ct),osl⟩)
  (hcd:PySem.W.codeIn K cdv qual=true) (S:FnScope N ps sc)
  (len:∀ vs H Q E,sp vs H Q E→vs.length=ps.length)
  (hb:∀ (A:Around) (out:List Env) (s:Shared) (H:Hp) (vs:List V) (Q:VK) (E:XK),
   Room k (A.deeper (envOfC qual sc s.heap.objs.size f cdv))→A.guards=some []→sp vs H Q E →
   ∃ t,PSs (cxOf cx P w K mg base N qual sc f cdv A out s H E) body t ∧
    t { nx:=fun _ H'=>Q .non H',rt:=Q } (start N vs) H) :
  FnG P w K mg base cx (k+1) f (PySem.W.fnOf name qual params body sc dV kV doc pm an cdv ct) ps sp:=by
 refine⟨len,fun A out s H args us vs Q E hr hg e0 bd r hsp=>?_⟩
 have hl:=len _ _ _ _ hsp
 have stay:∀ b o,base.get? b=some o→s.heap.get? b=some o:=fun b o e=>(e0.bs b o e).1
 have KX:K.In s.heap:=e0.mod.kin.keeps stay
 have kinds:∀ y∈ps.zip us,sc.names.lookup y.1=some .local ∨
   (sc.names.lookup y.1=some .cell∧((cellsFrom (s.heap.objs.size+1) sc.names []).lookup y.1).isSome=true):=by
  rintro ⟨n,v⟩ hy
  refine(S.par n (List.of_mem_zip hy).1).imp id fun q=>⟨q,?_⟩
  exact PySem.W.cellsFrom_some _ _ _ (.inl q)
 refine codeAny_call_function hr.depth (KX _ _ lk) rfl S.co S.gen rfl (PySem.W.codeRec_of KX hcd) (bd _ _ _ _ ?_)
 refine wpAny_newFunctionEnv_cells S.kind kinds fun env he s1 x=>?_
 subst he
 refine⟨(e0.mod.nolimit.keeps stay).keeps x.toInCall.keep,codeAny_func ?_⟩
 obtain⟨t,ht,hq⟩:=hb A out s H vs Q E (hr.deeper _) hg hsp
 have I:=inv_start (cd:=cdv) (qual:=qual) (f:=f) (CX:=cx) (E:=E) S hr.hd e0 hl r x
 refine wpAny_mono (ht.run [] s1 (start N vs) H _ I hq) (fun fl s' hs=>?_) fun e s' hs=>hs
 match fl,hs with
 | .ret u,⟨v,_,H',J,rv,q⟩=>exact⟨v,H',J.os,J.bare,J.base,J.hok,rv,q⟩
 | .next,⟨_,H',J,q⟩=>exact⟨V.non,H',J.os,J.bare,J.base,J.hok,rfl,q⟩
 | .brk,⟨_,_,_,q⟩=>exact False.elim q
 | .cont,⟨_,_,_,q⟩=>exact False.elim q
section
variable {X:Cx}{cx:CXT}{k:Nat}{f:Addr}{fd:FuncData}{ps:List Str}{sp:Sp}{dvs:List V}{ds:List Value}
 {E:L2.St→XK} {x:Str} {p pos:Pos} {e:Expr} {es:List Expr} {t:TA}
theorem run_fnG {pins:List (Addr×Obj)}{σ:L2.St}{H:Hp}{s:Shared}{Q:VK}{us:List Value}{vs:List V}
  (F:FnG X.prog X.w X.K X.mg X.base cx k f fd ps sp) (hr:Room k X.A) (hgd:X.A.guards=some [])
  (hb:Binds X.K fd ps ds) (hd:Vals dvs ds) (hx:PassesAt cx X σ (E σ)) (I:Inv X pins σ H s) (r:Vals vs us)
  (h:sp (vs++dvs) H Q (E σ)):wpAny (model X.prog X.w) X.A (call (.ref f) us) (EP X pins σ Q) X.xe s:=by
 have r2:Vals (vs++dvs) (us++ds):=r.append hd
 have hl:(us++ds).length=ps.length:=r2.length▸F.len _ _ _ _ h
 have run:=F.run X.A X.stack s H ⟨us,[]⟩ (us++ds) (vs++dvs) Q (E σ) hr hgd I.env0 (hb s us I.kIn hl) r2 h
 refine wpAny_call (codeAny_mono run fun z s' hq=>?_)
 match z,hq with
 | .error e,hq=>exact hx pins H s e s' I hq
 | .ok (.ret u),hq=>exact I.after hq
 | .ok .next,hq=>exact hq.elim
 | .ok .brk,hq=>exact hq.elim
 | .ok .cont,hq=>exact hq.elim
theorem pe_callG (F:FnG X.prog X.w X.K X.mg X.base cx k f fd ps sp)(hr:Room k X.A)(hgd:X.A.guards=some [])
  (hg:Gl X x) (hm:X.mg x=some (.ref f)) (hk:PySem.W.keepIn X.K (.ref f)=true) (hb:Binds X.K fd ps ds)
  (hd:Vals dvs ds) (hx:∀ σ,PassesAt cx X σ (E σ)) (ha:PA X (e::es) t)
  (hdb:(x==("__debug__":Str))=false:=by decide)
  (he:starEach (e::es) X.env=(false,eval e X.env)::starEach es X.env:=by rfl)
  (hpl:(backTo pos (starEach es X.env)).any (·.1)=false:=by rfl) :
  PE X (.Call (.Name x p) (e::es) [] pos) (tCallSD sp dvs E t):=by
 refine⟨fun pins s σ H Q I h=>wpAny_Call_Name_kw (ld_glob I hg hm ?_ hdb)⟩
 refine PySem.W.callWith_K (h₀:=X.base) I.ok.mod.kin hk (thn (ha.run pos pins s σ H _ I h) ?_) he hpl
 rintro us s1 ⟨vs,H1,I1,r,q⟩
 exact⟨I1.kIn,run_fnG F hr hgd hb hd (hx σ) I1 r q⟩
end
theorem law_callG {P:Program}{w:World}{K:PySem.W.Frag}{mg mb:Str→Option Value}{cx:CXT}{k:Nat}
  {fa a:Addr} {fd:FuncData} {x:Str} {sp:Sp} {s₁:Shared} {vs:List Value} {ns:List Int}
  (KX:K.In s₁.heap) (hns:s₁.heap.Ns mainGlobals mg) (hb:s₁.heap.Ns builtinsNs mb)
  (hbb:∀ x:Str,x≠"__name__"→mb x=bootBuiltins x) (hlim:s₁.heap.NoLimit) (hg:s₁.gens=#[])
  (ha:s₁.heap.get? a=some { cls:=.type "list",data:=.seq vs.toArray }) (hi:IntsAre vs ns)
  (hl:ns.length≤sizeLine) (hr:Room k callerA)
  (F:∀ base:Heap,K.In base→base.Ns mainGlobals mg→FnG P w K mg base cx k fa fd [x] sp)
  (hbind:∀ (s:Shared) (u:Value),BindsTo s fd ⟨[u],[]⟩ [(x,u)])
  (hsp:∀ H:Hp,Only H→SqL K H a (ns.map V.int)→sp [.ref a] H (fun v _=>v=.bl true) fun _ _ _=>False)
  (hcx:∀ H e s',cx [] H s₁ (fun _ _ _=>False) e s'→False) :
  codeAny (model P w) callerA (.call (.ref fa) ⟨[.ref a],[]⟩)
   (fun r s'=>r=.ok (.ret (.bool true))∧OldK s₁.heap s'.heap∧s'.os=s₁.os∧AllBare s'.gens) s₁:=by
 have rv:=vals_ints hi
 have main:∀ H:Hp,Only H→SqL K H a (ns.map V.int)→HOk P w H s₁.heap→(∀ b,H b≠none→b=a) →
   (H a≠none→K.lookup a=none)→codeAny (model P w) callerA (.call (.ref fa) ⟨[.ref a],[]⟩)
   (fun r s'=>r=.ok (.ret (.bool true))∧OldK s₁.heap s'.heap∧s'.os=s₁.os∧AllBare s'.gens) s₁:=by
  intro H hO hS hok hA hK
  have onlyA:∀ {b:Addr} {u:HO},H b=some u→b=a:=fun {b u} q=>hA b (by rw[q];exact fun z=>nomatch z)
  have dictFree:∀ {b:Addr} {o:Obj} {es:Array DictEntry} {ep:Nat},
    s₁.heap.get? b=some o→o.data=.dict es ep→H b=none:=by
   intro b o es ep e d
   match q:H b with
   | none=>rfl
   | some u =>
    obtain rfl:=onlyA q
    rw[ha] at e
    obtain rfl:=Option.some.inj e
    exact nomatch (show Data.seq vs.toArray _=Data.dict es ep from d)
  have ns':∀ {b:Addr} {m:Str→Option Value},s₁.heap.Ns b m→(hidT s₁.heap H).Ns b m :=
   fun⟨o,es,ep,e,d,r⟩=>⟨o,es,ep,hidT_get e (dictFree e d),d,r⟩
  have kb:K.In (hidT s₁.heap H):=fun b o e=>hidT_get (KX b o e) (by
   match q:H b with
   | none=>rfl
   | some u =>
    obtain rfl:=onlyA q
    rw[hK (by rw[q];exact fun z=>nomatch z)] at e
    exact nomatch e)
  have md:Mod K mg (hidT s₁.heap H):=⟨kb,ns' hns,⟨mb,ns' hb,hbb⟩,by
   obtain⟨mc,h1,h2⟩:=hlim
   exact⟨mc,ns' h1,h2⟩⟩
  have nofr:∀ b:Addr,b∉frs []:=fun b z=>nomatch (show b∈([]:List Addr) from z)
  have e0:Env0 P w K mg (hidT s₁.heap H) callerA [] s₁ H :=
   ⟨rfl,md,fun b o e=>of_hidT e,Nat.le_of_eq (hidT_size _ _),trivial,fun b hb=>absurd hb (nofr b),hok,.of_eq hg⟩
  have run:=(F _ kb (ns' hns)).run callerA [] s₁ H ⟨[.ref a],[]⟩ [.ref a] [.ref a] _ _ hr rfl e0
   (hbind s₁ (.ref a)) (.cons rfl .nil) (hsp H hO hS)
  refine codeAny_mono run fun r s' h=>?_
  match r,h with
  | .error e,h=>exact(hcx H e s' h).elim
  | .ok .next,h=>exact h.elim
  | .ok .brk,h=>exact h.elim
  | .ok .cont,h=>exact h.elim
  | .ok (.ret u),⟨v,H',os,bare,un,hok',r',q⟩ =>
   obtain rfl:v=.bl true:=q
   obtain rfl:u=Value.bool true:=r'
   refine⟨rfl,OldK.of_keep fun b o e=>?_,os,bare⟩
   match q:H b with
   | none=>exact un.keep b o e q (nofr b) (fun z=>nomatch z)
   | some u =>
    match hO b with
    | .inl z=>rw[q] at z;exact nomatch z
    | .inr ⟨ob,xs,z⟩ =>
     have e1:=(hok b _ z).1
     rw[e] at e1
     obtain rfl:=Option.some.inj e1
     exact(hok' b _ (un.frzs b _ _ z)).1
 match hk:K.lookup a with
 | some o =>
  have e:=KX a o hk
  rw[ha] at e
  obtain rfl:=Option.some.inj e
  have hz:vs.toArray.size≤sizeLine:=by rw[List.size_toArray,hi.length];exact hl
  refine main (fun _=>none) (fun _=>.inl rfl) (.inr ⟨_,vs.toArray,_,hk,rfl,rfl,rfl,hz,by simpa using rv⟩) ?_ ?_ ?_
  ·exact fun b u z=>nomatch (show(none:Option HO)=some u from z)
  ·exact fun b z=>absurd rfl z
  ·exact fun z=>absurd rfl z
 | none =>
  let so:Obj:={ cls:=.type "list",data:=.seq vs.toArray }
  refine main (fun b=>if b=a then some (.frz so (.lst (ns.map V.int))) else none) (fun b=>?_)
   (.inl (.inr ⟨so,if_pos rfl⟩)) (fun b u z=>?_) (fun b z=>Classical.byContradiction fun hb=>z (if_neg hb)) fun _=>hk
  ·by_cases hb:b=a
   ·exact .inr ⟨_,_,if_pos hb⟩
   ·exact .inl (if_neg hb)
  ·by_cases hb:b=a
   ·have z':=(if_pos hb).symm.trans z
    obtain rfl:=Option.some.inj z'
    subst hb
    exact⟨ha,by rw[List.length_map];exact hl,vs,_,rv,ha⟩
   ·exact nomatch (if_neg hb).symm.trans z
theorem walk_ofG {l:PySem.W.OpenLaw}{n k:Nat}{q:Program}{loose:List Str}{XP:(Str→Option Value)→Heap→Prop}
  {YP:World→Heap→Prop} {d:DefRec} {K:Params→PySem.W.Frag} {cx:World→CXT} {sp:World→Sp} {x:Str}
  (hn:l.most=some n) (hn2:n≤sizeLine) (hdf:d.params.defaults=[]) (hr:Room k callerA)
  (hY:∀ (w:World) (h:Heap),YP w h→(K w.params).In h)
  (F:∀ (w:World) (mg:Str→Option Value) (fa:Addr) (h:Heap),(K w.params).In h→h.Ns mainGlobals mg →
   mg d.name=some (.ref fa)→∃ fd:FuncData,(∀ (s:Shared) (u:Value),BindsTo s fd ⟨[u],[]⟩ [(x,u)]) ∧
    ∀ base:Heap,(K w.params).In base→base.Ns mainGlobals mg →
     FnG l.prog w (K w.params) mg base (cx w) k fa fd [x] (sp w))
  (hsp:∀ (w:World) (H:Hp) (a:Addr) (ns:List Int),ns.length≤n→Only H →
   SqL (K w.params) H a (ns.map V.int)→sp w [.ref a] H (fun v _=>v=.bl true) fun _ _ _=>False)
  (hcx:∀ (w:World) (H:Hp) (s:Shared) (e:Value) (s':Shared),cx w [] H s (fun _ _ _=>False) e s'→False) :
  PySem.W.WalkO q loose XP YP l.row.toRowW d [] (fun f vs=>PySem.call f vs):=by
 refine Att.attach_call hn hdf fun w s₀ s₁ mg mb fa o pm cd doc a vs ns G Y ho hd hcd hmg hobj hints hlen hg=>?_
 obtain⟨fd,hb,hF⟩:=F w mg fa _ (hY w _ Y) G.T.g hmg
 exact law_callG (hY w _ Y) G.T.g G.T.b G.T.builtins G.T.nolimit hg hobj hints (Nat.le_trans hlen hn2) hr hF hb
  (fun H hO hS=>hsp w H a ns hlen hO hS) fun H e s'=>hcx w H s₁ e s'
abbrev Slots:=L2.St
def Ex (H H':Hp):Prop:=∀ a o,H a=some o→H' a=some o
theorem Ex.refl (H:Hp):Ex H H:=fun _ _ h=>h
theorem Ex.trans {H H1 H2:Hp}(a:Ex H H1)(b:Ex H1 H2):Ex H H2:=fun x o h=>b x o (a x o h)
theorem Ex.new {H:Hp}{p:Addr}{o:HO}(h:H p=none):Ex H (upd H p o):=fun a u e=>by
 rw[upd_ne (ne_of_none e h)];exact e
theorem ex_l {K:PySem.W.Frag}{H H':Hp}{a:Addr}{xs:List V}(e:Ex H H')(h:SqL K H a xs):SqL K H' a xs:=by
 rcases h with (h|⟨o,h⟩)|h
 ·exact .inl (.inl (e _ _ h))
 ·exact .inl (.inr ⟨o,e _ _ h⟩)
 ·exact .inr h
theorem ex_t {K:PySem.W.Frag}{H H':Hp}{a:Addr}{xs:List V}(e:Ex H H')(h:SqT K H a xs):SqT K H' a xs:=by
 rcases h with (h|⟨o,h⟩)|h
 ·exact .inl (.inl (e _ _ h))
 ·exact .inl (.inr ⟨o,e _ _ h⟩)
 ·exact .inr h
inductive Ky where
 | k (x:Key)|t (xs:List Key)
deriving DecidableEq
def entI (x:List Int×Addr×Value):DictEntry:=⟨reduceHash (Builtin.Tuple.tupleHashOf (x.1.map hashInt)),.ref x.2.1,x.2.2⟩
def TX (a:Addr)(es:Array DictEntry):HO:=.ext fun h=>∃ o ep,h.get? a=some o∧o.ExactDict∧o.data=.dict es ep
def DctIs (K:PySem.W.Frag)(G:Hp)(a:Addr)(o:HO)(ks:List Ky)(vs:List V):Prop :=
 (∃ kvs:List (Key×V),o=.dK kvs∧ks=kvs.map (fun p=>Ky.k p.1)∧vs=kvs.map (·.2)) ∨
 ∃ (es:Array DictEntry) (xs:List (List Int×Addr×Value)),xs≠[]∧o=TX a es∧es.toList=xs.map entI∧(xs.map (·.1)).Nodup∧(a==sysModules)=false∧xs.length≤sizeLine ∧
  ks=xs.map (fun p=>Ky.t (p.1.map Sum.inl))∧Vals vs (xs.map (·.2.2))∧∀ x∈xs,SqT K G x.2.1 (x.1.map V.int)
theorem DctIs.map {K:PySem.W.Frag}{G G':Hp}{a:Addr}{o:HO}{ks:List Ky}{vs:List V}(e:∀ b xs,SqT K G b xs→SqT K G' b xs)(h:DctIs K G a o ks vs):DctIs K G' a o ks vs:=by
 rcases h with h|⟨es,xs,h0,h1,h2,h3,h4,h5,h6,h7,h8⟩
 ·exact .inl h
 ·exact .inr ⟨es,xs,h0,h1,h2,h3,h4,h5,h6,h7,fun x hx=>e _ _ (h8 x hx)⟩
theorem DctIs.mono {K:PySem.W.Frag}{G G':Hp}{a:Addr}{o:HO}{ks:List Ky}{vs:List V}(e:Ex G G')(h:DctIs K G a o ks vs):DctIs K G' a o ks vs:=by
 rcases h with h|⟨es,xs,h0,h1,h2,h3,h4,h5,h6,h7,h8⟩
 ·exact .inl h
 ·exact .inr ⟨es,xs,h0,h1,h2,h3,h4,h5,h6,h7,fun x hx=>ex_t e (h8 x hx)⟩
def LkIs (K:PySem.W.Frag)(G:Hp)(a:Addr)(o:HO)(ks:List Ky)(vs:List V):Prop:=∃ od u,o=.frz od u∧DctIs K G a u ks vs
theorem LkIs.map {K:PySem.W.Frag}{G G':Hp}{a:Addr}{o:HO}{ks:List Ky}{vs:List V}(e:∀ b xs,SqT K G b xs→SqT K G' b xs)(h:LkIs K G a o ks vs):LkIs K G' a o ks vs :=
 let ⟨od,u,h1,h2⟩:=h;⟨od,u,h1,h2.map e⟩
theorem LkIs.mono {K:PySem.W.Frag}{G G':Hp}{a:Addr}{o:HO}{ks:List Ky}{vs:List V}(e:Ex G G')(h:LkIs K G a o ks vs):LkIs K G' a o ks vs :=
 let ⟨od,u,h1,h2⟩:=h;⟨od,u,h1,h2.mono e⟩
def ClsAt (K:PySem.W.Frag)(nm:Str)(C:Addr):Prop:=PySem.W.nsIn K mainGlobals nm=some (some (.ref C))
inductive D where
 | non|bl (b:Bool)|int (i:Int)|str (s:Str)|ty (n:String)|ref (a:Addr)
 | tup (xs:List D)|lst (xs:List D)|fro (xs:List D)|dct (kvs:List (Ky×D))|ins (nm:Str) (fs:List (Str×D))|err (a C d:Addr) (nm:Str) (fs:List (Str×D))
inductive DV where
 | dat (d:D)|loc (n:Nat)
inductive Pl where
 | lst (xs:List DV)|dct (kvs:List (Ky×DV))|lkd (kvs:List (Ky×DV))|lkl (xs:List DV)|tp (xs:List DV)|own|ins (nm:Str) (fs:List (Str×DV))|gone
inductive R where
 | dat (d:D)|loc (n:Nat)|nl (xs:List DV)|nk (kvs:List (Ky×DV))
abbrev Mem:=List Pl
abbrev Env:=List (Option DV)
abbrev Pm:=Nat→Option Addr
structure Xc where
 nm:Str
 fs:List (Str×D)
inductive Res (α:Type) where
 | ok (a:α) (μ:Mem)|exc (x:Xc) (μ:Mem)|bad
def Res.bind {α β:Type}(r:Res α)(k:α→Mem→Res β):Res β:=match r with
 | .ok a μ=>k a μ
 | .exc x μ=>.exc x μ
 | .bad=>.bad
@[simp] theorem Res.bind_ok {α β:Type}(a:α)(μ:Mem)(k:α→Mem→Res β):(Res.ok a μ).bind k=k a μ:=rfl
@[simp] theorem Res.bind_exc {α β:Type}(x:Xc)(μ:Mem)(k:α→Mem→Res β):(Res.exc x μ).bind k=.exc x μ:=rfl
@[simp] theorem Res.bind_bad {α β:Type}(k:α→Mem→Res β):(Res.bad).bind k=.bad:=rfl
mutual
inductive Rp (K:PySem.W.Frag) (G:Hp):V→D→Prop
 | non:Rp K G .non .non
 | bl (b):Rp K G (.bl b) (.bl b)
 | int (i):Rp K G (.int i) (.int i)
 | str (s):Rp K G (.str s) (.str s)
 | ty (n):Rp K G (.ty n) (.ty n)
 | ref (a):Rp K G (.ref a) (.ref a)
 | tup {a vs ds}:SqT K G a vs→RpL K G vs ds→Rp K G (.ref a) (.tup ds)
 | lst {a vs ds}:G a=some (.lst vs)→RpL K G vs ds→Rp K G (.ref a) (.lst ds)
 | fro {a vs ds}:SqL K G a vs→RpL K G vs ds→Rp K G (.ref a) (.fro ds)
 | dct {a o u vs} {ds:List (Ky×D)}:G a=some (.frz o u)→DctIs K G a u (ds.map (·.1)) vs →
   RpL K G vs (ds.map (·.2))→Rp K G (.ref a) (.dct ds)
 | ins {a dx C nm} {vs:List (Str×V)} {ds:List (Str×D)}:ClsAt K nm C→G a=some (.ins C dx vs)→G dx=some (.own a) →
   vs.map (·.1)=ds.map (·.1)→RpL K G (vs.map (·.2)) (ds.map (·.2))→Rp K G (.ref a) (.ins nm ds)
 | er0 {a C d nm}:ClsAt K nm C→Rp K G (.ref a) (.err a C d nm [])
 | err {a C d nm} {vs:List (Str×V)} {ds:List (Str×D)}:ClsAt K nm C→G d=some (.xd vs)→vs.map (·.1)=ds.map (·.1)→RpL K G (vs.map (·.2)) (ds.map (·.2))→Rp K G (.ref a) (.err a C d nm ds)
inductive RpL (K:PySem.W.Frag) (G:Hp):List V→List D→Prop
 | nil:RpL K G [] []
 | cons {v vs d ds}:Rp K G v d→RpL K G vs ds→RpL K G (v::vs) (d::ds)
end
section
variable {K:PySem.W.Frag}{G G' H H':Hp}{ρ ρ':Pm}
mutual
theorem Rp.mono (e:Ex G G'):∀ {v:V} {d:D},Rp K G v d→Rp K G' v d
 | _,_,.non=>.non
 | _,_,.bl b=>.bl b
 | _,_,.int i=>.int i
 | _,_,.str s=>.str s
 | _,_,.ty n=>.ty n
 | _,_,.ref a=>.ref a
 | _,_,.tup h r=>.tup (ex_t e h) (RpL.mono e r)
 | _,_,.lst h r=>.lst (e _ _ h) (RpL.mono e r)
 | _,_,.fro h r=>.fro (ex_l e h) (RpL.mono e r)
 | _,_,.dct h k r=>.dct (e _ _ h) (k.mono e) (RpL.mono e r)
 | _,_,.ins c h o k r=>.ins c (e _ _ h) (e _ _ o) k (RpL.mono e r)
 | _,_,.er0 c=>.er0 c
 | _,_,.err c h k r=>.err c (e _ _ h) k (RpL.mono e r)
theorem RpL.mono (e:Ex G G'):∀ {vs:List V} {ds:List D},RpL K G vs ds→RpL K G' vs ds
 | _,_,.nil=>.nil
 | _,_,.cons a b=>.cons (Rp.mono e a) (RpL.mono e b)
end
theorem RpL.length:∀ {vs:List V} {ds:List D},RpL K G vs ds→vs.length=ds.length
 | _,_,.nil=>rfl
 | _,_,.cons _ b=>congrArg (·+1) (RpL.length b)
theorem RpL.get:∀ {vs:List V} {ds:List D} {i:Nat} {v:V},RpL K G vs ds→vs[i]?=some v→∃ d,ds[i]?=some d∧Rp K G v d
 | _,_,_,_,.nil,h=>by simp at h
 | _,_,0,_,.cons a _,h=>by cases h;exact⟨_,rfl,a⟩
 | _,_,i+1,v,.cons _ b,h=>RpL.get (i:=i) b h
theorem RpL.get':∀ {vs:List V} {ds:List D} {i:Nat} {d:D},RpL K G vs ds→ds[i]?=some d→∃ v,vs[i]?=some v∧Rp K G v d
 | _,_,_,_,.nil,h=>by simp at h
 | _,_,0,_,.cons a _,h=>by cases h;exact⟨_,rfl,a⟩
 | _,_,i+1,v,.cons _ b,h=>RpL.get' (i:=i) b h
theorem RpL.take:∀ {vs:List V} {ds:List D} (n:Nat),RpL K G vs ds→RpL K G (vs.take n) (ds.take n)
 | _,_,0,_=>.nil
 | _,_,_+1,.nil=>.nil
 | _,_,n+1,.cons a b=>.cons a (RpL.take n b)
theorem RpL.drop:∀ {vs:List V} {ds:List D} (n:Nat),RpL K G vs ds→RpL K G (vs.drop n) (ds.drop n)
 | _,_,0,r=>r
 | _,_,_+1,.nil=>.nil
 | _,_,n+1,.cons _ b=>RpL.drop n b
theorem RpL.append:∀ {vs ws:List V} {ds es:List D},RpL K G vs ds→RpL K G ws es→RpL K G (vs++ws) (ds++es)
 | _,_,_,_,.nil,r=>r
 | _,_,_,_,.cons a b,r=>.cons a (RpL.append b r)
def DvOk (K:PySem.W.Frag)(ρ:Pm)(G:Hp)(v:V):DV→Prop
 | .dat d=>Rp K G v d
 | .loc n=>∃ a,v=.ref a∧ρ n=some a
abbrev DvL (K:PySem.W.Frag)(ρ:Pm)(G:Hp):List V→List DV→Prop:=Paired (DvOk K ρ G)
def DV.below (n:Nat):DV→Prop
 | .dat _=>True
 | .loc m=>m<n
theorem DvOk.mono (e:Ex G G')(hρ:∀ n a,ρ n=some a→ρ' n=some a){v:V}:∀ {x:DV},DvOk K ρ G v x→DvOk K ρ' G' v x
 | .dat _,h=>Rp.mono e h
 | .loc _,⟨a,h,q⟩=>⟨a,h,hρ _ _ q⟩
theorem DvL.mono (e:Ex G G')(hρ:∀ n a,ρ n=some a→ρ' n=some a){vs:List V}{xs:List DV}(h:DvL K ρ G vs xs):DvL K ρ' G' vs xs :=
 Paired.mapP h fun _ _ q=>q.mono e hρ
def PlOk (K:PySem.W.Frag)(ρ:Pm)(G H:Hp)(n:Nat):Pl→Prop
 | .lst xs=>(∀ x∈xs,x.below n)∧∃ a vs,ρ n=some a∧H a=some (.lst vs)∧DvL K ρ G vs xs
 | .dct kvs=>(∀ p∈kvs,p.2.below n)∧∃ (a:Addr) (o:HO) (vs:List V),ρ n=some a∧H a=some o ∧
   DctIs K G a o (kvs.map (·.1)) vs∧DvL K ρ G vs (kvs.map (·.2))
 | .lkd kvs=>(∀ p∈kvs,p.2.below n)∧∃ (a:Addr) (o:HO) (vs:List V),ρ n=some a∧H a=some o ∧
   LkIs K G a o (kvs.map (·.1)) vs∧DvL K ρ G vs (kvs.map (·.2))
 | .lkl xs=>(∀ x∈xs,x.below n)∧∃ a od vs,ρ n=some a∧H a=some (.frz od (.lst vs))∧DvL K ρ G vs xs
 | .tp xs=>(∀ x∈xs,x.below n)∧∃ (a:Addr) (_:Unit) (vs:List V),ρ n=some a∧H a=some (.tup vs)∧DvL K ρ G vs xs
 | .own=>∃ a b,ρ n=some a∧H a=some (.own b)
 | .ins nm fs=>(∀ p∈fs,p.2.below n)∧∃ (a dx C:Addr) (vs:List (Str×V)) (m:Nat),(n=m+1∧ρ m=some dx)∧ρ n=some a∧H a=some (.ins C dx vs)∧ClsAt K nm C∧H dx=some (.own a) ∧
   vs.map (·.1)=fs.map (·.1)∧DvL K ρ G (vs.map (·.2)) (fs.map (·.2))
 | .gone=>ρ n=none
structure Rel (K:PySem.W.Frag)(ρ:Pm)(G H:Hp)(μ:Mem):Prop where
 ex:Ex G H
 inj:∀ m n a,ρ m=some a→ρ n=some a→m=n
 nG:∀ n a,ρ n=some a→G a=none
 lt:∀ n a,ρ n=some a→n<μ.length
 hs:∀ n a,ρ n=some a→H a≠none
 pl:∀ n p,μ[n]?=some p→PlOk K ρ G H n p
structure Tr (ρ:Pm)(G H G' H':Hp):Prop where
 exG:Ex G G'
 keep:∀ a o,(∀ n,ρ n≠some a)→H a=some o→H' a=some o
 th:∀ a,H' a=none→H a=none
 nG:∀ a,G' a≠none→G a≠none∨H a=none
 fz:∀ a od u,H a=some (.frz od u)→H' a=some (.frz od u)
theorem Tr.refl (ρ:Pm)(G H:Hp):Tr ρ G H G H:=⟨Ex.refl _,fun _ _ _ h=>h,fun _ h=>h,fun _ h=>.inl h,fun _ _ _ h=>h⟩
theorem Tr.trans {G1 H1 G2 H2:Hp}(a:Tr ρ G H G1 H1)(b:Tr ρ G1 H1 G2 H2):Tr ρ G H G2 H2 where
 exG:=a.exG.trans b.exG
 keep:=fun c o hc h=>b.keep c o hc (a.keep c o hc h)
 th:=fun c h=>a.th c (b.th c h)
 nG:=fun c h=>(b.nG c h).elim (a.nG c) fun q=>.inr (a.th c q)
 fz:=fun c od u h=>b.fz c od u (a.fz c od u h)
theorem Rel.pmono {G1:Hp}{μ:Mem}(r:Rel K ρ G H μ){n:Nat}{p:Pl}(h:PlOk K ρ G H n p)(e:Ex G G1):PlOk K ρ G1 H n p:=by
 cases p with
 | lst xs=>obtain⟨b,a,vs,h1,h2,h3⟩:=h;exact⟨b,a,vs,h1,h2,DvL.mono e (fun _ _ q=>q) h3⟩
 | dct kvs=>obtain⟨b,a,o,vs,h1,h2,h4,h3⟩:=h;exact⟨b,a,o,vs,h1,h2,h4.mono e,DvL.mono e (fun _ _ q=>q) h3⟩
 | lkd kvs=>obtain⟨b,a,o,vs,h1,h2,h4,h3⟩:=h;exact⟨b,a,o,vs,h1,h2,h4.mono e,DvL.mono e (fun _ _ q=>q) h3⟩
 | lkl xs=>obtain⟨b,a,o,vs,h1,h2,h3⟩:=h;exact⟨b,a,o,vs,h1,h2,DvL.mono e (fun _ _ q=>q) h3⟩
 | tp xs=>obtain⟨b,a,o,vs,h1,h2,h3⟩:=h;exact⟨b,a,o,vs,h1,h2,DvL.mono e (fun _ _ q=>q) h3⟩
 | own=>exact h
 | ins nm fs=>obtain⟨b,a,dx,C,vs,m,hm,h1,h2,c,h4,h5,h3⟩:=h;exact⟨b,a,dx,C,vs,m,hm,h1,h2,c,h4,h5,DvL.mono e (fun _ _ q=>q) h3⟩
 | gone=>exact h
theorem Rel.lay {μ:Mem}{p:Addr}{o:HO}(r:Rel K ρ G H μ)(hp:H p=none):Rel K ρ G (upd H p o) μ∧Tr ρ G H G (upd H p o):=by
 have nG:G p=none:=by
  cases q:G p with
  | none=>rfl
  | some u=>rw[r.ex _ _ q] at hp;cases hp
 have ne:∀ a u,H a=some u→a≠p:=fun a u h e=>by rw[e,hp] at h;cases h
 refine⟨⟨fun a u h=>?_,r.inj,r.nG,r.lt,fun n a h q=>?_,fun n q h=>?_⟩,⟨Ex.refl _,fun a u _ h=>?_,fun a h=>?_,fun a h=>.inl h,fun a od u h=>by rw[upd_ne (ne a _ h)];exact h⟩⟩
 ·rw[upd_ne (ne a u (r.ex a u h))];exact r.ex a u h
 ·have z:=r.hs n a h
  by_cases e:a=p
  ·rw[e] at z;exact z hp
  ·rw[upd_ne e] at q;exact z q
 ·have z:=r.pl n q h
  cases q with
  | lst xs=>obtain⟨b,a,vs,h1,h2,h3⟩:=z;exact⟨b,a,vs,h1,by rw[upd_ne (ne _ _ h2)];exact h2,h3⟩
  | dct kvs=>obtain⟨b,a,o,vs,h1,h2,h3⟩:=z;exact⟨b,a,o,vs,h1,by rw[upd_ne (ne _ _ h2)];exact h2,h3⟩
  | lkd kvs=>obtain⟨b,a,o,vs,h1,h2,h3⟩:=z;exact⟨b,a,o,vs,h1,by rw[upd_ne (ne _ _ h2)];exact h2,h3⟩
  | lkl xs=>obtain⟨b,a,o,vs,h1,h2,h3⟩:=z;exact⟨b,a,o,vs,h1,by rw[upd_ne (ne _ _ h2)];exact h2,h3⟩
  | tp xs=>obtain⟨b,a,o,vs,h1,h2,h3⟩:=z;exact⟨b,a,o,vs,h1,by rw[upd_ne (ne _ _ h2)];exact h2,h3⟩
  | own=>obtain⟨a,b,h1,h2⟩:=z;exact⟨a,b,h1,by rw[upd_ne (ne _ _ h2)];exact h2⟩
  | ins nm fs=>obtain⟨b,a,dx,C,vs,m,hm,h1,h2,c,h4,h3⟩:=z;exact⟨b,a,dx,C,vs,m,hm,h1,by rw[upd_ne (ne _ _ h2)];exact h2,c,by rw[upd_ne (ne _ _ h4)];exact h4,h3⟩
  | gone=>exact z
 ·rw[upd_ne (ne a u h)];exact h
 ·by_cases e:a=p
  ·rw[e];exact hp
  ·rw[upd_ne e] at h;exact h
theorem Rel.freeze {H0 G0:Hp}{μ:Mem}{p:Addr}{o:HO}(r:Rel K ρ G H μ)(t:Tr ρ G0 H0 G H)(h:H p=some o)(h0:H0 p=none)(hg:G p=none)(hn:∀ n,ρ n≠some p) :
  Rel K ρ (upd G p o) H μ∧Tr ρ G0 H0 (upd G p o) H∧Ex G (upd G p o):=by
 have ex:Ex G (upd G p o):=Ex.new hg
 refine⟨⟨fun a u q=>?_,r.inj,fun n a q=>?_,r.lt,r.hs,fun n q z=>r.pmono (r.pl n q z) ex⟩,⟨t.exG.trans ex,t.keep,t.th,fun a q=>?_,t.fz⟩,ex⟩
 ·by_cases e:a=p
  ·subst e;rw[upd_same] at q;cases q;exact h
  ·rw[upd_ne e] at q;exact r.ex a u q
 ·have e:a≠p:=fun e=>hn n (e▸q)
  rw[upd_ne e];exact r.nG n a q
 ·by_cases e:a=p
  ·subst e;exact .inr h0
  ·rw[upd_ne e] at q;exact t.nG a q
theorem Rel.layD {μ:Mem}{p:Addr}{o:HO}(r:Rel K ρ G H μ)(hp:H p=none):Rel K ρ (upd G p o) (upd H p o) μ∧Tr ρ G H (upd G p o) (upd H p o)∧Ex G (upd G p o):=by
 have nG:G p=none:=by
  cases q:G p with
  | none=>rfl
  | some u=>rw[r.ex _ _ q] at hp;cases hp
 obtain⟨r1,t1⟩:=r.lay (o:=o) hp
 exact r1.freeze t1 upd_same hp nG fun n q=>r.hs n p q hp
end
structure EnvOk (K:PySem.W.Frag)(ρ:Pm)(G:Hp)(σ:Slots)(δ:Env):Prop where
 len:σ.length=δ.length
 at_:∀ (i:Nat) (x:DV),δ[i]?=some (some x)→∃ v,σ[i]?=some (some v)∧DvOk K ρ G v x
def RpR (K:PySem.W.Frag)(ρ:Pm)(G H0 H:Hp)(v:V):R→Prop
 | .dat d=>Rp K G v d
 | .loc n=>∃ a,v=.ref a∧ρ n=some a
 | .nl xs=>∃ a vs,v=.ref a∧H a=some (.lst vs)∧DvL K ρ G vs xs∧G a=none∧(∀ n,ρ n≠some a)∧H0 a=none
 | .nk kvs=>∃ (a:Addr) (o:HO) (vs:List V),v=.ref a∧H a=some o∧DctIs K G a o (kvs.map (·.1)) vs ∧
   DvL K ρ G vs (kvs.map (·.2))∧G a=none∧(∀ n,ρ n≠some a)∧H0 a=none
def XcOk (K:PySem.W.Frag)(G H:Hp)(x:Xc)(cls:Value)(d:Option Addr):Prop :=
 (∃ C,ClsAt K x.nm C∧cls=.ref C)∧((x.fs=[]∧d=none)∨x.fs≠[]∧∃ (a:Addr) (vs:List (Str×V)),d=some a∧G a=some (.xd vs) ∧
  vs.map (·.1)=x.fs.map (·.1)∧RpL K G (vs.map (·.2)) (x.fs.map (·.2)))
def PostG {α β:Type}(K:PySem.W.Frag)(W:WX)(ρ:Pm)(G H:Hp)(σ:Slots)(rp:Hp→Hp→β→α→Prop)(Q:β→Hp→Prop):Res α→Prop
 | .ok r μ'=>∀ G' H' v,Tr ρ G H G' H'→Rel K ρ G' H' μ'→rp G' H' v r→Q v H'
 | .exc x μ'=>∀ G' H' cls d,Tr ρ G H G' H'→Rel K ρ G' H' μ'→XcOk K G' H' x cls d→W cls d σ H'
 | .bad=>False
def SndG {α β:Type}(K:PySem.W.Frag)(W:WX)(t:Slots→Hp→(β→Hp→Prop)→Prop)(f:Env→Mem→Res α)
  (rp:Pm→Hp→Hp→Hp→β→α→Prop):Prop :=
 ∀ (ρ:Pm) (G H:Hp) (σ:Slots) (δ:Env) (μ:Mem) (Q:β→Hp→Prop),Rel K ρ G H μ→EnvOk K ρ G σ δ →
  PostG K W ρ G H σ (fun G' H'=>rp ρ G' H H') Q (f δ μ)→t σ H Q
abbrev rpE (K:PySem.W.Frag):Pm→Hp→Hp→Hp→V→R→Prop:=fun ρ G' H H' v r=>RpR K ρ G' H H' v r
abbrev rpV (K:PySem.W.Frag):Pm→Hp→Hp→Hp→V→DV→Prop:=fun ρ G' _ _ v x=>DvOk K ρ G' v x
abbrev rpA (K:PySem.W.Frag):Pm→Hp→Hp→Hp→List V→List DV→Prop:=fun ρ G' _ _ v x=>DvL K ρ G' v x
abbrev rpT {α:Type}:Pm→Hp→Hp→Hp→α→α→Prop:=fun _ _ _ _ v x=>v=x
abbrev EM:=Env→Mem→Res R
abbrev VM:=Env→Mem→Res DV
abbrev AM:=Env→Mem→Res (List DV)
abbrev TM:=Env→Mem→Res Bool
abbrev SndE (K:PySem.W.Frag)(W:WX)(t:TE)(f:EM):Prop:=SndG K W t f (rpE K)
abbrev SndV (K:PySem.W.Frag)(W:WX)(t:TE)(f:VM):Prop:=SndG K W t f (rpV K)
abbrev SndA (K:PySem.W.Frag)(W:WX)(t:TA)(f:AM):Prop:=SndG K W t f (rpA K)
abbrev SndT (K:PySem.W.Frag)(W:WX)(t:TT)(f:TM):Prop:=SndG K W t f rpT
section
variable {K:PySem.W.Frag}{W:WX}{ρ:Pm}{G H G1 H1:Hp}{σ:Slots}{δ:Env}{μ:Mem}
theorem EnvOk.mono (e:EnvOk K ρ G σ δ)(x:Ex G G1):EnvOk K ρ G1 σ δ :=
 ⟨e.len,fun i d h=>let ⟨v,a,b⟩:=e.at_ i d h;⟨v,a,b.mono x fun _ _ q=>q⟩⟩
theorem RpR.back {G' H':Hp}{v:V}(h:∀ a,H1 a=none→H a=none):∀ {r:R},RpR K ρ G' H1 H' v r→RpR K ρ G' H H' v r
 | .dat _,q=>q
 | .loc _,q=>q
 | .nl _,⟨a,vs,h1,h2,h3,h4,h5,h6⟩=>⟨a,vs,h1,h2,h3,h4,h5,h a h6⟩
 | .nk _,⟨a,o,vs,h1,h2,h2',h3,h4,h5,h6⟩=>⟨a,o,vs,h1,h2,h2',h3,h4,h5,h a h6⟩
theorem PostG.shift {α β:Type}{rp rp1:Hp→Hp→β→α→Prop}{Q:β→Hp→Prop}{out:Res α}(t:Tr ρ G H G1 H1)
  (hr:∀ G' H' v r,rp1 G' H' v r→rp G' H' v r) (h:PostG K W ρ G H σ rp Q out):PostG K W ρ G1 H1 σ rp1 Q out:=by
 cases out with
 | ok r μ'=>exact fun G' H' v t' R' q=>h G' H' v (t.trans t') R' (hr _ _ _ _ q)
 | exc x μ'=>exact fun G' H' cls d t' R' q=>h G' H' cls d (t.trans t') R' q
 | bad=>exact h
theorem PostG.shiftE {Q:VK}{out:Res R}(t:Tr ρ G H G1 H1)(h:PostG K W ρ G H σ (fun G' H'=>rpE K ρ G' H H') Q out) :
  PostG K W ρ G1 H1 σ (fun G' H'=>rpE K ρ G' H1 H') Q out:=h.shift t fun _ _ _ _ q=>q.back t.th
theorem SndG.seq {α α' β β':Type}{t:Slots→Hp→(β→Hp→Prop)→Prop}{f:Env→Mem→Res α}{rp:Pm→Hp→Hp→Hp→β→α→Prop}
  (h:SndG K W t f rp) (R:Rel K ρ G H μ) (E:EnvOk K ρ G σ δ) {rp':Hp→Hp→β'→α'→Prop} {Q':β'→Hp→Prop} {k:α→Mem→Res α'}
  (hp:PostG K W ρ G H σ rp' Q' ((f δ μ).bind k)) {Q:β→Hp→Prop}
  (go:∀ r μ' G' H' v,Tr ρ G H G' H'→Rel K ρ G' H' μ'→EnvOk K ρ G' σ δ→rp ρ G' H H' v r→PostG K W ρ G H σ rp' Q' (k r μ')→Q v H'):t σ H Q:=by
 refine h ρ G H σ δ μ Q R E ?_
 cases e:f δ μ with
 | ok r μ'=>rw[e] at hp;exact fun G' H' v t' R' q=>go r μ' G' H' v t' R' (E.mono t'.exG) q hp
 | exc x μ'=>rw[e] at hp;exact hp
 | bad=>rw[e] at hp;exact hp
def allDat:List DV→Option (List D)
 | []=>some []
 | .dat d::xs=>(allDat xs).map (d::·)
 | .loc _::_=>none
def frz:R→Option DV
 | .dat d=>some (.dat d)
 | .loc n=>some (.loc n)
 | .nl xs=>(allDat xs).map fun ds=>.dat (.lst ds)
 | .nk _=>none
theorem allDat_map (ds:List D):allDat (ds.map DV.dat)=some ds:=by
 induction ds with
 | nil=>rfl
 | cons d r ih=>simp[allDat,ih]
theorem allDat_ok:∀ {xs:List DV} {ds:List D} {vs:List V},allDat xs=some ds→DvL K ρ G vs xs→RpL K G vs ds
 | [],_,_,h,r=>by cases h;cases r;exact .nil
 | .dat d::xs,ds,vs,h,r=>by
  cases r with
  | cons r1 r2 =>
   simp only[allDat] at h
   cases e:allDat xs with
   | none=>rw[e] at h;cases h
   | some es=>rw[e] at h;cases h;exact .cons r1 (allDat_ok e r2)
 | .loc _::_,_,_,h,_=>by cases h
def frzV (f:EM):VM:=fun δ μ=>(f δ μ).bind fun r μ'=>match frz r with
 | some x=>.ok x μ'
 | none=>.bad
theorem RpR.frz {G0 H0:Hp}{v:V}{r:R}{x:DV}(h:RpR K ρ G H0 H v r)(R:Rel K ρ G H μ)(t:Tr ρ G0 H0 G H)(e:frz r=some x) :
  ∃ G',Tr ρ G0 H0 G' H∧Rel K ρ G' H μ∧DvOk K ρ G' v x∧Ex G G':=by
 cases r with
 | dat d=>cases e;exact⟨G,t,R,h,Ex.refl _⟩
 | loc n=>cases e;exact⟨G,t,R,h,Ex.refl _⟩
 | nl xs =>
  obtain⟨a,vs,rfl,h2,h3,h4,h5,h6⟩:=h
  simp only[DL.frz] at e
  cases q:allDat xs with
  | none=>rw[q] at e;cases e
  | some ds =>
   rw[q] at e;cases e
   obtain⟨R',t',ex⟩:=R.freeze t h2 h6 h4 h5
   exact⟨_,t',R',Rp.lst upd_same (RpL.mono ex (allDat_ok q h3)),ex⟩
 | nk kvs=>cases e
theorem SndE.toV {t:TE}{f:EM}(h:SndE K W t f):SndV K W t (frzV f):=fun ρ G H σ δ μ Q R E hp=>by
 refine SndG.seq (t:=t) h R E hp fun r μ' G' H' v t' R' E' q hp'=>?_
 cases e:frz r with
 | none=>rw[e] at hp';exact hp'.elim
 | some x =>
  rw[e] at hp'
  obtain⟨G2,t2,R2,d2,_⟩:=RpR.frz q R' t' e
  exact hp' G2 H' v t2 R2 d2
def ofV (x:DV):R:=match x with
 | .dat d=>.dat d
 | .loc n=>.loc n
theorem RpR.ofV {H0:Hp}{v:V}{x:DV}(h:DvOk K ρ G v x):RpR K ρ G H0 H v (ofV x):=by
 cases x <;> exact h
end
structure PM (X:Cx)(W:WX)(e:Expr)(te:TE)(f:EM):Prop where
 pe:PE X e te
 sd:SndE X.K W te f
structure PMA (X:Cx)(W:WX)(es:List Expr)(ta:TA)(f:AM):Prop where
 pe:PA X es ta
 sd:SndA X.K W ta f
structure PMT (X:Cx)(W:WX)(e:Expr)(tt:TT)(f:TM):Prop where
 pe:PT X e tt
 sd:SndT X.K W tt f
section
variable {X:Cx}{W:WX}
def eVar (i:Nat):EM:=fun δ μ=>match δ[i]? with
 | some (some x)=>.ok (ofV x) μ
 | _=>.bad
def eD (d:D):EM:=fun _ μ=>.ok (.dat d) μ
theorem snd_var {K:PySem.W.Frag}(i:Nat):SndE K W (tVar i) (eVar i):=fun ρ G H σ δ μ Q R E hp=>by
 unfold eVar at hp
 match e:δ[i]? with
 | none=>rw[e] at hp;exact hp.elim
 | some none=>rw[e] at hp;exact hp.elim
 | some (some x) =>
  rw[e] at hp
  obtain⟨v,hv,d⟩:=E.at_ i x e
  exact⟨v,hv,hp G H v (Tr.refl _ _ _) R (RpR.ofV d)⟩
theorem snd_c {K:PySem.W.Frag}{v:V}{d:D}(h:∀ G,Rp K G v d):SndE K W (tC v) (eD d):=fun ρ G H σ δ μ Q R E hp =>
 hp G H v (Tr.refl _ _ _) R (h G)
theorem pm_var (i:Nat){x:Str}{pos:Pos}(hN:X.N[i]?=some x:=by rfl)(hv:Vis X.env.scope x:=by first|exact Or.inl rfl|exact Or.inr (Or.inl rfl)|exact Or.inr (Or.inr rfl))
  (hd:(x==("__debug__":Str))=false:=by decide) (hcd:(x==("__classdict__":Str))=false:=by decide):PM X W (.Name x pos) (tVar i) (eVar i):=⟨pe_var hN hv hd hcd,snd_var i⟩
theorem pm_int {i j pos}:PM X W (.Constant (.int i) j pos) (tC (.int i)) (eD (.int i)):=⟨pe_int,snd_c fun _=>.int i⟩
theorem pm_str {s j pos}:PM X W (.Constant (.str s) j pos) (tC (.str s)) (eD (.str s)):=⟨pe_str,snd_c fun _=>.str s⟩
theorem pm_bl {b j pos}:PM X W (.Constant (.bool b) j pos) (tC (.bl b)) (eD (.bl b)):=⟨pe_bl,snd_c fun _=>.bl b⟩
theorem pm_non {j pos}:PM X W (.Constant .none j pos) (tC .non) (eD .non):=⟨pe_non,snd_c fun _=>.non⟩
theorem pm_glob {x:Str} {v:V} {u:Value} {pos:Pos} {d:D} (hg:Gl X x) (hm:X.mg x=some u) (r:RelV v u) (h:∀ G,Rp X.K G v d) (hd:(x==("__debug__":Str))=false:=by decide):PM X W (.Name x pos) (tC v) (eD d):=⟨pe_glob hg hm r hd,snd_c h⟩
def aNil:AM:=fun _ μ=>.ok [] μ
def aCons (f:EM)(g:AM):AM:=fun δ μ=>(frzV f δ μ).bind fun x μ1=>(g δ μ1).bind fun xs μ2=>.ok (x::xs) μ2
theorem snd_nil {K:PySem.W.Frag}:SndA K W tNil aNil:=fun ρ G H σ δ μ Q R E hp=>hp G H [] (Tr.refl _ _ _) R .nil
theorem snd_cons {K:PySem.W.Frag}{t:TE}{ts:TA}{f:EM}{g:AM}(h:SndE K W t f)(hs:SndA K W ts g):SndA K W (tCons t ts) (aCons f g):=fun ρ G H σ δ μ Q R E hp=>by
 refine SndG.seq (t:=t) h.toV R E hp fun x μ1 G1 H1 v t1 R1 E1 d1 hp1=>?_
 refine SndG.seq (t:=ts) hs R1 E1 (hp1.shift t1 fun _ _ _ _ q=>q) fun xs μ2 G2 H2 vs t2 R2 E2 d2 hp2=>?_
 exact hp2 G2 H2 (v::vs) t2 R2 (.cons (d1.mono t2.exG fun _ _ q=>q) d2)
theorem pma_nil:PMA X W [] tNil aNil:=⟨pa_nil,snd_nil⟩
theorem pma_cons {e:Expr}{es:List Expr}{t:TE}{ts:TA}{f:EM}{g:AM}(h:PM X W e t f)(hs:PMA X W es ts g)(hst:starEach (e::es) X.env=(false,eval e X.env)::starEach es X.env:=by rfl):PMA X W (e::es) (tCons t ts) (aCons f g) :=
 ⟨pa_cons h.pe hs.pe hst,snd_cons h.sd hs.sd⟩
def eTup (g:AM):EM:=fun δ μ=>(g δ μ).bind fun xs μ1=>match allDat xs with
 | some ds=>if ds.length≤sizeLine then .ok (.dat (.tup ds)) μ1 else .bad
 | none=>.bad
def eLst (g:AM):EM:=fun δ μ=>(g δ μ).bind fun xs μ1=>if xs.length≤sizeLine then .ok (.nl xs) μ1 else .bad
theorem pm_tup {es:List Expr}{x1}{pos:Pos}{ts:TA}{g:AM}(h:PMA X W es ts g):PM X W (.Tuple es x1 pos) (tTup ts) (eTup g):=⟨pe_tup h.pe,fun ρ G H σ δ μ Q R E hp=>by
 refine SndG.seq (t:=ts) h.sd R E hp fun xs μ1 G1 H1 vs t1 R1 E1 d1 hp1=>?_
 match e:allDat xs with
 | none=>simp only[e] at hp1;exact hp1.elim
 | some ds =>
  simp only[e] at hp1
  have rl:=allDat_ok e d1
  by_cases hz:ds.length≤sizeLine
  ·rw[if_pos hz] at hp1
   refine⟨by rw[rl.length];exact hz,fun p hn=>?_⟩
   obtain⟨R2,t2,ex⟩:=R1.layD (o:=.tup vs) hn
   exact hp1 _ _ _ (t1.trans t2) R2 (Rp.tup (.inl (.inl upd_same)) (rl.mono ex))
  ·rw[if_neg hz] at hp1;exact hp1.elim⟩
theorem fresh_ne {K:PySem.W.Frag}{ρ:Pm}{G H:Hp}{μ:Mem}{p:Addr}(R:Rel K ρ G H μ)(hp:H p=none):G p=none∧∀ n,ρ n≠some p:=by
 refine⟨?_,fun n q=>R.hs n p q hp⟩
 cases q:G p with
 | none=>rfl
 | some u=>rw[R.ex _ _ q] at hp;cases hp
theorem paired_len {α β:Type}{P:α→β→Prop}:∀ {l:List α} {m:List β},Paired P l m→l.length=m.length
 | _,_,.nil=>rfl
 | _,_,.cons _ t=>congrArg (·+1) (paired_len t)
theorem new_list {K:PySem.W.Frag}{ρ:Pm}{G H G0 H0:Hp}{μ:Mem}{p:Addr}{vs:List V}{xs:List DV}{σ:Slots}{Q:VK}(R:Rel K ρ G H μ)(t:Tr ρ G0 H0 G H)(hn:H p=none)(d:DvL K ρ G vs xs)
  (hp:PostG K W ρ G0 H0 σ (fun G' H'=>rpE K ρ G' H0 H') Q (.ok (.nl xs) μ)):Q (.ref p) (upd H p (.lst vs)):=by
 obtain⟨R2,t2⟩:=R.lay (o:=.lst vs) hn
 obtain⟨n1,n2⟩:=fresh_ne R hn
 exact hp _ _ _ (t.trans t2) R2 ⟨p,vs,rfl,upd_same,d,n1,n2,t.th p hn⟩
theorem pm_lst {es:List Expr}{pos:Pos}{ts:TA}{g:AM}(h:PMA X W es ts g):PM X W (.List es pos) (tLst ts) (eLst g):=⟨pe_lst h.pe,fun ρ G H σ δ μ Q R E hp=>by
 refine SndG.seq (t:=ts) h.sd R E hp fun xs μ1 G1 H1 vs t1 R1 E1 d1 hp1=>?_
 by_cases hz:xs.length≤sizeLine
 ·rw[if_pos hz] at hp1
  exact⟨by rw[paired_len d1];exact hz,fun p hn=>new_list R1 t1 hn d1 hp1⟩
 ·rw[if_neg hz] at hp1;exact hp1.elim⟩
def OpD (K:PySem.W.Frag)(r:R2)(g:DV→DV→Mem→Res R):Prop:=∀ (W:WX) (ρ:Pm) (G H:Hp) (σ:Slots) (μ:Mem) (v w:V) (x y:DV) (Q:VK),Rel K ρ G H μ→DvOk K ρ G v x→DvOk K ρ G w y →
 PostG K W ρ G H σ (fun G' H'=>rpE K ρ G' H H') Q (g x y μ)→r v w H Q
def eOp (g:DV→DV→Mem→Res R)(fa fb:EM):EM:=fun δ μ=>(frzV fa δ μ).bind fun x μ1=>(frzV fb δ μ1).bind fun y μ2=>g x y μ2
theorem snd_op {K:PySem.W.Frag}{r:R2}{g:DV→DV→Mem→Res R}{ta tb:TE}{fa fb:EM}(ho:OpD K r g)(ha:SndE K W ta fa)(hb:SndE K W tb fb):SndE K W (tOp r ta tb) (eOp g fa fb):=fun ρ G H σ δ μ Q R E hp=>by
 refine SndG.seq (t:=ta) ha.toV R E hp fun x μ1 G1 H1 v t1 R1 E1 d1 hp1=>?_
 refine SndG.seq (t:=tb) hb.toV R1 E1 (hp1.shiftE t1) fun y μ2 G2 H2 w t2 R2 E2 d2 hp2=>?_
 exact ho W ρ G2 H2 σ μ2 v w x y Q R2 (d1.mono t2.exG fun _ _ q=>q) d2 (hp2.shiftE t2)
def CallD (K:PySem.W.Frag)(r:List V→Hp→VK→Prop)(g:List DV→Mem→Res R):Prop:=∀ (W:WX) (ρ:Pm) (G H:Hp) (σ:Slots) (μ:Mem) (vs:List V) (xs:List DV) (Q:VK),Rel K ρ G H μ→DvL K ρ G vs xs →
 PostG K W ρ G H σ (fun G' H'=>rpE K ρ G' H H') Q (g xs μ)→r vs H Q
def eCB (g:List DV→Mem→Res R)(fa:AM):EM:=fun δ μ=>(fa δ μ).bind fun xs μ1=>g xs μ1
theorem snd_cb {K:PySem.W.Frag}{r:List V→Hp→VK→Prop}{g:List DV→Mem→Res R}{ta:TA}{fa:AM}(ho:CallD K r g)(ha:SndA K W ta fa):SndE K W (tCB r ta) (eCB g fa):=fun ρ G H σ δ μ Q R E hp=>by
 refine SndG.seq (t:=ta) ha R E hp fun xs μ1 G1 H1 vs t1 R1 E1 d1 hp1=>?_
 exact ho W ρ G1 H1 σ μ1 vs xs Q R1 d1 (hp1.shiftE t1)
theorem pm_op {a b:Expr}{op:Operator}{r:R2}{g:DV→DV→Mem→Res R}{ta tb:TE}{fa fb:EM}{pos:Pos}(ho:OpR X (binaryOp op) r)(hd:OpD X.K r g)(ha:PM X W a ta fa)(hb:PM X W b tb fb):PM X W (.BinOp a op b pos) (tOp r ta tb) (eOp g fa fb) :=
 ⟨pe_op ho ha.pe hb.pe,snd_op hd ha.sd hb.sd⟩
theorem pm_cmp {a b:Expr}{op:CmpOp}{r:R2}{g:DV→DV→Mem→Res R}{ta tb:TE}{fa fb:EM}{pos:Pos}(ho:OpR X (compareOp op) r)(hd:OpD X.K r g)(ha:PM X W a ta fa)(hb:PM X W b tb fb)(hm:behindInMarks op b=false):PM X W (.Compare a [op] [b] pos) (tOp r ta tb) (eOp g fa fb) :=
 ⟨pe_cmpR ho ha.pe hb.pe hm,snd_op hd ha.sd hb.sd⟩
theorem pm_ix {a b:Expr}{r:R2}{g:DV→DV→Mem→Res R}{ta tb:TE}{fa fb:EM}{pos:Pos}(ho:IxR X r)(hd:OpD X.K r g)(ha:PM X W a ta fa)(hb:PM X W b tb fb)(hs:PlainIx b):PM X W (.Subscript a b pos) (tOp r ta tb) (eOp g fa fb) :=
 ⟨pe_ix ho ha.pe hb.pe hs,snd_op hd ha.sd hb.sd⟩
end
inductive Out where
 | next (δ:Env) (μ:Mem)|ret (r:R) (μ:Mem)|brk (δ:Env) (μ:Mem)|cnt (δ:Env) (μ:Mem)
 | exc (x:Xc) (δ:Env) (μ:Mem)|bad
abbrev SM:=Nat→Env→Mem→Out
structure TrS (N:Nat)(ρ:Pm)(G H:Hp)(ρ':Pm)(G' H':Hp):Prop where
 pre:∀ n,n<N→ρ' n=ρ n
 exG:Ex G G'
 keep:∀ a o,(∀ n,ρ n≠some a)→H a=some o→H' a=some o
 th:∀ a,H' a=none→H a=none
 nG:∀ a,G' a≠none→G a≠none∨H a=none∨∃ n,N≤n∧ρ n=some a
 nρ:∀ n a,ρ' n=some a→(ρ n=some a∨∃ m,N≤m∧ρ m=some a)∨H a=none
 fz:∀ a od u,H a=some (.frz od u)→H' a=some (.frz od u)
section
variable {K:PySem.W.Frag}{W:WX}{N:Nat}{ρ ρ1 ρ2:Pm}{G H G1 H1 G2 H2:Hp}{σ:Slots}{δ:Env}{μ:Mem}{D:Ends}
theorem TrS.refl (N:Nat)(ρ:Pm)(G H:Hp):TrS N ρ G H ρ G H:=⟨fun _ _=>rfl,Ex.refl _,fun _ _ _ h=>h,fun _ h=>h,fun _ h=>.inl h,fun _ _ h=>.inl (.inl h),fun _ _ _ h=>h⟩
theorem TrS.trans (a:TrS N ρ G H ρ1 G1 H1)(b:TrS N ρ1 G1 H1 ρ2 G2 H2):TrS N ρ G H ρ2 G2 H2 where
 pre:=fun n h=>(b.pre n h).trans (a.pre n h)
 exG:=a.exG.trans b.exG
 keep:=fun c o hc h=>b.keep c o (fun n q=>(a.nρ n c q).elim (fun z=>z.elim (hc n) fun⟨m,_,w⟩=>hc m w) fun z=>by rw[z] at h;cases h) (a.keep c o hc h)
 th:=fun c h=>a.th c (b.th c h)
 nG:=fun c h=>(b.nG c h).elim (a.nG c) fun q=>q.elim (fun q=>.inr (.inl (a.th c q))) fun⟨n,hn,q⟩=>(a.nρ n c q).elim (fun z=>.inr (.inr (z.elim (fun z=>⟨n,hn,z⟩) id))) fun z=>.inr (.inl z)
 nρ:=fun n c h=>(b.nρ n c h).elim (fun z=>z.elim (a.nρ n c) fun⟨m,hm,w⟩=>(a.nρ m c w).imp_left fun z=>.inr (z.elim (fun z=>⟨m,hm,z⟩) id)) fun q=>.inr (a.th c q)
 fz:=fun c od u h=>b.fz c od u (a.fz c od u h)
theorem Tr.toS (t:Tr ρ G H G1 H1):TrS N ρ G H ρ G1 H1 :=
 ⟨fun _ _=>rfl,t.exG,t.keep,t.th,fun a h=>(t.nG a h).elim .inl fun q=>.inr (.inl q),fun _ _ h=>.inl (.inl h),t.fz⟩
def PostS (K:PySem.W.Frag)(W:WX)(N:Nat)(ρ:Pm)(G H:Hp)(D:Ends):Out→Prop
 | .next δ' μ'=>∀ ρ' G' H' σ',TrS N ρ G H ρ' G' H'→Rel K ρ' G' H' μ'→EnvOk K ρ' G' σ' δ'→D.nx σ' H'
 | .ret r μ'=>∀ ρ' G' H' v,TrS N ρ G H ρ' G' H'→Rel K ρ' G' H' μ'→RpR K ρ' G' H H' v r→D.rt v H'
 | .brk δ' μ'=>∀ ρ' G' H' σ',TrS N ρ G H ρ' G' H'→Rel K ρ' G' H' μ'→EnvOk K ρ' G' σ' δ'→D.bk σ' H'
 | .cnt δ' μ'=>∀ ρ' G' H' σ',TrS N ρ G H ρ' G' H'→Rel K ρ' G' H' μ'→EnvOk K ρ' G' σ' δ'→D.ct σ' H'
 | .exc x δ' μ'=>∀ ρ' G' H' σ' cls d,TrS N ρ G H ρ' G' H'→Rel K ρ' G' H' μ'→EnvOk K ρ' G' σ' δ'→XcOk K G' H' x cls d→W cls d σ' H'
 | .bad=>False
def SndS (K:PySem.W.Frag)(W:WX)(t:TS)(g:SM):Prop :=
 ∀ (N:Nat) (ρ:Pm) (G H:Hp) (σ:Slots) (δ:Env) (μ:Mem) (D:Ends),Rel K ρ G H μ→EnvOk K ρ G σ δ →
  PostS K W N ρ G H D (g N δ μ)→t D σ H
theorem PostS.shift {out:Out}(t:TrS N ρ G H ρ1 G1 H1)(h:PostS K W N ρ G H D out):PostS K W N ρ1 G1 H1 D out:=by
 cases out with
 | next δ' μ'=>exact fun ρ' G' H' σ' t'=>h ρ' G' H' σ' (t.trans t')
 | ret r μ'=>exact fun ρ' G' H' v t' R' q=>h ρ' G' H' v (t.trans t') R' (q.back t.th)
 | brk δ' μ'=>exact fun ρ' G' H' σ' t'=>h ρ' G' H' σ' (t.trans t')
 | cnt δ' μ'=>exact fun ρ' G' H' σ' t'=>h ρ' G' H' σ' (t.trans t')
 | exc x δ' μ'=>exact fun ρ' G' H' σ' cls d t'=>h ρ' G' H' σ' cls d (t.trans t')
 | bad=>exact h
theorem SndG.stm {α β:Type}{t:Slots→Hp→(β→Hp→Prop)→Prop}{f:Env→Mem→Res α}{rp:Pm→Hp→Hp→Hp→β→α→Prop}
  (h:SndG K W t f rp) (R:Rel K ρ G H μ) (E:EnvOk K ρ G σ δ) {k:α→Mem→Out}
  (hp:PostS K W N ρ G H D (match f δ μ with | .ok r μ'=>k r μ' | .exc x μ'=>.exc x δ μ' | .bad=>.bad)) {Q:β→Hp→Prop}
  (go:∀ r μ' G' H' v,Tr ρ G H G' H'→Rel K ρ G' H' μ'→EnvOk K ρ G' σ δ→rp ρ G' H H' v r→PostS K W N ρ G H D (k r μ')→Q v H'):t σ H Q:=by
 refine h ρ G H σ δ μ Q R E ?_
 cases e:f δ μ with
 | ok r μ'=>rw[e] at hp;exact fun G' H' v t' R' q=>go r μ' G' H' v t' R' (E.mono t'.exG) q hp
 | exc x μ'=>rw[e] at hp;exact fun G' H' cls d t' R' q=>hp ρ G' H' σ cls d t'.toS R' (E.mono t'.exG) q
 | bad=>rw[e] at hp;exact hp
def lift {α:Type}(r:Res α)(δ:Env)(k:α→Mem→Out):Out:=match r with
 | .ok a μ=>k a μ
 | .exc x μ=>.exc x δ μ
 | .bad=>.bad
def gNext:SM:=fun _ δ μ=>.next δ μ
def gSeq (g h:SM):SM:=fun N δ μ=>match g N δ μ with
 | .next δ' μ'=>h N δ' μ'
 | .ret r μ'=>.ret r μ'
 | .brk δ' μ'=>.brk δ' μ'
 | .cnt δ' μ'=>.cnt δ' μ'
 | .exc x δ' μ'=>.exc x δ' μ'
 | .bad=>.bad
theorem snd_next:SndS K W tNext gNext:=fun N ρ G H σ δ μ D R E hp=>hp ρ G H σ (TrS.refl _ _ _ _) R E
theorem snd_seq {t u:TS}{g h:SM}(h1:SndS K W t g)(h2:SndS K W u h):SndS K W (tSeq t u) (gSeq g h):=fun N ρ G H σ δ μ D R E hp=>by
 refine h1 N ρ G H σ δ μ { D with nx:=u D } R E ?_
 unfold gSeq at hp
 cases e:g N δ μ with
 | next δ' μ'=>rw[e] at hp;exact fun ρ' G' H' σ' t' R' E'=>h2 N ρ' G' H' σ' δ' μ' D R' E' (hp.shift t')
 | ret r μ'=>rw[e] at hp;exact hp
 | brk δ' μ'=>rw[e] at hp;exact hp
 | cnt δ' μ'=>rw[e] at hp;exact hp
 | exc x δ' μ'=>rw[e] at hp;exact hp
 | bad=>rw[e] at hp;exact hp
theorem EnvOk.set {v:V}{x:DV}(i:Nat)(E:EnvOk K ρ G σ δ)(h:DvOk K ρ G v x):EnvOk K ρ G (σ.set i (some v)) (δ.set i (some x)):=by
 refine⟨by simp[E.len],fun j y hj=>?_⟩
 by_cases e:i=j
 ·subst e
  have hl:i<δ.length:=by
   by_cases hl:i<δ.length
   ·exact hl
   ·rw[List.getElem?_eq_none (by simp;omega)] at hj;cases hj
  rw[List.getElem?_set_self hl] at hj
  cases hj
  exact⟨v,List.getElem?_set_self (by rw[E.len];exact hl),h⟩
 ·rw[List.getElem?_set_ne e] at hj
  obtain⟨w,h1,h2⟩:=E.at_ j y hj
  exact⟨w,by rw[List.getElem?_set_ne e];exact h1,h2⟩
def gAsg (i:Nat)(f:EM):SM:=fun _ δ μ=>lift (frzV f δ μ) δ fun x μ'=>.next (δ.set i (some x)) μ'
theorem snd_asg {te:TE}{f:EM}(i:Nat)(h:SndE K W te f):SndS K W (tAsg te (gName i)) (gAsg i f):=fun N ρ G H σ δ μ D R E hp =>
 SndG.stm (t:=te) h.toV R E hp fun x μ' G' H' v t' R' E' d hp'=>hp' ρ G' H' _ t'.toS R' (E'.set i d)
def gDrop (f:EM):SM:=fun _ δ μ=>lift (f δ μ) δ fun _ μ'=>.next δ μ'
theorem snd_drop {te:TE}{f:EM}(h:SndE K W te f):SndS K W (tDrop te) (gDrop f):=fun N ρ G H σ δ μ D R E hp =>
 SndG.stm (t:=te) h R E hp fun x μ' G' H' v t' R' E' d hp'=>hp' ρ G' H' _ t'.toS R' E'
def gRet (f:EM):SM:=fun _ δ μ=>lift (f δ μ) δ fun r μ'=>.ret r μ'
theorem snd_ret {te:TE}{f:EM}(h:SndE K W te f):SndS K W (tRet te) (gRet f):=fun N ρ G H σ δ μ D R E hp =>
 SndG.stm (t:=te) h R E hp fun x μ' G' H' v t' R' E' d hp'=>hp' ρ G' H' _ t'.toS R' d
def gIf (f:TM)(g h:SM):SM:=fun N δ μ=>lift (f δ μ) δ fun b μ'=>if b=true then g N δ μ' else h N δ μ'
theorem snd_if {tc:TT}{t u:TS}{f:TM}{g h:SM}(hc:SndT K W tc f)(h1:SndS K W t g)(h2:SndS K W u h):SndS K W (tIfS tc t u) (gIf f g h):=fun N ρ G H σ δ μ D R E hp=>by
 refine SndG.stm (t:=tc) hc R E hp fun b μ' G' H' v t' R' E' d hp'=>?_
 subst d
 cases v with
 | true=>exact h1 N ρ G' H' σ δ μ' D R' E' (PostS.shift t'.toS hp')
 | false=>exact h2 N ρ G' H' σ δ μ' D R' E' (PostS.shift t'.toS hp')
theorem DvOk.below {v:V}{x:DV}(R:Rel K ρ G H μ)(h:DvOk K ρ G v x):x.below μ.length:=by
 cases x with
 | dat d=>trivial
 | loc n=>obtain⟨a,_,q⟩:=h;exact R.lt n a q
theorem DvL.below {vs:List V}{xs:List DV}(R:Rel K ρ G H μ)(h:DvL K ρ G vs xs):∀ x∈xs,x.below μ.length:=by
 intro x hx
 induction h with
 | nil=>cases hx
 | cons r _ ih =>
  rcases List.mem_cons.mp hx with e|e
  ·rw[e];exact DvOk.below R r
  ·exact ih e
def addP (ρ:Pm)(n:Nat)(a:Addr):Pm:=fun m=>if m=n then some a else ρ m
theorem Rel.alloc {ρ0:Pm}{G0 H0:Hp}{a:Addr}{p:Pl}(R:Rel K ρ G H μ)(hN:N≤μ.length)(t:TrS N ρ0 G0 H0 ρ G H)(hs:H a≠none)(hg:G a=none)(hn:∀ n,ρ n≠some a)(h0:H0 a=none)
  (hp:PlOk K (addP ρ μ.length a) G H μ.length p):Rel K (addP ρ μ.length a) G H (μ++[p])∧TrS N ρ0 G0 H0 (addP ρ μ.length a) G H∧(∀ n b,ρ n=some b→addP ρ μ.length a n=some b)∧addP ρ μ.length a μ.length=some a:=by
 have up:∀ n b,ρ n=some b→addP ρ μ.length a n=some b:=fun n b q=>by
  unfold addP;rw[if_neg (Nat.ne_of_lt (R.lt n b q))];exact q
 have dn:∀ n b,addP ρ μ.length a n=some b→(n=μ.length∧b=a)∨ρ n=some b:=fun n b q=>by
  unfold addP at q
  by_cases e:n=μ.length
  ·rw[if_pos e] at q;exact .inl ⟨e,(Option.some.inj q).symm⟩
  ·rw[if_neg e] at q;exact .inr q
 refine⟨⟨R.ex,fun m n b h1 h2=>?_,fun n b h=>?_,fun n b h=>?_,fun n b h=>?_,fun n q h=>?_⟩,⟨fun n h=>?_,t.exG,t.keep,t.th,t.nG,fun n b q=>?_,t.fz⟩,up,by unfold addP;rw[if_pos rfl]⟩
 ·rcases dn m b h1 with⟨e1,e2⟩|q1
  ·rcases dn n b h2 with⟨e3,_⟩|q2
   ·rw[e1,e3]
   ·exact absurd (e2▸q2) (hn n)
  ·rcases dn n b h2 with⟨_,e4⟩|q2
   ·exact absurd (e4▸q1) (hn m)
   ·exact R.inj m n b q1 q2
 ·rcases dn n b h with⟨_,e⟩|q
  ·rw[e];exact hg
  ·exact R.nG n b q
 ·rw[List.length_append,List.length_singleton]
  rcases dn n b h with⟨e,_⟩|q
  ·omega
  ·have:=R.lt n b q;omega
 ·rcases dn n b h with⟨_,e⟩|q
  ·rw[e];exact hs
  ·exact R.hs n b q
 ·by_cases e:n<μ.length
  ·rw[List.getElem?_append_left e] at h
   have z:=R.pl n q h
   cases q with
   | lst xs=>obtain⟨b,c,vs,h1,h2,h3⟩:=z;exact⟨b,c,vs,up _ _ h1,h2,DvL.mono (Ex.refl _) up h3⟩
   | dct xs=>obtain⟨b,c,o,vs,h1,h2,h4,h3⟩:=z;exact⟨b,c,o,vs,up _ _ h1,h2,h4,DvL.mono (Ex.refl _) up h3⟩
   | lkd xs=>obtain⟨b,c,o,vs,h1,h2,h4,h3⟩:=z;exact⟨b,c,o,vs,up _ _ h1,h2,h4,DvL.mono (Ex.refl _) up h3⟩
   | lkl xs=>obtain⟨b,c,o,vs,h1,h2,h3⟩:=z;exact⟨b,c,o,vs,up _ _ h1,h2,DvL.mono (Ex.refl _) up h3⟩
   | tp xs=>obtain⟨b,c,o,vs,h1,h2,h3⟩:=z;exact⟨b,c,o,vs,up _ _ h1,h2,DvL.mono (Ex.refl _) up h3⟩
   | own=>obtain⟨a,b,h1,h2⟩:=z;exact⟨a,b,up _ _ h1,h2⟩
   | ins nm fs=>obtain⟨b,c,dx,C,vs,m,hm,h1,h2,cl,h4,h5,h3⟩:=z;exact⟨b,c,dx,C,vs,m,⟨hm.1,up _ _ hm.2⟩,up _ _ h1,h2,cl,h4,h5,DvL.mono (Ex.refl _) up h3⟩
   | gone=>show addP ρ μ.length a n=none;unfold addP;rw[if_neg (by omega)];exact z
  ·rw[List.getElem?_append_right (by omega)] at h
   have e2:n=μ.length:=by
    cases k:n - μ.length with
    | zero=>omega
    | succ j=>rw[k] at h;simp at h
   subst e2
   rw[Nat.sub_self] at h
   cases h
   exact hp
 ·unfold addP;rw[if_neg (by omega)];exact t.pre n h
 ·rcases dn n b q with⟨_,e⟩|q
  ·rw[e];exact .inr h0
  ·exact t.nρ n b q
def bindR (N i:Nat)(r:R)(δ:Env)(μ:Mem):Out:=match r with
 | .dat d=>.next (δ.set i (some (.dat d))) μ
 | .loc n=>.next (δ.set i (some (.loc n))) μ
 | .nl xs=>if N≤μ.length then .next (δ.set i (some (.loc μ.length))) (μ++[.lst xs]) else .bad
 | .nk kvs=>if N≤μ.length then .next (δ.set i (some (.loc μ.length))) (μ++[.dct kvs]) else .bad
theorem EnvOk.up (E:EnvOk K ρ G σ δ)(x:Ex G G1)(up:∀ n b,ρ n=some b→ρ1 n=some b):EnvOk K ρ1 G1 σ δ :=
 ⟨E.len,fun i y h=>let ⟨v,a,b⟩:=E.at_ i y h;⟨v,a,b.mono x up⟩⟩
theorem snd_bindR {r:R}{v:V}{G0 H0:Hp}(i:Nat)(R':Rel K ρ G H μ)(E':EnvOk K ρ G σ δ)(t':TrS N ρ G0 H0 ρ G H)(d:RpR K ρ G H0 H v r)
  (hp:PostS K W N ρ G0 H0 D (bindR N i r δ μ)):D.nx (σ.set i (some v)) H:=by
 cases r with
 | dat d'=>exact hp ρ G H _ t' R' (E'.set i (x:=.dat d') d)
 | loc n=>exact hp ρ G H _ t' R' (E'.set i (x:=.loc n) d)
 | nl xs =>
  obtain⟨a,vs,rfl,h2,h3,h4,h5,h6⟩:=d
  have up:∀ n b,ρ n=some b→addP ρ μ.length a n=some b:=fun n b q=>by
   unfold addP;rw[if_neg (Nat.ne_of_lt (R'.lt n b q))];exact q
  unfold bindR at hp
  by_cases hN:N≤μ.length
  case neg=>simp only[if_neg hN] at hp;exact hp.elim
  simp only[if_pos hN] at hp
  obtain⟨R2,t2,up,at_⟩:=R'.alloc (p:=.lst xs) hN t' (by rw[h2];simp) h4 h5 h6 ⟨DvL.below R' h3,a,vs,by unfold addP;rw[if_pos rfl],h2,DvL.mono (Ex.refl _) up h3⟩
  exact hp _ G H _ t2 R2 ((E'.up (Ex.refl _) up).set i (x:=.loc μ.length) ⟨a,rfl,at_⟩)
 | nk kvs =>
  obtain⟨a,o,vs,rfl,h2,hk,h3,h4,h5,h6⟩:=d
  have up:∀ n b,ρ n=some b→addP ρ μ.length a n=some b:=fun n b q=>by
   unfold addP;rw[if_neg (Nat.ne_of_lt (R'.lt n b q))];exact q
  have bl:∀ p∈kvs,p.2.below μ.length:=fun p hp=>DvL.below R' h3 p.2 (List.mem_map.mpr ⟨p,hp,rfl⟩)
  unfold bindR at hp
  by_cases hN:N≤μ.length
  case neg=>simp only[if_neg hN] at hp;exact hp.elim
  simp only[if_pos hN] at hp
  obtain⟨R2,t2,up,at_⟩:=R'.alloc (p:=.dct kvs) hN t' (by rw[h2];simp) h4 h5 h6 ⟨bl,a,o,vs,by unfold addP;rw[if_pos rfl],h2,hk,DvL.mono (Ex.refl _) up h3⟩
  exact hp _ G H _ t2 R2 ((E'.up (Ex.refl _) up).set i (x:=.loc μ.length) ⟨a,rfl,at_⟩)
def gNew (i:Nat)(f:EM):SM:=fun N δ μ=>lift (f δ μ) δ fun r μ'=>bindR N i r δ μ'
theorem snd_new {te:TE}{f:EM}(i:Nat)(h:SndE K W te f):SndS K W (tAsg te (gName i)) (gNew i f):=fun N ρ G H σ δ μ D R E hp =>
 SndG.stm (t:=te) h R E hp fun x μ' G' H' v t' R' E' d hp'=>snd_bindR i R' E' t'.toS d hp'
end
def cutV (M:Nat):Option DV→Option DV
 | some (.loc n)=>if n<M then some (.loc n) else none
 | some (.dat d)=>some (.dat d)
 | none=>none
def cut (M:Nat):List Bool→Env→Env
 | _,[]=>[]
 | [],_::δ=>none::cut M [] δ
 | b::bs,x::δ=>(if b=true then cutV M x else none)::cut M bs δ
def resP (M:Nat)(ρ:Pm):Pm:=fun n=>if n<M then ρ n else none
theorem cut_len (M:Nat):∀ (bs:List Bool) (δ:Env),(cut M bs δ).length=δ.length
 | [],[]=>rfl
 | _::_,[]=>rfl
 | [],_::δ=>congrArg (·+1) (cut_len M [] δ)
 | _::bs,_::δ=>congrArg (·+1) (cut_len M bs δ)
theorem cutV_some {M:Nat}{o:Option DV}{x:DV}(h:cutV M o=some x):o=some x∧x.below M:=by
 match o,h with
 | some (.dat d),h=>cases h;exact⟨rfl,trivial⟩
 | some (.loc n),h =>
  simp only[cutV] at h
  by_cases e:n<M
  ·rw[if_pos e] at h;cases h;exact⟨rfl,e⟩
  ·rw[if_neg e] at h;cases h
theorem cut_at (M:Nat):∀ (bs:List Bool) (δ:Env) (i:Nat) (x:DV),(cut M bs δ)[i]?=some (some x)→δ[i]?=some (some x)∧x.below M
 | [],[],i,x,h=>by simp[cut] at h
 | _::_,[],i,x,h=>by simp[cut] at h
 | [],_::δ,0,x,h=>by simp[cut] at h
 | [],_::δ,i+1,x,h=>cut_at M [] δ i x (by simpa [cut] using h)
 | b::bs,y::δ,0,x,h=>by
  simp only[cut,List.getElem?_cons_zero,Option.some.injEq] at h
  by_cases hb:b=true
  ·rw[if_pos hb] at h
   obtain⟨e,q⟩:=cutV_some h
   exact⟨by rw[e];rfl,q⟩
  ·rw[if_neg hb] at h;cases h
 | b::bs,y::δ,i+1,x,h=>cut_at M bs δ i x (by simpa [cut] using h)
section
variable {K:PySem.W.Frag}{W:WX}{N M:Nat}{ρ ρ0 ρ1 ρ2:Pm}{G H G0 H0 G1 H1 G2 H2:Hp}{σ:Slots}{δ:Env}{μ:Mem}{Dn:Ends}
theorem resP_some {n:Nat}{a:Addr}(h:resP M ρ n=some a):n<M∧ρ n=some a:=by
 unfold resP at h
 by_cases e:n<M
 ·rw[if_pos e] at h;exact⟨e,h⟩
 ·rw[if_neg e] at h;cases h
theorem resP_of {n:Nat}{a:Addr}(e:n<M)(h:ρ n=some a):resP M ρ n=some a:=by unfold resP;rw[if_pos e];exact h
theorem DvOk.res {v:V}{x:DV}(h:DvOk K ρ G v x)(b:x.below M):DvOk K (resP M ρ) G v x:=by
 cases x with
 | dat d=>exact h
 | loc n=>obtain⟨a,e,q⟩:=h;exact⟨a,e,resP_of b q⟩
theorem DvL.res {vs:List V}{xs:List DV}(h:DvL K ρ G vs xs)(b:∀ x∈xs,x.below M):DvL K (resP M ρ) G vs xs:=by
 induction h with
 | nil=>exact .nil
 | cons r _ ih=>exact .cons (r.res (b _ List.mem_cons_self)) (ih fun x hx=>b x (List.mem_cons_of_mem _ hx))
theorem DV.below.mono {m n:Nat}{x:DV}(h:x.below m)(e:m≤n):x.below n:=by
 cases x with
 | dat d=>trivial
 | loc k=>exact Nat.lt_of_lt_of_le h e
theorem Rel.cut (R:Rel K ρ G H μ)(M:Nat):Rel K (resP M ρ) G H (μ.take M):=by
 refine⟨R.ex,fun m n a h1 h2=>R.inj m n a (resP_some h1).2 (resP_some h2).2,fun n a h=>R.nG n a (resP_some h).2,fun n a h=>?_,fun n a h=>R.hs n a (resP_some h).2,fun n p h=>?_⟩
 ·obtain⟨e,q⟩:=resP_some h
  have:=R.lt n a q
  rw[List.length_take];omega
 ·have hn:n<M:=by
   by_cases e:n<M
   ·exact e
   ·rw[List.getElem?_eq_none (by rw[List.length_take];omega)] at h;cases h
  rw[List.getElem?_take_of_lt hn] at h
  have z:=R.pl n p h
  cases p with
  | lst xs=>obtain⟨b,a,vs,h1,h2,h3⟩:=z;exact⟨b,a,vs,resP_of hn h1,h2,h3.res fun x hx=>(b x hx).mono (Nat.le_of_lt hn)⟩
  | dct kvs =>
   obtain⟨b,a,o,vs,h1,h2,h4,h3⟩:=z
   refine⟨b,a,o,vs,resP_of hn h1,h2,h4,h3.res fun x hx=>?_⟩
   obtain⟨p,hp,rfl⟩:=List.mem_map.mp hx
   exact(b p hp).mono (Nat.le_of_lt hn)
  | lkd kvs =>
   obtain⟨b,a,o,vs,h1,h2,h4,h3⟩:=z
   refine⟨b,a,o,vs,resP_of hn h1,h2,h4,h3.res fun x hx=>?_⟩
   obtain⟨p,hp,rfl⟩:=List.mem_map.mp hx
   exact(b p hp).mono (Nat.le_of_lt hn)
  | lkl xs =>
   obtain⟨b,a,o,vs,h1,h2,h3⟩:=z
   refine⟨b,a,o,vs,resP_of hn h1,h2,h3.res fun x hx=>?_⟩
   exact(b x hx).mono (Nat.le_of_lt hn)
  | tp xs =>
   obtain⟨b,a,o,vs,h1,h2,h3⟩:=z
   refine⟨b,a,o,vs,resP_of hn h1,h2,h3.res fun x hx=>?_⟩
   exact(b x hx).mono (Nat.le_of_lt hn)
  | ins nm fs =>
   obtain⟨b,a,dx,C,vs,m,hm,h1,h2,cl,h4,h5,h3⟩:=z
   refine⟨b,a,dx,C,vs,m,⟨hm.1,resP_of (by omega) hm.2⟩,resP_of hn h1,h2,cl,h4,h5,h3.res fun x hx=>?_⟩
   obtain⟨p,hp,rfl⟩:=List.mem_map.mp hx
   exact(b p hp).mono (Nat.le_of_lt hn)
  | own=>obtain⟨a,b,h1,h2⟩:=z;exact⟨a,b,resP_of hn h1,h2⟩
  | gone=>show resP M ρ n=none;unfold resP;rw[if_pos hn];exact z
theorem EnvOk.cut (E:EnvOk K ρ G σ δ)(M:Nat)(bs:List Bool):EnvOk K (resP M ρ) G σ (cut M bs δ) :=
 ⟨by rw[cut_len];exact E.len,fun i x h=>let ⟨h1,h2⟩:=cut_at M bs δ i x h;let ⟨v,a,b⟩:=E.at_ i x h1;⟨v,a,b.res h2⟩⟩
theorem TrS.cut (t:TrS N ρ0 G0 H0 ρ G H)(h:∀ n a,ρ0 n=some a→n<M):TrS N ρ0 G0 H0 (resP M ρ) G H where
 pre:=fun n hn=>by
  unfold resP
  by_cases e:n<M
  ·rw[if_pos e];exact t.pre n hn
  ·rw[if_neg e]
   cases q:ρ0 n with
   | none=>rfl
   | some a=>exact absurd (h n a q) e
 exG:=t.exG
 keep:=t.keep
 th:=t.th
 nG:=t.nG
 nρ:=fun n a q=>t.nρ n a (resP_some q).2
 fz:=t.fz
abbrev Fz (H H':Hp):Prop:=∀ a od u,H a=some (.frz od u)→H' a=some (.frz od u)
def ItOk (K:PySem.W.Frag)(G0 H0:Hp)(J:It)(xs:List D):Prop:=∀ (ρ:Pm) (G H:Hp) (μ:Mem),Rel K ρ G H μ→Ex G0 G→Fz H0 H →
 (∀ (i:Nat) (d:D),xs[i]?=some d→J.go i H∧∀ v H',J.yld i H v H'→∃ G',Tr ρ G H G' H'∧Rel K ρ G' H' μ∧Rp K G' v d)∧∀ i,xs.length≤i→J.stop i H
abbrev rpI (K:PySem.W.Frag):Pm→Hp→Hp→Hp→It→List D→Prop:=fun _ G' _ H' J xs=>ItOk K G' H' J xs
abbrev IM:=Env→Mem→Res (List D)
abbrev SndI (K:PySem.W.Frag)(W:WX)(t:TI)(f:IM):Prop:=SndG K W t f (rpI K)
theorem wipe_in {σ:Slots}{i:Nat}:∀ {vs:List Nat},i∈vs→i<σ.length→(wipe σ vs)[i]?=some none
 | v::vs,h,hl=>by
  show((wipe σ vs).set v none)[i]?=some none
  by_cases e:v=i
  ·subst e;exact List.getElem?_set_self (by rw[wipe_length];exact hl)
  ·rw[List.getElem?_set_ne e]
   exact wipe_in ((List.mem_cons.mp h).elim (fun q=>absurd q.symm e) id) hl
theorem wipe_ext {σ τ:Slots}{vs:List Nat}(hl:σ.length=τ.length)(h:∀ i,i∉vs→σ[i]?=τ[i]?):wipe σ vs=wipe τ vs:=by
 refine List.ext_getElem? fun i=>?_
 by_cases hi:i∈vs
 ·by_cases e:i<σ.length
  ·rw[wipe_in hi e,wipe_in hi (hl▸e)]
  ·rw[List.getElem?_eq_none (by rw[wipe_length];omega),List.getElem?_eq_none (by rw[wipe_length];omega)]
 ·rw[wipe_out hi,wipe_out hi];exact h i hi
def TgOk (K:PySem.W.Frag)(g:TG)(h:D→Env→Option Env)(ts:List Nat):Prop:=∀ (ρ:Pm) (G H:Hp) (μ:Mem) (σ:Slots) (δ δ':Env) (v:V) (d:D) (Q:Slots→Hp→Prop),Rel K ρ G H μ→EnvOk K ρ G σ δ→Rp K G v d→h d δ=some δ' →
 (∀ σ',EnvOk K ρ G σ' δ'→σ'.length=σ.length→(∀ i,i∉ts→σ'[i]?=σ[i]?)→Q σ' H)→g v σ H Q
def tgName (i:Nat):D→Env→Option Env:=fun d δ=>some (δ.set i (some (.dat d)))
theorem tg_name (i:Nat):TgOk K (gName i) (tgName i) [i]:=fun ρ G H μ σ δ δ' v d Q R E h e q=>by
 cases e;exact q _ (E.set i (x:=.dat d) h) List.length_set fun j hj=>List.getElem?_set_ne fun z=>hj (by simp[z])
def turnL (M:Nat)(ks:List Bool)(out:Out)(k:Env→Mem→Out):Out:=match out with
 | .next δ' μ'=>k (cut M ks δ') (μ'.take M)
 | .cnt δ' μ'=>k (cut M ks δ') (μ'.take M)
 | .brk δ' μ'=>.next (cut M ks δ') (μ'.take M)
 | .ret r μ'=>.ret r μ'
 | .exc x δ' μ'=>.exc x δ' μ'
 | .bad=>.bad
def forL (M:Nat)(ks:List Bool)(h:D→Env→Option Env)(gb:SM)(N:Nat):List D→Env→Mem→Out
 | [],δ,μ=>.next δ μ
 | d::ds,δ,μ=>match h d δ with
  | none=>.bad
  | some δ1=>turnL M ks (gb N δ1 μ) (forL M ks h gb N ds)
def gFor (ks:List Bool)(fi:IM)(h:D→Env→Option Env)(gb:SM):SM:=fun N δ μ=>lift (fi δ μ) δ fun xs μ'=>forL μ'.length ks h gb N xs δ μ'
theorem turn_ok {tb:TS}{gb:SM}{ks:List Bool}{k:Env→Mem→Out}{Nn:Slots→Hp→Prop}(hb:SndS K W tb gb)(t:TrS N ρ0 G0 H0 ρ G H)(R:Rel K ρ G H μ)(E:EnvOk K ρ G σ δ)(hM:∀ n a,ρ0 n=some a→n<M)(hM1:∀ n a,ρ n=some a→n<M)
  (hp:PostS K W N ρ0 G0 H0 Dn (turnL M ks (gb N δ μ) k))
  (go:∀ ρ' G' H' σ' δ' μ',TrS N ρ0 G0 H0 ρ' G' H'→Ex G G'→Rel K ρ' G' H' μ'→EnvOk K ρ' G' σ' δ'→(∀ n a,ρ' n=some a→n<M)→PostS K W N ρ0 G0 H0 Dn (k δ' μ')→Nn σ' H') :
  tb { nx:=Nn,rt:=Dn.rt,bk:=Dn.nx,ct:=Nn } σ H:=by
 refine hb N ρ G H σ δ μ _ R E ?_
 cases e:gb N δ μ with
 | next δ' μ' =>
  rw[e] at hp
  exact fun ρ' G' H' σ' t' R' E'=>go _ G' H' σ' _ _ ((t.trans t').cut hM) t'.exG (R'.cut M) (E'.cut M ks) (fun n a q=>(resP_some q).1) hp
 | cnt δ' μ' =>
  rw[e] at hp
  exact fun ρ' G' H' σ' t' R' E'=>go _ G' H' σ' _ _ ((t.trans t').cut hM) t'.exG (R'.cut M) (E'.cut M ks) (fun n a q=>(resP_some q).1) hp
 | brk δ' μ' =>
  rw[e] at hp
  exact fun ρ' G' H' σ' t' R' E'=>hp _ G' H' σ' ((t.trans t').cut hM) (R'.cut M) (E'.cut M ks)
 | ret r μ' =>
  rw[e] at hp
  exact fun ρ' G' H' v t' R' q=>hp ρ' G' H' v (t.trans t') R' (q.back t.th)
 | exc x δ' μ' =>
  rw[e] at hp
  exact fun ρ' G' H' σ' cls d t'=>hp ρ' G' H' σ' cls d (t.trans t')
 | bad=>rw[e] at hp;exact hp
theorem drop_cons {α:Type}{xs ds:List α}{i:Nat}{d:α}(h:xs.drop i=d::ds):xs[i]?=some d∧xs.drop (i+1)=ds∧i<xs.length:=by
 have hl:i<xs.length:=by
  by_cases e:i<xs.length
  ·exact e
  ·rw[List.drop_eq_nil_of_le (by omega)] at h;cases h
 rw[List.drop_eq_getElem_cons hl] at h
 injection h with h1 h2
 exact⟨by rw[List.getElem?_eq_getElem hl,h1],h2,hl⟩
theorem snd_for {wi:TI}{fi:IM}{g:TG}{h:D→Env→Option Env}{tb:TS}{gb:SM}(ks:List Bool){tv:List Nat}(hi:SndI K W wi fi)(hg:TgOk K g h tv)(hb:SndS K W tb gb):SndS K W (tFor wi g tb) (gFor ks fi h gb):=fun N ρ G H σ δ μ Dn R E hp=>by
 refine SndG.stm (t:=wi) hi R E hp fun xs μ0 G0 H0 J t0 R0 E0 it hp0=>?_
 have hp0:=PostS.shift (t0.toS (N:=N)) hp0
 refine⟨fun i m σ H=>∃ ρ1 G1 δ1 μ1,Ex G0 G1∧Fz H0 H∧Rel K ρ1 G1 H μ1∧EnvOk K ρ1 G1 σ δ1∧(∀ n a,ρ1 n=some a→n<μ0.length)∧m=xs.length-i∧i≤xs.length ∧
  PostS K W N ρ1 G1 H Dn (forL μ0.length ks h gb N (xs.drop i) δ1 μ1),⟨xs.length,ρ,G0,δ,μ0,Ex.refl _,fun _ _ _ h=>h,R0,E0,R0.lt,by omega,by omega,hp0⟩,fun i m σ H hW=>?_⟩
 obtain⟨ρ1,G1,δ1,μ1,x1,f1,R1,E1,hM1,em,hi',hp1⟩:=hW
 obtain⟨go,stop⟩:=it ρ1 G1 H μ1 R1 x1 f1
 cases e:xs.drop i with
 | nil =>
  rw[e] at hp1
  have hl:xs.length≤i:=by
   have:=congrArg List.length e
   rw[List.length_drop] at this
   simp at this;omega
  exact .inl ⟨stop i hl,hp1 ρ1 G1 H σ (TrS.refl _ _ _ _) R1 E1⟩
 | cons d ds =>
  rw[e] at hp1
  obtain⟨hd,hds,hlt⟩:=drop_cons e
  obtain⟨g1,g2⟩:=go i d hd
  refine .inr ⟨g1,fun σ' H'=>∃ m',m'<m∧_,fun σ' H' q=>q,fun v H' hy=>?_⟩
  obtain⟨G2,t2,R2,rp⟩:=g2 v H' hy
  unfold forL at hp1
  cases eh:h d δ1 with
  | none=>rw[eh] at hp1;exact hp1.elim
  | some δ2 =>
   rw[eh] at hp1
   refine hg ρ1 G2 H' μ1 σ δ1 δ2 v d _ R2 (E1.mono t2.exG) rp eh fun σ2 E2 _ _=>?_
   refine turn_ok hb t2.toS R2 E2 hM1 hM1 hp1 fun ρ3 G3 H3 σ3 δ3 μ3 t3 _ R3 E3 hM3 hp3=>?_
   refine⟨xs.length-(i+1),by omega,ρ3,G3,δ3,μ3,x1.trans t3.exG,fun a od u h=>t3.fz a od u (f1 a od u h),R3,E3,hM3,rfl,hlt,?_⟩
   rw[hds];exact PostS.shift t3 hp3
def whL (M:Nat)(ks:List Bool)(ft:TM)(gb:SM)(N:Nat):Nat→Env→Mem→Out
 | 0,_,_=>.bad
 | k+1,δ,μ=>lift (ft δ μ) δ fun b μ1=>if b=true then turnL M ks (gb N δ μ1) (whL M ks ft gb N k) else .next δ μ1
def gWh (fuel:Nat)(ks:List Bool)(ft:TM)(gb:SM):SM:=fun N δ μ=>whL μ.length ks ft gb N fuel δ μ
def belowA (N:Nat)(xs:List DV):Bool:=xs.all fun x=>match x with
 | .dat _=>true
 | .loc m=>decide (m<N)
theorem belowA_ok {xs:List DV}(h:belowA N xs=true):∀ x∈xs,x.below N:=fun x hx=>by
 have:=List.all_eq_true.mp h x hx
 cases x with
 | dat d=>trivial
 | loc m=>exact(of_decide_eq_true this:m<N)
def closeR (N:Nat)(r:R)(μ:Mem):Res R:=match r with
 | .dat d=>.ok (.dat d) (μ.take N)
 | .nl xs=>if belowA N xs=true then .ok (.nl xs) (μ.take N) else .bad
 | .nk kvs=>if belowA N (kvs.map (·.2))=true then .ok (.nk kvs) (μ.take N) else .bad
 | .loc n=>if n<N then .ok (.loc n) (μ.take N) else match μ[n]? with
  | some (.lst xs)=>if belowA N xs=true then .ok (.nl xs) (μ.take N) else .bad
  | some (.dct kvs)=>if belowA N (kvs.map (·.2))=true then .ok (.nk kvs) (μ.take N) else .bad
  | _=>.bad
def callF (g:SM)(m:Nat)(args:List DV)(μ:Mem):Res R:=match g μ.length (args.map some++List.replicate m none) μ with
 | .next _ μ'=>.ok (.dat .non) (μ'.take μ.length)
 | .ret r μ'=>closeR μ.length r μ'
 | .exc x _ μ'=>.exc x (μ'.take μ.length)
 | _=>.bad
def spF (K:PySem.W.Frag)(n:Nat)(F:List DV→Mem→Res R):Sp:=fun vs H Q E=>vs.length=n∧∃ ρ G μ xs,Rel K ρ G H μ∧DvL K ρ G vs xs ∧
 PostG K (fun cls d _ H=>E cls d H) ρ G H [] (fun G' H'=>rpE K ρ G' H H') Q (F xs μ)
theorem res_back (R:Rel K ρ G H μ)(t:TrS μ.length ρ G H ρ1 G1 H1):resP μ.length ρ1=ρ:=by
 funext n
 unfold resP
 by_cases e:n<μ.length
 ·rw[if_pos e];exact t.pre n e
 ·rw[if_neg e]
  cases q:ρ n with
  | none=>rfl
  | some a=>exact absurd (R.lt n a q) e
theorem tr_back (R:Rel K ρ G H μ)(t:TrS μ.length ρ G H ρ1 G1 H1):Tr ρ G H G1 H1 where
 exG:=t.exG
 keep:=t.keep
 th:=t.th
 nG:=fun a h=>(t.nG a h).elim .inl fun q=>q.elim .inr fun⟨n,hn,z⟩=>absurd (R.lt n a z) (by omega)
 fz:=t.fz
theorem RpR.close {μ1 μ2:Mem}{r r':R}{v:V}(R:Rel K ρ G H μ)(t:TrS μ.length ρ G H ρ1 G1 H1)(R1:Rel K ρ1 G1 H1 μ1)(h:RpR K ρ1 G1 H H1 v r)(e:closeR μ.length r μ1=.ok r' μ2) :
  RpR K ρ G1 H H1 v r'∧μ2=μ1.take μ.length:=by
 have eb:=res_back R t
 have lst:∀ {a:Addr} {vs:List V} {xs:List DV},H1 a=some (.lst vs)→DvL K ρ1 G1 vs xs→G1 a=none→(∀ n,ρ n≠some a)→H a=none→belowA μ.length xs=true→RpR K ρ G1 H H1 (.ref a) (.nl xs):=fun {a vs xs} h1 h2 h3 h4 h5 h6 =>
  ⟨a,vs,rfl,h1,by have z:=h2.res (belowA_ok h6);rw[eb] at z;exact z,h3,h4,h5⟩
 have dct:∀ {a:Addr} {o:HO} {vs:List V} {xs:List (Ky×DV)},H1 a=some o→DctIs K G1 a o (xs.map (·.1)) vs→DvL K ρ1 G1 vs (xs.map (·.2))→G1 a=none→(∀ n,ρ n≠some a)→H a=none→belowA μ.length (xs.map (·.2))=true→RpR K ρ G1 H H1 (.ref a) (.nk xs):=fun {a o vs xs} h1 hk h2 h3 h4 h5 h6 =>
  ⟨a,o,vs,rfl,h1,hk,by have z:=h2.res (belowA_ok h6);rw[eb] at z;exact z,h3,h4,h5⟩
 have noρ:∀ a,(∀ n,ρ1 n≠some a)→∀ n,ρ n≠some a:=fun a h n q=>h n ((t.pre n (R.lt n a q)).trans q)
 cases r with
 | dat d=>cases e;exact⟨h,rfl⟩
 | nl xs =>
  obtain⟨a,vs,rfl,h1,h2,h3,h4,h5⟩:=h
  simp only[closeR] at e
  by_cases hb:belowA μ.length xs=true
  ·rw[if_pos hb] at e;cases e
   exact⟨lst h1 h2 h3 (noρ a h4) h5 hb,rfl⟩
  ·rw[if_neg hb] at e;cases e
 | nk kvs =>
  obtain⟨a,o,vs,rfl,h1,hk,h2,h3,h4,h5⟩:=h
  simp only[closeR] at e
  by_cases hb:belowA μ.length (kvs.map (·.2))=true
  ·rw[if_pos hb] at e;cases e
   exact⟨dct h1 hk h2 h3 (noρ a h4) h5 hb,rfl⟩
  ·rw[if_neg hb] at e;cases e
 | loc n =>
  obtain⟨a,rfl,q⟩:=h
  simp only[closeR] at e
  by_cases hn:n<μ.length
  ·rw[if_pos hn] at e;cases e
   exact⟨⟨a,rfl,(t.pre n hn).symm.trans q⟩,rfl⟩
  ·rw[if_neg hn] at e
   have hne:∀ m,ρ m≠some a:=fun m z=>by
    have h1:=(t.pre m (R.lt m a z)).trans z
    have h2:=R1.inj m n a h1 q
    exact hn (h2▸R.lt m a z)
   have h0:H a=none:=(t.nρ n a q).elim (fun z=>z.elim (fun z=>absurd z (hne n)) fun⟨m,_,z⟩=>absurd z (hne m)) id
   have hg:G1 a=none:=R1.nG n a q
   match em:μ1[n]? with
   | none=>rw[em] at e;cases e
   | some .gone=>rw[em] at e;cases e
   | some (.lkd _)=>rw[em] at e;cases e
   | some (.lkl _)=>rw[em] at e;cases e
   | some (.tp _)=>rw[em] at e;cases e
   | some (.ins _ _)=>rw[em] at e;cases e
   | some .own=>rw[em] at e;cases e
   | some (.lst xs) =>
    rw[em] at e
    obtain⟨_,b,vs,k1,k2,k3⟩:=R1.pl n _ em
    rw[q] at k1;cases k1
    by_cases hb:belowA μ.length xs=true
    ·simp only[if_pos hb] at e;cases e
     exact⟨lst k2 k3 hg hne h0 hb,rfl⟩
    ·simp only[if_neg hb] at e;cases e
   | some (.dct kvs) =>
    rw[em] at e
    obtain⟨_,b,o,vs,k1,k2,kk,k3⟩:=R1.pl n _ em
    rw[q] at k1;cases k1
    by_cases hb:belowA μ.length (kvs.map (·.2))=true
    ·simp only[if_pos hb] at e;cases e
     exact⟨dct k2 kk k3 hg hne h0 hb,rfl⟩
    ·simp only[if_neg hb] at e;cases e
theorem body_ok {ts:TS}{g:SM}{Q:VK}{E:XK}{vs:List V}{Nm:List Str}{n:Nat}(hb:SndS K (fun cls d _ H=>E cls d H) ts g)(hn:n≤Nm.length)(h:spF K n (callF g (Nm.length-n)) vs H Q E) :
  ts { nx:=fun _ H'=>Q .non H',rt:=Q } (L2.start Nm vs) H:=by
 obtain⟨hl,ρ,G,μ,xs,R,d,hp⟩:=h
 have hx:xs.length=n:=by rw[←paired_len d];exact hl
 have env:EnvOk K ρ G (L2.start Nm vs) (xs.map some++List.replicate (Nm.length-n) none):=by
  refine⟨by simp[L2.start,hl,hx],fun i x hi=>?_⟩
  have hi1:i<xs.length:=by
   by_cases e:i<xs.length
   ·exact e
   ·rw[List.getElem?_append_right (by simpa using e),List.getElem?_replicate] at hi
    split at hi <;> cases hi
  rw[List.getElem?_append_left (by simpa using hi1),List.getElem?_map,List.getElem?_eq_getElem hi1] at hi
  simp only[Option.map_some,Option.some.injEq] at hi
  have key:∀ {vs:List V} {xs:List DV} {i:Nat} (d:DvL K ρ G vs xs) (hi:i<xs.length),∃ v,vs[i]?=some v∧DvOk K ρ G v xs[i]:=by
   intro vs xs i d
   induction d generalizing i with
   | nil=>intro hi;exact absurd hi (Nat.not_lt_zero _)
   | cons r _ ih =>
    intro hi
    cases i with
    | zero=>exact⟨_,rfl,r⟩
    | succ i=>exact ih (Nat.lt_of_succ_lt_succ hi)
  obtain⟨v,h1,h2⟩:=key d hi1
  refine⟨v,?_,hi▸h2⟩
  unfold L2.start
  have hv:i<vs.length:=by omega
  rw[List.getElem?_append_left (by simpa using hv),List.getElem?_map,h1]
  rfl
 refine hb μ.length ρ G H _ _ μ _ R env ?_
 unfold callF at hp
 cases e:g μ.length (xs.map some++List.replicate (Nm.length-n) none) μ with
 | next δ' μ' =>
  rw[e] at hp
  intro ρ' G' H' σ' t R' E'
  have z:=R'.cut μ.length
  rw[res_back R t] at z
  exact hp G' H' .non (tr_back R t) z Rp.non
 | ret r μ' =>
  rw[e] at hp
  intro ρ' G' H' v t R' q
  simp only at hp
  cases ec:closeR μ.length r μ' with
  | bad=>rw[ec] at hp;exact hp.elim
  | exc x μ2=>exact(by cases r <;> simp only[closeR] at ec <;> (repeat' split at ec) <;> cases ec)
  | ok r' μ2 =>
   rw[ec] at hp
   obtain⟨q',em⟩:=RpR.close R t R' q ec
   have z:=R'.cut μ.length
   rw[res_back R t,←em] at z
   exact hp G' H' v (tr_back R t) z q'
 | brk δ' μ'=>rw[e] at hp;exact hp.elim
 | cnt δ' μ'=>rw[e] at hp;exact hp.elim
 | exc x δ' μ' =>
  rw[e] at hp
  intro ρ' G' H' σ' cls d t R' E' q
  have z:=R'.cut μ.length
  rw[res_back R t] at z
  exact hp G' H' cls d (tr_back R t) z q
 | bad=>rw[e] at hp;exact hp.elim
end
structure PSM (X:Cx)(W:WX)(st:Stmt)(ts:TS)(g:SM):Prop where
 ps:PS X st ts
 sd:SndS X.K W ts g
structure PSMs (X:Cx)(W:WX)(st:List Stmt)(ts:TS)(g:SM):Prop where
 ps:PSs X st ts
 sd:SndS X.K W ts g
structure PMI (X:Cx)(W:WX)(tg e:Expr)(wi:TI)(f:IM):Prop where
 pi:PI X tg e wi
 sd:SndI X.K W wi f
structure PMG (X:Cx)(tg:Expr)(g:TG)(h:D→Env→Option Env)(ts:List Nat):Prop where
 pg:PG X tg g
 ok:TgOk X.K g h ts
section
variable {X:Cx}{W:WX}{pos:Pos}{te:TE}{f:EM}{tt:TT}{ft:TM}{t u:TS}{g h:SM}{st:Stmt}{rest body els:List Stmt}{e:Expr}
theorem ss_nil:PSMs X W [] tNext gNext:=⟨pss_nil,snd_next⟩
theorem ss_cons (h1:PSM X W st t g)(h2:PSMs X W rest u h):PSMs X W (st::rest) (tSeq t u) (gSeq g h):=⟨pss_cons h1.ps h2.ps,snd_seq h1.sd h2.sd⟩
theorem ss_one (h1:PSM X W st t g):PSMs X W [st] t g:=⟨pss_one h1.ps,h1.sd⟩
theorem sm_expr (h:PM X W e te f)(hs:swapsWith e none pos.line X.env=pure false:=by rfl):PSM X W (.Expr e pos) (tDrop te) (gDrop f):=⟨ps_expr h.pe hs,snd_drop h.sd⟩
theorem sm_ret (h:PM X W e te f):PSM X W (.Return (some e) pos) (tRet te) (gRet f):=⟨ps_ret h.pe,snd_ret h.sd⟩
theorem sm_if (hc:PMT X W e tt ft)(h1:PSMs X W body t g)(h2:PSMs X W els u h):PSM X W (.If e body els pos) (tIfS tt t u) (gIf ft g h):=⟨ps_if hc.pe h1.ps h2.ps,snd_if hc.sd h1.sd h2.sd⟩
theorem sm_asg {x:Str}{p:Pos}(i:Nat)(hN:X.N.Nodup)(h:PM X W e te f)(hi:X.N[i]?=some x:=by rfl)(hx:Loc X.env.scope x:=by first|exact Or.inl rfl|exact Or.inr rfl)
  (hf:X.fn x=true∨X.env.scope.names.lookup x=some .local:=by first|exact .inl rfl|exact .inr rfl)
  (a1:swapsWithSole [.Name x p] e pos.line X.env=pure false:=by rfl) (a2:swappedStores [.Name x p] e X.env=pure none:=by rfl) (a3:List.map (fun x=>x.snd) (assignEach [.Name x p] X.env)=[assign (.Name x p) X.env]:=by rfl) :
  PSM X W (.Assign [.Name x p] e pos) (tAsg te (gName i)) (gAsg i f):=⟨ps_asg h.pe (pg_name hN hi hx hf) a1 a2 a3,snd_asg i h.sd⟩
theorem sm_new {x:Str}{p:Pos}(i:Nat)(hN:X.N.Nodup)(h:PM X W e te f)(hi:X.N[i]?=some x:=by rfl)(hx:Loc X.env.scope x:=by first|exact Or.inl rfl|exact Or.inr rfl)
  (hf:X.fn x=true∨X.env.scope.names.lookup x=some .local:=by first|exact .inl rfl|exact .inr rfl)
  (a1:swapsWithSole [.Name x p] e pos.line X.env=pure false:=by rfl) (a2:swappedStores [.Name x p] e X.env=pure none:=by rfl) (a3:List.map (fun x=>x.snd) (assignEach [.Name x p] X.env)=[assign (.Name x p) X.env]:=by rfl) :
  PSM X W (.Assign [.Name x p] e pos) (tAsg te (gName i)) (gNew i f):=⟨ps_asg h.pe (pg_name hN hi hx hf) a1 a2 a3,snd_new i h.sd⟩
theorem pg_nm {x:Str}(i:Nat)(hN:X.N.Nodup)(hi:X.N[i]?=some x:=by rfl)(hx:Loc X.env.scope x:=by first|exact Or.inl rfl|exact Or.inr rfl)
  (hf:X.fn x=true∨X.env.scope.names.lookup x=some .local:=by first|exact .inl rfl|exact .inr rfl):PMG X (.Name x pos) (gName i) (tgName i) [i]:=⟨pg_name hN hi hx hf,tg_name i⟩
theorem sm_for {tg iter:Expr}{wi:TI}{fi:IM}{gt:TG}{ht:D→Env→Option Env}{tv:List Nat}(ks:List Bool)(hp:PassesOwn (model X.prog X.w) X.A X.env X.xe)(hc:X.calm=true)(hi:PMI X W tg iter wi fi)(hg:PMG X tg gt ht tv)(hb:PSMs X W body t g)
  (hs:∀ (x:Value),foldedSetIterable iter X.env x=pure x:=by intro _;rfl):PSM X W (.For tg iter body [] pos) (tFor wi gt t) (gFor ks fi ht g) :=
 ⟨ps_for hp hc hi.pi hg.pg hb.ps hs,snd_for ks hi.sd hg.ok hb.sd⟩
end
section
variable {X:Cx}{W:WX}{pos:Pos}{te ta tb:TE}{f fa fb:EM}{tt tu:TT}{ft fu:TM}{a b e:Expr}{rest:List Expr}
def tmB (f:EM):TM:=fun δ μ=>(f δ μ).bind fun r μ'=>match r with
 | .dat (.bl b)=>.ok b μ'
 | _=>.bad
theorem snd_tmB {K:PySem.W.Frag}{tt:TT}(h:SndE K W te f)(ht:∀ σ H Q,tB te σ H Q→tt σ H Q):SndT K W tt (tmB f):=fun ρ G H σ δ μ Q R E hp=>ht σ H Q (by
 refine SndG.seq (t:=te) h R E hp fun r μ' G' H' v t' R' E' q hp'=>?_
 match r,q,hp' with
 | .dat (.bl b),q,hp'=>cases q;exact⟨b,rfl,hp' G' H' b t' R' rfl⟩
 | .dat .non,_,hp'=>exact hp'.elim
 | .dat (.int _),_,hp'=>exact hp'.elim
 | .dat (.str _),_,hp'=>exact hp'.elim
 | .dat (.ty _),_,hp'=>exact hp'.elim
 | .dat (.ref _),_,hp'=>exact hp'.elim
 | .dat (.tup _),_,hp'=>exact hp'.elim
 | .dat (.lst _),_,hp'=>exact hp'.elim
 | .dat (.fro _),_,hp'=>exact hp'.elim
 | .dat (.dct _),_,hp'=>exact hp'.elim
 | .dat (.ins _ _),_,hp'=>exact hp'.elim
 | .dat (.err _ _ _ _ _),_,hp'=>exact hp'.elim
 | .loc _,_,hp'=>exact hp'.elim
 | .nl _,_,hp'=>exact hp'.elim
 | .nk _,_,hp'=>exact hp'.elim)
theorem pt_cmp {op:CmpOp}{r:R2}{g:DV→DV→Mem→Res R}(ho:OpR X (compareOp op) r)(hd:OpD X.K r g)(ha:PM X W a ta fa)(hb:PM X W b tb fb)(hm:behindInMarks op b=false):PMT X W (.Compare a [op] [b] pos) (tTest (tOp r ta tb)) (tmB (eOp g fa fb)) :=
 ⟨pt_cmpR ho ha.pe hb.pe hm,snd_tmB (snd_op hd ha.sd hb.sd) fun _ _ _ h=>h⟩
theorem pt_of (h:PM X W e te f)(he:∀ whole,isTrue e X.env whole=(do let v ←whole;standAt e.pos;holding [v] (truthy v)):=by intro _;rfl):PMT X W e (tB te) (tmB f) :=
 ⟨L2.pt_val h.pe he,snd_tmB h.sd fun _ _ _ h=>h⟩
def tmNot (f:TM):TM:=fun δ μ=>(f δ μ).bind fun b μ'=>.ok (!b) μ'
def tmAnd (f g:TM):TM:=fun δ μ=>(f δ μ).bind fun b μ'=>if b=true then g δ μ' else .ok false μ'
def tmOr (f g:TM):TM:=fun δ μ=>(f δ μ).bind fun b μ'=>if b=true then .ok true μ' else g δ μ'
theorem pt_no (h:PMT X W a tt ft):PMT X W (.UnaryOp .Not a pos) (tNot tt) (tmNot ft):=⟨L2.pt_not h.pe,fun ρ G H σ δ μ Q R E hp =>
 SndG.seq (t:=tt) h.sd R E hp fun b μ' G' H' v t' R' E' q hp'=>by subst q;exact hp' G' H' (!v) t' R' rfl⟩
structure PMW (X:Cx)(W:WX)(e:Expr)(tt:TT)(f:TM):Prop where
 pe:PW X e tt
 sd:SndT X.K W tt f
theorem PMW.t (h:PMW X W e tt ft):PMT X W e tt ft:=⟨h.pe.pt,h.sd⟩
theorem w_and1 (h:PMT X W a tt ft):PMW X W (.BoolOp .And [a] pos) tt ft:=⟨pw_and1 h.pe,h.sd⟩
theorem w_or1 (h:PMT X W a tt ft):PMW X W (.BoolOp .Or [a] pos) tt ft:=⟨pw_or1 h.pe,h.sd⟩
theorem w_and (h:PMT X W a tt ft)(hb:PMW X W (.BoolOp .And (b::rest) pos) tu fu):PMW X W (.BoolOp .And (a::b::rest) pos) (tAnd tt tu) (tmAnd ft fu):=⟨pw_and h.pe hb.pe,fun ρ G H σ δ μ Q R E hp=>by
 refine SndG.seq (t:=tt) h.sd R E hp fun b μ' G' H' v t' R' E' q hp'=>?_
 subst q
 cases v with
 | true=>exact hb.sd ρ G' H' σ δ μ' Q R' E' (hp'.shift t' fun _ _ _ _ q=>q)
 | false=>exact hp' G' H' false t' R' rfl⟩
theorem w_or (h:PMT X W a tt ft)(hb:PMW X W (.BoolOp .Or (b::rest) pos) tu fu):PMW X W (.BoolOp .Or (a::b::rest) pos) (tOr tt tu) (tmOr ft fu):=⟨pw_or h.pe hb.pe,fun ρ G H σ δ μ Q R E hp=>by
 refine SndG.seq (t:=tt) h.sd R E hp fun b μ' G' H' v t' R' E' q hp'=>?_
 subst q
 cases v with
 | true=>exact hp' G' H' true t' R' rfl
 | false=>exact hb.sd ρ G' H' σ δ μ' Q R' E' (hp'.shift t' fun _ _ _ _ q=>q)⟩
def asB (r:R):Option Bool:=match r with
 | .dat (.bl b)=>some b
 | _=>none
theorem asB_ok {K:PySem.W.Frag}{ρ:Pm}{G H0 H:Hp}{v:V}{r:R}{b:Bool}(h:RpR K ρ G H0 H v r)(e:asB r=some b):v=.bl b:=by
 unfold asB at e
 split at e
 ·cases e;cases h;rfl
 ·cases e
def eAnd (f g:EM):EM:=fun δ μ=>(f δ μ).bind fun r μ'=>match asB r with
 | some true=>g δ μ'
 | some false=>.ok (.dat (.bl false)) μ'
 | none=>.bad
def eOr (f g:EM):EM:=fun δ μ=>(f δ μ).bind fun r μ'=>match asB r with
 | some true=>.ok (.dat (.bl true)) μ'
 | some false=>g δ μ'
 | none=>.bad
def eNot (f:EM):EM:=fun δ μ=>(f δ μ).bind fun r μ'=>match asB r with
 | some b=>.ok (.dat (.bl (!b))) μ'
 | none=>.bad
theorem pm_one {op}(h:PM X W a te f):PM X W (.BoolOp op [a] pos) te f:=⟨pe_one h.pe,h.sd⟩
theorem pm_and (ha:PM X W a ta fa)(hb:PM X W (.BoolOp .And (b::rest) pos) tb fb):PM X W (.BoolOp .And (a::b::rest) pos) (tAndV ta tb) (eAnd fa fb):=⟨pe_and ha.pe hb.pe,fun ρ G H σ δ μ Q R E hp=>by
 refine SndG.seq (t:=ta) ha.sd R E hp fun r μ' G' H' v t' R' E' q hp'=>?_
 match e:asB r with
 | none=>rw[e] at hp';exact hp'.elim
 | some c =>
  rw[e] at hp'
  refine⟨c,asB_ok q e,?_⟩
  cases c with
  | true=>exact hb.sd ρ G' H' σ δ μ' Q R' E' (hp'.shiftE t')
  | false=>exact hp' G' H' _ t' R' (Rp.bl false)⟩
theorem pm_or (ha:PM X W a ta fa)(hb:PM X W (.BoolOp .Or (b::rest) pos) tb fb):PM X W (.BoolOp .Or (a::b::rest) pos) (tOrV ta tb) (eOr fa fb):=⟨pe_or ha.pe hb.pe,fun ρ G H σ δ μ Q R E hp=>by
 refine SndG.seq (t:=ta) ha.sd R E hp fun r μ' G' H' v t' R' E' q hp'=>?_
 match e:asB r with
 | none=>rw[e] at hp';exact hp'.elim
 | some c =>
  rw[e] at hp'
  refine⟨c,asB_ok q e,?_⟩
  cases c with
  | true=>exact hp' G' H' _ t' R' (Rp.bl true)
  | false=>exact hb.sd ρ G' H' σ δ μ' Q R' E' (hp'.shiftE t')⟩
theorem pm_not (ha:PM X W a ta fa):PM X W (.UnaryOp .Not a pos) (tNotV ta) (eNot fa):=⟨pe_not ha.pe,fun ρ G H σ δ μ Q R E hp=>by
 refine SndG.seq (t:=ta) ha.sd R E hp fun r μ' G' H' v t' R' E' q hp'=>?_
 match e:asB r with
 | none=>rw[e] at hp';exact hp'.elim
 | some c=>rw[e] at hp';exact⟨c,asB_ok q e,hp' G' H' _ t' R' (Rp.bl _)⟩⟩
def eIf (f:TM)(g h:EM):EM:=fun δ μ=>(f δ μ).bind fun b μ'=>if b=true then g δ μ' else h δ μ'
theorem pm_if {c:Expr}(hc:PMT X W c tt ft)(ha:PM X W a ta fa)(hb:PM X W b tb fb):PM X W (.IfExp c a b pos) (tIf tt ta tb) (eIf ft fa fb):=⟨pe_ifExp hc.pe ha.pe hb.pe,fun ρ G H σ δ μ Q R E hp=>by
 refine SndG.seq (t:=tt) hc.sd R E hp fun b μ' G' H' v t' R' E' q hp'=>?_
 subst q
 cases v with
 | true=>exact ha.sd ρ G' H' σ δ μ' Q R' E' (hp'.shiftE t')
 | false=>exact hb.sd ρ G' H' σ δ μ' Q R' E' (hp'.shiftE t')⟩
end
def wipeE (δ:Env):List Nat→Env
 | []=>δ
 | v::vs=>(wipeE δ vs).set v none
def WF:WX:=fun _ _ _ _=>False
def lcL (h:D→Env→Option Env)(ft:TM)(fe:EM)(δ:Env):List D→Mem→Res (List DV)
 | [],μ=>.ok [] μ
 | d::ds,μ=>match h d δ with
  | none=>.bad
  | some δ1=>match ft δ1 μ with
   | .ok true μ1=>match frzV fe δ1 μ1 with
    | .ok y μ2=>(lcL h ft fe δ ds μ2).bind fun ys μ3=>.ok (y::ys) μ3
    | _=>.bad
   | .ok false μ1=>lcL h ft fe δ ds μ1
   | _=>.bad
def eLc (fi:IM)(h:D→Env→Option Env)(ft:TM)(fe:EM)(vs:List Nat):EM:=fun δ μ=>(fi δ μ).bind fun xs μ' =>
 if xs.length≤sizeLine then(lcL h ft fe (wipeE δ vs) xs μ').bind fun ys μ2=>.ok (.nl ys) μ2 else .bad
section
variable {K:PySem.W.Frag}{W:WX}{N M:Nat}{ρ ρ0 ρ1 ρ2:Pm}{G H G0 H0 G1 H1 G2 H2:Hp}{σ:Slots}{δ:Env}{μ:Mem}{Dn:Ends}
theorem EnvOk.wipe (E:EnvOk K ρ G σ δ):∀ vs:List Nat,EnvOk K ρ G (wipe σ vs) (wipeE δ vs)
 | []=>E
 | v::vs=>by
  have E':=EnvOk.wipe E vs
  refine⟨?_,fun i x hi=>?_⟩
  ·show((L2.wipe σ vs).set v none).length=((wipeE δ vs).set v none).length
   rw[List.length_set,List.length_set];exact E'.len
  ·have hi:((wipeE δ vs).set v none)[i]?=some (some x):=hi
   show ∃ w,((L2.wipe σ vs).set v none)[i]?=some (some w)∧_
   by_cases e:v=i
   ·subst e
    by_cases hl:v<(wipeE δ vs).length
    ·rw[List.getElem?_set_self hl] at hi;cases hi
    ·rw[List.getElem?_eq_none (by rw[List.length_set];omega)] at hi;cases hi
   ·rw[List.getElem?_set_ne e] at hi ⊢
    exact E'.at_ i x hi
theorem Rel.poke {p:Addr}{o:HO}(R:Rel K ρ G H μ)(hg:G p=none)(hn:∀ n,ρ n≠some p):Rel K ρ G (upd H p o) μ:=by
 refine⟨fun a u h=>?_,R.inj,R.nG,R.lt,fun n a h q=>?_,fun n q h=>?_⟩
 ·have e:a≠p:=fun e=>by rw[e,hg] at h;cases h
  rw[upd_ne e];exact R.ex a u h
 ·have e:a≠p:=fun e=>hn n (e▸h)
  rw[upd_ne e] at q;exact R.hs n a h q
 ·have z:=R.pl n q h
  cases q with
  | lst xs=>obtain⟨b,a,vs,h1,h2,h3⟩:=z;exact⟨b,a,vs,h1,by rw[upd_ne (show a≠p from fun e=>hn n (e▸h1))];exact h2,h3⟩
  | dct kvs=>obtain⟨b,a,o,vs,h1,h2,h3⟩:=z;exact⟨b,a,o,vs,h1,by rw[upd_ne (show a≠p from fun e=>hn n (e▸h1))];exact h2,h3⟩
  | lkd kvs=>obtain⟨b,a,o,vs,h1,h2,h3⟩:=z;exact⟨b,a,o,vs,h1,by rw[upd_ne (show a≠p from fun e=>hn n (e▸h1))];exact h2,h3⟩
  | lkl xs=>obtain⟨b,a,o,vs,h1,h2,h3⟩:=z;exact⟨b,a,o,vs,h1,by rw[upd_ne (show a≠p from fun e=>hn n (e▸h1))];exact h2,h3⟩
  | tp xs=>obtain⟨b,a,o,vs,h1,h2,h3⟩:=z;exact⟨b,a,o,vs,h1,by rw[upd_ne (show a≠p from fun e=>hn n (e▸h1))];exact h2,h3⟩
  | own=>obtain⟨a,b,h1,h2⟩:=z;exact⟨a,b,h1,by rw[upd_ne (show a≠p from fun e=>hn n (e▸h1))];exact h2⟩
  | ins nm fs=>obtain⟨b,a,dx,C,vs,m,hm,h1,h2,c,h4,h3⟩:=z;exact⟨b,a,dx,C,vs,m,hm,h1,by rw[upd_ne (show a≠p from fun e=>hn n (e▸h1))];exact h2,c,by rw[upd_ne (show dx≠p from fun e=>hn m (e▸hm.2))];exact h4,h3⟩
  | gone=>exact z
theorem Tr.poke {p:Addr}{o:HO}(t:Tr ρ G0 H0 G H)(h0:H0 p=none):Tr ρ G0 H0 G (upd H p o) where
 exG:=t.exG
 keep:=fun a u hn h=>by rw[upd_ne (ne_of_none h h0)];exact t.keep a u hn h
 th:=fun a h=>by
  by_cases e:a=p
  ·rw[e];exact h0
  ·rw[upd_ne e] at h;exact t.th a h
 nG:=t.nG
 fz:=fun a od u h=>by rw[upd_ne (ne_of_none h h0)];exact t.fz a od u h
theorem paired_snoc {α β:Type}{P:α→β→Prop}:∀ {l:List α} {m:List β} {a:α} {b:β},Paired P l m→P a b→Paired P (l++[a]) (m++[b])
 | _,_,_,_,.nil,h=>.cons h .nil
 | _,_,_,_,.cons r t,h=>.cons r (paired_snoc t h)
theorem snd_lc {wi:TI}{fi:IM}{g:TG}{h:D→Env→Option Env}{tv vs:List Nat}{tt:TT}{ft:TM}{te:TE}{fe:EM}(hi:SndI K W wi fi)(hg:TgOk K g h tv)(hv:∀ i∈tv,i∈vs)(ht:SndT K WF tt ft)(he:SndE K WF te fe) :
  SndE K W (tLc wi g tt te vs) (eLc fi h ft fe vs):=fun ρ G H σ δ μ Q R E hp=>by
 refine SndG.seq (t:=wi) hi R E hp fun xs μ0 G0 H0 J t0 R0 E0 it hp0=>?_
 by_cases hz:xs.length≤sizeLine
 case neg=>rw[if_neg hz] at hp0;exact hp0.elim
 rw[if_pos hz] at hp0
 intro Dl hD
 obtain⟨nG0,nρ0⟩:=fresh_ne R0 hD
 have hp0:=hp0.shiftE t0
 refine⟨fun i m H1=>∃ G1 μ1 accV pre,Tr ρ G0 H0 G1 H1∧Rel K ρ G1 H1 μ1∧G1 Dl=none∧H1 Dl=some (.lst accV)∧DvL K ρ G1 accV pre∧pre.length≤i∧m=xs.length-i∧i≤xs.length ∧
  PostG K W ρ G0 H0 σ (fun G' H'=>rpE K ρ G' H0 H') Q ((lcL h ft fe (wipeE δ vs) (xs.drop i) μ1).bind fun ys μ2=>.ok (.nl (pre++ys)) μ2),⟨xs.length,G0,μ0,[],[],(Tr.refl _ _ _).poke hD,R0.poke nG0 nρ0,nG0,upd_same,.nil,by simp,by omega,by omega,?_⟩,fun i m H1 hW=>?_⟩
 ·exact hp0
 obtain⟨G1,μ1,accV,pre,t1,R1,nG1,eD,dl,hlen,em,hle,hp1⟩:=hW
 obtain⟨go,stop⟩:=it ρ G1 H1 μ1 R1 t1.exG t1.fz
 cases e:xs.drop i with
 | nil =>
  rw[e] at hp1
  have hl:xs.length≤i:=by
   have:=congrArg List.length e
   rw[List.length_drop] at this
   simp at this;omega
  simp only[lcL,Res.bind_ok,List.append_nil] at hp1
  exact .inl ⟨stop i hl,hp1 G1 H1 _ t1 R1 ⟨Dl,accV,rfl,eD,dl,nG1,nρ0,hD⟩⟩
 | cons d ds =>
  rw[e] at hp1
  obtain⟨hd,hds,hlt⟩:=drop_cons e
  obtain⟨g1,g2⟩:=go i d hd
  refine .inr ⟨g1,fun H'=>∃ m',m'<m∧_,fun H' q=>q,fun v H2 hy=>?_⟩
  obtain⟨G2,t2,R2,rp⟩:=g2 v H2 hy
  have E2:EnvOk K ρ G2 (wipe σ vs) (wipeE δ vs):=(E0.mono (t1.exG.trans t2.exG)).wipe vs
  unfold lcL at hp1
  cases eh:h d (wipeE δ vs) with
  | none=>simp only[eh] at hp1;exact hp1.elim
  | some δ1 =>
   simp only[eh] at hp1
   refine hg ρ G2 H2 μ1 _ (wipeE δ vs) δ1 v d _ R2 E2 rp eh fun σ2 E3 hl hσ=>⟨?_,?_⟩
   ·refine(wipe_ext (τ:=wipe σ vs) hl fun i hi=>hσ i fun z=>hi (hv i z)).trans ?_
    exact wipe_ext (by rw[wipe_length]) fun i hi=>wipe_out hi
   have nG2:∀ {G' H'},Tr ρ G1 H1 G' H'→G' Dl=none:=fun {G' H'} t'=>by
    cases q:G' Dl with
    | none=>rfl
    | some o=>exact((t'.nG Dl (by rw[q];simp)).elim (fun z=>absurd nG1 z) fun z=>by rw[eD] at z;cases z)
   refine ht ρ G2 H2 σ2 δ1 μ1 _ R2 E3 ?_
   cases et:ft δ1 μ1 with
   | exc x μ'=>simp only[et] at hp1;exact hp1.elim
   | bad=>simp only[et] at hp1;exact hp1.elim
   | ok b μ2 =>
    intro G3 H3 bv t3 R3 eb
    subst eb
    simp only[et] at hp1
    have T3:=t2.trans t3
    cases bv with
    | false =>
     refine⟨xs.length-(i+1),by omega,G3,μ2,accV,pre,t1.trans T3,R3,nG2 T3,T3.keep _ _ nρ0 eD,DvL.mono T3.exG (fun _ _ q=>q) dl,by omega,rfl,hlt,?_⟩
     rw[hds];exact hp1
    | true =>
     refine he.toV ρ G3 H3 σ2 δ1 μ2 _ R3 (E3.mono t3.exG) ?_
     simp only at hp1
     cases ee:frzV fe δ1 μ2 with
     | exc x μ'=>simp only[ee] at hp1;exact hp1.elim
     | bad=>simp only[ee] at hp1;exact hp1.elim
     | ok y μ3 =>
      simp only[ee] at hp1
      intro G4 H4 yv t4 R4 dy
      have T4:=T3.trans t4
      refine⟨accV,T4.keep _ _ nρ0 eD,?_,xs.length-(i+1),by omega,G4,μ3,accV++[yv],pre++[y],(t1.trans T4).poke hD,R4.poke (nG2 T4) nρ0,nG2 T4,upd_same,paired_snoc (DvL.mono T4.exG (fun _ _ q=>q) dl) dy,?_,rfl,hlt,?_⟩
      ·rw[paired_len dl];omega
      ·rw[List.length_append,List.length_singleton];omega
      ·rw[hds]
       have z:((lcL h ft fe (wipeE δ vs) ds μ3).bind fun ys μ2=>Res.ok (DL.R.nl (pre++[y]++ys)) μ2)=(((lcL h ft fe (wipeE δ vs) ds μ3).bind fun ys μ3=>Res.ok (y::ys) μ3).bind fun ys μ2=>.ok (DL.R.nl (pre++ys)) μ2):=by
        cases lcL h ft fe (wipeE δ vs) ds μ3 <;> simp
       rw[z];exact hp1
theorem snd_yes:SndT K W tYes (fun _ μ=>.ok true μ):=fun ρ G H σ δ μ Q R E hp=>hp G H true (Tr.refl _ _ _) R rfl
end
section
variable {X:Cx}{W:WX}
structure PMTs (X:Cx)(W:WX)(ifs:List Expr)(tt:TT)(f:TM):Prop where
 pe:PTs X ifs tt
 sd:SndT X.K W tt f
def tmYes:TM:=fun _ μ=>.ok true μ
theorem ts_nil:PMTs X W [] tYes tmYes:=⟨pts_nil,snd_yes⟩
theorem ts_one {c:Expr}{t:TT}{f:TM}(h:PMT X W c t f):PMTs X W [c] t f:=⟨pts_one h.pe,h.sd⟩
theorem pm_lc {elt tg iter:Expr}{ifs:List Expr}{scope:Scope}{own:List (Str×Nat)}{pos:Pos}{wi:TI}{fi:IM}{g:TG}{h:D→Env→Option Env}{tv:List Nat}{tt:TT}{ft:TM}{te:TE}{fe:EM}(hc:X.calm=true)(hN:X.N.Nodup)
  (hi:PMI X W tg iter wi fi) (ok:BlkOk X.N X.env.scope scope own)
  (hg:∀ (s:Shared) (H:Hp) (C:Addr) (cl:List (Str×Addr)) (fp:List Addr),PMG (X.blk s H scope (compEnvC scope cl C X.env) fp) tg g h tv)
  (hv:∀ i∈tv,i∈own.map (·.2))
  (ht:∀ (s:Shared) (H:Hp) (C:Addr) (cl:List (Str×Addr)) (fp:List Addr),PMTs (X.blk s H scope (compEnvC scope cl C X.env) fp) WF ifs tt ft)
  (he:∀ (s:Shared) (H:Hp) (C:Addr) (cl:List (Str×Addr)) (fp:List Addr),PM (X.blk s H scope (compEnvC scope cl C X.env) fp) WF elt te fe)
  (hs:∀ x,foldedSetIterable iter X.env x=pure x:=by intro _;rfl) :
  PM X W (.ListComp elt [⟨tg,iter,ifs,0⟩] scope pos) (tLc wi g tt te (own.map (·.2))) (eLc fi h ft fe (own.map (·.2))) :=
 ⟨pe_lc hc hN hi.pi ok (fun s H C cl fp=>(hg s H C cl fp).pg) (fun s H C cl fp=>(ht s H C cl fp).pe) (fun s H C cl fp=>(he s H C cl fp).pe) hs,
  snd_lc hi.sd (hg X.s_0 X.H_0 0 [] []).ok hv (ht X.s_0 X.H_0 0 [] []).sd (he X.s_0 X.H_0 0 [] []).sd⟩
abbrev EW (W:WX):Slots→XK:=fun σ cls d H=>W cls d σ H
theorem snd_call {K:PySem.W.Frag}{F:List DV→Mem→Res R}{n:Nat}{ta:TA}{fa:AM}(ha:SndA K W ta fa)(hn:∀ xs μ,F xs μ≠.bad→xs.length=n):SndE K W (tCallSD (spF K n F) [] (EW W) ta) (eCB F fa):=fun ρ G H σ δ μ Q R E hp=>by
 refine SndG.seq (t:=ta) ha R E hp fun xs μ1 G1 H1 vs t1 R1 E1 d1 hp1=>?_
 have hp2:=hp1.shiftE t1
 have hb:F xs μ1≠.bad:=fun e=>by rw[e] at hp2;exact hp2
 show spF K n F (vs++[]) H1 Q (EW W σ)
 rw[List.append_nil]
 refine⟨by rw[paired_len d1];exact hn xs μ1 hb,ρ,G1,μ1,xs,R1,d1,?_⟩
 cases e:F xs μ1 with
 | ok r μ'=>rw[e] at hp2;exact hp2
 | exc x μ'=>rw[e] at hp2;exact hp2
 | bad=>exact hb e
structure FnD (P:Program)(w:World)(K:PySem.W.Frag)(mg:Str→Option Value)(base:Heap)(cx:CXT)(k:Nat)(x:Str)(n:Nat)(F:List DV→Mem→Res R):Prop where
 ar:∀ xs μ,F xs μ≠.bad→xs.length=n
 ex:∃ (f:Addr) (fd:FuncData) (ps:List Str),ps.length=n∧FnG P w K mg base cx k f fd ps (spF K n F)∧mg x=some (.ref f)∧PySem.W.keepIn K (.ref f)=true∧Binds K fd ps []
theorem pm_call {cx:CXT}{k n:Nat}{x:Str}{F:List DV→Mem→Res R}{e:Expr}{es:List Expr}{ta:TA}{fa:AM}{p pos:Pos}(Fn:FnD X.prog X.w X.K X.mg X.base cx k x n F)(hr:Room k X.A)(hgd:X.A.guards=some [])(hg:Gl X x)
  (hx:∀ σ,PassesAt cx X σ (EW W σ)) (ha:PMA X W (e::es) ta fa) (hdb:(x==("__debug__":Str))=false:=by decide)
  (he:starEach (e::es) X.env=(false,eval e X.env)::starEach es X.env:=by rfl) (hpl:(backTo pos (starEach es X.env)).any (·.1)=false:=by rfl) :
  PM X W (.Call (.Name x p) (e::es) [] pos) (tCallSD (spF X.K n F) [] (EW W) ta) (eCB F fa):=by
 obtain⟨f,fd,ps,hn,G,hm,hk,hb⟩:=Fn.ex
 exact⟨pe_callG G hr hgd hg hm hk hb .nil hx ha.pe hdb he hpl,snd_call ha.sd Fn.ar⟩
def callD (g:SM)(n m:Nat):List DV→Mem→Res R:=fun xs μ=>if xs.length=n then callF g m xs μ else .bad
theorem callD_ar {g:SM}{n m:Nat}(xs:List DV)(μ:Mem)(h:callD g n m xs μ≠.bad):xs.length=n:=by
 unfold callD at h
 by_cases e:xs.length=n
 ·exact e
 ·rw[if_neg e] at h;exact absurd rfl h
theorem sp_callD {K:PySem.W.Frag}{g:SM}{n m:Nat}{vs:List V}{H:Hp}{Q:VK}{E:XK}(h:spF K n (callD g n m) vs H Q E):spF K n (callF g m) vs H Q E:=by
 obtain⟨hl,ρ,G,μ,xs,R,d,hp⟩:=h
 refine⟨hl,ρ,G,μ,xs,R,d,?_⟩
 unfold callD at hp
 rw[if_pos (by rw[←paired_len d];exact hl)] at hp
 exact hp
variable {P:Program}{w:World}{K:PySem.W.Frag}{mg:Str→Option Value}{base:Heap}
theorem fn_ok {x qual:Str}{st:Stmt}{f:Addr}{fd:FuncData}{Nm ps:List Str}{k n m:Nat}{g:SM}(F:Fun K x qual st f fd)(S:FnScope Nm ps (defScope st))(hm:mg x=some (.ref f))(hn:ps.length=n)(hmn:Nm.length=n+m)
  (hb:∀ (kV doc pm:Value) (an:Option Addr) (cdv ct:Value) (us:List Value),us.length=ps.length→bindArgs (PySem.W.fnOf x qual (defArgs st) (defBody st) (defScope st) .none kV doc pm an cdv ct) ⟨us,[]⟩=pure (ps.zip us))
  (body:∀ (cdv:Value) (A:Around) (out:List PySem.Env) (s:Shared) (H:Hp) (E:XK),Room k (A.deeper (envOfC qual (defScope st) s.heap.objs.size f cdv))→A.guards=some [] →
   ∃ ts,PSMs (cxOf CX0 P w K mg base Nm qual (defScope st) f cdv A out s H E).nox (fun cls d _ H=>E cls d H) (defBody st) ts g) :
  FnD P w K mg base CX0 (k+1) x n (callD g n m):=by
 refine⟨callD_ar,f,fd,ps,hn,?_,hm,F.kp,F.binds hb⟩
 obtain⟨oc,od,kV,doc,pm,an,cdv,ct,osl,rfl,lk,hcd⟩:=F.ex
 refine fnG_of lk hcd S (fun vs H Q E h=>by rw[h.1,hn]) fun A out s H vs Q E hr hg hsp=>?_
 obtain⟨ts,b⟩:=body cdv A out s H E hr hg
 refine⟨ts,b.ps.nox,?_⟩
 have e:Nm.length-n=m:=by omega
 exact body_ok (n:=n) b.sd (by omega) (by rw[e];exact sp_callD hsp)
theorem pass_0 {X:Cx}{E:Slots→XK}(σ:Slots):PassesAt CX0 X σ (E σ):=fun _ _ _ _ _ _ h=>h.elim
end
theorem OpR.or {X:Cx}{f:Value→Value→Sem Value}{r r':R2}(h:OpR X f r)(h':OpR X f r'):OpR X f (fun x y H Q=>r x y H Q∨r' x y H Q) :=
 fun pins s σ H x y v u Q I rx ry q=>q.elim (h pins s σ H x y v u Q I rx ry) (h' pins s σ H x y v u Q I rx ry)
theorem CallR.or {X:Cx}{f:Value}{r r':List V→Hp→VK→Prop}(h:CallR X f r)(h':CallR X f r'):CallR X f (fun x H Q=>r x H Q∨r' x H Q) :=
 fun pins s σ H x v Q I rx q=>q.elim (h pins s σ H x v Q I rx) (h' pins s σ H x v Q I rx)
theorem SlR.or {X:Cx}{r r':V→Option Int→Option Int→Hp→VK→Prop}(h:SlR X r)(h':SlR X r'):SlR X (fun x lo hi H Q=>r x lo hi H Q∨r' x lo hi H Q) :=
 fun pins s σ H x v vl vu lo hi sl Q I rx a b c q=>q.elim (h pins s σ H x v vl vu lo hi sl Q I rx a b c) (h' pins s σ H x v vl vu lo hi sl Q I rx a b c)
def asL (μ:Mem):DV→Option (List DV)
 | .dat (.lst ds)=>some (ds.map DV.dat)
 | .dat (.fro ds)=>some (ds.map DV.dat)
 | .loc n=>match μ[n]? with
  | some (.lst xs)=>some xs
  | _=>none
 | _=>none
def asM (μ:Mem):DV→Option (List DV)
 | .dat (.lst ds)=>some (ds.map DV.dat)
 | .loc n=>match μ[n]? with
  | some (.lst xs)=>some xs
  | _=>none
 | _=>none
def asT:DV→Option (List D)
 | .dat (.tup ds)=>some ds
 | _=>none
def asS (μ:Mem)(x:DV):Option (List DV):=match asL μ x with
 | some xs=>some xs
 | none=>(asT x).map fun ds=>ds.map DV.dat
section
variable {K:PySem.W.Frag}{W:WX}{N M:Nat}{ρ:Pm}{G H:Hp}{σ:Slots}{δ:Env}{μ:Mem}{Q:VK}{v:V}{x:DV}
theorem RpL.dv {vs:List V}{ds:List D}:RpL K G vs ds→DvL K ρ G vs (ds.map DV.dat)
 | .nil=>.nil
 | .cons a b=>.cons a (RpL.dv b)
theorem asL_ok {xs:List DV}(R:Rel K ρ G H μ)(h:DvOk K ρ G v x)(e:asL μ x=some xs):∃ a vs,v=.ref a∧SqL K H a vs∧DvL K ρ G vs xs:=by
 unfold asL at e
 split at e
 ·cases e
  cases h with
  | lst h r=>exact⟨_,_,rfl,.inl (.inl (R.ex _ _ h)),r.dv⟩
 ·cases e
  cases h with
  | fro h r=>exact⟨_,_,rfl,ex_l R.ex h,r.dv⟩
 ·rename_i n
  split at e
  ·rename_i q
   cases e
   obtain⟨a,rfl,hn⟩:=h
   obtain⟨_,b,vs,h1,h2,h3⟩:=R.pl n _ q
   rw[hn] at h1;cases h1
   exact⟨a,vs,rfl,.inl (.inl h2),h3⟩
  ·cases e
 ·cases e
theorem asM_ok {xs:List DV}(R:Rel K ρ G H μ)(h:DvOk K ρ G v x)(e:asM μ x=some xs):∃ a vs,v=.ref a∧H a=some (.lst vs)∧DvL K ρ G vs xs:=by
 unfold asM at e
 split at e
 ·cases e
  cases h with
  | lst h r=>exact⟨_,_,rfl,R.ex _ _ h,r.dv⟩
 ·rename_i n
  split at e
  ·rename_i q
   cases e
   obtain⟨a,rfl,hn⟩:=h
   obtain⟨_,b,vs,h1,h2,h3⟩:=R.pl n _ q
   rw[hn] at h1;cases h1
   exact⟨a,vs,rfl,h2,h3⟩
  ·cases e
 ·cases e
theorem asT_ok {ds:List D}(R:Rel K ρ G H μ)(h:DvOk K ρ G v x)(e:asT x=some ds):∃ a vs,v=.ref a∧SqT K H a vs∧RpL K G vs ds:=by
 unfold asT at e
 split at e
 ·cases e
  cases h with
  | tup h r=>exact⟨_,_,rfl,ex_t R.ex h,r⟩
 ·cases e
theorem asT_eq {ds:List D}(e:asT x=some ds):x=.dat (.tup ds):=by
 unfold asT at e
 split at e
 ·cases e;rfl
 ·cases e
theorem new_tup {G0 H0:Hp}{p:Addr}{vs:List V}{ds:List D}(R:Rel K ρ G H μ)(t:Tr ρ G0 H0 G H)(hn:H p=none)(r:RpL K G vs ds)
  (hp:PostG K W ρ G0 H0 σ (fun G' H'=>rpE K ρ G' H0 H') Q (.ok (.dat (.tup ds)) μ)):Q (.ref p) (upd H p (.tup vs)):=by
 obtain⟨R2,t2,ex⟩:=R.layD (o:=.tup vs) hn
 exact hp _ _ _ (t.trans t2) R2 (Rp.tup (.inl (.inl upd_same)) (r.mono ex))
theorem asS_ok {xs:List DV}(R:Rel K ρ G H μ)(h:DvOk K ρ G v x)(e:asS μ x=some xs):∃ a vs,v=.ref a∧(SqL K H a vs∨SqT K H a vs)∧DvL K ρ G vs xs:=by
 unfold asS at e
 split at e
 ·rename_i q
  cases e
  obtain⟨a,vs,h1,h2,h3⟩:=asL_ok R h q
  exact⟨a,vs,h1,.inl h2,h3⟩
 ·cases q:asT x with
  | none=>rw[q] at e;cases e
  | some ds =>
   rw[q] at e;cases e
   obtain⟨a,vs,h1,h2,h3⟩:=asT_ok R h q
   exact⟨a,vs,h1,.inr h2,h3.dv⟩
theorem DvL.get':∀ {vs:List V} {xs:List DV} {i:Nat} {y:DV},DvL K ρ G vs xs→xs[i]?=some y→∃ w,vs[i]?=some w∧DvOk K ρ G w y
 | _,_,_,_,.nil,h=>by simp at h
 | _,_,0,_,.cons a _,h=>by cases h;exact⟨_,rfl,a⟩
 | _,_,i+1,v,.cons _ b,h=>DvL.get' (i:=i) b h
theorem DvL.take {vs:List V}{xs:List DV}(h:DvL K ρ G vs xs)(n:Nat):DvL K ρ G (vs.take n) (xs.take n):=by
 induction h generalizing n with
 | nil=>simp;exact .nil
 | cons a _ ih =>
  cases n with
  | zero=>exact .nil
  | succ n=>exact .cons a (ih n)
theorem DvL.drop {vs:List V}{xs:List DV}(h:DvL K ρ G vs xs)(n:Nat):DvL K ρ G (vs.drop n) (xs.drop n):=by
 induction h generalizing n with
 | nil=>simp;exact .nil
 | cons a b ih =>
  cases n with
  | zero=>exact .cons a b
  | succ n=>exact ih n
theorem DvL.append {vs ws:List V}{xs ys:List DV}(h:DvL K ρ G vs xs)(h':DvL K ρ G ws ys):DvL K ρ G (vs++ws) (xs++ys):=by
 induction h with
 | nil=>exact h'
 | cons a _ ih=>exact .cons a ih
theorem PostG.okD {d:D}(h:PostG K W ρ G H σ (fun G' H'=>rpE K ρ G' H H') Q (.ok (.dat d) μ))(R:Rel K ρ G H μ)(r:Rp K G v d):Q v H:=h G H v (Tr.refl _ _ _) R r
theorem PostG.okV {y:DV}(h:PostG K W ρ G H σ (fun G' H'=>rpE K ρ G' H H') Q (.ok (ofV y) μ))(R:Rel K ρ G H μ)(r:DvOk K ρ G v y):Q v H:=h G H v (Tr.refl _ _ _) R (RpR.ofV r)
def asI:DV→Option Int
 | .dat (.int i)=>some i
 | _=>none
def asStr:DV→Option Str
 | .dat (.str i)=>some i
 | _=>none
def asBl:DV→Option Bool
 | .dat (.bl i)=>some i
 | _=>none
theorem asI_ok {i:Int}(h:DvOk K ρ G v x)(e:asI x=some i):v=.int i:=by
 unfold asI at e
 split at e
 ·cases e;cases h;rfl
 ·cases e
theorem asStr_ok {i:Str}(h:DvOk K ρ G v x)(e:asStr x=some i):v=.str i:=by
 unfold asStr at e
 split at e
 ·cases e;cases h;rfl
 ·cases e
theorem asBl_ok {i:Bool}(h:DvOk K ρ G v x)(e:asBl x=some i):v=.bl i:=by
 unfold asBl at e
 split at e
 ·cases e;cases h;rfl
 ·cases e
def d2I (C:Int→Int→Bool)(g:Int→Int→D)(x y:DV)(μ:Mem):Res R:=match asI x with
 | none=>.bad
 | some i=>match asI y with
  | none=>.bad
  | some j=>if C i j=true then .ok (.dat (g i j)) μ else .bad
theorem od_I {C:Int→Int→Prop}{Cb:Int→Int→Bool}{g:Int→Int→V}{gd:Int→Int→D}(hC:∀ i j,Cb i j=true→C i j)(hg:∀ G i j,Rp K G (g i j) (gd i j)):OpD K (rI C g) (d2I Cb gd):=fun W ρ G H σ μ v w x y Q R hx hy hp=>by
 unfold d2I at hp
 cases e1:asI x with
 | none=>rw[e1] at hp;exact hp.elim
 | some i =>
  rw[e1] at hp
  cases e2:asI y with
  | none=>rw[e2] at hp;exact hp.elim
  | some j =>
   rw[e2] at hp
   by_cases c:Cb i j=true
   ·simp only[if_pos c] at hp;exact⟨i,j,asI_ok hx e1,asI_ok hy e2,hC i j c,hp.okD R (hg G i j)⟩
   ·simp only[if_neg c] at hp;exact hp.elim
theorem od_I0 {g:Int→Int→V}{gd:Int→Int→D}(hg:∀ G i j,Rp K G (g i j) (gd i j)):OpD K (rI0 g) (d2I (fun _ _=>true) gd):=fun W ρ G H σ μ v w x y Q R hx hy hp=>by
 obtain⟨i,j,h1,h2,_,q⟩:=od_I (C:=fun _ _=>True) (fun _ _ _=>trivial) hg W ρ G H σ μ v w x y Q R hx hy hp
 exact⟨i,j,h1,h2,q⟩
abbrev dSub:DV→DV→Mem→Res R:=d2I (fun _ _=>true) fun i j=>.int (i-j)
def cMul (i j:Int):Bool:=decide (-2^64<i∧i<2^64)||decide (-2^64<j∧j<2^64)
abbrev dMul:DV→DV→Mem→Res R:=d2I cMul fun i j=>.int (i*j)
abbrev dMod:DV→DV→Mem→Res R:=d2I (fun _ j=>decide (0<j)) fun i j=>.int (i % j)
abbrev dLt:DV→DV→Mem→Res R:=d2I (fun _ _=>true) fun i j=>.bl (decide (i<j))
abbrev dLe:DV→DV→Mem→Res R:=d2I (fun _ _=>true) fun i j=>.bl (decide (i≤j))
abbrev dGt:DV→DV→Mem→Res R:=d2I (fun _ _=>true) fun i j=>.bl (decide (j<i))
abbrev dGe:DV→DV→Mem→Res R:=d2I (fun _ _=>true) fun i j=>.bl (decide (j≤i))
theorem od_sub:OpD K (rI0 fun i j=>V.int (i-j)) dSub:=od_I0 fun _ _ _=>.int _
theorem od_mul:OpD K (rI CMul fun i j=>V.int (i*j)) dMul:=od_I (fun i j h=>by
 unfold cMul at h
 rw[Bool.or_eq_true,decide_eq_true_eq,decide_eq_true_eq] at h
 exact h) fun _ _ _=>.int _
theorem od_mod:OpD K (rI (fun _ j=>0<j) fun i j=>V.int (i % j)) dMod:=od_I (fun i j h=>of_decide_eq_true h) fun _ _ _=>.int _
theorem od_lt:OpD K (rI0 fun i j=>V.bl (decide (i<j))) dLt:=od_I0 fun _ _ _=>.bl _
theorem od_le:OpD K (rI0 fun i j=>V.bl (decide (i≤j))) dLe:=od_I0 fun _ _ _=>.bl _
theorem od_gt:OpD K (rI0 fun i j=>V.bl (decide (j<i))) dGt:=od_I0 fun _ _ _=>.bl _
theorem od_ge:OpD K (rI0 fun i j=>V.bl (decide (j≤i))) dGe:=od_I0 fun _ _ _=>.bl _
def rPlus (K:PySem.W.Frag):R2:=fun x y H Q=>(rI0 (fun i j=>V.int (i+j)) x y H Q∨rCat x y H Q) ∨
 (rCatA K x y H Q∨∃ i j,x=V.str i∧y=V.str j∧i.length+j.length≤sizeLine∧Q (V.str (i++j)) H)
theorem op_plus {X:Cx}:OpR X (binaryOp .Add) (rPlus X.K):=OpR.or (OpR.or op_add op_cat) (OpR.or op_catA op_add_str)
def dAdd (x y:DV)(μ:Mem):Res R:=match asI x,asI y with
 | some i,some j=>.ok (.dat (.int (i+j))) μ
 | _,_=>match asStr x,asStr y with
  | some i,some j=>if i.length+j.length≤sizeLine then .ok (.dat (.str (i++j))) μ else .bad
  | _,_=>match asT x,asT y with
   | some a,some b=>if a.length+b.length≤sizeLine then .ok (.dat (.tup (a++b))) μ else .bad
   | _,_=>match asM μ x,asM μ y with
    | some a,some b=>if a.length+b.length≤sizeLine then .ok (.nl (a++b)) μ else .bad
    | _,_=>.bad
theorem od_add:OpD K (rPlus K) dAdd:=fun W ρ G H σ μ v w x y Q R hx hy hp=>by
 unfold dAdd at hp
 split at hp
 ·rename_i i j e1 e2
  exact .inl (.inl ⟨i,j,asI_ok hx e1,asI_ok hy e2,hp.okD R (.int _)⟩)
 split at hp
 ·rename_i i j e1 e2
  by_cases c:i.length+j.length≤sizeLine
  ·rw[if_pos c] at hp;exact .inr (.inr ⟨i,j,asStr_ok hx e1,asStr_ok hy e2,c,hp.okD R (.str _)⟩)
  ·rw[if_neg c] at hp;exact hp.elim
 split at hp
 ·rename_i a b e1 e2
  by_cases c:a.length+b.length≤sizeLine
  ·rw[if_pos c] at hp
   obtain⟨p,vs,rfl,h2,h3⟩:=asT_ok R hx e1
   obtain⟨q,ws,rfl,k2,k3⟩:=asT_ok R hy e2
   refine .inr (.inl ⟨p,q,vs,ws,rfl,rfl,h2,k2,by rw[h3.length,k3.length];exact c,fun z=>?_,fun _ z=>?_,fun _ _ t ht=>?_⟩)
   ·subst z
    cases h3
    rw[asT_eq e2] at hy
    exact hp.okD R hy
   ·subst z
    cases k3
    rw[List.append_nil] at hp
    rw[asT_eq e1] at hx
    exact hp.okD R hx
   ·exact new_tup R (Tr.refl _ _ _) ht (h3.append k3) hp
  ·rw[if_neg c] at hp;exact hp.elim
 split at hp
 ·rename_i a b e1 e2
  by_cases c:a.length+b.length≤sizeLine
  ·rw[if_pos c] at hp
   obtain⟨p,vs,rfl,h2,h3⟩:=asM_ok R hx e1
   obtain⟨q,ws,rfl,k2,k3⟩:=asM_ok R hy e2
   exact .inl (.inr ⟨p,q,vs,ws,rfl,rfl,h2,k2,by rw[paired_len h3,paired_len k3];exact c,fun t ht=>new_list R (Tr.refl _ _ _) ht (h3.append k3) hp⟩)
  ·rw[if_neg c] at hp;exact hp.elim
 exact hp.elim
def dIx (x y:DV)(μ:Mem):Res R:=match asI y with
 | none=>.bad
 | some i=>match asS μ x with
  | some xs=>match atI xs i with
   | some z=>.ok (ofV z) μ
   | none=>.bad
  | none=>match asStr x with
   | some z=>if z.length≤sizeLine then match atI z.cps.toList i with
     | some c=>.ok (.dat (.str ⟨#[c]⟩)) μ
     | none=>.bad
    else .bad
   | none=>.bad
theorem atI_dv {vs:List V}{xs:List DV}{i:Int}{y:DV}(h:DvL K ρ G vs xs)(e:atI xs i=some y):∃ w,atI vs i=some w∧DvOk K ρ G w y:=by
 unfold atI at e ⊢
 rw[paired_len h]
 cases q:ixN xs.length i with
 | none=>rw[q] at e;cases e
 | some j=>rw[q] at e;exact DvL.get' h e
theorem od_ix:OpD K (rIx K) dIx:=fun W ρ G H σ μ v w x y Q R hx hy hp=>by
 unfold dIx at hp
 cases e1:asI y with
 | none=>rw[e1] at hp;exact hp.elim
 | some i =>
  rw[e1] at hp
  have ew:=asI_ok hy e1
  cases e2:asS μ x with
  | some xs =>
   simp only[e2] at hp
   obtain⟨a,vs,rfl,h2,h3⟩:=asS_ok R hx e2
   cases e3:atI xs i with
   | none=>rw[e3] at hp;exact hp.elim
   | some z =>
    rw[e3] at hp
    obtain⟨u,q1,q2⟩:=atI_dv h3 e3
    rcases h2 with h2|h2
    ·exact .inl ⟨a,vs,i,u,rfl,ew,h2,q1,hp.okV R q2⟩
    ·exact .inr (.inl ⟨a,vs,i,u,rfl,ew,h2,q1,hp.okV R q2⟩)
  | none =>
   simp only[e2] at hp
   cases e3:asStr x with
   | none=>rw[e3] at hp;exact hp.elim
   | some z =>
    simp only[e3] at hp
    by_cases c:z.length≤sizeLine
    ·rw[if_pos c] at hp
     cases e4:atI z.cps.toList i with
     | none=>rw[e4] at hp;exact hp.elim
     | some k=>rw[e4] at hp;exact .inr (.inr ⟨z,i,k,asStr_ok hx e3,ew,c,e4,hp.okD R (.str _)⟩)
    ·rw[if_neg c] at hp;exact hp.elim
def cutL {α:Type}(xs:List α)(lo hi:Option Int):List α:=(xs.drop (HT.sIx xs.length 0 lo)).take (HT.sIx xs.length xs.length hi-HT.sIx xs.length 0 lo)
def rSl (K:PySem.W.Frag):V→Option Int→Option Int→Hp→VK→Prop:=fun x lo hi H Q=>(rSlL K x lo hi H Q∨rSlA K x lo hi H Q)∨rSlS x lo hi H Q
theorem sl_any {X:Cx}:SlR X (rSl X.K):=SlR.or (SlR.or sl_list sl_tupA) sl_str
def dSl (x:DV)(lo hi:Option Int)(μ:Mem):Res R:=match asL μ x with
 | some xs=>.ok (.nl (cutL xs lo hi)) μ
 | none=>match asT x with
  | some ds=>.ok (.dat (.tup (cutL ds lo hi))) μ
  | none=>match asStr x with
   | some z=>if z.length≤sizeLine then .ok (.dat (.str (cutS z lo hi))) μ else .bad
   | none=>.bad
theorem cutL_full {α:Type}{xs:List α}{lo hi:Option Int}(h:HT.sIx xs.length 0 lo=0∧HT.sIx xs.length xs.length hi=xs.length):cutL xs lo hi=xs:=by
 unfold cutL;rw[h.1,h.2];simp
theorem dvl_cut {vs:List V}{xs:List DV}{lo hi:Option Int}(h:DvL K ρ G vs xs):DvL K ρ G (L2.cutV vs lo hi) (cutL xs lo hi):=by
 unfold L2.cutV cutL
 rw[paired_len h]
 exact(h.drop _).take _
theorem rpl_cut {vs:List V}{xs:List D}{lo hi:Option Int}(h:RpL K G vs xs):RpL K G (L2.cutV vs lo hi) (cutL xs lo hi):=by
 unfold L2.cutV cutL
 rw[h.length]
 exact(h.drop _).take _
theorem od_sl {lo hi:Option Int}(R:Rel K ρ G H μ)(hx:DvOk K ρ G v x)(hp:PostG K W ρ G H σ (fun G' H'=>rpE K ρ G' H H') Q (dSl x lo hi μ)):rSl K v lo hi H Q:=by
 unfold dSl at hp
 split at hp
 ·rename_i xs e
  obtain⟨a,vs,rfl,h2,h3⟩:=asL_ok R hx e
  exact .inl (.inl ⟨a,vs,rfl,h2,fun p hn=>new_list R (Tr.refl _ _ _) hn (dvl_cut h3) hp⟩)
 split at hp
 ·rename_i ds e
  obtain⟨a,vs,rfl,h2,h3⟩:=asT_ok R hx e
  refine .inl (.inr ⟨a,vs,rfl,h2,fun z=>?_,fun _ p hn=>new_tup R (Tr.refl _ _ _) hn (rpl_cut h3) hp⟩)
  rw[h3.length] at z
  rw[cutL_full z] at hp
  rw[asT_eq e] at hx
  exact hp.okD R hx
 split at hp
 ·rename_i z e
  by_cases c:z.length≤sizeLine
  ·rw[if_pos c] at hp;exact .inr ⟨z,asStr_ok hx e,c,hp.okD R (.str _)⟩
  ·rw[if_neg c] at hp;exact hp.elim
 exact hp.elim
abbrev OM:=Env→Mem→Res (Option Int)
abbrev SndO (K:PySem.W.Frag)(W:WX)(t:TO)(f:OM):Prop:=SndG K W t f rpT
def oNone:OM:=fun _ μ=>.ok none μ
def oSome (f:EM):OM:=fun δ μ=>(frzV f δ μ).bind fun x μ'=>match asI x with
 | some i=>.ok (some i) μ'
 | none=>.bad
def eSl (f:EM)(lo hi:OM):EM:=fun δ μ=>(frzV f δ μ).bind fun x μ1=>(lo δ μ1).bind fun l μ2=>(hi δ μ2).bind fun u μ3=>dSl x l u μ3
end
structure PMO (X:Cx)(W:WX)(e:Option Expr)(t:TO)(f:OM):Prop where
 po:PO X e t
 sd:SndO X.K W t f
section
variable {X:Cx}{W:WX}{pos p2:Pos}{e:Expr}{lo hi:Option Expr}{te:TE}{tl th:TO}{f:EM}{fl fh:OM}
theorem mo_none:PMO X W none tNoPart oNone:=⟨po_none,fun ρ G H σ δ μ Q R E hp=>hp G H none (Tr.refl _ _ _) R rfl⟩
theorem mo_some (h:PM X W e te f):PMO X W (some e) (tPart te) (oSome f):=⟨po_some h.pe,fun ρ G H σ δ μ Q R E hp=>by
 refine SndG.seq (t:=te) h.sd.toV R E hp fun x μ1 G1 H1 v t1 R1 E1 d1 hp1=>?_
 cases e:asI x with
 | none=>rw[e] at hp1;exact hp1.elim
 | some i=>rw[e] at hp1;exact⟨i,asI_ok d1 e,hp1 G1 H1 _ t1 R1 rfl⟩⟩
theorem pm_sl (h:PM X W e te f)(hl:PMO X W lo tl fl)(hh:PMO X W hi th fh):PM X W (.Subscript e (.Slice lo hi none p2) pos) (tSl (rSl X.K) te tl th) (eSl f fl fh):=⟨pe_slice sl_any h.pe hl.po hh.po,fun ρ G H σ δ μ Q R E hp=>by
 refine SndG.seq (t:=te) h.sd.toV R E hp fun x μ1 G1 H1 v t1 R1 E1 d1 hp1=>?_
 refine SndG.seq (t:=tl) hl.sd R1 E1 (hp1.shiftE t1) fun l μ2 G2 H2 lv t2 R2 E2 d2 hp2=>?_
 refine SndG.seq (t:=th) hh.sd R2 E2 (hp2.shiftE t2) fun u μ3 G3 H3 uv t3 R3 E3 d3 hp3=>?_
 subst d2 d3
 exact od_sl R3 (d1.mono (t2.exG.trans t3.exG) fun _ _ q=>q) (hp3.shiftE t3)⟩
theorem pm_add {a b:Expr}{ta tb:TE}{fa fb:EM}(ha:PM X W a ta fa)(hb:PM X W b tb fb):PM X W (.BinOp a .Add b pos) (tOp (rPlus X.K) ta tb) (eOp dAdd fa fb):=pm_op op_plus od_add ha hb
theorem pm_sub {a b:Expr}{ta tb:TE}{fa fb:EM}(ha:PM X W a ta fa)(hb:PM X W b tb fb):PM X W (.BinOp a .Sub b pos) (tOp (rI0 fun i j=>V.int (i-j)) ta tb) (eOp dSub fa fb):=pm_op op_sub od_sub ha hb
theorem pm_mul {a b:Expr}{ta tb:TE}{fa fb:EM}(ha:PM X W a ta fa)(hb:PM X W b tb fb):PM X W (.BinOp a .Mult b pos) (tOp (rI CMul fun i j=>V.int (i*j)) ta tb) (eOp dMul fa fb):=pm_op op_mul od_mul ha hb
theorem pm_mod {a b:Expr}{ta tb:TE}{fa fb:EM}(ha:PM X W a ta fa)(hb:PM X W b tb fb):PM X W (.BinOp a .Mod b pos) (tOp (rI (fun _ j=>0<j) fun i j=>V.int (i % j)) ta tb) (eOp dMod fa fb):=pm_op op_mod od_mod ha hb
theorem pm_idx {a b:Expr}{ta tb:TE}{fa fb:EM}(ha:PM X W a ta fa)(hb:PM X W b tb fb)(hs:PlainIx b):PM X W (.Subscript a b pos) (tOp (rIx X.K) ta tb) (eOp dIx fa fb):=pm_ix ix_seq od_ix ha hb hs
end
mutual
def toPy:D→Option PyData
 | .non=>some .none
 | .bl b=>some (.bool b)
 | .int i=>some (.int i)
 | .str s=>some (.str s)
 | .tup xs=>(toPyL xs).map .tuple
 | .lst xs=>(toPyL xs).map .list
 | .fro xs=>(toPyL xs).map .list
 | .ty _=>none
 | .ref _=>none
 | .dct _=>none
 | .ins _ _=>none
 | .err _ _ _ _ _=>none
def toPyL:List D→Option (List PyData)
 | []=>some []
 | x::xs=>match toPy x with
  | none=>none
  | some p=>(toPyL xs).map (p::·)
end
def peekL (f:DV→Option D):List DV→Option (List D)
 | []=>some []
 | x::xs=>match f x with
  | none=>none
  | some d=>(peekL f xs).map (d::·)
def peekK:Nat→Mem→DV→Option D
 | _,_,.dat d=>some d
 | 0,_,.loc _=>none
 | k+1,μ,.loc n=>match μ[n]? with
  | some (.lst xs)=>(peekL (peekK k μ) xs).map .lst
  | some (.tp xs)=>(peekL (peekK k μ) xs).map .tup
  | _=>none
def peek (μ:Mem)(x:DV):Option D:=peekK 5 μ x
def peekPy (μ:Mem)(x:DV):Option PyData:=(peek μ x).bind toPy
section
variable {K:PySem.W.Frag}{W:WX}{N M:Nat}{ρ:Pm}{G H:Hp}{σ:Slots}{δ:Env}{μ:Mem}{Q:VK}{v w:V}{x y:DV}
mutual
theorem Rp.dp:∀ {v:V} {d:D} {p:PyData},Rp K G v d→toPy d=some p→Dp K G v p
 | _,_,_,.non,e=>by cases e;exact .non
 | _,_,_,.bl b,e=>by cases e;exact .bl b
 | _,_,_,.int i,e=>by cases e;exact .int i
 | _,_,_,.str s,e=>by cases e;exact .str s
 | _,_,_,.ty n,e=>by cases e
 | _,_,_,.ref a,e=>by cases e
 | _,_,_,.tup (ds:=ds) h r,e=>by
  simp only[toPy] at e
  cases q:toPyL ds with
  | none=>rw[q] at e;cases e
  | some ps=>rw[q] at e;cases e;exact .tup h (RpL.dp r q)
 | _,_,_,.lst (ds:=ds) h r,e=>by
  simp only[toPy] at e
  cases q:toPyL ds with
  | none=>rw[q] at e;cases e
  | some ps=>rw[q] at e;cases e;exact .lst (.inl (.inl h)) (RpL.dp r q)
 | _,_,_,.fro (ds:=ds) h r,e=>by
  simp only[toPy] at e
  cases q:toPyL ds with
  | none=>rw[q] at e;cases e
  | some ps=>rw[q] at e;cases e;exact .lst h (RpL.dp r q)
 | _,_,_,.dct _ _ _,e=>by cases e
 | _,_,_,.ins _ _ _ _ _,e=>by cases e
 | _,_,_,.er0 _,e=>by cases e
 | _,_,_,.err _ _ _ _,e=>by cases e
theorem RpL.dp:∀ {vs:List V} {ds:List D} {ps:List PyData},RpL K G vs ds→toPyL ds=some ps→DpAll K G vs ps
 | _,_,_,.nil,e=>by cases e;exact .nil
 | _,_,_,.cons (d:=d) (ds:=ds) a b,e=>by
  simp only[toPyL] at e
  cases q:toPy d with
  | none=>rw[q] at e;cases e
  | some p =>
   rw[q] at e
   cases q2:toPyL ds with
   | none=>rw[q2] at e;cases e
   | some ps=>rw[q2] at e;cases e;exact .cons (Rp.dp a q) (RpL.dp b q2)
end
theorem peekL_ok {f:DV→Option D}(hf:∀ v x d,DvOk K ρ G v x→f x=some d→Rp K H v d):∀ {vs:List V} {xs:List DV} {ds:List D},DvL K ρ G vs xs→peekL f xs=some ds→RpL K H vs ds
 | _,_,_,.nil,e=>by cases e;exact .nil
 | _,x::xs,ds,.cons a b,e=>by
  unfold peekL at e
  cases q:f x with
  | none=>rw[q] at e;cases e
  | some d =>
   rw[q] at e
   cases q2:peekL f xs with
   | none=>rw[q2] at e;cases e
   | some es=>rw[q2] at e;cases e;exact .cons (hf _ _ _ a q) (peekL_ok hf b q2)
theorem peekK_ok (R:Rel K ρ G H μ):∀ (k:Nat) (v:V) (x:DV) (d:D),DvOk K ρ G v x→peekK k μ x=some d→Rp K H v d
 | k,v,.dat d',d,h,e=>by
  have:peekK k μ (.dat d')=some d':=by cases k <;> rfl
  rw[this] at e;cases e;exact Rp.mono R.ex h
 | 0,v,.loc n,d,h,e=>by cases e
 | k+1,v,.loc n,d,h,e=>by
  unfold peekK at e
  split at e
  ·rename_i xs q
   cases qa:peekL (peekK k μ) xs with
   | none=>rw[qa] at e;cases e
   | some ds =>
    rw[qa] at e;cases e
    obtain⟨a,rfl,hn⟩:=h
    obtain⟨_,b,vs,h1,h2,h3⟩:=R.pl n _ q
    rw[hn] at h1;cases h1
    exact Rp.lst h2 (peekL_ok (fun v x d=>peekK_ok R k v x d) h3 qa)
  ·rename_i xs q
   cases qa:peekL (peekK k μ) xs with
   | none=>rw[qa] at e;cases e
   | some ds =>
    rw[qa] at e;cases e
    obtain⟨a,rfl,hn⟩:=h
    obtain⟨_,b,_,vs,h1,h2,h3⟩:=R.pl n _ q
    rw[hn] at h1;cases h1
    exact Rp.tup (.inl (.inl h2)) (peekL_ok (fun v x d=>peekK_ok R k v x d) h3 qa)
  ·cases e
theorem peek_ok {d:D}(R:Rel K ρ G H μ)(h:DvOk K ρ G v x)(e:peek μ x=some d):Rp K H v d:=peekK_ok R 5 v x d h e
theorem peekPy_ok {p:PyData}(R:Rel K ρ G H μ)(h:DvOk K ρ G v x)(e:peekPy μ x=some p):Dp K H v p:=by
 unfold peekPy at e
 cases q:peek μ x with
 | none=>rw[q] at e;cases e
 | some d=>rw[q] at e;exact Rp.dp (peek_ok R h q) e
def dEqB (b:Bool)(x y:DV)(μ:Mem):Res R:=match peekPy μ x with
 | none=>.bad
 | some p=>match peekPy μ y with
  | none=>.bad
  | some q=>if SeqAt.shaped p=true∧SeqAt.shaped q=true then .ok (.dat (.bl (PyData.eqv p q==b))) μ else .bad
def dEqS (b:Bool)(x y:DV)(μ:Mem):Res R:=match asStr x with
 | none=>dEqB b x y μ
 | some s=>match asStr y with
  | none=>dEqB b x y μ
  | some t=>.ok (.dat (.bl (decide (s=t)==b))) μ
abbrev dEq:DV→DV→Mem→Res R:=dEqS true
abbrev dNe:DV→DV→Mem→Res R:=dEqS false
def rEqQ (K:PySem.W.Frag):R2:=fun x y H Q=>rEq x y H Q∨rEqD K x y H Q
def rNeQ (K:PySem.W.Frag):R2:=fun x y H Q=>rNe x y H Q∨rNeD K x y H Q
theorem op_eqQ {X:Cx}(h:X.A.units+64<cLine):OpR X (compareOp .Eq) (rEqQ X.K):=OpR.or op_eq (op_eqD h)
theorem op_neQ {X:Cx}(h:X.A.units+64<cLine):OpR X (compareOp .NotEq) (rNeQ X.K):=OpR.or op_ne (op_neD h)
theorem od_eqB (b:Bool)(R:Rel K ρ G H μ)(hx:DvOk K ρ G v x)(hy:DvOk K ρ G w y)(hp:PostG K W ρ G H σ (fun G' H'=>rpE K ρ G' H H') Q (dEqB b x y μ)) :
  ∃ d e,Dp K H v d∧Dp K H w e∧SeqAt.shaped d=true∧SeqAt.shaped e=true∧Q (.bl (PyData.eqv d e==b)) H:=by
 unfold dEqB at hp
 cases e1:peekPy μ x with
 | none=>rw[e1] at hp;exact hp.elim
 | some p =>
  rw[e1] at hp
  cases e2:peekPy μ y with
  | none=>rw[e2] at hp;exact hp.elim
  | some q =>
   rw[e2] at hp
   by_cases c:SeqAt.shaped p=true∧SeqAt.shaped q=true
   ·simp only[if_pos c] at hp
    exact⟨p,q,peekPy_ok R hx e1,peekPy_ok R hy e2,c.1,c.2,hp.okD R (.bl _)⟩
   ·simp only[if_neg c] at hp;exact hp.elim
theorem od_eqS (b:Bool)(R:Rel K ρ G H μ)(hx:DvOk K ρ G v x)(hy:DvOk K ρ G w y)(hp:PostG K W ρ G H σ (fun G' H' v r=>rpE K ρ G' H H' v r) Q (dEqS b x y μ)) :
  (scal v w=true∧Q (.bl (decide (v=w)==b)) H)∨∃ d e,Dp K H v d∧Dp K H w e∧SeqAt.shaped d=true∧SeqAt.shaped e=true∧Q (.bl (PyData.eqv d e==b)) H:=by
 unfold dEqS at hp
 cases e1:asStr x with
 | none=>rw[e1] at hp;exact .inr (od_eqB b R hx hy hp)
 | some s =>
  rw[e1] at hp
  cases e2:asStr y with
  | none=>rw[e2] at hp;exact .inr (od_eqB b R hx hy hp)
  | some t =>
   rw[e2] at hp
   rw[asStr_ok hx e1,asStr_ok hy e2]
   have:decide (V.str s=V.str t)=decide (s=t):=by rw[Bool.eq_iff_iff];simp
   exact .inl ⟨rfl,by rw[this];exact hp G H _ (Tr.refl _ _ _) R (Rp.bl _)⟩
theorem od_eq:OpD K (rEqQ K) dEq:=fun W ρ G H σ μ v w x y Q R hx hy hp=>by
 rcases od_eqS true R hx hy hp with⟨h1,h2⟩|⟨d,e,h1,h2,h3,h4,h5⟩
 ·exact .inl ⟨h1,by simpa using h2⟩
 ·exact .inr ⟨d,e,h1,h2,h3,h4,by simpa using h5⟩
theorem od_ne:OpD K (rNeQ K) dNe:=fun W ρ G H σ μ v w x y Q R hx hy hp=>by
 rcases od_eqS false R hx hy hp with⟨h1,h2⟩|⟨d,e,h1,h2,h3,h4,h5⟩
 ·exact .inl ⟨h1,by
   have z:((decide (v=w))==false)=!decide (v=w):=by cases decide (v=w) <;> rfl
   rw[←z];exact h2⟩
 ·exact .inr ⟨d,e,h1,h2,h3,h4,by
   have z:(PyData.eqv d e==false)=!PyData.eqv d e:=by cases PyData.eqv d e <;> rfl
   rw[←z];exact h5⟩
def isNon:DV→Bool
 | .dat .non=>true
 | _=>false
def eIsN (f:EM):EM:=fun δ μ=>(frzV f δ μ).bind fun x μ'=>.ok (.dat (.bl (isNon x))) μ'
def eNotN (f:EM):EM:=fun δ μ=>(frzV f δ μ).bind fun x μ'=>.ok (.dat (.bl (!isNon x))) μ'
def flat:DV→Option V
 | .dat .non=>some .non
 | .dat (.bl b)=>some (.bl b)
 | .dat (.int i)=>some (.int i)
 | .dat (.str s)=>some (.str s)
 | _=>none
def flats:List DV→Option (List V)
 | []=>some []
 | x::xs=>match flat x with
  | none=>none
  | some v=>(flats xs).map (v::·)
theorem flat_ok {u:V}(h:DvOk K ρ G v x)(e:flat x=some u):v=u∧flatV u=true:=by
 unfold flat at e
 split at e <;> first|cases e|skip
 all_goals (cases h;exact⟨rfl,rfl⟩)
theorem flats_ok:∀ {xs:List DV} {vs us:List V},DvL K ρ G vs xs→flats xs=some us→vs=us∧us.all flatV=true
 | [],_,_,h,e=>by cases e;cases h;exact⟨rfl,rfl⟩
 | x::xs,_,_,h,e=>by
  cases h with
  | cons r1 r2 =>
   simp only[flats] at e
   cases q:flat x with
   | none=>rw[q] at e;cases e
   | some u =>
    rw[q] at e
    cases q2:flats xs with
    | none=>rw[q2] at e;cases e
    | some us =>
     rw[q2] at e;cases e
     obtain⟨e1,e2⟩:=flat_ok r1 q
     obtain⟨e3,e4⟩:=flats_ok r2 q2
     exact⟨by rw[e1,e3],by rw[List.all_cons,e2,e4];rfl⟩
def dIn (neg:Bool)(x y:DV)(μ:Mem):Res R:=match flat x with
 | none=>.bad
 | some u=>match asS μ y with
  | none=>.bad
  | some ys=>match flats ys with
   | none=>.bad
   | some us=>.ok (.dat (.bl (if neg=true then !inV u us else inV u us))) μ
theorem od_in (neg:Bool):OpD K (rIn K neg) (dIn neg):=fun W ρ G H σ μ v w x y Q R hx hy hp=>by
 unfold dIn at hp
 cases e1:flat x with
 | none=>rw[e1] at hp;exact hp.elim
 | some u =>
  rw[e1] at hp
  cases e2:asS μ y with
  | none=>simp only[e2] at hp;exact hp.elim
  | some ys =>
   simp only[e2] at hp
   cases e3:flats ys with
   | none=>rw[e3] at hp;exact hp.elim
   | some us =>
    rw[e3] at hp
    obtain⟨a,vs,rfl,h2,h3⟩:=asS_ok R hy e2
    obtain⟨q1,q2⟩:=flat_ok hx e1
    obtain⟨q3,q4⟩:=flats_ok h3 e3
    subst q1 q3
    exact⟨a,vs,rfl,h2,q2,q4,hp.okD R (.bl _)⟩
theorem DvL.one {vs:List V}(h:DvL K ρ G vs [x]):∃ v,vs=[v]∧DvOk K ρ G v x:=by
 cases h with
 | cons a b=>cases b;exact⟨_,rfl,a⟩
theorem DvL.two {vs:List V}(h:DvL K ρ G vs [x,y]):∃ v w,vs=[v,w]∧DvOk K ρ G v x∧DvOk K ρ G w y:=by
 cases h with
 | cons a b=>cases b with
  | cons c d=>cases d;exact⟨_,_,rfl,a,c⟩
def d1 (g:DV→Mem→Res R)(xs:List DV)(μ:Mem):Res R:=match xs with
 | [x]=>g x μ
 | _=>.bad
theorem cd_1 {r:List V→Hp→VK→Prop}{g:DV→Mem→Res R}(h:∀ (W:WX) (ρ:Pm) (G H:Hp) (σ:Slots) (μ:Mem) (v:V) (x:DV) (Q:VK),Rel K ρ G H μ→DvOk K ρ G v x→PostG K W ρ G H σ (fun G' H'=>rpE K ρ G' H H') Q (g x μ)→r [v] H Q) :
  CallD K r (d1 g):=fun W ρ G H σ μ vs xs Q R hx hp=>by
 match xs,hx,hp with
 | [x],hx,hp =>
  obtain⟨v,rfl,d⟩:=hx.one
  exact h W ρ G H σ μ v x Q R d hp
 | [],_,hp=>exact hp.elim
 | _::_::_,_,hp=>exact hp.elim
def dLen (x:DV)(μ:Mem):Res R:=match asS μ x with
 | some xs=>.ok (.dat (.int xs.length)) μ
 | none=>match asStr x with
  | some z=>if z.length≤sizeLine then .ok (.dat (.int z.length)) μ else .bad
  | none=>.bad
theorem cd_len:CallD K (fun xs H Q=>∃ x n,xs=[x]∧LenV K x H n∧Q (.int (n:Nat)) H) (d1 dLen):=cd_1 fun W ρ G H σ μ v x Q R hx hp=>by
 unfold dLen at hp
 split at hp
 ·rename_i xs e
  obtain⟨a,vs,rfl,h2,h3⟩:=asS_ok R hx e
  refine⟨_,vs.length,rfl,?_,?_⟩
  ·rcases h2 with h2|h2
   ·exact .inl ⟨vs,h2,rfl⟩
   ·exact .inr ⟨vs,h2,rfl⟩
  ·rw[paired_len h3];exact hp.okD R (.int _)
 split at hp
 ·rename_i z e
  by_cases c:z.length≤sizeLine
  ·rw[if_pos c] at hp
   have ev:=asStr_ok hx e
   subst ev
   exact⟨_,z.length,rfl,⟨c,rfl⟩,hp.okD R (.int _)⟩
  ·rw[if_neg c] at hp;exact hp.elim
 exact hp.elim
def dInt (x:DV)(μ:Mem):Res R:=match asI x with
 | some i=>.ok (.dat (.int i)) μ
 | none=>match asBl x with
  | some b=>.ok (.dat (.int (if b=true then 1 else 0))) μ
  | none=>.bad
theorem cd_int:CallD K (fun xs H Q=>(∃ i,xs=[V.int i]∧Q (V.int i) H)∨∃ k,xs=[V.bl k]∧Q (V.int (if k=true then 1 else 0)) H) (d1 dInt):=cd_1 fun W ρ G H σ μ v x Q R hx hp=>by
 unfold dInt at hp
 split at hp
 ·rename_i i e
  have ev:=asI_ok hx e
  subst ev
  exact .inl ⟨i,rfl,hp.okD R (.int _)⟩
 split at hp
 ·rename_i b e
  have ev:=asBl_ok hx e
  subst ev
  exact .inr ⟨b,rfl,hp.okD R (.int _)⟩
 exact hp.elim
def dAbs (x:DV)(μ:Mem):Res R:=match asI x with
 | some i=>.ok (.dat (.int (if i<0 then -i else i))) μ
 | none=>.bad
theorem cd_abs:CallD K (fun xs H Q=>∃ i,xs=[V.int i]∧Q (V.int (if i<0 then -i else i)) H) (d1 dAbs):=cd_1 fun W ρ G H σ μ v x Q R hx hp=>by
 unfold dAbs at hp
 split at hp
 ·rename_i i e
  have ev:=asI_ok hx e
  subst ev
  exact⟨i,rfl,hp.okD R (.int _)⟩
 exact hp.elim
def dList (x:DV)(μ:Mem):Res R:=match asS μ x with
 | some xs=>.ok (.nl xs) μ
 | none=>.bad
theorem cd_list:CallD K (fun xs H Q=>∃ p ys,xs=[V.ref p]∧(SqL K H p ys∨SqT K H p ys)∧∀ l,H l=none→Q (V.ref l) (upd H l (.lst ys))) (d1 dList):=cd_1 fun W ρ G H σ μ v x Q R hx hp=>by
 unfold dList at hp
 split at hp
 ·rename_i xs e
  obtain⟨a,vs,rfl,h2,h3⟩:=asS_ok R hx e
  exact⟨a,vs,rfl,h2,fun l hn=>new_list R (Tr.refl _ _ _) hn h3 hp⟩
 exact hp.elim
def dTuple (x:DV)(μ:Mem):Res R:=match asL μ x with
 | some xs=>match allDat xs with
  | some ds=>.ok (.dat (.tup ds)) μ
  | none=>.bad
 | none=>match asT x with
  | some ds=>.ok (.dat (.tup ds)) μ
  | none=>.bad
theorem cd_tuple:CallD K (fun xs H Q=>∃ p ys,xs=[V.ref p]∧((SqL K H p ys∧∀ l,H l=none→Q (V.ref l) (upd H l (.tup ys)))∨SqT K H p ys∧Q (V.ref p) H)) (d1 dTuple):=cd_1 fun W ρ G H σ μ v x Q R hx hp=>by
 unfold dTuple at hp
 split at hp
 ·rename_i xs e
  obtain⟨a,vs,rfl,h2,h3⟩:=asL_ok R hx e
  split at hp
  ·rename_i ds e2
   exact⟨a,vs,rfl,.inl ⟨h2,fun l hn=>new_tup R (Tr.refl _ _ _) hn (allDat_ok e2 h3) hp⟩⟩
  ·exact hp.elim
 split at hp
 ·rename_i ds e
  obtain⟨a,vs,rfl,h2,h3⟩:=asT_ok R hx e
  rw[asT_eq e] at hx
  exact⟨a,vs,rfl,.inr ⟨h2,hp.okD R hx⟩⟩
 exact hp.elim
def bools:List DV→Option (List Bool)
 | []=>some []
 | x::xs=>match asBl x with
  | none=>none
  | some b=>(bools xs).map (b::·)
theorem bools_ok:∀ {xs:List DV} {vs:List V} {bs:List Bool},DvL K ρ G vs xs→bools xs=some bs→vs=bs.map V.bl
 | [],_,_,h,e=>by cases e;cases h;rfl
 | x::xs,_,_,h,e=>by
  cases h with
  | cons r1 r2 =>
   simp only[bools] at e
   cases q:asBl x with
   | none=>rw[q] at e;cases e
   | some b =>
    rw[q] at e
    cases q2:bools xs with
    | none=>rw[q2] at e;cases e
    | some bs=>rw[q2] at e;cases e;rw[asBl_ok r1 q,bools_ok r2 q2];rfl
def dAll (f:List Bool→Bool)(x:DV)(μ:Mem):Res R:=match asL μ x with
 | some xs=>match bools xs with
  | some bs=>.ok (.dat (.bl (f bs))) μ
  | none=>.bad
 | none=>.bad
theorem cd_all (f:List Bool→Bool):CallD K (fun vs H Q=>∃ a bs,vs=[V.ref a]∧SqL K H a (bs.map V.bl)∧Q (V.bl (f bs)) H) (d1 (dAll f)):=cd_1 fun W ρ G H σ μ v x Q R hx hp=>by
 unfold dAll at hp
 split at hp
 ·rename_i xs e
  obtain⟨a,vs,rfl,h2,h3⟩:=asL_ok R hx e
  split at hp
  ·rename_i bs e2
   have ev:=bools_ok h3 e2
   subst ev
   exact⟨a,bs,rfl,h2,hp.okD R (.bl _)⟩
  ·exact hp.elim
 exact hp.elim
def dRepr (x:DV)(μ:Mem):Res R:=match peekPy μ x with
 | some p=>if p.showable=true∧SeqAt.shaped p=true∧p.shown.length≤sizeLine then .ok (.dat (.str p.shown)) μ else .bad
 | none=>.bad
def rRepr (K:PySem.W.Frag):List V→Hp→VK→Prop:=fun xs H Q=>∃ v p,xs=[v]∧Dp K H v p∧p.showable=true∧SeqAt.shaped p=true∧p.shown.length≤sizeLine∧Q (.str p.shown) H
theorem cr_repr {X:Cx} {k:Nat} (hr:Room k X.A) (hg:X.A.guards=some []):CallR X (.builtin "repr") (rRepr X.K):=by
 intro pins s σ H xs us Q I rv h
 obtain⟨v,p,rfl,hd,hs,hsh,hz,q⟩:=h
 obtain⟨u,rfl,ru⟩:∃ u,us=[u]∧L2.RelV v u:=by
  cases rv with
  | cons a b=>cases b;exact⟨_,rfl,a⟩
 obtain⟨as,rd⟩:=Dp.reads I p v u hd ru
 have fin:∀ h' tk t',(∀ b o,s.heap.get? b=some o→h'.get? b=some o)→EP X pins σ Q (.str p.shown t') { s with heap:=h',toks:=tk }:=fun h' tk t' kp =>
  ⟨.str p.shown,H,I.kept kp,⟨t',rfl⟩,q⟩
 have hc:=SeqAt.canLay_of_shaped hsh
 have hdp:p.depth≤64:=of_decide_eq_true (Bool.and_eq_true_iff.mp hsh).2
 have hu:X.A.units+200<cLine:=by have:=hr.un;omega
 cases rd with
 | none=>exact PySem.P.repr_of_none (fin s.heap _ _ fun _ _ e=>e)
 | bool b=>exact PySem.P.repr_of_bool (fin s.heap _ _ fun _ _ e=>e)
 | int i t=>exact PySem.P.repr_of_int (of_decide_eq_true hs) (fin s.heap _ _ fun _ _ e=>e)
 | str z t=>exact PySem.P.repr_of_str (fin s.heap _ _ fun _ _ e=>e) hz
 | list ho hcl hda ra=>exact repr_of_reads' (.list ho hcl hda ra) hs (PyData.noDict_hsm (PyData.hasDict_of_canLay _ hc)) hg (by omega) (fun _ _ e=>e) (fun h' u tk kp=>fin h' tk u kp) hz
 | tuple ho hcl hda ra=>exact repr_of_reads' (.tuple ho hcl hda ra) hs (PyData.noDict_hsm (PyData.hasDict_of_canLay _ hc)) hg (by omega) (fun _ _ e=>e) (fun h' u tk kp=>fin h' tk u kp) hz
 | dict _ _ _ _ _=>exact absurd hc Bool.false_ne_true
theorem cd_repr:CallD K (rRepr K) (d1 dRepr):=cd_1 fun W ρ G H σ μ v x Q R hx hp=>by
 unfold dRepr at hp
 split at hp
 ·rename_i p e
  by_cases c:p.showable=true∧SeqAt.shaped p=true∧p.shown.length≤sizeLine
  ·rw[if_pos c] at hp;exact⟨v,p,rfl,peekPy_ok R hx e,c.1,c.2.1,c.2.2,hp.okD R (.str _)⟩
  ·rw[if_neg c] at hp;exact hp.elim
 exact hp.elim
end
section
variable {prog:Program}{w:World}{A:Around}{E:Value→Shared→Prop}{s:Shared}
end
def iSeq (K:PySem.W.Frag)(tl:TE):TI:=fun σ H R=>tl σ H fun x H1=>∃ a,x=.ref a∧((∃ xs,SqL K H1 a xs)∧R (Itl K a) H1∨(∃ xs,SqT K H1 a xs)∧R (Itt K a) H1)
theorem pi_seq {X:Cx}{tg l:Expr}{tl:TE}(hl:PE X l tl):PI X tg l (iSeq X.K tl):=by
 refine⟨fun pins s σ H R I h=>thn (hl.run pins s σ H _ I h) ?_⟩
 rintro v s1 ⟨x,H1,I1,r1,a,rfl,q1⟩
 cases r1
 have fr:FpOk X pins H1 s1.heap.objs.size:=I1.fpOk (Nat.le_refl _) (I1.hok.fresh (Nat.le_refl _))
 rcases q1 with⟨⟨xs,hq⟩,q⟩|⟨⟨xs,hq⟩,q⟩
 ·obtain⟨its,rv,p,hz⟩:=I1.list hq
  refine wpAny_pyIter_list p.isList ⟨s1.heap.objs.size,[s1.heap.objs.size],_,_,H1,rfl,I1.kept (t':=s1.toks) fun b o e=>Heap.get?_push_of_some _ e,turn_list a _,⟨_,Heap.get?_push_size _ rfl,rfl,rfl⟩,fun b hb=>?_,q⟩
  rw[show b=s1.heap.objs.size by simpa using hb];exact fr
 ·obtain⟨its,rv,p,hz⟩:=I1.tuple hq
  refine wpAny_pyIter_tuple (show s1.heap.IsTuple a its.toArray from p) ⟨s1.heap.objs.size,[s1.heap.objs.size],_,_,H1,rfl,I1.kept (t':=s1.toks) fun b o e=>Heap.get?_push_of_some _ e,turn_tuple a _,⟨_,Heap.get?_push_size _ rfl,rfl,rfl⟩,fun b hb=>?_,q⟩
  rw[show b=s1.heap.objs.size by simpa using hb];exact fr
section
variable {K:PySem.W.Frag}{W:WX}{N M:Nat}{ρ:Pm}{G H:Hp}{σ:Slots}{δ:Env}{μ:Mem}{Q:VK}{v w:V}{x y:DV}
theorem it_list {H0:Hp}{a:Addr}{vs:List V}{ds:List D}(h:SqL K G a vs)(r:RpL K G vs ds):ItOk K G H0 (Itl K a) ds:=fun ρ G1 H μ R x _=>by
 have hq:SqL K H a vs:=ex_l (x.trans R.ex) h
 refine⟨fun i d e=>?_,fun i hi=>⟨vs,hq,by rw[r.length];exact hi⟩⟩
 obtain⟨u,h1,h2⟩:=r.get' e
 refine⟨⟨vs,u,hq,h1⟩,fun v H' hy=>?_⟩
 obtain⟨rfl,q⟩:=hy
 have e2:=q vs hq
 rw[h1] at e2;cases e2
 exact⟨G1,Tr.refl _ _ _,R,h2.mono x⟩
theorem it_tup {H0:Hp}{a:Addr}{vs:List V}{ds:List D}(h:SqT K G a vs)(r:RpL K G vs ds):ItOk K G H0 (Itt K a) ds:=fun ρ G1 H μ R x _=>by
 have hq:SqT K H a vs:=ex_t (x.trans R.ex) h
 refine⟨fun i d e=>?_,fun i hi=>⟨vs,hq,by rw[r.length];exact hi⟩⟩
 obtain⟨u,h1,h2⟩:=r.get' e
 refine⟨⟨vs,u,hq,h1⟩,fun v H' hy=>?_⟩
 obtain⟨rfl,q⟩:=hy
 have e2:=q vs hq
 rw[h1] at e2;cases e2
 exact⟨G1,Tr.refl _ _ _,R,h2.mono x⟩
def enumD:Nat→List D→List D
 | _,[]=>[]
 | i,d::ds=>.tup [.int i,d]::enumD (i+1) ds
def seqD:DV→Option (List D)
 | .dat (.lst ds)=>some ds
 | .dat (.fro ds)=>some ds
 | .dat (.tup ds)=>some ds
 | _=>none
theorem seqD_ok {ds:List D}(h:DvOk K ρ G v x)(e:seqD x=some ds):∃ a vs,v=.ref a∧(SqL K G a vs∨SqT K G a vs)∧RpL K G vs ds:=by
 unfold seqD at e
 split at e
 ·cases e;cases h with|lst h r=>exact⟨_,_,rfl,.inl (.inl (.inl h)),r⟩
 ·cases e;cases h with|fro h r=>exact⟨_,_,rfl,.inl h,r⟩
 ·cases e;cases h with|tup h r=>exact⟨_,_,rfl,.inr h,r⟩
 ·cases e
def imSeq (f:EM):IM:=fun δ μ=>(frzV f δ μ).bind fun x μ'=>match seqD x with
 | some ds=>.ok ds μ'
 | none=>.bad
theorem snd_iseq {te:TE}{f:EM}(h:SndE K W te f):SndI K W (iSeq K te) (imSeq f):=fun ρ G H σ δ μ Q R E hp=>by
 refine SndG.seq (t:=te) h.toV R E hp fun x μ1 G1 H1 v t1 R1 E1 d1 hp1=>?_
 cases e:seqD x with
 | none=>rw[e] at hp1;exact hp1.elim
 | some ds =>
  rw[e] at hp1
  obtain⟨a,vs,rfl,hs,r⟩:=seqD_ok d1 e
  refine⟨a,rfl,?_⟩
  rcases hs with hs|hs
  ·exact .inl ⟨⟨vs,ex_l R1.ex hs⟩,hp1 G1 H1 _ t1 R1 (it_list hs r)⟩
  ·exact .inr ⟨⟨vs,ex_t R1.ex hs⟩,hp1 G1 H1 _ t1 R1 (it_tup hs r)⟩
def imEnum (f:AM):IM:=fun δ μ=>(f δ μ).bind fun xs μ'=>match xs with
 | [x]=>match seqD x with
  | some ds=>.ok (enumD 0 ds) μ'
  | none=>.bad
 | _=>.bad
def rngD (lo:Int)(n:Nat):List D:=(List.range n).map fun i=>.int (lo+(i:Nat))
theorem it_rng {H0:Hp}(lo:Int)(n:Nat):ItOk K G H0 (Itr lo n) (rngD lo n):=fun ρ G1 H μ R x _=>by
 refine⟨fun i d e=>?_,fun i hi=>?_⟩
 ·unfold rngD at e
  rw[List.getElem?_map] at e
  cases q:(List.range n)[i]? with
  | none=>rw[q] at e;cases e
  | some j =>
   rw[q] at e
   simp only[Option.map_some,Option.some.injEq] at e
   obtain⟨hi,ej⟩:=List.getElem?_eq_some_iff.mp q
   rw[List.getElem_range] at ej
   rw[List.length_range] at hi
   refine⟨hi,fun v H' hy=>?_⟩
   obtain⟨rfl,rfl⟩:=hy
   subst ej
   exact⟨G1,Tr.refl _ _ _,R,e▸Rp.int _⟩
 ·show n≤i
  simpa [rngD] using hi
def imRng (f:AM):IM:=fun δ μ=>(f δ μ).bind fun xs μ'=>match xs with
 | [x]=>match asI x with
  | some j=>if -2^62≤j∧j<2^62 then .ok (rngD 0 j.toNat) μ' else .bad
  | none=>.bad
 | _=>.bad
theorem snd_irng {ta:TA}{f:AM}(h:SndA K W ta f):SndI K W (iRng1 ta) (imRng f):=fun ρ G H σ δ μ Q R E hp=>by
 refine SndG.seq (t:=ta) h R E hp fun xs μ1 G1 H1 vs t1 R1 E1 d1 hp1=>?_
 match xs,d1,hp1 with
 | [],_,hp1=>exact hp1.elim
 | _::_::_,_,hp1=>exact hp1.elim
 | [x],d1,hp1 =>
  obtain⟨v,rfl,d⟩:=d1.one
  simp only at hp1
  cases e:asI x with
  | none=>rw[e] at hp1;exact hp1.elim
  | some j =>
   rw[e] at hp1
   by_cases c:-2^62≤j∧j<2^62
   ·simp only[if_pos c] at hp1
    rw[asI_ok d e]
    exact⟨j,rfl,c.1,c.2,hp1 G1 H1 _ t1 R1 (it_rng 0 _)⟩
   ·simp only[if_neg c] at hp1;exact hp1.elim
def imRng2 (f:AM):IM:=fun δ μ=>(f δ μ).bind fun xs μ'=>match xs with
 | [x,y]=>match asI x,asI y with
  | some i,some j=>if -2^62≤i∧i<2^62∧-2^62≤j∧j<2^62 then .ok (rngD i (j-i).toNat) μ' else .bad
  | _,_=>.bad
 | _=>.bad
theorem snd_irng2 {ta:TA}{f:AM}(h:SndA K W ta f):SndI K W (iRng2 ta) (imRng2 f):=fun ρ G H σ δ μ Q R E hp=>by
 refine SndG.seq (t:=ta) h R E hp fun xs μ1 G1 H1 vs t1 R1 E1 d1 hp1=>?_
 match xs,d1,hp1 with
 | [],_,hp1=>exact hp1.elim
 | [_],_,hp1=>exact hp1.elim
 | _::_::_::_,_,hp1=>exact hp1.elim
 | [x,y],d1,hp1 =>
  obtain⟨v,w,rfl,dx,dy⟩:=d1.two
  simp only at hp1
  split at hp1
  ·rename_i i j e1 e2
   by_cases c:-2^62≤i∧i<2^62∧-2^62≤j∧j<2^62
   ·rw[if_pos c] at hp1
    rw[asI_ok dx e1,asI_ok dy e2]
    exact⟨i,j,rfl,c,hp1 G1 H1 _ t1 R1 (it_rng i _)⟩
   ·rw[if_neg c] at hp1;exact hp1.elim
  ·exact hp1.elim
def TgsOk (K:PySem.W.Frag)(g:TGs)(h:List D→Env→Option Env)(ts:List Nat):Prop:=∀ (ρ:Pm) (G H:Hp) (μ:Mem) (σ:Slots) (δ δ':Env) (vs:List V) (ds:List D) (Q:Slots→Hp→Prop),Rel K ρ G H μ→EnvOk K ρ G σ δ→RpL K G vs ds→h ds δ=some δ' →
 (∀ σ',EnvOk K ρ G σ' δ'→σ'.length=σ.length→(∀ i,i∉ts→σ'[i]?=σ[i]?)→Q σ' H)→g vs σ H Q
def tgNil:List D→Env→Option Env:=fun ds δ=>match ds with
 | []=>some δ
 | _::_=>none
def tgCons (h:D→Env→Option Env)(hs:List D→Env→Option Env):List D→Env→Option Env:=fun ds δ=>match ds with
 | []=>none
 | d::ds=>match h d δ with
  | none=>none
  | some δ1=>hs ds δ1
def tgTup (n:Nat)(hs:List D→Env→Option Env):D→Env→Option Env:=fun d δ=>match d with
 | .tup ds=>if ds.length=n then hs ds δ else none
 | _=>none
theorem tgs_nil:TgsOk K gNil tgNil []:=fun ρ G H μ σ δ δ' vs ds Q R E r e q=>by
 cases r with
 | nil=>cases e;exact⟨rfl,q σ E rfl fun _ _=>rfl⟩
 | cons _ _=>cases e
theorem tgs_cons {g:TG}{gs:TGs}{h:D→Env→Option Env}{hs:List D→Env→Option Env}{t ts:List Nat}(h1:TgOk K g h t)(h2:TgsOk K gs hs ts):TgsOk K (gCons g gs) (tgCons h hs) (t++ts):=fun ρ G H μ σ δ δ' vs ds Q R E r e q=>by
 cases r with
 | nil=>cases e
 | cons a b =>
  rename_i v vs d ds
  simp only[tgCons] at e
  cases e1:h d δ with
  | none=>rw[e1] at e;cases e
  | some δ1 =>
   rw[e1] at e
   refine⟨v,vs,rfl,h1 ρ G H μ σ δ δ1 v d _ R E a e1 fun σ1 E1 l1 k1=>h2 ρ G H μ σ1 δ1 δ' vs ds _ R E1 b e fun σ2 E2 l2 k2=>q σ2 E2 (l2.trans l1) fun i hi=>?_⟩
   rw[k2 i fun z=>hi (List.mem_append_right _ z),k1 i fun z=>hi (List.mem_append_left _ z)]
theorem tg_tup {gs:TGs}{hs:List D→Env→Option Env}{ts:List Nat}{n:Nat}(h:TgsOk K gs hs ts):TgOk K (L2.gTup K n gs) (tgTup n hs) ts:=fun ρ G H μ σ δ δ' v d Q R E r e q=>by
 unfold tgTup at e
 split at e
 ·rename_i ds
  by_cases c:ds.length=n
  ·rw[if_pos c] at e
   cases r with
   | tup h1 r=>exact⟨_,_,rfl,ex_t R.ex h1,by rw[r.length];exact c,h ρ G H μ σ δ δ' _ ds Q R E r e q⟩
  ·rw[if_neg c] at e;cases e
 ·cases e
end
section
variable {X:Cx}{W:WX}{pos p tpos:Pos}{tg e:Expr}{te:TE}{f:EM}{ta:TA}{fa:AM}{a b:Expr}
theorem mi_seq (h:PM X W e te f):PMI X W tg e (iSeq X.K te) (imSeq f):=⟨pi_seq h.pe,snd_iseq h.sd⟩
theorem mi_rng1 (hg:Gl X "range") (hm:X.mg "range"=none) (h:PMA X W [a] ta fa) (hs:starEach [a] X.env=[(false,eval a X.env)]:=by rfl):PMI X W tg (.Call (.Name "range" p) [a] [] pos) (iRng1 ta) (imRng fa):=⟨pi_range1 hg hm h.pe hs,snd_irng h.sd⟩
theorem mi_rng2 (hg:Gl X "range") (hm:X.mg "range"=none) (h:PMA X W [a,b] ta fa) (hs:starEach [a,b] X.env=[(false,eval a X.env),(false,eval b X.env)]:=by rfl) (hs2:starEach [b] X.env=[(false,eval b X.env)]:=by rfl):PMI X W tg (.Call (.Name "range" p) [a,b] [] pos) (iRng2 ta) (imRng2 fa):=⟨pi_range2 hg hm h.pe hs hs2,snd_irng2 h.sd⟩
structure PMGs (X:Cx)(es:List Expr)(g:TGs)(h:List D→Env→Option Env)(ts:List Nat):Prop where
 pg:PGs X es g
 ok:TgsOk X.K g h ts
theorem gs_nil:PMGs X [] gNil tgNil []:=⟨pgs_nil,tgs_nil⟩
theorem gs_cons {es:List Expr}{g:TG}{gs:TGs}{h:D→Env→Option Env}{hs:List D→Env→Option Env}{t ts:List Nat}(h1:PMG X e g h t)(h2:PMGs X es gs hs ts)
  (ha:List.map (fun x=>x.snd) (assignEach (e::es) X.env)=assign e X.env::List.map (fun x=>x.snd) (assignEach es X.env):=by rfl):PMGs X (e::es) (gCons g gs) (tgCons h hs) (t++ts):=⟨pgs_cons h1.pg h2.pg ha,tgs_cons h1.ok h2.ok⟩
theorem pg_tp {es:List Expr}{k n:Nat}{gs:TGs}{hs:List D→Env→Option Env}{ts:List Nat}(hc:X.calm=true)(h:PMGs X es gs hs ts)(h1:(assignEach es X.env).length=n:=by rfl)(h2:List.findIdx? (fun x=>x.fst) (assignEach es X.env)=none:=by rfl) :
  PMG X (.Tuple es k pos) (L2.gTup X.K n gs) (tgTup n hs) ts:=⟨pg_tup hc h.pg h1 h2,tg_tup h.ok⟩
end
theorem meets_ext_tup (l:Addr)(items:Array Value)(n:Nat)(b:Addr)(items2:Array Value)(n2:Nat)(dct:Option Addr)(sl:Array (Option Value))(hs0:¬(!items.isEmpty&&Builtin.List.listTooLong (items.size+items2.size))=true)(hs1:items.size≤sizeLine)(hs2:items.size+items2.size≤sizeLine+1) :
  Meets (Builtin.«list.extend» ⟨[.ref l,.ref b],[]⟩) (fun _ R s=>s.heap.get? l=some { cls:=.type "list",dict:=none,data:=.seq items n,slots:=#[] }∧s.heap.get? b=some { cls:=.type "tuple",dict:=dct,data:=.seq items2 n2,slots:=sl } ∧
   R (.ok (.ret Value.none)) { s with heap:=s.heap.update l (Obj.mapSeq fun x=>x++items2),toks:=s.toks }) :=
 .of_wp fun prog w A R s h=>by
  obtain⟨hp,g,d,tk,os⟩:=s
  obtain⟨hl,hb,h⟩:=h
  have f1:=AutoSeq1.idx_int
  have f2:=AutoSeq1.sub_tuple_tuple
  have f3:=AutoSeq1.sub_list_list
  have f4:=AutoSeq1.sub_tuple_list
  have f5:=AutoSeq1.sub_list_tuple
  have hz':(items++items2).size≤sizeLine+1:=by rw[Array.size_append];exact hs2
  wp_walk using (wpAny_updateSeq hl rfl (hz:=hs1) (_hz':=hz')),AutoSeq1.wpAny_loadPart' hl,AutoSeq1.wpAny_loadPart' hb
  exact⟨_,rfl,h⟩
def rExtT (K:PySem.W.Frag):V→List V→Hp→VK→Prop:=fun x vs H Q=>∃ l b xs zs,x=.ref l∧vs=[.ref b]∧H l=some (.lst xs)∧SqT K H b zs∧xs.length+zs.length≤sizeLine∧Q .non (upd H l (.lst (xs++zs)))
theorem mt_extT {X:Cx}:MtM X "list.extend" (rExtT X.K):=by
 intro pins s σ H x vs v us Q I rx rv h
 obtain⟨l,b,xs,zs,rfl,rfl,hH,hB,hz,q⟩:=h
 cases rx
 obtain⟨u,rfl,ru⟩:=rv.one
 cases ru
 obtain⟨z,its,n,r,hl,e⟩:=I.lstM hH
 obtain⟨its2,r2,⟨⟨c,dct,dt,sl⟩,ho,hc,n2,hd⟩,z2⟩:=I.tuple hB
 obtain rfl:c=.type "tuple":=hc
 obtain rfl:dt=.seq its2.toArray n2:=hd
 have hl2:=r2.length
 have hsz:its.toArray.size+its2.toArray.size≤sizeLine:=by rw[List.size_toArray,List.size_toArray];omega
 have hlong:¬(!its.toArray.isEmpty&&Builtin.List.listTooLong (its.toArray.size+its2.toArray.size))=true:=by
  rw[notLongL hsz,Bool.and_false]
  exact Bool.false_ne_true
 refine call_meets F.slot_list_extend ⟨_,e,rfl⟩ F.entry_list_extend (F.args_list_extend_2 _ _)
  (meets_ext_tup l its.toArray n b its2.toArray n2 dct sl hlong (by rw[List.size_toArray];omega) (by omega)) ⟨e,ho,?_⟩
 refine⟨.non,_,I.lset (its':=its++its2) hH e (by simp) (r.append r2) ?_,rfl,q⟩
 rw[List.length_append]
 omega
section
variable {K:PySem.W.Frag}{W:WX}{N M:Nat}{ρ:Pm}{G H:Hp}{σ:Slots}{δ:Env}{μ:Mem}{Q:VK}{v w:V}{x y:DV}
theorem Rel.setL {n:Nat}{a:Addr}{vs':List V}{xs' ys:List DV}(R:Rel K ρ G H μ)(hn:ρ n=some a)(hm:μ[n]?=some (.lst ys))(hb:∀ x∈xs',x.below n)(hd:DvL K ρ G vs' xs') :
  Rel K ρ G (upd H a (.lst vs')) (μ.set n (.lst xs'))∧Tr ρ G H G (upd H a (.lst vs')):=by
 have hlt:n<μ.length:=R.lt n a hn
 refine⟨⟨fun b o h=>?_,R.inj,R.nG,fun m b h=>by rw[List.length_set];exact R.lt m b h,fun m b h q=>?_,fun m q h=>?_⟩,⟨Ex.refl _,fun b o hb h=>?_,fun b h=>?_,fun b h=>.inl h,fun b od u h=>?_⟩⟩
 ·have e:b≠a:=fun e=>by rw[e,R.nG n a hn] at h;cases h
  rw[upd_ne e];exact R.ex b o h
 ·by_cases e:b=a
  ·rw[e,upd_same] at q;cases q
  ·rw[upd_ne e] at q;exact R.hs m b h q
 ·by_cases e:m=n
  ·subst e
   rw[List.getElem?_set_self hlt] at h
   cases h
   exact⟨hb,a,vs',hn,upd_same,hd⟩
  ·rw[List.getElem?_set_ne (fun z=>e z.symm)] at h
   have z:=R.pl m q h
   have ne:∀ b,ρ m=some b→b≠a:=fun b hb z=>e (R.inj m n a (z▸hb) hn)
   cases q with
   | lst xs=>obtain⟨b,c,vs,h1,h2,h3⟩:=z;exact⟨b,c,vs,h1,by rw[upd_ne (ne c h1)];exact h2,h3⟩
   | dct kvs=>obtain⟨b,c,o,vs,h1,h2,h3⟩:=z;exact⟨b,c,o,vs,h1,by rw[upd_ne (ne c h1)];exact h2,h3⟩
   | lkd kvs=>obtain⟨b,c,o,vs,h1,h2,h3⟩:=z;exact⟨b,c,o,vs,h1,by rw[upd_ne (ne c h1)];exact h2,h3⟩
   | lkl xs=>obtain⟨b,c,o,vs,h1,h2,h3⟩:=z;exact⟨b,c,o,vs,h1,by rw[upd_ne (ne c h1)];exact h2,h3⟩
   | tp xs=>obtain⟨b,c,o,vs,h1,h2,h3⟩:=z;exact⟨b,c,o,vs,h1,by rw[upd_ne (ne c h1)];exact h2,h3⟩
   | own=>obtain⟨b,c,h1,h2⟩:=z;exact⟨b,c,h1,by rw[upd_ne (ne b h1)];exact h2⟩
   | ins nm fs =>
    obtain⟨b,c,dx,C,vs,k,hk,h1,h2,cl,h4,h3⟩:=z
    have nd:dx≠a:=fun e=>by
     obtain⟨_,a',vs',k1,k2,_⟩:=R.pl n _ hm
     rw[hn] at k1;cases k1;rw[e,k2] at h4;cases h4
    exact⟨b,c,dx,C,vs,k,hk,h1,by rw[upd_ne (ne c h1)];exact h2,cl,by rw[upd_ne nd];exact h4,h3⟩
   | gone=>exact z
 ·have e:b≠a:=fun e=>hb n (e▸hn)
  rw[upd_ne e];exact h
 ·by_cases e:b=a
  ·rw[e,upd_same] at h;cases h
  ·rw[upd_ne e] at h;exact h
 ·rw[upd_ne (fun e=>by
   obtain⟨_,a',vs',k1,k2,_⟩:=R.pl n _ hm
   rw[hn] at k1;cases k1;rw[e,k2] at h;cases h)]
  exact h
def MtD (K:PySem.W.Frag)(r:V→List V→Hp→VK→Prop)(g:DV→List DV→Mem→Res R):Prop:=∀ (W:WX) (ρ:Pm) (G H:Hp) (σ:Slots) (μ:Mem) (v:V) (vs:List V) (x:DV) (xs:List DV) (Q:VK),Rel K ρ G H μ→DvOk K ρ G v x→DvL K ρ G vs xs →
 PostG K W ρ G H σ (fun G' H'=>rpE K ρ G' H H') Q (g x xs μ)→r v vs H Q
def TyD (K:PySem.W.Frag)(T:String)(c:DV→Mem→Bool):Prop:=∀ (ρ:Pm) (G H:Hp) (μ:Mem) (v:V) (x:DV),Rel K ρ G H μ→DvOk K ρ G v x→c x μ=true→tyV K T v H
def tyL (x:DV)(μ:Mem):Bool:=(asL μ x).isSome
def tyS (x:DV)(_:Mem):Bool:=(asStr x).isSome
theorem td_list:TyD K "list" tyL:=fun ρ G H μ v x R h e=>by
 unfold tyL at e
 cases q:asL μ x with
 | none=>rw[q] at e;cases e
 | some xs =>
  obtain⟨a,vs,rfl,h2,_⟩:=asL_ok R h q
  exact .inl ⟨rfl,vs,h2⟩
def eBM (c:DV→Mem→Bool)(g:DV→List DV→Mem→Res R)(f:EM)(fa:AM):EM:=fun δ μ=>(frzV f δ μ).bind fun x μ1=>if c x μ1=true then(fa δ μ1).bind fun xs μ2=>g x xs μ2 else .bad
def eBM0 (c:DV→Mem→Bool)(g:DV→List DV→Mem→Res R)(f:EM):EM:=fun δ μ=>(frzV f δ μ).bind fun x μ1=>if c x μ1=true then g x [] μ1 else .bad
theorem snd_bm {T:String}{c:DV→Mem→Bool}{r:V→List V→Hp→VK→Prop}{g:DV→List DV→Mem→Res R}{to:TE}{ta:TA}{f:EM}{fa:AM}(hT:TyD K T c)(hm:MtD K r g)(h:SndE K W to f)(ha:SndA K W ta fa):SndE K W (tBM K T r to ta) (eBM c g f fa):=fun ρ G H σ δ μ Q R E hp=>by
 refine SndG.seq (t:=to) h.toV R E hp fun x μ1 G1 H1 v t1 R1 E1 d1 hp1=>?_
 by_cases hc:c x μ1=true
 case neg=>rw[if_neg hc] at hp1;exact hp1.elim
 rw[if_pos hc] at hp1
 refine⟨hT ρ G1 H1 μ1 v x R1 d1 hc,?_⟩
 refine SndG.seq (t:=ta) ha R1 E1 (hp1.shiftE t1) fun xs μ2 G2 H2 vs t2 R2 E2 d2 hp2=>?_
 exact hm W ρ G2 H2 σ μ2 v vs x xs Q R2 (d1.mono t2.exG fun _ _ q=>q) d2 (hp2.shiftE t2)
def atPl (μ:Mem):DV→Option (Nat×List DV)
 | .loc n=>match μ[n]? with
  | some (.lst xs)=>some (n,xs)
  | _=>none
 | .dat _=>none
theorem atPl_ok {n:Nat}{xs:List DV}(R:Rel K ρ G H μ)(h:DvOk K ρ G v x)(e:atPl μ x=some (n,xs)):∃ a vs,v=.ref a∧ρ n=some a∧H a=some (.lst vs)∧DvL K ρ G vs xs∧μ[n]?=some (.lst xs)∧∀ x∈xs,x.below n:=by
 unfold atPl at e
 split at e
 ·rename_i m
  split at e
  ·rename_i ys q
   cases e
   obtain⟨a,rfl,hn⟩:=h
   obtain⟨b,c,vs,h1,h2,h3⟩:=R.pl _ _ q
   rw[hn] at h1;cases h1
   exact⟨a,vs,rfl,hn,h2,h3,q,b⟩
  ·cases e
 ·cases e
def belowB (n:Nat):DV→Bool
 | .dat _=>true
 | .loc m=>decide (m<n)
theorem belowB_ok {n:Nat}(h:belowB n x=true):x.below n:=by
 cases x with
 | dat d=>trivial
 | loc m=>exact(of_decide_eq_true h:m<n)
theorem below_app {n:Nat}{xs ys:List DV}(h1:∀ x∈xs,x.below n)(h2:∀ x∈ys,x.below n):∀ x∈xs++ys,x.below n:=fun x hx=>(List.mem_append.mp hx).elim (h1 x) (h2 x)
def rExt (K:PySem.W.Frag):V→List V→Hp→VK→Prop:=fun x vs H Q=>rExtend x vs H Q∨rExtT K x vs H Q
theorem mt_ext {X:Cx}:MtM X "list.extend" (rExt X.K):=fun pins s σ H x xs v us Q I rx rv h=>h.elim (mt_extend pins s σ H x xs v us Q I rx rv) (mt_extT pins s σ H x xs v us Q I rx rv)
def dExtend (x:DV)(xs:List DV)(μ:Mem):Res R:=match atPl μ x with
 | none=>.bad
 | some (n,ys)=>match xs with
  | [y]=>match asM μ y with
   | some zs=>if ys.length+zs.length≤sizeLine∧zs.all (belowB n)=true then .ok (.dat .non) (μ.set n (.lst (ys++zs))) else .bad
   | none=>match asT y with
    | some ds=>if ys.length+ds.length≤sizeLine then .ok (.dat .non) (μ.set n (.lst (ys++ds.map DV.dat))) else .bad
    | none=>.bad
  | _=>.bad
theorem md_ext:MtD K (rExt K) dExtend:=fun W ρ G H σ μ v vs x xs Q R hx hs hp=>by
 unfold dExtend at hp
 cases e:atPl μ x with
 | none=>rw[e] at hp;exact hp.elim
 | some q =>
  obtain⟨n,ys⟩:=q
  rw[e] at hp
  obtain⟨a,ws,rfl,hn,hH,hd,hm,hb⟩:=atPl_ok R hx e
  match xs,hs,hp with
  | [],_,hp=>exact hp.elim
  | _::_::_,_,hp=>exact hp.elim
  | [y],hs,hp =>
   obtain⟨u,rfl,du⟩:=hs.one
   simp only at hp
   cases e2:asM μ y with
   | some zs =>
    simp only[e2] at hp
    by_cases c:ys.length+zs.length≤sizeLine∧zs.all (belowB n)=true
    ·rw[if_pos c] at hp
     obtain⟨b,us,rfl,k2,k3⟩:=asM_ok R du e2
     obtain⟨R2,t2⟩:=R.setL hn hm (below_app hb fun x hx=>belowB_ok (List.all_eq_true.mp c.2 x hx)) (hd.append k3)
     exact .inl ⟨a,b,ws,us,rfl,rfl,hH,k2,by rw[paired_len hd,paired_len k3];exact c.1,hp _ _ _ t2 R2 Rp.non⟩
    ·rw[if_neg c] at hp;exact hp.elim
   | none =>
    simp only[e2] at hp
    cases e3:asT y with
    | none=>rw[e3] at hp;exact hp.elim
    | some ds =>
     simp only[e3] at hp
     by_cases c:ys.length+ds.length≤sizeLine
     ·rw[if_pos c] at hp
      obtain⟨b,us,rfl,k2,k3⟩:=asT_ok R du e3
      obtain⟨R2,t2⟩:=R.setL hn hm (below_app hb fun x hx=>by obtain⟨d,_,rfl⟩:=List.mem_map.mp hx;trivial) (hd.append (k3.dv (ρ:=ρ)))
      exact .inr ⟨a,b,ws,us,rfl,rfl,hH,k2,by rw[paired_len hd,k3.length];exact c,hp _ _ _ t2 R2 Rp.non⟩
     ·rw[if_neg c] at hp;exact hp.elim
theorem DvL.erase {vs:List V}{xs:List DV}(h:DvL K ρ G vs xs)(k:Nat):DvL K ρ G (vs.eraseIdx k) (xs.eraseIdx k):=by
 induction h generalizing k with
 | nil=>exact .nil
 | cons a b ih =>
  cases k with
  | zero=>exact b
  | succ k=>exact .cons a (ih k)
end
section
variable {X:Cx}{W:WX}{o e:Expr}{es:List Expr}{to:TE}{ta:TA}{name:Str}{apos cpos:Pos}{T id:String}{r:V→List V→Hp→VK→Prop}{c:DV→Mem→Bool}{g:DV→List DV→Mem→Res R}{f:EM}{fa:AM}
theorem pm_bm (hp:PlainAttrs T) (hsl:Slot T name id) (hty:typeOf (Value.builtin id)=pure (Value.type "method_descriptor")) (hm:MtR X id r) (hT:TyD X.K T c) (hd:MtD X.K r g) (ho:PM X W o to f) (ha:PMA X W (e::es) ta fa)
  (h1:attributeBase o name X.env (eval o X.env)=eval o X.env:=by rfl)
  (h2:(((((backTo cpos (starEach (e::es) X.env)).all fun x=>!x.fst)&&(backToKw cpos (keywordEach [] X.env)).all fun x=>x.fst.isSome)&&decide (((e::es).length+([]:List Keyword).length+if([]:List Keyword).isEmpty=true then 0 else 1)<30))=true):=by rfl)
  (h3:(apos.endLine==cpos.line)=true:=by rfl) (h4:starEach (e::es) X.env=(false,eval e X.env)::starEach es X.env:=by rfl) (h5:((backTo cpos (starEach es X.env)).any fun x=>x.fst)=false:=by rfl) :
  PM X W ((o.Attribute name apos).Call (e::es) [] cpos) (tBM X.K T r to ta) (eBM c g f fa):=⟨pe_bm hp hsl hty hm ho.pe ha.pe h1 h2 h3 h4 h5,snd_bm hT hd ho.sd ha.sd⟩
end
def rGetL (K:PySem.W.Frag):V→V→Hp→VK→Prop:=fun o i H Q=>∃ p xs k v,o=.ref p∧i=.int k∧SqL K H p xs∧0≤k∧k<2^63∧xs[k.toNat]?=some v∧Q v H
theorem pget_list {X:Cx}:PGet X (rGetL X.K):=by
 intro pins s σ H o i ov iv Q I ro ri h
 obtain⟨p,xs,k,v,rfl,rfl,hq,h0,h1,hx,q⟩:=h
 cases ro
 obtain⟨t,rfl⟩:=ri
 obtain⟨its,rv,pl,hz⟩:=I.list hq
 obtain⟨u,hu,ru⟩:=rv.get hx
 exact wpAny_getItem_list pl.isList h0 h1 (by simpa using hu) ⟨v,H,I,ru,q⟩
section
variable {K:PySem.W.Frag}{W:WX}{N M:Nat}{ρ:Pm}{G H:Hp}{σ:Slots}{δ:Env}{μ:Mem}{Q:VK}{v w:V}{x y:DV}
theorem DvL.set {vs:List V}{xs:List DV}(h:DvL K ρ G vs xs)(k:Nat)(d:DvOk K ρ G v x):DvL K ρ G (vs.set k v) (xs.set k x):=by
 induction h generalizing k with
 | nil=>exact .nil
 | cons a b ih =>
  cases k with
  | zero=>exact .cons d b
  | succ k=>exact .cons a (ih k)
def setPl (μ:Mem)(x i y:DV):Option Mem:=match atPl μ x with
 | none=>none
 | some (n,ys)=>match asI i with
  | none=>none
  | some k=>match ixN ys.length k with
   | some j=>if belowB n y=true then some (μ.set n (.lst (ys.set j y))) else none
   | none=>none
theorem setPl_ok {i:DV}{vi:V}{μ':Mem}{Qh:Hp→Prop}(R:Rel K ρ G H μ)(hx:DvOk K ρ G v x)(hi:DvOk K ρ G vi i)(hy:DvOk K ρ G w y)(e:setPl μ x i y=some μ')
  (go:∀ H',Tr ρ G H G H'→Rel K ρ G H' μ'→Qh H'):rSetL v vi w H Qh:=by
 unfold setPl at e
 cases e1:atPl μ x with
 | none=>rw[e1] at e;cases e
 | some q =>
  obtain⟨n,ys⟩:=q
  simp only[e1] at e
  obtain⟨a,ws,rfl,hn,hH,hd,hm,hb⟩:=atPl_ok R hx e1
  cases e2:asI i with
  | none=>rw[e2] at e;cases e
  | some k =>
   simp only[e2] at e
   cases e3:ixN ys.length k with
   | none=>rw[e3] at e;cases e
   | some j =>
    simp only[e3] at e
    by_cases c:belowB n y=true
    ·rw[if_pos c] at e;cases e
     obtain⟨R2,t2⟩:=R.setL hn hm (fun x hx=>(List.mem_or_eq_of_mem_set hx).elim (hb x) fun z=>by rw[z];exact belowB_ok c) (hd.set j hy)
     exact⟨a,ws,k,j,rfl,asI_ok hi e2,hH,by rw[paired_len hd];exact e3,go _ t2 R2⟩
    ·rw[if_neg c] at e;cases e
def gSet (fo fi fe:EM):SM:=fun _ δ μ=>lift ((frzV fe δ μ).bind fun y μ1=>(frzV fo δ μ1).bind fun x μ2=>(frzV fi δ μ2).bind fun i μ3=>match setPl μ3 x i y with
 | some μ4=>.ok () μ4
 | none=>.bad) δ fun _ μ4=>.next δ μ4
theorem SndG.stm2 {α β γ:Type}{t:Slots→Hp→(β→Hp→Prop)→Prop}{f:Env→Mem→Res α}{rp:Pm→Hp→Hp→Hp→β→α→Prop}{Dn:Ends}
  (h:SndG K W t f rp) (R:Rel K ρ G H μ) (E:EnvOk K ρ G σ δ) {k:α→Mem→Res γ} {kk:γ→Mem→Out}
  (hp:PostS K W N ρ G H Dn (lift ((f δ μ).bind k) δ kk)) {Q:β→Hp→Prop}
  (go:∀ r μ' G' H' v,Tr ρ G H G' H'→Rel K ρ G' H' μ'→EnvOk K ρ G' σ δ→rp ρ G' H H' v r→PostS K W N ρ G' H' Dn (lift (k r μ') δ kk)→Q v H'):t σ H Q:=by
 refine h ρ G H σ δ μ Q R E ?_
 cases e:f δ μ with
 | ok r μ'=>rw[e] at hp;exact fun G' H' v t' R' q=>go r μ' G' H' v t' R' (E.mono t'.exG) q (PostS.shift t'.toS hp)
 | exc x μ'=>rw[e] at hp;exact fun G' H' cls d t' R' q=>hp ρ G' H' σ cls d t'.toS R' (E.mono t'.exG) q
 | bad=>rw[e] at hp;exact hp
theorem snd_set {to ti te:TE}{fo fi fe:EM}(ho:SndE K W to fo)(hi:SndE K W ti fi)(he:SndE K W te fe):SndS K W (tAsg te (gSub to ti rSetL)) (gSet fo fi fe):=fun N ρ G H σ δ μ Dn R E hp=>by
 refine SndG.stm2 (t:=te) he.toV R E hp fun y μ1 G1 H1 w t1 R1 E1 d1 hp1=>?_
 refine SndG.stm2 (t:=to) ho.toV R1 E1 hp1 fun x μ2 G2 H2 v t2 R2 E2 d2 hp2=>?_
 refine SndG.stm2 (t:=ti) hi.toV R2 E2 hp2 fun i μ3 G3 H3 vi t3 R3 E3 d3 hp3=>?_
 cases e:setPl μ3 x i y with
 | none=>rw[e] at hp3;exact hp3.elim
 | some μ4 =>
  rw[e] at hp3
  exact setPl_ok R3 (d2.mono t3.exG fun _ _ q=>q) d3 (d1.mono (t2.exG.trans t3.exG) fun _ _ q=>q) e fun H' t4 R4=>hp3 ρ G3 H' σ t4.toS R4 E3
def getPl (μ:Mem)(x i:DV):Option Int:=match asL μ x with
 | none=>none
 | some xs=>match asI i with
  | none=>none
  | some k=>if 0≤k∧k<2^63 then match xs[k.toNat]? with
    | some y=>asI y
    | none=>none
   else none
def gAugS (op:Int→Int→Int)(fo fi fe:EM):SM:=fun _ δ μ=>lift ((frzV fo δ μ).bind fun x μ1=>(frzV fi δ μ1).bind fun i μ2=>match getPl μ2 x i with
 | none=>.bad
 | some a=>(frzV fe δ μ2).bind fun y μ3=>match asI y with
  | none=>.bad
  | some b=>match setPl μ3 x i (.dat (.int (op a b))) with
   | some μ4=>.ok () μ4
   | none=>.bad) δ fun _ μ4=>.next δ μ4
theorem snd_augS {to ti te:TE}{fo fi fe:EM}{op:Int→Int→Int}(ho:SndE K W to fo)(hi:SndE K W ti fi)(he:SndE K W te fe):SndS K W (tAugS to ti te (rGetL K) (ipI op) rSetL) (gAugS op fo fi fe):=fun N ρ G H σ δ μ Dn R E hp=>by
 refine SndG.stm2 (t:=to) ho.toV R E hp fun x μ1 G1 H1 v t1 R1 E1 d1 hp1=>?_
 refine SndG.stm2 (t:=ti) hi.toV R1 E1 hp1 fun i μ2 G2 H2 vi t2 R2 E2 d2 hp2=>?_
 cases eg:getPl μ2 x i with
 | none=>rw[eg] at hp2;exact hp2.elim
 | some a =>
  simp only[eg] at hp2
  have d1':=d1.mono t2.exG fun _ _ q=>q
  unfold getPl at eg
  cases e1:asL μ2 x with
  | none=>rw[e1] at eg;cases eg
  | some xs =>
   simp only[e1] at eg
   cases e2:asI i with
   | none=>rw[e2] at eg;cases eg
   | some k =>
    simp only[e2] at eg
    by_cases c:0≤k∧k<2^63
    case neg=>rw[if_neg c] at eg;cases eg
    rw[if_pos c] at eg
    cases e3:xs[k.toNat]? with
    | none=>rw[e3] at eg;cases eg
    | some z =>
     simp only[e3] at eg
     obtain⟨p,vs,rfl,hq,hd⟩:=asL_ok R2 d1' e1
     obtain⟨u,h1,h2⟩:=DvL.get' hd e3
     refine⟨p,vs,k,u,rfl,asI_ok d2 e2,hq,c.1,c.2,h1,?_⟩
     rw[asI_ok h2 eg]
     refine SndG.stm2 (t:=te) he.toV R2 E2 hp2 fun y μ3 G3 H3 w t3 R3 E3 d3 hp3=>?_
     cases e4:asI y with
     | none=>rw[e4] at hp3;exact hp3.elim
     | some b =>
      simp only[e4] at hp3
      refine⟨a,b,rfl,asI_ok d3 e4,?_⟩
      cases e5:setPl μ3 x i (.dat (.int (op a b))) with
      | none=>rw[e5] at hp3;exact hp3.elim
      | some μ4 =>
       rw[e5] at hp3
       exact setPl_ok R3 (d1'.mono t3.exG fun _ _ q=>q) (d2.mono t3.exG fun _ _ q=>q) (y:=.dat (.int (op a b))) (Rp.int _) e5 fun H' t4 R4=>hp3 ρ G3 H' σ t4.toS R4 E3
def gAug (i:Nat)(op:Int→Int→Int)(fe:EM):SM:=fun _ δ μ=>match δ[i]? with
 | some (some x)=>match asI x with
  | some a=>lift (frzV fe δ μ) δ fun y μ'=>match asI y with
   | some b=>.next (δ.set i (some (.dat (.int (op a b))))) μ'
   | none=>.bad
  | none=>.bad
 | _=>.bad
def gPar (i j:Nat)(fa:AM):SM:=fun _ δ μ=>lift (fa δ μ) δ fun xs μ'=>match xs with
 | [x,y]=>.next ((δ.set i (some x)).set j (some y)) μ'
 | _=>.bad
theorem snd_par {ta:TA}{fa:AM}(i j:Nat)(ha:SndA K W ta fa):SndS K W (tPar i j ta) (gPar i j fa):=fun N ρ G H σ δ μ Dn R E hp=>by
 refine SndG.stm (t:=ta) ha R E hp fun xs μ' G' H' vs t' R' E' d hp'=>?_
 match xs,d,hp' with
 | [],_,hp'=>exact hp'.elim
 | [_],_,hp'=>exact hp'.elim
 | _::_::_::_,_,hp'=>exact hp'.elim
 | [x,y],d,hp' =>
  obtain⟨v,w,rfl,dx,dy⟩:=d.two
  exact⟨v,w,rfl,hp' ρ G' H' _ t'.toS R' ((E'.set i dx).set j dy)⟩
def gPar2 (i j:Nat)(f g:EM):SM:=fun N δ μ=>lift (f δ μ) δ fun r μ1=>match bindR N i r δ μ1 with
 | .next δ1 μ2=>lift (g δ μ2) δ fun r2 μ3=>bindR N j r2 δ1 μ3
 | _=>.bad
end
section
variable {X:Cx}{W:WX}{pos p tpos px py pt pt2:Pos}{e o i a b:Expr}{te to ti:TE}{f fo fi:EM}{ta:TA}{fa:AM}
theorem sm_set (ho:PM X W o to fo)(hi:PM X W i ti fi)(he:PM X W e te f)
  (hs:∀ (v:Value),assign (o.Subscript i p) X.env v=(do
        let ov ←holding [v] (eval o X.env)
        let iv ←holding [v,ov] (eval i X.env)
        standAt p
        holding [v,ov,iv] (setItem ov iv v)
        release [v,ov,iv] []):=by intro _;rfl)
  (a1:swapsWithSole [o.Subscript i p] e pos.line X.env=pure false:=by rfl) (a2:swappedStores [o.Subscript i p] e X.env=pure none:=by rfl) (a3:List.map (fun x=>x.snd) (assignEach [o.Subscript i p] X.env)=[assign (o.Subscript i p) X.env]:=by rfl) :
  PSM X W (.Assign [o.Subscript i p] e pos) (tAsg te (gSub to ti rSetL)) (gSet fo fi f):=⟨ps_asg he.pe (pg_sub ho.pe hi.pe set_list hs) a1 a2 a3,snd_set ho.sd hi.sd he.sd⟩
theorem sm_augS (ho:PM X W o to fo)(hi:PM X W i ti fi)(he:PM X W e te f)
  (hs:∀ (ov iv new:Value),augStore i ov iv new=(do
           holding [new,ov,iv] (setItem ov iv new)
           release [new,ov,iv] []
           pure Flow.next):=by intro _ _ _;rfl) :
  PSM X W (.AugAssign (o.Subscript i tpos) .Add e pos) (tAugS to ti te (rGetL X.K) (ipI fun i j=>i+j) rSetL) (gAugS (fun i j=>i+j) fo fi f):=⟨ps_augS ho.pe hi.pe pget_list he.pe ip_add set_list hs,snd_augS ho.sd hi.sd he.sd⟩
theorem sm_par {x y:Str}{kt k2:Nat}(n m:Nat)(hc:X.calm=true)(hN:X.N.Nodup)(ha:PMA X W [a,b] ta fa)(hi:X.N[n]?=some x:=by rfl)(hj:X.N[m]?=some y:=by rfl)(hne:n≠m:=by decide)
  (hx:X.env.scope.names.lookup x=some .local:=by rfl) (hy:X.env.scope.names.lookup y=some .local:=by rfl)
  (hs:swappedStores [Expr.Tuple [Expr.Name x px,Expr.Name y py] kt pt] (Expr.Tuple [a,b] k2 pt2) X.env=pure (some [x,y]):=by rfl)
  (hs2:swapsWithSole [Expr.Tuple [Expr.Name x px,Expr.Name y py] kt pt] (Expr.Tuple [a,b] k2 pt2) pos.line X.env=pure false:=by rfl) :
  PSM X W (.Assign [Expr.Tuple [Expr.Name x px,Expr.Name y py] kt pt] (Expr.Tuple [a,b] k2 pt2) pos) (tPar n m ta) (gPar n m fa):=⟨ps_par hc hN hi hj hne hx hy ha.pe hs hs2,snd_par n m ha.sd⟩
theorem pm_cb {x:Str}{es:List Expr}{id:String}{r:List V→Hp→VK→Prop}{g:List DV→Mem→Res R}(hr:CallR X (.builtin id) r)(hd:CallD X.K r g)(hg:Gl X x)(hm:X.mg x=none)(hv:bootBuiltins x=some (.builtin id))(ha:PMA X W (e::es) ta fa)
  (hn:x≠"__name__":=by decide) (hdb:(x==("__debug__":Str))=false:=by decide) (he:starEach (e::es) X.env=(false,eval e X.env)::starEach es X.env:=by rfl) (hpl:(backTo pos (starEach es X.env)).any (·.1)=false:=by rfl) :
  PM X W (.Call (.Name x p) (e::es) [] pos) (tCB r ta) (eCB g fa):=⟨pe_callB hr hg hm hv ha.pe hn hdb he hpl,snd_cb hd ha.sd⟩
end
section
variable {K:PySem.W.Frag}{W:WX}{N M:Nat}{ρ:Pm}{G H:Hp}{σ:Slots}{δ:Env}{μ:Mem}{Q:VK}{v w:V}{x y:DV}
def eChain (g g':DV→DV→Mem→Res R)(fa fb fc:EM):EM:=fun δ μ=>(frzV fa δ μ).bind fun x μ1=>(frzV fb δ μ1).bind fun y μ2=>(g x y μ2).bind fun r μ3=>match asB r with
 | some true=>(frzV fc δ μ3).bind fun z μ4=>g' y z μ4
 | some false=>.ok (.dat (.bl false)) μ3
 | none=>.bad
theorem snd_chain {r r':R2}{g g':DV→DV→Mem→Res R}{ta tb tc:TE}{fa fb fc:EM}(ho:OpD K r g)(ho':OpD K r' g')(ha:SndE K W ta fa)(hb:SndE K W tb fb)(hc:SndE K W tc fc):SndE K W (tChain r r' ta tb tc) (eChain g g' fa fb fc):=fun ρ G H σ δ μ Q R E hp=>by
 refine SndG.seq (t:=ta) ha.toV R E hp fun x μ1 G1 H1 v t1 R1 E1 d1 hp1=>?_
 refine SndG.seq (t:=tb) hb.toV R1 E1 (hp1.shiftE t1) fun y μ2 G2 H2 w t2 R2 E2 d2 hp2=>?_
 have hp2:=hp2.shiftE t2
 refine ho W ρ G2 H2 σ μ2 v w x y _ R2 (d1.mono t2.exG fun _ _ q=>q) d2 ?_
 cases e:g x y μ2 with
 | exc z μ'=>rw[e] at hp2;exact hp2
 | bad=>rw[e] at hp2;exact hp2
 | ok r0 μ3 =>
  rw[e] at hp2
  intro G3 H3 u t3 R3 d3
  simp only[Res.bind_ok] at hp2
  cases eb:asB r0 with
  | none=>rw[eb] at hp2;exact hp2.elim
  | some b =>
   rw[eb] at hp2
   refine⟨b,asB_ok d3 eb,?_⟩
   cases b with
   | false=>exact hp2 G3 H3 _ t3 R3 (Rp.bl false)
   | true =>
    refine SndG.seq (t:=tc) hc.toV R3 (E2.mono t3.exG) (hp2.shiftE t3) fun z μ4 G4 H4 zv t4 R4 E4 d4 hp4=>?_
    exact ho' W ρ G4 H4 σ μ4 w zv y z Q R4 (d2.mono (t3.exG.trans t4.exG) fun _ _ q=>q) d4 (hp4.shiftE t4)
end
section
variable {X:Cx}{W:WX}{pos p tpos px py pt pt2 spos:Pos}{e o i a b c:Expr}{te to ti ta tb tc:TE}{f fo fi fa fb fc:EM}{tA:TA}{fA:AM}
theorem pm_ct {x:Str}{es:List Expr}{T:String}{r:List V→Hp→VK→Prop}{g:List DV→Mem→Res R}(hr:CallR X (.type T) r)(hd:CallD X.K r g)(hg:Gl X x)(hm:X.mg x=none)(hv:bootBuiltins x=some (.type T))(ha:PMA X W (e::es) tA fA)
  (hn:x≠"__name__":=by decide) (hdb:(x==("__debug__":Str))=false:=by decide) (he:starEach (e::es) X.env=(false,eval e X.env)::starEach es X.env:=by rfl) (hpl:(backTo pos (starEach es X.env)).any (·.1)=false:=by rfl) :
  PM X W (.Call (.Name x p) (e::es) [] pos) (tCB r tA) (eCB g fA):=⟨pe_callTy hr hg hm hv ha.pe hn hdb he hpl,snd_cb hd ha.sd⟩
theorem pm_chain {op op':CmpOp}{r r':R2}{g g':DV→DV→Mem→Res R}(ho:OpR X (compareOp op) r)(hd:OpD X.K r g)(ho':OpR X (compareOp op') r')(hd':OpD X.K r' g')(ha:PM X W a ta fa)(hb:PM X W b tb fb)(hc:PM X W c tc fc)(hm:lastMarks [op,op'] [b,c]=false:=by rfl) :
  PM X W (.Compare a [op,op'] [b,c] pos) (tChain r r' ta tb tc) (eChain g g' fa fb fc):=⟨pe_chain ho ho' ha.pe hb.pe hc.pe hm,snd_chain hd hd' ha.sd hb.sd hc.sd⟩
theorem pt_chain {op op':CmpOp}{r r':R2}{g g':DV→DV→Mem→Res R}(ho:OpR X (compareOp op) r)(hd:OpD X.K r g)(ho':OpR X (compareOp op') r')(hd':OpD X.K r' g')(ha:PM X W a ta fa)(hb:PM X W b tb fb)(hc:PM X W c tc fc)(hm:lastMarks [op,op'] [b,c]=false:=by rfl) :
  PMT X W (.Compare a [op,op'] [b,c] pos) (tTest (tChain r r' ta tb tc)) (tmB (eChain g g' fa fb fc)):=⟨L2.pt_chain ho ho' ha.pe hb.pe hc.pe hm,snd_tmB (snd_chain hd hd' ha.sd hb.sd hc.sd) fun _ _ _ h=>h⟩
theorem sm_lc (fresh:Bool){j:Nat}{y:Str}{elt tg iter:Expr}{ifs:List Expr}{scope:Scope}{own:List (Str×Nat)}{wi:TI}{fI:IM}{g:TG}{h:D→Env→Option Env}{tv:List Nat}{tt:TT}{ft:TM}{fe:EM}(hc:X.calm=true)(hN:X.N.Nodup)(hy:X.N[j]?=some y)(hyl:X.env.scope.names.lookup y=some .local)
  (hsw:swapsWith (.ListComp elt [⟨tg,iter,ifs,0⟩] scope pos) (some (.Name y py)) spos.line X.env=pure true)
  (hi:PMI X W tg iter wi fI) (ok:BlkOk X.N X.env.scope scope own)
  (hg:∀ (s:Shared) (H:Hp) (C:Addr) (cl:List (Str×Addr)) (fp:List Addr),PMG (X.blk s H scope (compEnvC scope cl C X.env) fp) tg g h tv)
  (hv:∀ i∈tv,i∈own.map (·.2))
  (ht:∀ (s:Shared) (H:Hp) (C:Addr) (cl:List (Str×Addr)) (fp:List Addr),PMTs (X.blk s H scope (compEnvC scope cl C X.env) fp) WF ifs tt ft)
  (he:∀ (s:Shared) (H:Hp) (C:Addr) (cl:List (Str×Addr)) (fp:List Addr),PM (X.blk s H scope (compEnvC scope cl C X.env) fp) WF elt te fe)
  (hs:∀ x,foldedSetIterable iter X.env x=pure x:=by intro _;rfl) :
  PSM X W (.Assign [.Name y py] (.ListComp elt [⟨tg,iter,ifs,0⟩] scope pos) spos) (tAsg (tLc wi g tt te (own.map (·.2))) (gName j)) (if fresh=true then gNew j (eLc fI h ft fe (own.map (·.2))) else gAsg j (eLc fI h ft fe (own.map (·.2)))):=by
 have sd:SndE X.K W (tLc wi g tt te (own.map (·.2))) (eLc fI h ft fe (own.map (·.2))):=snd_lc hi.sd (hg X.s_0 X.H_0 0 [] []).ok hv (ht X.s_0 X.H_0 0 [] []).sd (he X.s_0 X.H_0 0 [] []).sd
 refine⟨ps_setLc hc hN hy hyl hsw hi.pi ok (fun s H C cl fp=>(hg s H C cl fp).pg) (fun s H C cl fp=>(ht s H C cl fp).pe) (fun s H C cl fp=>(he s H C cl fp).pe) hs,?_⟩
 cases fresh with
 | true=>exact snd_new j sd
 | false=>exact snd_asg j sd
end
section
variable {K:PySem.W.Frag}{W:WX}{N M:Nat}{ρ:Pm}{G H:Hp}{σ:Slots}{δ:Env}{μ:Mem}{Q:VK}{v w:V}{x y:DV}
def gTgt (h:D→Env→Option Env)(f:EM):SM:=fun _ δ μ=>lift (frzV f δ μ) δ fun x μ'=>match x with
 | .dat d=>match h d δ with
  | some δ'=>.next δ' μ'
  | none=>.bad
 | .loc _=>.bad
theorem snd_tgt {te:TE}{f:EM}{g:TG}{h:D→Env→Option Env}{ts:List Nat}(hg:TgOk K g h ts)(he:SndE K W te f):SndS K W (tAsg te g) (gTgt h f):=fun N ρ G H σ δ μ Dn R E hp=>by
 refine SndG.stm (t:=te) he.toV R E hp fun x μ' G' H' v t' R' E' d hp'=>?_
 cases x with
 | loc n=>exact hp'.elim
 | dat d0 =>
  simp only at hp'
  cases e:h d0 δ with
  | none=>rw[e] at hp';exact hp'.elim
  | some δ' =>
   rw[e] at hp'
   exact hg ρ G' H' μ' σ δ δ' v d0 _ R' E' d e fun σ' E2 _ _=>hp' ρ G' H' σ' t'.toS R' E2
def newPl (N:Nat)(r:R)(μ:Mem):Option (DV×Mem):=match r with
 | .dat d=>some (.dat d,μ)
 | .loc n=>some (.loc n,μ)
 | .nl xs=>if N≤μ.length then some (.loc μ.length,μ++[.lst xs]) else none
 | .nk kvs=>if N≤μ.length then some (.loc μ.length,μ++[.dct kvs]) else none
abbrev NM:=Nat→Env→Mem→Res (List DV)
def nNil:NM:=fun _ _ μ=>.ok [] μ
def nCons (f:EM)(g:NM):NM:=fun N δ μ=>(f δ μ).bind fun r μ1=>match newPl N r μ1 with
 | none=>.bad
 | some (x,μ2)=>(g N δ μ2).bind fun xs μ3=>.ok (x::xs) μ3
def SndN (K:PySem.W.Frag)(W:WX)(t:TA)(f:NM):Prop:=∀ (N:Nat) (ρ:Pm) (G H:Hp) (σ:Slots) (δ:Env) (μ:Mem) (Q:List V→Hp→Prop),Rel K ρ G H μ→EnvOk K ρ G σ δ →
 (match f N δ μ with
  | .ok xs μ'=>∀ ρ' G' H' vs,TrS N ρ G H ρ' G' H'→Rel K ρ' G' H' μ'→(∀ n b,ρ n=some b→ρ' n=some b)→DvL K ρ' G' vs xs→Q vs H'
  | .exc x μ'=>∀ ρ' G' H' cls d,TrS N ρ G H ρ' G' H'→Rel K ρ' G' H' μ'→(∀ n b,ρ n=some b→ρ' n=some b)→XcOk K G' H' x cls d→W cls d σ H'
  | .bad=>False)→t σ H Q
def gDisp (i:Nat)(f:NM):SM:=fun N δ μ=>match f N δ μ with
 | .ok xs μ1=>if xs.length≤sizeLine then bindR N i (.nl xs) δ μ1 else .bad
 | .exc x μ1=>.exc x δ μ1
 | .bad=>.bad
def dNeg (x:DV)(μ:Mem):Res R:=match asI x with
 | some i=>.ok (.dat (.int (-i))) μ
 | none=>.bad
def eUn (g:DV→Mem→Res R)(f:EM):EM:=fun δ μ=>(frzV f δ μ).bind fun x μ'=>g x μ'
theorem snd_neg {ta:TE}{f:EM}(h:SndE K W ta f):SndE K W (tUn (rU fun i=>.int (-i)) ta) (eUn dNeg f):=fun ρ G H σ δ μ Q R E hp=>by
 refine SndG.seq (t:=ta) h.toV R E hp fun x μ1 G1 H1 v t1 R1 E1 d1 hp1=>?_
 unfold dNeg at hp1
 split at hp1
 ·rename_i i e
  exact⟨i,asI_ok d1 e,hp1 G1 H1 _ t1 R1 (Rp.int _)⟩
 ·exact hp1.elim
def eInK (neg:Bool)(ks:List Str)(f:EM):EM:=fun δ μ=>(frzV f δ μ).bind fun x μ'=>match asStr x with
 | some z=>.ok (.dat (.bl (if neg=true then !(ks.any fun k=>decide (k=z)) else ks.any fun k=>decide (k=z)))) μ'
 | none=>.bad
end
structure PMN (X:Cx)(W:WX)(es:List Expr)(ta:TA)(f:NM):Prop where
 pe:PA X es ta
 sd:SndN X.K W ta f
section
variable {X:Cx}{W:WX}{pos p:Pos}{e a tg:Expr}{es:List Expr}{te ta:TE}{f fa:EM}{tA:TA}{fN:NM}
theorem sm_tgt {g:TG}{h:D→Env→Option Env}{ts:List Nat}(hg:PMG X tg g h ts)(he:PM X W e te f)(a1:swapsWithSole [tg] e pos.line X.env=pure false:=by rfl)(a2:swappedStores [tg] e X.env=pure none:=by rfl)(a3:List.map (fun x=>x.snd) (assignEach [tg] X.env)=[assign tg X.env]:=by rfl) :
  PSM X W (.Assign [tg] e pos) (tAsg te g) (gTgt h f):=⟨ps_asg he.pe hg.pg a1 a2 a3,snd_tgt hg.ok he.sd⟩
theorem pm_neg (ha:PM X W a ta fa):PM X W (.UnaryOp .USub a pos) (tUn (rU fun i=>.int (-i)) ta) (eUn dNeg fa):=⟨pe_un un_neg ha.pe,snd_neg ha.sd⟩
end
section
variable {X:Cx}{W:WX}{pos p p2 q tpos apos cpos:Pos}{a b e o i:Expr}{es:List Expr}{lo hi:Option Expr}{te ta tb to ti:TE}{tA:TA}{fA:AM}{tl th:TO}{f fa fb fo fi:EM}{fl fh:OM}
theorem op_eqK (K:PySem.W.Frag)(h:X.A.units+64<cLine)(hK:X.K=K:=by rfl):OpR X (compareOp .Eq) (rEqQ K):=by subst hK;exact op_eqQ h
theorem op_neK (K:PySem.W.Frag)(h:X.A.units+64<cLine)(hK:X.K=K:=by rfl):OpR X (compareOp .NotEq) (rNeQ K):=by subst hK;exact op_neQ h
theorem pm_cmpK {op:CmpOp}{r:R2}{g:DV→DV→Mem→Res R}{K:PySem.W.Frag}(ho:OpR X (compareOp op) r)(hd:OpD K r g)(ha:PM X W a ta fa)(hb:PM X W b tb fb)(hm:behindInMarks op b=false)(hK:X.K=K:=by rfl):PM X W (.Compare a [op] [b] pos) (tOp r ta tb) (eOp g fa fb):=by
 subst hK;exact pm_cmp ho hd ha hb hm
theorem pt_cmpK {op:CmpOp}{r:R2}{g:DV→DV→Mem→Res R}{K:PySem.W.Frag}(ho:OpR X (compareOp op) r)(hd:OpD K r g)(ha:PM X W a ta fa)(hb:PM X W b tb fb)(hm:behindInMarks op b=false)(hK:X.K=K:=by rfl):PMT X W (.Compare a [op] [b] pos) (tTest (tOp r ta tb)) (tmB (eOp g fa fb)):=by
 subst hK;exact pt_cmp ho hd ha hb hm
theorem call_lenK (K:PySem.W.Frag)(hK:X.K=K:=by rfl):CallR X (.builtin "len") (fun xs H Q=>∃ x n,xs=[x]∧LenV K x H n∧Q (V.int ↑n) H):=by subst hK;exact call_len
theorem call_list_ofK (K:PySem.W.Frag)(hK:X.K=K:=by rfl):CallR X (.type "list") (fun xs H Q=>∃ p ys,xs=[V.ref p]∧(SqL K H p ys∨SqT K H p ys)∧∀ (l:Addr),H l=none→Q (V.ref l) (upd H l (HO.lst ys))):=by subst hK;exact call_list_of
theorem call_tuple_ofK (K:PySem.W.Frag)(hK:X.K=K:=by rfl):CallR X (.type "tuple") (fun xs H Q=>∃ p ys,xs=[V.ref p]∧((SqL K H p ys∧∀ (l:Addr),H l=none→Q (V.ref l) (upd H l (HO.tup ys)))∨SqT K H p ys∧Q (V.ref p) H)):=by subst hK;exact call_tuple_of
theorem cr_allK (K:PySem.W.Frag)(h:X.calm=true)(hK:X.K=K:=by rfl):CallR X (.builtin "all") (rAll K):=by subst hK;exact cr_all h
theorem cr_anyK (K:PySem.W.Frag)(h:X.calm=true)(hK:X.K=K:=by rfl):CallR X (.builtin "any") (rAny K):=by subst hK;exact cr_any h
theorem cr_reprK (K:PySem.W.Frag){k:Nat}(h:Room k X.A)(hg:X.A.guards=some [])(hK:X.K=K:=by rfl):CallR X (.builtin "repr") (rRepr K):=by subst hK;exact cr_repr h hg
theorem pm_cbK {x:Str}{id:String}{r:List V→Hp→VK→Prop}{g:List DV→Mem→Res R}{K:PySem.W.Frag}(hr:CallR X (.builtin id) r)(hd:CallD K r g)(hg:Gl X x)(hm:X.mg x=none)(hv:bootBuiltins x=some (.builtin id))(ha:PMA X W (e::es) tA fA)(hK:X.K=K:=by rfl)
  (hn:x≠"__name__":=by decide) (hdb:(x==("__debug__":Str))=false:=by decide) (he:starEach (e::es) X.env=(false,eval e X.env)::starEach es X.env:=by rfl) (hpl:(backTo pos (starEach es X.env)).any (·.1)=false:=by rfl) :
  PM X W (.Call (.Name x p) (e::es) [] pos) (tCB r tA) (eCB g fA):=by subst hK;exact pm_cb hr hd hg hm hv ha hn hdb he hpl
theorem pm_ctK {x:Str}{T:String}{r:List V→Hp→VK→Prop}{g:List DV→Mem→Res R}{K:PySem.W.Frag}(hr:CallR X (.type T) r)(hd:CallD K r g)(hg:Gl X x)(hm:X.mg x=none)(hv:bootBuiltins x=some (.type T))(ha:PMA X W (e::es) tA fA)(hK:X.K=K:=by rfl)
  (hn:x≠"__name__":=by decide) (hdb:(x==("__debug__":Str))=false:=by decide) (he:starEach (e::es) X.env=(false,eval e X.env)::starEach es X.env:=by rfl) (hpl:(backTo pos (starEach es X.env)).any (·.1)=false:=by rfl) :
  PM X W (.Call (.Name x p) (e::es) [] pos) (tCB r tA) (eCB g fA):=by subst hK;exact pm_ct hr hd hg hm hv ha hn hdb he hpl
theorem pm_callK {P:Program}{w:World}{K:PySem.W.Frag}{mg:Str→Option Value}{base:Heap}{cx:CXT}{k n:Nat}{x:Str}{F:List DV→Mem→Res R}(Fn:FnD P w K mg base cx k x n F)(hr:Room k X.A)(hgd:X.A.guards=some [])(hg:Gl X x)
  (hx:∀ σ,PassesAt cx X σ (EW W σ)) (ha:PMA X W (e::es) tA fA) (h1:X.prog=P:=by rfl) (h2:X.w=w:=by rfl) (h3:X.K=K:=by rfl) (h4:X.mg=mg:=by rfl) (h5:X.base=base:=by rfl) (hdb:(x==("__debug__":Str))=false:=by decide)
  (he:starEach (e::es) X.env=(false,eval e X.env)::starEach es X.env:=by rfl) (hpl:(backTo pos (starEach es X.env)).any (·.1)=false:=by rfl) :
  PM X W (.Call (.Name x p) (e::es) [] pos) (tCallSD (spF K n F) [] (EW W) tA) (eCB F fA):=by subst h1 h2 h3 h4 h5;exact pm_call Fn hr hgd hg hx ha hdb he hpl
theorem pm_slK (K:PySem.W.Frag)(h:PM X W e te f)(hl:PMO X W lo tl fl)(hh:PMO X W hi th fh)(hK:X.K=K:=by rfl):PM X W (.Subscript e (.Slice lo hi none p2) pos) (tSl (rSl K) te tl th) (eSl f fl fh):=by subst hK;exact pm_sl h hl hh
theorem pm_addK (K:PySem.W.Frag)(ha:PM X W a ta fa)(hb:PM X W b tb fb)(hK:X.K=K:=by rfl):PM X W (.BinOp a .Add b pos) (tOp (rPlus K) ta tb) (eOp dAdd fa fb):=by subst hK;exact pm_add ha hb
theorem pm_idxK (K:PySem.W.Frag)(ha:PM X W a ta fa)(hb:PM X W b tb fb)(hs:PlainIx b)(hK:X.K=K:=by rfl):PM X W (.Subscript a b pos) (tOp (rIx K) ta tb) (eOp dIx fa fb):=by subst hK;exact pm_idx ha hb hs
theorem mi_seqK (K:PySem.W.Frag){tg:Expr}(h:PM X W e te f)(hK:X.K=K:=by rfl):PMI X W tg e (iSeq K te) (imSeq f):=by subst hK;exact mi_seq h
theorem mt_extK (K:PySem.W.Frag)(hK:X.K=K:=by rfl):MtM X "list.extend" (rExt K):=by subst hK;exact mt_ext
theorem pm_bmK (K:PySem.W.Frag) {name:Str} {T id:String} {r:V→List V→Hp→VK→Prop} {c:DV→Mem→Bool} {g:DV→List DV→Mem→Res R} (hp:PlainAttrs T) (hsl:Slot T name id) (hty:typeOf (Value.builtin id)=pure (Value.type "method_descriptor")) (hm:MtR X id r) (hT:TyD K T c) (hd:MtD K r g) (ho:PM X W o to f) (ha:PMA X W (e::es) tA fA) (hK:X.K=K:=by rfl)
  (h1:attributeBase o name X.env (eval o X.env)=eval o X.env:=by rfl)
  (h2:(((((backTo cpos (starEach (e::es) X.env)).all fun x=>!x.fst)&&(backToKw cpos (keywordEach [] X.env)).all fun x=>x.fst.isSome)&&decide (((e::es).length+([]:List Keyword).length+if([]:List Keyword).isEmpty=true then 0 else 1)<30))=true):=by rfl)
  (h3:(apos.endLine==cpos.line)=true:=by rfl) (h4:starEach (e::es) X.env=(false,eval e X.env)::starEach es X.env:=by rfl) (h5:((backTo cpos (starEach es X.env)).any fun x=>x.fst)=false:=by rfl) :
  PM X W ((o.Attribute name apos).Call (e::es) [] cpos) (tBM K T r to tA) (eBM c g f fA):=by subst hK;exact pm_bm hp hsl hty hm hT hd ho ha h1 h2 h3 h4 h5
theorem pg_tpK (K:PySem.W.Frag){k n:Nat}{gs:TGs}{hs:List D→Env→Option Env}{ts:List Nat}(hc:X.calm=true)(h:PMGs X es gs hs ts)(hK:X.K=K:=by rfl)(h1:(assignEach es X.env).length=n:=by rfl)(h2:List.findIdx? (fun x=>x.fst) (assignEach es X.env)=none:=by rfl) :
  PMG X (.Tuple es k pos) (L2.gTup K n gs) (tgTup n hs) ts:=by subst hK;exact pg_tp hc h h1 h2
theorem sm_augSK (K:PySem.W.Frag)(ho:PM X W o to fo)(hi:PM X W i ti fi)(he:PM X W e te f)(hK:X.K=K:=by rfl)
  (hs:∀ (ov iv new:Value),augStore i ov iv new=(do
           holding [new,ov,iv] (setItem ov iv new)
           release [new,ov,iv] []
           pure Flow.next):=by intro _ _ _;rfl) :
  PSM X W (.AugAssign (o.Subscript i tpos) .Add e pos) (tAugS to ti te (rGetL K) (ipI fun i j=>i+j) rSetL) (gAugS (fun i j=>i+j) fo fi f):=by subst hK;exact sm_augS ho hi he hs
end
section
variable {X:Cx}{cx:CXT}{k:Nat}{f C:Addr}{fd:FuncData}{ps:List Str}{sp:Sp}{E:L2.St→XK}{x m:Str}{p pos apos:Pos}{e o:Expr}{es:List Expr}{ta:TE}{t:TA}
end
def insAt (μ:Mem):DV→Option (Str×List (Str×DV))
 | .dat (.ins nm fs)=>some (nm,fs.map fun p=>(p.1,.dat p.2))
 | .loc n=>match μ[n]? with
  | some (.ins nm fs)=>some (nm,fs)
  | _=>none
 | _=>none
theorem ClsAt.uniq {K:PySem.W.Frag}{nm:Str}{C C':Addr}(a:ClsAt K nm C)(b:ClsAt K nm C'):C=C':=by
 unfold ClsAt at a b;rw[a] at b;cases b;rfl
section
variable {K:PySem.W.Frag}{W:WX}{ρ:Pm}{G H:Hp}{μ:Mem}{σ:Slots}{δ:Env}
def isI (nm m:Str)(x:DV)(μ:Mem):Bool:=match insAt μ x with
 | some (nm',fs)=>decide (nm'=nm)&&(fs.lookup m).isNone
 | none=>false
def eMeth (nm m:Str)(F:List DV→Mem→Res R)(f:EM)(fa:AM):EM:=fun δ μ=>(frzV f δ μ).bind fun x μ1=>if isI nm m x μ1=true then(fa δ μ1).bind fun xs μ2=>F (x::xs) μ2 else .bad
structure MthD (P:Program)(w:World)(K:PySem.W.Frag)(mg:Str→Option Value)(base:Heap)(cx:CXT)(k:Nat)(nm m:Str)(n:Nat)(F:List DV→Mem→Res R):Prop where
 ar:∀ xs μ,F xs μ≠.bad→xs.length=n
 ex:∃ (C f:Addr) (fd:FuncData) (ps:List Str),ps.length=n∧ClsAt K nm C∧FnG P w K mg base cx k f fd ps (spF K n F)∧Cls K C∧Meth K C m f∧Binds K fd ps []
def eFld (nms:List Str)(m:Str)(f:EM):EM:=fun δ μ=>(frzV f δ μ).bind fun x μ1=>match insAt μ1 x with
 | some (nm,fs)=>if nm∈nms then match fs.lookup m with
   | some y=>.ok (ofV y) μ1
   | none=>.bad
  else .bad
 | none=>.bad
def putD (f:Str)(v:DV):List (Str×DV)→List (Str×DV)
 | []=>[(f,v)]
 | (g,x)::r=>if g=f then(g,v)::r else(g,x)::putD f v r
def setFld (nms:List Str)(μ:Mem)(x:DV)(m:Str)(y:DV):Option Mem:=match x with
 | .loc n=>match μ[n]? with
  | some (.ins nm fs)=>if nm∈nms∧fs.length<1000∧belowB n y=true then some (μ.set n (.ins nm (putD m y fs))) else none
  | _=>none
 | .dat _=>none
def gFld (nms:List Str)(m:Str)(fo fe:EM):SM:=fun _ δ μ=>lift ((frzV fe δ μ).bind fun y μ1=>(frzV fo δ μ1).bind fun x μ2=>match setFld nms μ2 x m y with
 | some μ3=>.ok () μ3
 | none=>.bad) δ fun _ μ3=>.next δ μ3
def mkEnd (N:Nat)(μ2:Mem):Res R:=match μ2[N+1]? with
 | some (.ins nm fs)=>match allDat (fs.map (·.2)) with
  | some ds=>.ok (.dat (.ins nm ((fs.map (·.1)).zip ds))) (μ2.take N)
  | none=>.bad
 | _=>.bad
def mkRun (F:List DV→Mem→Res R)(nm:Str)(xs:List DV)(μ1:Mem):Res R:=match F (.loc (μ1.length+1)::xs) (μ1++[.own]++[.ins nm []]) with
 | .ok (.dat .non) μ2=>mkEnd μ1.length μ2
 | .exc x μ2=>.exc x (μ2.take μ1.length)
 | _=>.bad
def eMake (nm:Str)(F:List DV→Mem→Res R)(fa:AM):EM:=fun δ μ=>(fa δ μ).bind fun xs μ1=>mkRun F nm xs μ1
structure MakD (P:Program)(w:World)(K:PySem.W.Frag)(mg:Str→Option Value)(base:Heap)(cx:CXT)(k:Nat)(nm:Str)(n:Nat)(F:List DV→Mem→Res R):Prop where
 ar:∀ xs μ,F xs μ≠.bad→xs.length=n
 ex:∃ (C f:Addr) (fd:FuncData) (ps:List Str),ps.length=n∧ClsAt K nm C∧mg nm=some (.ref C)∧FnG P w K mg base cx k f fd ps (spF K n F)∧Mk K C f∧Binds K fd ps []
end
section
variable {X:Cx}{W:WX}{P:Program}{w:World}{K:PySem.W.Frag}{mg:Str→Option Value}{base:Heap}{cx:CXT}{k n:Nat}{nm m x:Str}{F:List DV→Mem→Res R}{e o:Expr}{es:List Expr}{tA:TA}{fA:AM}{to te:TE}{fo fe:EM}{p pos apos:Pos}
end
inductive Kd where
 | b (t:String)|c (nm:Str)
def kindOf (μ:Mem):DV→Option Kd
 | .dat .non=>some (.b "NoneType")
 | .dat (.bl _)=>some (.b "bool")
 | .dat (.int _)=>some (.b "int")
 | .dat (.str _)=>some (.b "str")
 | .dat (.tup _)=>some (.b "tuple")
 | .dat (.lst _)=>some (.b "list")
 | .dat (.fro _)=>some (.b "list")
 | .dat (.dct _)=>some (.b "dict")
 | .dat (.ins nm _)=>some (.c nm)
 | .dat (.ty _)=>none
 | .dat (.ref _)=>none
 | .dat (.err _ _ _ _ _)=>none
 | .loc n=>match μ[n]? with
  | some (.lst _)=>some (.b "list")
  | some (.dct _)=>some (.b "dict")
  | some (.lkd _)=>some (.b "dict")
  | some (.ins nm _)=>some (.c nm)
  | _=>none
structure ClsTy (K:PySem.W.Frag)(nm:Str):Prop where
 ex:∃ C,ClsAt K nm C∧Cls K C∧PySem.W.findIn K (.ref C) "__class__"=some (some (.builtin "object.__class__"))∧PySem.W.mroIn K C (.type "object")=some true
theorem get_class (K:PySem.W.Frag):PySem.W.specialIn K (.builtin "object.__class__") "__get__"=some (some (.builtin "getset_descriptor.__get__"))∧PySem.W.takesIn K (.builtin "object.__class__")=some true:=by
 constructor <;> kernel_rfl
def KdIs (K:PySem.W.Frag):Kd→Value→Prop
 | .b s,t=>t=.type s
 | .c nm,t=>∃ C,ClsAt K nm C∧t=.ref C
section
variable {K:PySem.W.Frag}{W:WX}{ρ:Pm}{G H:Hp}{μ:Mem}{σ:Slots}{δ:Env}
theorem ty_tup {a:Addr} {xs:List V} (h:SqT K H a xs):TyX K H (.ref a) (.type "tuple"):=by
 rcases h with (h|⟨o,h⟩)|⟨o,its,n,h1,h2,_⟩
 ·exact .base (.tup h)
 ·exact .fTuple h
 ·exact .kTuple h1 h2
theorem ty_lst {a:Addr} {xs:List V} (h:SqL K H a xs):TyX K H (.ref a) (.type "list"):=by
 rcases h with (h|⟨o,h⟩)|⟨o,its,n,h1,h2,_⟩
 ·exact .base (.lst h)
 ·exact .base (.frz h)
 ·exact .kList h1 h2
def TyZ (K:PySem.W.Frag)(H:Hp)(v:V)(t:Value):Prop:=TyX K H v t∨∃ a es,v=.ref a∧Rd H a (TX a es)∧t=.type "dict"
theorem kind_ok {v:V}{x:DV}{kd:Kd}(R:Rel K ρ G H μ)(h:DvOk K ρ G v x)(cs:∀ nm,kd=.c nm→ClsTy K nm)(e:kindOf μ x=some kd):∃ t,KdIs K kd t∧TyZ K H v t:=by
 have ins:∀ {a dx C nm fs},H a=some (.ins C dx fs)→ClsAt K nm C→ClsTy K nm→TyZ K H (.ref a) (.ref C):=fun {a dx C nm fs} h1 h2 ⟨C',c1,c2,c3,c4⟩=>by
  cases h2.uniq c1
  exact .inl (.base (.ins h1 c2 c3 (get_class K).1 (get_class K).2 c4))
 cases x with
 | dat d =>
  cases d with
  | non=>cases e;cases h;exact⟨_,rfl,.inl (.base .non)⟩
  | bl b=>cases e;cases h;exact⟨_,rfl,.inl (.base (.bl b))⟩
  | int i=>cases e;cases h;exact⟨_,rfl,.inl (.base (.int i))⟩
  | str s=>cases e;cases h;exact⟨_,rfl,.inl (.base (.str s))⟩
  | tup ds=>cases e;cases h with|tup h1 h2=>exact⟨_,rfl,.inl (ty_tup (ex_t R.ex h1))⟩
  | lst ds=>cases e;cases h with|lst h1 h2=>exact⟨_,rfl,.inl (.base (.lst (R.ex _ _ h1)))⟩
  | fro ds=>cases e;cases h with|fro h1 h2=>exact⟨_,rfl,.inl (ty_lst (ex_l R.ex h1))⟩
  | dct ds =>
   cases e
   cases h with
   | dct h1 h2 h3 =>
    rcases h2 with⟨kvs,rfl,_⟩|⟨es,xs,_,rfl,_⟩
    ·exact⟨_,rfl,.inl (.fDict (R.ex _ _ h1))⟩
    ·exact⟨_,rfl,.inr ⟨_,es,rfl,.inr ⟨_,R.ex _ _ h1⟩,rfl⟩⟩
  | ins nm ds=>cases e;cases h with|ins c h1 h2 h3 h4=>exact⟨_,⟨_,c,rfl⟩,ins (R.ex _ _ h1) c (cs nm rfl)⟩
  | ty n=>cases e
  | ref a=>cases e
  | err _ _ _ _ _=>cases e
 | loc n =>
  obtain⟨a,rfl,q⟩:=h
  unfold kindOf at e
  match em:μ[n]? with
  | none=>simp only[em] at e;cases e
  | some .own=>simp only[em] at e;cases e
  | some .gone=>simp only[em] at e;cases e
  | some (.lkl _)=>simp only[em] at e;cases e
  | some (.tp _)=>simp only[em] at e;cases e
  | some (.lkd kvs) =>
   simp only[em] at e;cases e
   obtain⟨_,b,o,vs,h1,h2,⟨od,u,rfl,h3⟩,_⟩:=R.pl n _ em
   rw[q] at h1;cases h1
   rcases h3 with⟨kvs,rfl,_⟩|⟨es,xs,_,rfl,_⟩
   ·exact⟨_,rfl,.inl (.fDict h2)⟩
   ·exact⟨_,rfl,.inr ⟨_,es,rfl,.inr ⟨_,h2⟩,rfl⟩⟩
  | some (.lst xs) =>
   simp only[em] at e;cases e
   obtain⟨_,b,vs,h1,h2,_⟩:=R.pl n _ em
   rw[q] at h1;cases h1
   exact⟨_,rfl,.inl (.base (.lst h2))⟩
  | some (.dct kvs) =>
   simp only[em] at e;cases e
   obtain⟨_,b,o,vs,h1,h2,h3,_⟩:=R.pl n _ em
   rw[q] at h1;cases h1
   rcases h3 with⟨kvs,rfl,_⟩|⟨es,xs,_,rfl,_⟩
   ·exact⟨_,rfl,.inl (.base (.dK h2))⟩
   ·exact⟨_,rfl,.inr ⟨_,es,rfl,.inl h2,rfl⟩⟩
  | some (.ins nm fs) =>
   simp only[em] at e;cases e
   obtain⟨_,b,dx,C,vs,k,hk,h1,h2,c,_⟩:=R.pl n _ em
   rw[q] at h1;cases h1
   exact⟨_,⟨_,c,rfl⟩,ins h2 c (cs nm rfl)⟩
end
section
variable {X:Cx}{pins:List (Addr×Obj)}{σ:L2.St}{H:Hp}{s:Shared}
theorem kit_ofZ {x:V} {u t:Value} (I:Inv X pins σ H s) (rx:RelV x u) (ty:TyZ X.K H x t):∃ P:Heap→Prop,PySem.W.KitX X.K u t P∧P s.heap∧u≠.builtin "__main__.__loader__#opaque":=by
 rcases ty with ty|⟨a,es,rfl,ea,rfl⟩
 ·exact kit_of I rx ty
 ·cases (show u=Value.ref a from rx)
  obtain⟨⟨o,ep,h1,h2,_⟩,_⟩:=(show ObjOk X.prog X.w H s.heap a (TX a es) from ea.ok I.hok)
  exact⟨_,PySem.W.kitx_dict,⟨o,h1,h2.1⟩,fun z=>nomatch z⟩
def rIsiZ (K:PySem.W.Frag):List V→Hp→VK→Prop:=fun xs H Q=>∃ (x c:V) (t u:Value) (b:Bool),xs=[x,c]∧ClsV c u∧TyZ K H x t∧PySem.W.kitOne K t u=some b∧Q (.bl b) H
theorem call_isiZ:CallR X (.builtin "isinstance") (rIsiZ X.K):=by
 intro pins s σ H xs us Q I r h
 obtain⟨x,c,t,u,b,rfl,k,ty,e,q⟩:=h
 obtain⟨u1,u2,rfl,r1,r2⟩:=vals2 r
 have e2:=k.eq r2
 subst e2
 obtain⟨P,Z,p,hx⟩:=kit_ofZ I r1 ty
 exact PySem.W.kia_one Z I.kIn p e hx fun tk=>⟨.bl b,H,I.tok tk,rfl,q⟩
end
section
variable {K:PySem.W.Frag}{W:WX}{ρ:Pm}{G H:Hp}{μ:Mem}{σ:Slots}{δ:Env}
def dIsi (tab:Kd→Option Bool)(x:DV)(μ:Mem):Res R:=match kindOf μ x with
 | some kd=>match tab kd with
  | some b=>.ok (.dat (.bl b)) μ
  | none=>.bad
 | none=>.bad
structure TabOk (K:PySem.W.Frag)(tab:Kd→Option Bool)(ans:Value→Bool→Prop):Prop where
 ok:∀ kd b t,tab kd=some b→KdIs K kd t→ans t b
 cl:∀ nm b,tab (.c nm)=some b→ClsTy K nm
theorem isi_ok {tab:Kd→Option Bool}{ans:Value→Bool→Prop}{x:DV}{v:V}{Q:VK}{G0 H0:Hp}(T:TabOk K tab ans)(R:Rel K ρ G H μ)(t0:Tr ρ G0 H0 G H)(d:DvOk K ρ G v x)(hp:PostG K W ρ G0 H0 σ (fun G' H'=>rpE K ρ G' H0 H') Q (dIsi tab x μ)) :
  ∃ t b,TyZ K H v t∧ans t b∧Q (.bl b) H:=by
 unfold dIsi at hp
 cases ek:kindOf μ x with
 | none=>rw[ek] at hp;exact hp.elim
 | some kd =>
  rw[ek] at hp
  simp only at hp
  cases et:tab kd with
  | none=>rw[et] at hp;exact hp.elim
  | some b =>
   rw[et] at hp
   obtain⟨t,k1,k2⟩:=kind_ok R d (fun nm e=>T.cl nm b (e▸et)) ek
   exact⟨t,b,k2,T.ok kd b t et k1,hp G H (.bl b) t0 R (Rp.bl b)⟩
theorem snd_isi {tab:Kd→Option Bool}{te:TE}{f:EM}{c:V}{u:Value}(k:ClsV c u)(T:TabOk K tab fun t b=>PySem.W.kitOne K t u=some b)(h:SndE K W te f):SndE K W (tCB (rIsiZ K) (tCons te (tCons (tC c) tNil))) (eUn (dIsi tab) f):=fun ρ G H σ δ μ Q R E hp=>by
 refine SndG.seq (t:=te) h.toV R E hp fun x μ1 G1 H1 v t1 R1 E1 d1 hp1=>?_
 obtain⟨t,b,h1,h2,h3⟩:=isi_ok T R1 t1 d1 hp1
 exact⟨v,c,t,u,b,rfl,k,h1,h2,h3⟩
theorem TyZ.ext {H':Hp}{v:V}{t:Value}(e:Ex H H')(h:TyZ K H v t):TyZ K H' v t:=by
 rcases h with h|⟨a,es,rfl,h,rfl⟩
 ·refine .inl ?_
  cases h with
  | base b =>
   refine .base ?_
   cases b with
   | non=>exact .non
   | bl x=>exact .bl x
   | int x=>exact .int x
   | str x=>exact .str x
   | flt x=>exact .flt x
   | lst h=>exact .lst (e _ _ h)
   | frz h=>exact .frz (e _ _ h)
   | tup h=>exact .tup (e _ _ h)
   | dK h=>exact .dK (e _ _ h)
   | dT h=>exact .dT (e _ _ h)
   | ins h a b c d f=>exact .ins (e _ _ h) a b c d f
  | byt b=>exact .byt b
  | set h=>exact .set (e _ _ h)
  | kList h c=>exact .kList h c
  | kTuple h c=>exact .kTuple h c
  | kDict h c=>exact .kDict h c
  | fTuple h=>exact .fTuple (e _ _ h)
  | fDict h=>exact .fDict (e _ _ h)
 ·refine .inr ⟨a,es,rfl,?_,rfl⟩
  rcases h with h|⟨o,h⟩
  ·exact .inl (e _ _ h)
  ·exact .inr ⟨o,e _ _ h⟩
end
section
variable {X:Cx}{W:WX}{e c1 c2:Expr}{te:TE}{f:EM}{p pos p1 p2:Pos}
theorem pm_isi (K:PySem.W.Frag) {tab:Kd→Option Bool} {c:V} {u:Value} (hg:Gl X "isinstance") (hm:X.mg "isinstance"=none) (k:ClsV c u) (T:TabOk K tab fun t b=>PySem.W.kitOne K t u=some b) (h:PM X W e te f) (hc:PE X c1 (tC c)) (hK:X.K=K:=by rfl)
  (hs:starEach (e::[c1]) X.env=(false,eval e X.env)::starEach [c1] X.env:=by rfl) (hs1:starEach [c1] X.env=(false,eval c1 X.env)::starEach [] X.env:=by rfl) (hpl:(backTo pos (starEach [c1] X.env)).any (·.1)=false:=by rfl) :
  PM X W (.Call (.Name "isinstance" p) [e,c1] [] pos) (tCB (rIsiZ K) (tCons te (tCons (tC c) tNil))) (eUn (dIsi tab) f):=by
 subst hK
 exact⟨pe_callB call_isiZ hg hm (by decide +kernel) (pa_cons h.pe (pa_cons hc pa_nil hs1) hs) (he:=hs) (hpl:=hpl),snd_isi k T h.sd⟩
theorem pe_tyN {T:String} {x:Str} (hg:Gl X x) (hm:X.mg x=none) (hv:bootBuiltins x=some (.type T)) (hn:x≠"__name__":=by decide) (hdb:(x==("__debug__":Str))=false:=by decide):PE X (.Name x pos) (tC (.ty T)):=pe_bltn (v:=.ty T) hg hm hv rfl hn hdb
def tabT (T:String)(cls:List Str):Kd→Option Bool
 | .b t=>kitB t T
 | .c nm=>if nm∈cls then some false else none
def tabT2 (T U:String)(cls:List Str):Kd→Option Bool
 | .b t=>match kitB t T with
  | some true=>some true
  | some false=>kitB t U
  | none=>none
 | .c nm=>if nm∈cls then some false else none
def tabC (nm0:Str)(others:List Str):Kd→Option Bool
 | .b t=>if t∈["NoneType","bool","int","str","tuple","list","dict"] then some false else none
 | .c nm=>if nm=nm0 then some true else if nm∈others then some false else none
def NoSub (K:PySem.W.Frag)(nm:Str)(T:String):Prop:=∃ C,ClsAt K nm C∧PySem.W.kitOne K (.ref C) (.type T)=some false
theorem tabT_ok {K:PySem.W.Frag}{T:String}{cls:List Str}(h:∀ nm∈cls,ClsTy K nm∧NoSub K nm T):TabOk K (tabT T cls) fun t b=>PySem.W.kitOne K t (.type T)=some b where
 ok:=fun kd b t e k=>by
  cases kd with
  | b s=>cases k;exact kit_ty e
  | c nm =>
   obtain⟨C,c1,rfl⟩:=k
   simp only[tabT] at e
   by_cases hn:nm∈cls
   ·rw[if_pos hn] at e;cases e
    obtain⟨C',c2,h2⟩:=(h nm hn).2
    cases c1.uniq c2;exact h2
   ·rw[if_neg hn] at e;cases e
 cl:=fun nm b e=>by
  simp only[tabT] at e
  by_cases hn:nm∈cls
  ·exact(h nm hn).1
  ·rw[if_neg hn] at e;cases e
end
section
variable {X:Cx}{cx:CXT}{k:Nat}{f C:Addr}{fd:FuncData}{ps:List Str}{sp:Sp}{E:XK}{pins:List (Addr×Obj)}{σ:L2.St}{H:Hp}{s:Shared}{Q:VK}{us:List Value}{vs:List V}
end
section
variable {K:PySem.W.Frag}{W:WX}{F:List DV→Mem→Res R}{n:Nat}{nm:Str}{C:Addr}
def eLenO (nm:Str)(F:List DV→Mem→Res R)(f:EM):EM:=fun δ μ=>(frzV f δ μ).bind fun x μ1=>if isI nm "" x μ1=true then match F [x] μ1 with
  | .ok (.dat (.int n)) μ2=>if 0≤n∧n<2^63 then .ok (.dat (.int n)) μ2 else .bad
  | _=>.bad
 else .bad
def boolR:Res R→Res R
 | .ok (.dat (.bl b)) μ=>.ok (.dat (.bl b)) μ
 | _=>.bad
def eEqO (nm:Str)(others:List Str)(F:List DV→Mem→Res R)(fa fb:EM):EM:=fun δ μ=>(frzV fa δ μ).bind fun x μ1=>(frzV fb δ μ1).bind fun y μ2=>if isI nm "" x μ2=true∧((kindOf μ2 y).bind (tabC nm others)).isSome=true then boolR (F [x,y] μ2) else .bad
def negR (neg:Bool):Res R→Res R
 | .ok (.dat (.bl b)) μ=>.ok (.dat (.bl (b != neg))) μ
 | _=>.bad
def eInO (nm:Str)(neg:Bool)(F:List DV→Mem→Res R)(fa fb:EM):EM:=fun δ μ=>(frzV fa δ μ).bind fun y μ1=>(frzV fb δ μ1).bind fun x μ2=>if isI nm "" x μ2=true then negR neg (F [x,y] μ2) else .bad
end
section
variable {X:Cx}{W:WX}{P:Program}{w:World}{K:PySem.W.Frag}{mg:Str→Option Value}{base:Heap}{k n:Nat}{nm:Str}{F:List DV→Mem→Res R}{a b e:Expr}{ta tb te:TE}{fa fb f:EM}{p pos:Pos}
end
section
variable {K:PySem.W.Frag}{W:WX}{ρ:Pm}{G H:Hp}{μ:Mem}{σ:Slots}{δ:Env}
theorem paired_app {α β:Type}{P:α→β→Prop}:∀ {a c:List α} {b d:List β},Paired P a b→Paired P c d→Paired P (a++c) (b++d)
 | _,_,_,_,.nil,h=>h
 | _,_,_,_,.cons r t,h=>.cons r (paired_app t h)
theorem paired_rep {α β:Type}{P:α→β→Prop}{a:List α}{b:List β}(h:Paired P a b):∀ k:Nat,Paired P (List.replicate k a).flatten (List.replicate k b).flatten
 | 0=>.nil
 | k+1=>by rw[List.replicate_succ,List.replicate_succ,List.flatten_cons,List.flatten_cons];exact paired_app h (paired_rep h k)
def rMulX:R2:=fun x y H Q=>rI CMul (fun i j=>V.int (i*j)) x y H Q∨rRep x y H Q
def dMulX (x y:DV)(μ:Mem):Res R:=match asI y with
 | none=>.bad
 | some j=>match asI x with
  | some i=>if cMul i j=true then .ok (.dat (.int (i*j))) μ else .bad
  | none=>match asM μ x with
   | some xs=>if -(2^63)≤j∧j<2^63∧xs.length*j.toNat≤sizeLine then .ok (.nl (List.replicate j.toNat xs).flatten) μ else .bad
   | none=>.bad
theorem od_mulX:OpD K rMulX dMulX:=fun W ρ G H σ μ v w x y Q R hx hy hp=>by
 unfold dMulX at hp
 cases ej:asI y with
 | none=>rw[ej] at hp;exact hp.elim
 | some j =>
  rw[ej] at hp
  simp only at hp
  have ew:=asI_ok hy ej
  subst ew
  cases ei:asI x with
  | some i =>
   rw[ei] at hp
   simp only at hp
   have ev:=asI_ok hx ei
   subst ev
   by_cases c:cMul i j=true
   ·rw[if_pos c] at hp
    refine .inl ⟨i,j,rfl,rfl,?_,hp.okD R (.int _)⟩
    unfold cMul at c
    rw[Bool.or_eq_true,decide_eq_true_eq,decide_eq_true_eq] at c
    exact c
   ·rw[if_neg c] at hp;exact hp.elim
  | none =>
   rw[ei] at hp
   simp only at hp
   cases em:asM μ x with
   | none=>rw[em] at hp;exact hp.elim
   | some xs =>
    rw[em] at hp
    simp only at hp
    by_cases c:-(2^63)≤j∧j<2^63∧xs.length*j.toNat≤sizeLine
    ·rw[if_pos c] at hp
     obtain⟨a,vs,rfl,h2,h3⟩:=asM_ok R hx em
     refine .inr ⟨a,j,vs,rfl,rfl,h2,c.1,c.2.1,by rw[paired_len h3];exact c.2.2,fun p hn=>?_⟩
     exact new_list R (Tr.refl _ _ _) hn (paired_rep h3 _) hp
    ·rw[if_neg c] at hp;exact hp.elim
def d2 (g:DV→DV→Mem→Res R)(xs:List DV)(μ:Mem):Res R:=match xs with
 | [x,y]=>g x y μ
 | _=>.bad
def dMM (f:Int→Int→Int)(x y:DV)(μ:Mem):Res R:=match asI x with
 | none=>.bad
 | some i=>match asI y with
  | none=>.bad
  | some j=>.ok (.dat (.int (f i j))) μ
end
section
variable {X:Cx}{W:WX}{a b:Expr}{ta tb:TE}{fa fb:EM}{pos:Pos}
theorem pm_mulX (ha:PM X W a ta fa)(hb:PM X W b tb fb):PM X W (.BinOp a .Mult b pos) (tOp rMulX ta tb) (eOp dMulX fa fb):=pm_op (OpR.or op_mul op_rep) od_mulX ha hb
end
section
variable {X:Cx}{W:WX}{P:Program}{w:World}{K:PySem.W.Frag}{mg:Str→Option Value}{base:Heap}{k n:Nat}{nm:Str}{F:List DV→Mem→Res R}{a b e:Expr}{ta tb te:TE}{fa fb f:EM}{p pos:Pos}
end
section
variable {P:Program}{w:World}{K:PySem.W.Frag}{mg:Str→Option Value}{base:Heap}
end
section
variable {K:PySem.W.Frag}{W:WX}{ρ:Pm}{G H:Hp}{μ:Mem}{σ:Slots}{δ:Env}{N n:Nat}{a:Addr}
end
def dval {α:Type}(kvs:List (Ky×α))(k:Ky):Option α:=(kvs.find? fun p=>decide (p.1=k)).map (·.2)
def dput {α:Type}(kvs:List (Ky×α))(k:Ky)(v:α):List (Ky×α) :=
 if(kvs.any fun p=>decide (p.1=k))=true then kvs.map (fun p=>if p.1=k then(p.1,v) else p) else kvs++[(k,v)]
def Ky.isK:Ky→Bool
 | .k _=>true
 | .t _=>false
def allK {α:Type}(kvs:List (Ky×α)):Bool:=kvs.all fun p=>p.1.isK
def keyD:DV→Option Key
 | .dat (.int i)=>some (.inl i)
 | .dat (.str s)=>some (.inr s)
 | _=>none
def datP (ds:List (Ky×D)):List (Ky×DV):=ds.map fun p=>(p.1,.dat p.2)
def dctOf (x:DV)(μ:Mem):Option (List (Ky×DV)):=match x with
 | .dat (.dct ds)=>some (datP ds)
 | .dat _=>none
 | .loc n=>match μ[n]? with
  | some (.dct kvs)=>some kvs
  | some (.lkd kvs)=>some kvs
  | _=>none
section
variable {K:PySem.W.Frag}{W:WX}{ρ:Pm}{G H G0 H0:Hp}{μ:Mem}{σ:Slots}{δ:Env}
theorem RpL.paired:∀ {vs:List V} {ds:List D},RpL K G vs ds→DvL K ρ G vs (ds.map DV.dat)
 | _,_,.nil=>.nil
 | _,_,.cons a b=>.cons a (RpL.paired b)
theorem Rel.swap {p:Addr}{o o':HO}(r:Rel K ρ G H μ)(t:Tr ρ G0 H0 G H)(h:H p=some o)(hg:G p=none)(hn:∀ n,ρ n≠some p)(h0:H0 p=none):Rel K ρ G (upd H p o') μ∧Tr ρ G0 H0 G (upd H p o'):=by
 have neG:∀ a u,G a=some u→a≠p:=fun a u e z=>by rw[z,hg] at e;cases e
 have neP:∀ n a,ρ n=some a→a≠p:=fun n a e z=>hn n (z▸e)
 refine⟨⟨fun a u e=>?_,r.inj,r.nG,r.lt,fun n a e q=>?_,fun n q e=>?_⟩,⟨t.exG,fun a u k e=>?_,fun a e=>?_,t.nG,fun a od u e=>by rw[upd_ne (fun z=>by rw[z,h0] at e;cases e)];exact t.fz a od u e⟩⟩
 ·rw[upd_ne (neG a u e)];exact r.ex a u e
 ·rw[upd_ne (neP n a e)] at q;exact r.hs n a e q
 ·have z:=r.pl n q e
  cases q with
  | lst xs=>obtain⟨b,a,vs,h1,h2,h3⟩:=z;exact⟨b,a,vs,h1,by rw[upd_ne (neP _ _ h1)];exact h2,h3⟩
  | dct kvs=>obtain⟨b,a,o,vs,h1,h2,h3⟩:=z;exact⟨b,a,o,vs,h1,by rw[upd_ne (neP _ _ h1)];exact h2,h3⟩
  | lkd kvs=>obtain⟨b,a,o,vs,h1,h2,h3⟩:=z;exact⟨b,a,o,vs,h1,by rw[upd_ne (neP _ _ h1)];exact h2,h3⟩
  | lkl xs=>obtain⟨b,a,o,vs,h1,h2,h3⟩:=z;exact⟨b,a,o,vs,h1,by rw[upd_ne (neP _ _ h1)];exact h2,h3⟩
  | tp xs=>obtain⟨b,a,o,vs,h1,h2,h3⟩:=z;exact⟨b,a,o,vs,h1,by rw[upd_ne (neP _ _ h1)];exact h2,h3⟩
  | own=>obtain⟨a,b,h1,h2⟩:=z;exact⟨a,b,h1,by rw[upd_ne (neP _ _ h1)];exact h2⟩
  | ins nm fs=>obtain⟨b,a,dx,C,vs,m,hm,h1,h2,c,h4,h3⟩:=z;exact⟨b,a,dx,C,vs,m,hm,h1,by rw[upd_ne (neP _ _ h1)];exact h2,c,by rw[upd_ne (neP _ _ hm.2)];exact h4,h3⟩
  | gone=>exact z
 ·have q:=t.keep a u k e
  rw[upd_ne (fun z=>by rw[z,h0] at e;cases e)];exact q
 ·by_cases z:a=p
  ·rw[z,upd_same] at e;cases e
  ·rw[upd_ne z] at e;exact t.th a e
theorem datP_1 (ds:List (Ky×D)):(datP ds).map (·.1)=ds.map (·.1):=by unfold datP;rw[List.map_map];rfl
theorem datP_2 (ds:List (Ky×D)):(datP ds).map (·.2)=(ds.map (·.2)).map DV.dat:=by unfold datP;rw[List.map_map,List.map_map];rfl
theorem keyD_ok {v:V}{x:DV}{k:Key}(h:DvOk K ρ G v x)(e:keyD x=some k):v=kV k:=by
 cases x with
 | loc n=>cases e
 | dat d=>cases d with
  | int i=>cases e;cases h;rfl
  | str s=>cases e;cases h;rfl
  | _=>cases e
theorem dctOf_ok {v:V}{x:DV}{kvs:List (Ky×DV)}(R:Rel K ρ G H μ)(h:DvOk K ρ G v x)(e:dctOf x μ=some kvs) :
  ∃ a o vs,v=.ref a∧Rd H a o∧DctIs K G a o (kvs.map (·.1)) vs∧DvL K ρ G vs (kvs.map (·.2)):=by
 cases x with
 | dat d=>cases d with
  | dct ds =>
   cases e
   cases h with
   | dct h1 h2 h3=>exact⟨_,_,_,rfl,.inr ⟨_,R.ex _ _ h1⟩,by rw[datP_1];exact h2,by rw[datP_2];exact h3.paired⟩
  | _=>cases e
 | loc n =>
  obtain⟨a,rfl,q⟩:=h
  simp only[dctOf] at e
  match em:μ[n]? with
  | none=>simp only[em] at e;cases e
  | some (.lst _)=>simp only[em] at e;cases e
  | some .own=>simp only[em] at e;cases e
  | some .gone=>simp only[em] at e;cases e
  | some (.lkl _)=>simp only[em] at e;cases e
  | some (.tp _)=>simp only[em] at e;cases e
  | some (.ins _ _)=>simp only[em] at e;cases e
  | some (.dct ks) =>
   simp only[em] at e;cases e
   obtain⟨_,b,o,vs,h1,h2,h3,h4⟩:=R.pl n _ em
   rw[q] at h1;cases h1
   exact⟨_,_,_,rfl,.inl h2,h3,h4⟩
  | some (.lkd ks) =>
   simp only[em] at e;cases e
   obtain⟨_,b,o,vs,h1,h2,⟨od,u,rfl,h3⟩,h4⟩:=R.pl n _ em
   rw[q] at h1;cases h1
   exact⟨_,_,_,rfl,.inr ⟨_,h2⟩,h3,h4⟩
abbrev PrL (K:PySem.W.Frag)(ρ:Pm)(G:Hp):List (Key×V)→List (Ky×DV)→Prop:=Paired fun p q=>q.1=Ky.k p.1∧DvOk K ρ G p.2 q.2
theorem prl_of:∀ {ls:List (Key×V)} {kvs:List (Ky×DV)},kvs.map (·.1)=ls.map (fun p=>Ky.k p.1)→DvL K ρ G (ls.map (·.2)) (kvs.map (·.2))→PrL K ρ G ls kvs
 | [],[],_,_=>.nil
 | [],_::_,h,_=>by cases h
 | _::_,[],h,_=>by cases h
 | p::ls,q::kvs,h,d=>by
  simp only[List.map_cons,List.cons.injEq] at h
  cases d with
  | cons a b=>exact .cons ⟨h.1,a⟩ (prl_of h.2 b)
theorem prl_to:∀ {ls:List (Key×V)} {kvs:List (Ky×DV)},PrL K ρ G ls kvs→kvs.map (·.1)=ls.map (fun p=>Ky.k p.1)∧DvL K ρ G (ls.map (·.2)) (kvs.map (·.2))
 | _,_,.nil=>⟨rfl,.nil⟩
 | _,_,.cons a b=>by
  obtain⟨h1,h2⟩:=prl_to b
  exact⟨by simp only[List.map_cons];rw[h1,a.1],.cons a.2 h2⟩
theorem dK_of {a:Addr}{o:HO}{kvs:List (Ky×DV)}{vs:List V}(h:DctIs K G a o (kvs.map (·.1)) vs)(d:DvL K ρ G vs (kvs.map (·.2)))(hk:allK kvs=true):∃ ls,o=.dK ls∧PrL K ρ G ls kvs:=by
 rcases h with⟨ls,rfl,h2,rfl⟩|⟨es,ls,hne,rfl,_,_,_,_,h2,_⟩
 ·exact⟨ls,rfl,prl_of h2 d⟩
 ·cases ls with
  | nil=>exact(hne rfl).elim
  | cons p ls =>
   cases kvs with
   | nil=>cases h2
   | cons q kvs =>
    simp only[List.map_cons,List.cons.injEq] at h2
    simp only[allK,List.all_cons,Bool.and_eq_true] at hk
    rw[h2.1] at hk
    cases hk.1
theorem prl_dK {a:Addr}{ls:List (Key×V)}{kvs:List (Ky×DV)}(h:PrL K ρ G ls kvs):DctIs K G a (.dK ls) (kvs.map (·.1)) (ls.map (·.2))∧DvL K ρ G (ls.map (·.2)) (kvs.map (·.2)) :=
 ⟨.inl ⟨ls,rfl,(prl_to h).1,rfl⟩,(prl_to h).2⟩
theorem prl_val {k:Key}:∀ {ls:List (Key×V)} {kvs:List (Ky×DV)},PrL K ρ G ls kvs→(valV ls k=none∧dval kvs (.k k)=none)∨∃ v x,valV ls k=some v∧dval kvs (.k k)=some x∧DvOk K ρ G v x
 | _,_,.nil=>.inl ⟨rfl,rfl⟩
 | p::ls,q::kvs,.cons a b=>by
  by_cases e:p.1=k
  ·refine .inr ⟨p.2,q.2,valV_pos e,?_,a.2⟩
   unfold dval
   rw[List.find?_cons_of_pos (by rw[a.1,e];simp)]
   rfl
  ·rw[valV_neg e]
   have:dval (q::kvs) (.k k)=dval kvs (.k k):=by
    unfold dval
    rw[List.find?_cons_of_neg (by rw[a.1];simpa using e)]
   rw[this]
   exact prl_val b
end
def dGet (x y:DV)(μ:Mem):Res R:=match dctOf x μ,keyD y with
 | some kvs,some k=>if allK kvs=true then match dval kvs (.k k) with
   | some z=>.ok (ofV z) μ
   | none=>.bad
  else .bad
 | _,_=>.bad
section
variable {X:Cx}{W:WX}
def dInD (neg:Bool)(y x:DV)(μ:Mem):Res R:=match dctOf x μ,keyD y with
 | some kvs,some k=>if allK kvs=true then .ok (.dat (.bl ((dval kvs (.k k)).isSome != neg))) μ else .bad
 | _,_=>.bad
theorem inD_ok {K:PySem.W.Frag}{ρ:Pm}{G H:Hp}{μ:Mem}{σ:Slots}{v w:V}{x y:DV}{neg:Bool}{Q:VK}(R:Rel K ρ G H μ)(d1:DvOk K ρ G v y)(d2:DvOk K ρ G w x)
  (hp:PostG K W ρ G H σ (fun G' H'=>rpE K ρ G' H H') Q (dInD neg y x μ)):∃ a o,w=.ref a∧DGet H a v o∧Q (.bl (o.isSome != neg)) H:=by
 unfold dInD at hp
 match e1:dctOf x μ,e2:keyD y with
 | none,_=>simp only[e1] at hp;exact hp.elim
 | some _,none=>simp only[e1,e2] at hp;exact hp.elim
 | some kvs,some k =>
  simp only[e1,e2] at hp
  by_cases hk:allK kvs=true
  case neg=>rw[if_neg hk] at hp;exact hp.elim
  rw[if_pos hk] at hp
  obtain⟨a,o,vs,rfl,h1,h2,h3⟩:=dctOf_ok R d2 e1
  obtain⟨ls,rfl,hl⟩:=dK_of h2 h3 hk
  refine⟨a,_,rfl,.inl ⟨ls,k,h1,keyD_ok d1 e2,rfl⟩,?_⟩
  have e:(valV ls k).isSome=(dval kvs (.k k)).isSome:=by
   rcases prl_val (k:=k) hl with⟨q,q'⟩|⟨v,z,q1,q2,q3⟩
   ·rw[q,q'];rfl
   ·rw[q1,q2];rfl
  rw[e]
  exact hp G H _ (Tr.refl _ _ _) R (.bl _)
def dGet1 (x y:DV)(μ:Mem):Res R:=match dctOf x μ,keyD y with
 | some kvs,some k=>if allK kvs=true then match dval kvs (.k k) with
   | some z=>.ok (ofV z) μ
   | none=>.ok (.dat .non) μ
  else .bad
 | _,_=>.bad
def isDct (x:DV)(μ:Mem):Bool:=match dctOf x μ with
 | some kvs=>allK kvs
 | none=>false
def eDGet1 (fd fy:EM):EM:=fun δ μ=>(frzV fd δ μ).bind fun x μ1=>if isDct x μ1=true then(frzV fy δ μ1).bind fun y μ2=>dGet1 x y μ2 else .bad
def allDatK:List (Ky×DV)→Option (List (Ky×D))
 | []=>some []
 | (k,.dat d)::r=>match allDatK r with
  | some ds=>some ((k,d)::ds)
  | none=>none
 | (_,.loc _)::_=>none
theorem allDatK_ok {K:PySem.W.Frag}{ρ:Pm}{G:Hp}:∀ {kvs:List (Ky×DV)} {ds:List (Ky×D)} {vs:List V},allDatK kvs=some ds→DvL K ρ G vs (kvs.map (·.2))→kvs.map (·.1)=ds.map (·.1)∧RpL K G vs (ds.map (·.2))
 | [],ds,vs,e,h=>by cases e;cases h;exact⟨rfl,.nil⟩
 | (k,.dat d)::r,ds,vs,e,h=>by
  simp only[allDatK] at e
  cases q:allDatK r with
  | none=>rw[q] at e;cases e
  | some es =>
   rw[q] at e;cases e
   cases h with
   | cons a b =>
    obtain⟨h1,h2⟩:=allDatK_ok q b
    exact⟨by simp only[List.map_cons];rw[h1],.cons a h2⟩
 | (_,.loc _)::_,_,_,e,_=>by cases e
def tLk (t:TE):TE:=fun σ H Q=>t σ H fun v H1=>∃ d u,v=.ref d∧H1 d=some u∧Mut (some u)∧∀ od,Q v (upd H1 d (.frz od u))
theorem pe_lk {e:Expr}{t:TE}(h:PE X e t):PE X e (tLk t):=by
 refine⟨fun pins s σ H Q I hw=>?_⟩
 refine thn (h.run pins s σ _ _ I hw) fun v s1 ⟨x,H1,I2,r,d,u,ex,hd,mu,q⟩=>?_
 obtain⟨od,I3⟩:=I2.lock hd mu
 exact⟨x,_,I3,r,q od⟩
def eLk (f:EM):EM:=fun δ μ=>(f δ μ).bind fun r μ1=>match r with
 | .nk kvs=>match allDatK kvs with
  | some ds=>.ok (.dat (.dct ds)) μ1
  | none=>.bad
 | _=>.bad
theorem dct_mut {K:PySem.W.Frag}{G:Hp}{a:Addr}{o:HO}{ks:List Ky}{vs:List V}(h:DctIs K G a o ks vs):Mut (some o):=by
 rcases h with⟨ls,rfl,_⟩|⟨_,_,_,rfl,_⟩ <;> trivial
theorem snd_lk {K:PySem.W.Frag}{t:TE}{f:EM}(h:SndE K W t f):SndE K W (tLk t) (eLk f):=fun ρ G H σ δ μ Q R E hp=>by
 refine SndG.seq (t:=t) h R E hp fun r μ1 G1 H1 v t1 R1 E1 d1 hp1=>?_
 match r with
 | .dat _=>exact hp1.elim
 | .loc _=>exact hp1.elim
 | .nl _=>exact hp1.elim
 | .nk kvs =>
  cases q:allDatK kvs with
  | none=>simp only[q] at hp1;exact hp1.elim
  | some ds =>
   simp only[q] at hp1
   obtain⟨a,o,vs,rfl,h2,h3,h4,h5,h6,h7⟩:=d1
   obtain⟨k1,k2⟩:=allDatK_ok q h4
   refine⟨a,o,rfl,h2,dct_mut h3,fun od=>?_⟩
   obtain⟨R2,t2⟩:=R1.swap (o':=.frz od o) t1 h2 h5 h6 h7
   obtain⟨R3,t3,ex⟩:=R2.freeze t2 upd_same h7 h5 h6
   exact hp1 _ _ _ t3 R3 (Rp.dct upd_same (by rw[←k1];exact h3.mono ex) (k2.mono ex))
end
def kyD:Key→D
 | .inl i=>.int i
 | .inr s=>.str s
def Ky.dat:Ky→D
 | .k x=>kyD x
 | .t xs=>.tup (xs.map kyD)
def mergeD {α:Type}(kvs more:List (Ky×α)):List (Ky×α):=more.foldl (fun acc p=>dput acc p.1 p.2) kvs
section
variable {K:PySem.W.Frag}{W:WX}{N:Nat}{ρ:Pm}{G H G0 H0:Hp}{μ:Mem}{σ:Slots}{δ:Env}{Q:VK}
theorem rp_key (k:Key):Rp K G (kV k) (kyD k):=by cases k <;> constructor
theorem new_dct {p:Addr}{ls:List (Key×V)}{kvs:List (Ky×DV)}(R:Rel K ρ G H μ)(t:Tr ρ G0 H0 G H)(hn:H p=none)(d:PrL K ρ G ls kvs)
  (hp:PostG K W ρ G0 H0 σ (fun G' H'=>rpE K ρ G' H0 H') Q (.ok (.nk kvs) μ)):Q (.ref p) (upd H p (.dK ls)):=by
 obtain⟨R2,t2⟩:=R.lay (o:=.dK ls) hn
 obtain⟨n1,n2⟩:=fresh_ne R hn
 obtain⟨k1,k2⟩:=prl_dK d
 exact hp _ _ _ (t.trans t2) R2 ⟨p,_,_,rfl,upd_same,k1,k2,n1,n2,t.th p hn⟩
def eDNew:EM:=fun _ μ=>.ok (.nk []) μ
theorem snd_dnew:SndE K W tDNewK eDNew:=fun ρ G H σ δ μ Q R E hp p hn=>new_dct R (Tr.refl _ _ _) hn .nil hp
abbrev PsM:=Env→Mem→Res (List (Ky×DV))
def psNil:PsM:=fun _ μ=>.ok [] μ
def psCons (fk fv:EM)(r:PsM):PsM:=fun δ μ=>(frzV fk δ μ).bind fun k μ1=>(frzV fv δ μ1).bind fun v μ2=>(r δ μ2).bind fun ps μ3=>match keyD k with
 | some kk=>.ok ((.k kk,v)::ps) μ3
 | none=>.bad
abbrev rpP (K:PySem.W.Frag):Pm→Hp→Hp→Hp→List (V×V)→List (Ky×DV)→Prop:=fun ρ G' _ _ vs ps=>∃ ls:List (Key×V),vs=ls.map (fun kv=>(kV kv.1,kv.2))∧PrL K ρ G' ls ps
abbrev SndP (K:PySem.W.Frag)(W:WX)(trs:List (TE×TE))(f:PsM):Prop:=SndG K W (tPairs trs) f (rpP K)
def eDisK (f:PsM):EM:=fun δ μ=>(f δ μ).bind fun ps μ1=>if ps.length≤15 then .ok (.nk (mergeD [] ps)) μ1 else .bad
def dLenK (x:DV)(μ:Mem):Res R:=match dctOf x μ with
 | some kvs=>if allK kvs=true then .ok (.dat (.int kvs.length)) μ else .bad
 | none=>.bad
def rLenK:List V→Hp→VK→Prop:=fun xs H Q=>∃ a kvs,xs=[V.ref a]∧Rd H a (.dK kvs)∧Q (.int kvs.length) H
theorem cr_lenK {X:Cx}:CallR X (.builtin "len") rLenK:=by
 intro pins s σ H xs us Q I r h
 obtain⟨a,kvs,rfl,ha,q⟩:=h
 obtain⟨u,rfl,ru⟩:=vals1 r
 cases ru
 exact d_len I ha fun t s' I'=>⟨.int kvs.length,H,I',⟨t,rfl⟩,q⟩
theorem cd_lenK:CallD K rLenK (d1 dLenK):=cd_1 fun W ρ G H σ μ v x Q R hx hp=>by
 unfold dLenK at hp
 split at hp
 ·rename_i kvs e
  by_cases hk:allK kvs=true
  case neg=>rw[if_neg hk] at hp;exact hp.elim
  rw[if_pos hk] at hp
  obtain⟨a,o,vs,rfl,h1,h2,h3⟩:=dctOf_ok R hx e
  obtain⟨ls,rfl,hl⟩:=dK_of h2 h3 hk
  rw[←paired_len hl] at hp
  exact⟨a,ls,rfl,h1,hp.okD R (.int _)⟩
 ·exact hp.elim
def keysD {α:Type}(kvs:List (Ky×α)):List D:=kvs.map fun p=>p.1.dat
theorem keysD_ok:∀ {ls:List (Key×V)} {kvs:List (Ky×DV)},PrL K ρ G ls kvs→RpL K G (ls.map fun kv=>kV kv.1) (keysD kvs)
 | _,_,.nil=>.nil
 | _,_,.cons a b=>.cons (by show Rp K G _ (Ky.dat _);rw[a.1];exact rp_key _) (keysD_ok b)
def dListK (x:DV)(μ:Mem):Res R:=match dctOf x μ with
 | some kvs=>if allK kvs=true then .ok (.nl ((keysD kvs).map DV.dat)) μ else .bad
 | none=>.bad
def rListK:List V→Hp→VK→Prop:=fun xs H Q=>∃ (a:Addr) (kvs:List (Key×V)),xs=[.ref a]∧Rd H a (.dK kvs)∧∀ p,H p=none→Q (.ref p) (upd H p (.lst (kvs.map fun kv=>kV kv.1)))
theorem cd_listK:CallD K rListK (d1 dListK):=cd_1 fun W ρ G H σ μ v x Q R hx hp=>by
 unfold dListK at hp
 split at hp
 ·rename_i kvs e
  by_cases hk:allK kvs=true
  case neg=>rw[if_neg hk] at hp;exact hp.elim
  rw[if_pos hk] at hp
  obtain⟨a,o,vs,rfl,h1,h2,h3⟩:=dctOf_ok R hx e
  obtain⟨ls,rfl,hl⟩:=dK_of h2 h3 hk
  exact⟨a,ls,rfl,h1,fun p hn=>new_list R (Tr.refl _ _ _) hn (keysD_ok hl).dv hp⟩
 ·exact hp.elim
def pairsOf (ds:List (Ky×D)):List D:=ds.map fun p=>.tup [p.1.dat,p.2]
def allKD (ds:List (Ky×D)):Bool:=ds.all fun p=>p.1.isK
def imKeys (f:EM):IM:=fun δ μ=>(frzV f δ μ).bind fun x μ'=>match x with
 | .dat (.dct ds)=>if allKD ds=true then .ok (keysD ds) μ' else .bad
 | _=>.bad
def imItems (f:EM):IM:=fun δ μ=>(frzV f δ μ).bind fun x μ'=>match x with
 | .dat (.dct ds)=>if allKD ds=true then .ok (pairsOf ds) μ' else .bad
 | _=>.bad
end
end DL
namespace DL
open PySem PySem.Spec PyProof.Rows L2 RZ
def setDct (μ:Mem)(x i y:DV):Option Mem:=match x with
 | .dat _=>none
 | .loc n=>match μ[n]?,keyD i with
  | some (.dct kvs),some k=>if allK kvs=true∧kvs.length<sizeLine∧belowB n y=true then some (μ.set n (.dct (dput kvs (.k k) y))) else none
  | _,_=>none
def gDPut (fo fi fe:EM):SM:=fun _ δ μ=>lift ((frzV fe δ μ).bind fun y μ1=>(frzV fo δ μ1).bind fun x μ2=>(frzV fi δ μ2).bind fun i μ3=>match setDct μ3 x i y with
 | some μ4=>.ok () μ4
 | none=>.bad) δ fun _ μ4=>.next δ μ4
section
variable {K:PySem.W.Frag}{W:WX}{N:Nat}{ρ:Pm}{G H G0 H0:Hp}{μ:Mem}{σ:Slots}{δ:Env}{Q:VK}{v w:V}{x y:DV}
end
end DL
namespace DL
open PySem PySem.Spec PyProof.Rows L2
section
variable {K:PySem.W.Frag}{W:WX}
def eKGet (tab:List (Str×Str))(f:EM):EM:=fun δ μ=>(frzV f δ μ).bind fun x μ'=>match asStr x with
 | some z=>match tab.lookup z with
  | some y=>.ok (.dat (.str y)) μ'
  | none=>.ok (.dat .non) μ'
 | none=>.bad
end
end DL
namespace DL
open PySem PySem.Spec PyProof.Rows L2 RZ
section
variable {X:Cx}{W:WX}{a b o i e:Expr}{td ty te:TE}{fd fy fe:EM}{pos pos' p:Pos}
theorem pm_lk (h:PM X W e te fe):PM X W e (tLk te) (eLk fe):=⟨pe_lk h.pe,snd_lk h.sd⟩
theorem pm_dnew:PM X W (.Dict [] [] pos) tDNewK eDNew:=⟨pe_dnewK,snd_dnew⟩
structure PMP (X:Cx)(W:WX)(pos:Pos)(keys:List (Option Expr))(values:List Expr)(trs:List (TE×TE))(f:PsM):Prop where
 pp:PPs X pos keys values trs
 sd:SndP X.K W trs f
end
theorem call_listDK {X:Cx} (hc:X.calm=true):CallR X (.type "list") rListK:=call_listD hc
section
variable {X:Cx}{W:WX}{tg e:Expr}{te:TE}{f:EM}
end
end DL
namespace DL
open PySem PySem.Spec PyProof.Rows L2
abbrev T3:=List Int×Addr×Value
def kI (k:List Int):List Key:=k.map Sum.inl
def upK (xs:List T3):List (List Key×Addr×Value):=xs.map fun x=>(kI x.1,x.2.1,x.2.2)
theorem kI_inj {a b:List Int}:kI a=kI b↔a=b:=by
 unfold kI
 constructor
 ·intro h
  induction a generalizing b with
  | nil=>cases b with
   | nil=>rfl
   | cons=>cases h
  | cons x a ih=>cases b with
   | nil=>cases h
   | cons y b =>
    simp only[List.map_cons,List.cons.injEq] at h
    rw[Sum.inl.inj h.1,ih h.2]
 ·intro h;rw[h]
theorem ent_up (P:Program)(w:World)(xs:List T3):(upK xs).map (entryOfKey (tupleKind (mixKind P w)))=xs.map entI:=by
 unfold upK
 rw[List.map_map]
 refine List.map_congr_left fun x _=>?_
 show(⟨tupleKeyHash (mixKind P w) (kI x.1),.ref x.2.1,x.2.2⟩:DictEntry)=⟨_,.ref x.2.1,x.2.2⟩
 have e:tupleKeyHash (mixKind P w) (kI x.1)=reduceHash (Builtin.Tuple.tupleHashOf (x.1.map hashInt)):=by
  unfold tupleKeyHash kI
  rw[List.map_map];rfl
 rw[e]
theorem keys_up (xs:List T3):((upK xs).map (·.1)).Nodup↔(xs.map (·.1)).Nodup:=by
 have e:(upK xs).map (·.1)=(xs.map (·.1)).map kI:=by unfold upK;rw[List.map_map,List.map_map];rfl
 rw[e]
 unfold List.Nodup
 rw[List.pairwise_map]
 constructor
 ·exact fun h=>h.imp fun n z=>n (by rw[z])
 ·exact fun h=>h.imp fun n z=>n (kI_inj.mp z)
structure TIs (K:PySem.W.Frag)(H:Hp)(a:Addr)(es:Array DictEntry)(xs:List T3):Prop where
 es:es.toList=xs.map entI
 nd:(xs.map (·.1)).Nodup
 sm:(a==sysModules)=false
 sz:xs.length≤sizeLine
 ks:∀ x∈xs,SqT K H x.2.1 (x.1.map V.int)
section
variable {X:Cx}{pins:List (Addr×Obj)}{σ:L2.St}{H:Hp}{s:Shared}{a b:Addr}{y v:V}{u r:Value}{A:Around}{E:Value→Shared→Prop}{es:Array DictEntry}{xs:List T3}{k:List Int}
theorem key_T (I:Inv X pins σ H s)(h:SqT X.K H b (k.map V.int)):(tupleKind (mixKind X.prog X.w)).is s.heap (kI k) b:=by
 obtain⟨its,r,⟨o,h1,h2,n,h3⟩,_⟩:=I.tuple h
 refine⟨o,its.toArray,n,h1,h2,h3,?_⟩
 have r':Vals ((kI k).map kV) its:=by unfold kI;rw[List.map_map];exact r
 simpa using items_are (P:=X.prog) (w:=X.w) r'
theorem TIs.of (I:Inv X pins σ H s)(hr:Rd H a (TX a es))(t:TIs X.K H a es xs):s.heap.DictOfH (tupleKind (mixKind X.prog X.w)) a (upK xs):=by
 obtain⟨⟨o,ep,h1,h2,h3⟩,_⟩:=(show ObjOk X.prog X.w H s.heap a (TX a es) from hr.ok I.hok)
 refine⟨o,es,ep,h1,h2,h3,by rw[ent_up];exact t.es,fun x hx=>?_,(keys_up xs).mpr t.nd⟩
 unfold upK at hx
 obtain⟨z,hz,rfl⟩:=List.mem_map.mp hx
 exact key_T I (t.ks z hz)
end
section
variable {X:Cx}{o i e value ke ve:Expr}{pos pos' tpos:Pos}{td ty tv tk:TE}
end
def intsD:List D→Option (List Int)
 | []=>some []
 | .int i::r=>(intsD r).map (i::·)
 | _::_=>none
def keyT:DV→Option (List Int)
 | .dat (.tup ds)=>intsD ds
 | _=>none
def isT {α:Type}:List (Ky×α)→Bool
 | (.t _,_)::_=>true
 | _=>false
section
variable {K:PySem.W.Frag}{W:WX}{N:Nat}{ρ:Pm}{G H G0 H0:Hp}{μ:Mem}{σ:Slots}{δ:Env}{Q:VK}
theorem TIs.up {a:Addr}{es:Array DictEntry}{xs:List T3}(e:Ex G H)(t:TIs K G a es xs):TIs K H a es xs:=⟨t.es,t.nd,t.sm,t.sz,fun x hx=>ex_t e (t.ks x hx)⟩
def dGetT (x y:DV)(μ:Mem):Res R:=match dctOf x μ,keyT y with
 | some kvs,some k=>if isT kvs=true then match dval kvs (.t (kI k)) with
   | some z=>.ok (ofV z) μ
   | none=>.bad
  else .bad
 | _,_=>.bad
def eTGet (fd fy:EM):EM:=eOp dGetT fd fy
def dInT (neg:Bool)(y x:DV)(μ:Mem):Res R:=match dctOf x μ,keyT y with
 | some kvs,some k=>if isT kvs=true then .ok (.dat (.bl ((dval kvs (.t (kI k))).isSome != neg))) μ else .bad
 | _,_=>.bad
def eTIn (neg:Bool)(fy fd:EM):EM:=eOp (dInT neg) fy fd
def setDctT (μ:Mem)(x i y:DV):Option Mem:=match x with
 | .dat _=>none
 | .loc n=>match μ[n]?,keyT i with
  | some (.dct kvs),some k=>if(isT kvs||kvs.isEmpty)=true∧kvs.length<sizeLine∧belowB n y=true then some (μ.set n (.dct (dput kvs (.t (kI k)) y))) else none
  | _,_=>none
def gTPut (fo fi fe:EM):SM:=fun _ δ μ=>lift ((frzV fe δ μ).bind fun y μ1=>(frzV fo δ μ1).bind fun x μ2=>(frzV fi δ μ2).bind fun i μ3=>match setDctT μ3 x i y with
 | some μ4=>.ok () μ4
 | none=>.bad) δ fun _ μ4=>.next δ μ4
def fPair (fk fv:EM):Env→Mem→Res (DV×DV):=fun δ μ=>(frzV fk δ μ).bind fun k μ1=>(frzV fv δ μ1).bind fun v μ2=>.ok (k,v) μ2
def eDisT (fk fv:EM):EM:=fun δ μ=>(fPair fk fv δ μ).bind fun p μ2=>match keyT p.1 with
 | some kk=>.ok (.nk [(.t (kI kk),p.2)]) μ2
 | none=>.bad
end
section
variable {X:Cx}{pins:List (Addr×Obj)}{σ:L2.St}{H:Hp}{s:Shared}{d:Addr}{o:Obj}{es:Array DictEntry}{xs:List T3}
end
section
variable {P:Program}{w:World}{K:PySem.W.Frag}{tg:Expr}{d:Addr}{o:Obj}{es:Array DictEntry}{ep:Nat}{xs:List T3}
end
section
variable {X:Cx}{tg e:Expr}{td:TE}{apos cpos:Pos}
end
section
variable {K:PySem.W.Frag}{W:WX}{N:Nat}{ρ:Pm}{G H G0 H0:Hp}{μ:Mem}{σ:Slots}{δ:Env}{Q:VK}
def imKeysT (f:EM):IM:=fun δ μ=>(frzV f δ μ).bind fun x μ'=>match x with
 | .dat (.dct ds)=>if isT ds=true then .ok (keysD ds) μ' else .bad
 | _=>.bad
def imItemsT (f:EM):IM:=fun δ μ=>(frzV f δ μ).bind fun x μ'=>match x with
 | .dat (.dct ds)=>if isT ds=true then .ok (pairsOf ds) μ' else .bad
 | _=>.bad
end
section
variable {X:Cx}{W:WX}{a b o i e:Expr}{td ty te:TE}{fd fy fe f:EM}{pos pos' p apos cpos:Pos}{tg:Expr}
end
end DL
set_option maxHeartbeats 2000000
namespace DX
open PySem PySem.W PySem.Calls PyProof.Rows PySem.HandSPX
def eArgs (f:Str)(p1 p2:Pos):Arguments:={ posonlyargs:=[],args:=[{ arg:="self",annotation:=none,pos:=p1 },{ arg:=f,annotation:=none,pos:=p2 }],vararg:=none,kwonlyargs:=[],kw_defaults:=[],kwarg:=none,defaults:=[] }
def eBody (f:Str)(q1 q2 q3 q4 q5 q6 q7 q8 q9 q10:Pos):List Stmt :=
 [.Expr (.Call (.Attribute (.Call (.Name "super" q1) [] [] q2) "__init__" q3) [.Name f q4] [] q5) q6,.Assign [.Attribute (.Name "self" q7) f q8] (.Name f q9) q10]
def eScope (f:Str):Scope:={ kind:=.function,names:=[(PySem.Str.ofString "self",.local),(f,.local),(PySem.Str.ofString "__class__",.free),(PySem.Str.ofString "super",.globalImplicit)],isGenerator:=false,isCoroutine:=false,more:=[] }
structure ErrTxt (prog:Program)(K:Frag)(mg:Str→Option Value)(nm f:Str)(C fI:Addr):Prop where
 gC:mg nm=some (.ref C)
 cls:∃ nm q N bs bm sn sub ab col dd k0 k1 k2 k3 k5,K.lookup C=some (excClassObj nm q C N bs bm true sn sub ab col dd k0 k1 k2 k3 k5 "ValueError.__new__")∧refsVE bm=true
 sa:findIn K (.ref C) "__setattr__"=some (some (.builtin "object.__setattr__"))
 ga:findIn K (.ref C) "__getattribute__"=some (some (.builtin "BaseException.__getattribute__"))
 gg:findIn K (.ref C) "__getattr__"=some none
 noN:findIn K (.ref C) f=some none
 iC:findIn K (.ref C) "__init__"=some (some (.ref fI))
 tC:typeIn K (.ref fI)=some (.type "function")
 kC:keepIn K (.ref C)=true
 exC:subIn K (.ref C) (.type "BaseException")=some true
 exV:subIn K (.ref C) (.type "ValueError")=some true
 tyC:typeIn K (.ref C)=some (.type "type")
 hdC:hasDictIn K C=true
 su:ks_superIn K C C "__init__"=some (some (.builtin "ValueError.__init__"))
 mr:mroIn K C (.ref C)=some true
 op:nsIn K cStatics "thirdparty.any"=some none
 ms:mg "super"=none
 top:(prog.main.scope.names.lookup ("super":Str)).isSome=false
 fs:(f==("self":Str))=false
 fd:(f==("__debug__":Str))=false
 lf:(eScope f).names.lookup f=some .local
 lc:(eScope f).names.lookup ("__class__":Str)=some .free
 ls:(eScope f).names.lookup ("super":Str)=some .globalImplicit
 bd:∀ (qual:Str) (p1 p2:Pos) (bo:List Stmt) (doc pm:Value) (an:Option Addr) (cd ct:Value) (cc:Addr) (a b:Value),bindArgs (ksFn "__init__" qual (eArgs f p1 p2) bo (eScope f) .none .none doc pm an cd ct cc) ⟨[a,b],[]⟩=pure [(PySem.Str.ofString "self",a),(f,b)]
 fn:∃ (oc:Value) (od:Option Addr) (doc pm:Value) (an:Option Addr) (ct:Value) (osl:Array (Option Value)) (qual:Str) (p1 p2 q1 q2 q3 q4 q5 q6 q7 q8 q9 q10:Pos) (cda cc:Addr) (ccl cl:Value) (cdd cld:Option Addr) (vs:Array Value) (ccs csl:Array (Option Value)) (file:Str) (tf:Tok) (pl:Sem Bool),
  K.lookup fI=some ⟨oc,od,.func (ksFn "__init__" qual (eArgs f p1 p2) (eBody f q1 q2 q3 q4 q5 q6 q7 q8 q9 q10) (eScope f) .none .none doc pm an (.ref cda) ct cc),osl⟩∧codeIn K (.ref cda) qual=true ∧
  K.lookup cda=some ⟨ccl,cdd,.fields vs,ccs⟩∧vs[2]?=some (.str file tf)∧((prog.main.file:Str)==file)=true∧K.lookup cc=some ⟨cl,cld,.cell (some (.ref C)),csl⟩ ∧
  (∀ env:Env,eval (.Call (.Attribute (.Call (.Name "super" q1) [] [] q2) "__init__" q3) [.Name f q4] [] q5) env=(do
   let ov ←attributeBase (.Call (.Name "super" q1) [] [] q2) "__init__" env (eval (.Call (.Name "super" q1) [] [] q2) env)
   standAt q3.atName
   let (f1,first) ←holding [ov] (getMethod ov "__init__" pl)
   callWith q5 f1 first (backTo q5 (starEach [.Name f q4] env)) [])) ∧
  (∀ env:Env,swapsWith (.Call (.Attribute (.Call (.Name "super" q1) [] [] q2) "__init__" q3) [.Name f q4] [] q5) none q6.line env=pure false) ∧
  (∀ env:Env,swapsWith (.Name f q9) (some (.Attribute (.Name "self" q7) f q8)) q10.line env=pure false)
structure InitEnd (h h':Heap)(f:Str)(x C dx t1:Addr)(v:Value):Prop where
 keep:∀ b o,b≠x→h.get? b=some o→h'.get? b=some o
 obj:h'.get? x=some { cls:=.ref C,dict:=some dx,data:=.fields #[.ref t1,.none,.none,.none,.bool false,.none] }
 dbig:h.objs.size≤dx
 dne:dx≠x
 ns:h'.Ns1 dx (fun y=>if y=f then some v else none)
section
variable {prog:Program}{w:World}{A:Around}{E:Value→Shared→Prop}{R:Result→Shared→Prop}{s:Shared}{K:Frag}{mg:Str→Option Value}{nm f:Str}{C fI:Addr}
end
end DX
set_option maxHeartbeats 2000000
namespace DX
open PySem PySem.W PySem.Calls PyProof.Rows PySem.HandSPX
structure OwnMade (h h':Heap)(f:Str)(e C d:Addr)(v:Value):Prop where
 keep:∀ b o,h.get? b=some o→h'.get? b=some o
 new:h.objs.size≤e
 obj:∃ oe vs,h'.get? e=some oe∧oe.cls=.ref C∧oe.dict=some d∧oe.data=.fields vs∧vs[1]?=some .none
 dbig:h.objs.size≤d
 dne:d≠e
 ns:h'.Ns1 d (fun y=>if y=f then some v else none)
section
variable {prog:Program}{w:World}{A:Around}{E:Value→Shared→Prop}{R:Result→Shared→Prop}{s:Shared}{K:Frag}{mg:Str→Option Value}{nm f:Str}{C fI:Addr}
end
end DX
namespace DL
open PySem PySem.Spec PyProof.Rows L2
section
variable {X:Cx}{C fI:Addr}{nm f:Str}
end
def gRaise (nm f:Str)(fe:EM):SM:=fun _ δ μ=>lift (frzV fe δ μ) δ fun x μ'=>match x with
 | .dat d=>.exc ⟨nm,[(f,d)]⟩ δ μ'
 | .loc _=>.bad
section
variable {K:PySem.W.Frag}{W:WX}{C:Addr}{nm f:Str}
end
def errAt (i:Nat)(δ:Env):Option (Addr×Addr×Addr×Str×List (Str×D)):=match δ[i]? with
 | some (some (.dat (.err a C d nm (f::fs))))=>some (a,C,d,nm,f::fs)
 | _=>none
section
variable {K:PySem.W.Frag}{W:WX}{ρ:Pm}{G H:Hp}{σ:Slots}{δ:Env}{μ:Mem}
def eIsE (i:Nat)(a C d:Addr)(tab:List (Str×Bool)):EM:=fun δ μ=>match errAt i δ with
 | some (a',C',d',nm,_)=>if a'=a∧C'=C∧d'=d then match tab.lookup nm with
   | some b=>.ok (.dat (.bl b)) μ
   | none=>.bad
  else .bad
 | none=>.bad
def eXf (i:Nat)(a C d:Addr)(nm0 f:Str):EM:=fun δ μ=>match errAt i δ with
 | some (a',C',d',nm,fs)=>if a'=a∧C'=C∧d'=d∧nm=nm0 then match fs.lookup f with
   | some v=>.ok (.dat v) μ
   | none=>.bad
  else .bad
 | none=>.bad
end
def unset (i:Nat):Out→Out
 | .next δ μ=>.next (δ.set i none) μ
 | .brk δ μ=>.brk (δ.set i none) μ
 | .cnt δ μ=>.cnt (δ.set i none) μ
 | .ret r μ=>.ret r μ
 | .exc _ _ _=>.bad
 | .bad=>.bad
open Classical in
noncomputable def suiteOut (i:Nat)(k:Addr→Addr→Addr→Out):Out:=if h:∃ o,∀ a C d,k a C d=o then unset i h.choose else .bad
theorem suiteOut_of {i:Nat}{k:Addr→Addr→Addr→Out}{o:Out}(h:∀ a C d,k a C d=o):suiteOut i k=unset i o:=by
 have e:∃ o,∀ a C d,k a C d=o:=⟨o,h⟩
 unfold suiteOut
 rw[dif_pos e]
 rw[←e.choose_spec 0 0 0,h 0 0 0]
noncomputable def gTry (cat:List (Str×Bool))(i:Nat)(gb:SM)(gs:Addr→Addr→Addr→SM):SM:=fun N δ μ=>match gb N δ μ with
 | .exc x δ' μ'=>match cat.lookup x.nm with
  | some true=>if x.fs≠[] then suiteOut i fun a C d=>gs a C d N (δ'.set i (some (.dat (.err a C d x.nm x.fs)))) μ' else .bad
  | some false=>.exc x δ' μ'
  | none=>.bad
 | o=>o
section
variable {K:PySem.W.Frag}{W:WX}{ρ:Pm}{G H:Hp}{σ:Slots}{δ:Env}{μ:Mem}
theorem EnvOk.unset (i:Nat)(E:EnvOk K ρ G σ δ):EnvOk K ρ G (σ.set i none) (δ.set i none):=by
 refine⟨by rw[List.length_set,List.length_set];exact E.len,fun j x h=>?_⟩
 by_cases e:i=j
 ·subst e
  by_cases hl:i<δ.length
  ·rw[List.getElem?_set_self hl] at h;cases h
  ·rw[List.getElem?_eq_none (by rw[List.length_set];omega)] at h;cases h
 ·rw[List.getElem?_set_ne e] at h
  obtain⟨v,h1,h2⟩:=E.at_ j x h
  exact⟨v,by rw[List.getElem?_set_ne e];exact h1,h2⟩
theorem PostS.unset {N:Nat}{D:Ends}{o:Out}(i:Nat)(h:PostS K W N ρ G H D (unset i o)) :
  PostS K W N ρ G H { nx:=fun σ' H'=>D.nx (σ'.set i none) H',rt:=D.rt,bk:=fun σ' H'=>D.bk (σ'.set i none) H',ct:=fun σ' H'=>D.ct (σ'.set i none) H' } o:=by
 cases o with
 | next δ' μ'=>exact fun ρ' G' H' σ' t R E=>h ρ' G' H' _ t R (E.unset i)
 | ret r μ'=>exact h
 | brk δ' μ'=>exact fun ρ' G' H' σ' t R E=>h ρ' G' H' _ t R (E.unset i)
 | cnt δ' μ'=>exact fun ρ' G' H' σ' t R E=>h ρ' G' H' _ t R (E.unset i)
 | exc x δ' μ'=>exact h.elim
 | bad=>exact h
end
structure Bg where
 a:Int
 b:Int
 c:Int
 cs:List Int
def Bg.pl (B:Bg):Pl:=.lst [.dat (.int B.a),.dat (.int B.b),.dat (.int B.c),.dat (.lst (B.cs.map D.int))]
structure Bg.ok (B:Bg):Prop where
 a:0≤B.a
 b:0≤B.b
 b':B.b<2147483647
 c:0≤B.c
 cs:∀ z∈B.cs,0≤z
def Bg.cell (B:Bg):Int:=if B.c<B.cs.length then B.cs.getD B.c.toNat 0 else 0
def Bg.fill (B:Bg):Bg:=if B.a=0 then⟨if 1000000000000000000≤B.cell then B.cell else 0,(B.b*48271+B.cell % 2147483647+7919*(B.c+1)) % 2147483647,B.c+1,B.cs⟩ else B
def Bg.low (B:Bg)(m:Int):Int:=((B.b+1)*39373 % 1000000007*((B.b+1)*39373 % 1000000007) % 998244353*30011) % 998244353 / 7 % m
def takeB (B:Bg)(m:Int):Int×Bg:=if 0<B.fill.a then(B.fill.a % m,{ B.fill with a:=B.fill.a / m }) else(B.fill.low m,B.fill)
theorem dEqB_int (b:Bool)(i j:Int)(μ:Mem):dEqS b (.dat (.int i)) (.dat (.int j)) μ=.ok (.dat (.bl ((i==j)==b))) μ:=by
 simp[dEqS,asStr,dEqB,peekPy,peek,peekK,toPy,SeqAt.shaped,PyData.eqv,PyData.canLay0,PyData.depth]
theorem frz_ofV (x:DV):frz (ofV x)=some x:=by cases x <;> rfl
theorem fill_ok {B:Bg}(h:B.ok):B.fill.ok:=by
 unfold Bg.fill
 split
 ·rename_i e
  have hc:0≤B.cell:=by
   unfold Bg.cell
   split
   ·rw[List.getD_eq_getElem?_getD]
    cases q:B.cs[B.c.toNat]? with
    | none=>exact Int.le_refl 0
    | some z=>exact h.cs z (List.mem_of_getElem? q)
   ·exact Int.le_refl 0
  exact⟨by dsimp only;split <;> omega,by dsimp only;omega,by dsimp only;omega,by dsimp only;have:=h.c;omega,h.cs⟩
 ·exact h
theorem takeB_ok {B:Bg}(h:B.ok){m:Int}(hm:0<m):(takeB B m).2.ok∧0≤(takeB B m).1∧(takeB B m).1<m:=by
 have f:=fill_ok h
 unfold takeB
 split
 ·exact⟨⟨Int.ediv_nonneg f.a (by omega),f.b,f.b',f.c,f.cs⟩,Int.emod_nonneg _ (by omega),Int.emod_lt_of_pos _ hm⟩
 ·exact⟨f,Int.emod_nonneg _ (by omega),Int.emod_lt_of_pos _ hm⟩
def gFill:SM:=(gIf (tmB (eOp dEq (eOp dIx (eVar 0) (eD (.int 0))) (eD (.int 0)))) (gSeq (gAsg 2 (eD (.int 0)))
  (gSeq (gIf (tmB (eOp dLt (eOp dIx (eVar 0) (eD (.int 2))) (eCB (d1 dLen) (aCons (eOp dIx (eVar 0) (eD (.int 3))) aNil)))) (gAsg 2 (eOp dIx (eOp dIx (eVar 0) (eD (.int 3))) (eOp dIx (eVar 0) (eD (.int 2))))) gNext)
  (gSeq (gAugS (fun i j=>i+j) (eVar 0) (eD (.int 2)) (eD (.int 1)))
  (gSeq (gIf (tmB (eOp dGe (eVar 2) (eD (.int 1000000000000000000)))) (gSet (eVar 0) (eD (.int 0)) (eVar 2)) gNext)
  (gSeq (gAsg 3 (eOp dAdd (eOp dAdd (eOp dMul (eOp dIx (eVar 0) (eD (.int 1))) (eD (.int 48271))) (eOp dMod (eCB (d1 dInt) (aCons (eVar 2) aNil)) (eD (.int 2147483647)))) (eOp dMul (eD (.int 7919)) (eOp dIx (eVar 0) (eD (.int 2))))))
  (gSet (eVar 0) (eD (.int 1)) (eOp dMod (eCB (d1 dInt) (aCons (eVar 3) aNil)) (eD (.int 2147483647))))))))) gNext)
theorem pl_lt {μ:Mem}{n:Nat}{p:Pl}(h:μ[n]?=some p):n<μ.length:=(List.getElem?_eq_some_iff.mp h).1
theorem asL_loc {μ:Mem}{n:Nat}{xs:List DV}(h:μ[n]?=some (.lst xs)):asL μ (.loc n)=some xs:=by simp[asL,h]
theorem dIx_loc {μ:Mem}{n:Nat}{xs:List DV}{i:Int}{x:DV}(h:μ[n]?=some (.lst xs))(hx:atI xs i=some x):dIx (.loc n) (.dat (.int i)) μ=.ok (ofV x) μ:=by
 simp[dIx,asI,asS,asL,h,hx]
theorem dIx_lst {μ:Mem}{ds:List D}{i:Int}{d:D}(h:atI ds i=some d):dIx (.dat (.lst ds)) (.dat (.int i)) μ=.ok (.dat d) μ:=by
 have:atI (ds.map DV.dat) i=some (.dat d):=by
  unfold atI at h ⊢
  rw[List.length_map]
  cases q:ixN ds.length i with
  | none=>rw[q] at h;cases h
  | some j=>rw[q] at h;simp only[Option.bind_some] at h ⊢;rw[List.getElem?_map,h];rfl
 simp[dIx,asI,asS,asL,this,ofV]
theorem atI_nat {α:Type}{xs:List α}{k:Nat}{x:α}(h:xs[k]?=some x):atI xs (k:Int)=some x:=by
 have:k<xs.length:=(List.getElem?_eq_some_iff.mp h).1
 unfold atI ixN
 rw[if_pos (by omega),if_pos (by omega)]
 simpa using h
theorem ev_var {δ:Env}{i:Nat}{x:DV}{μ:Mem}(h:δ[i]?=some (some x)):eVar i δ μ=.ok (ofV x) μ:=by unfold eVar;rw[h]
theorem fz_var {δ:Env}{i:Nat}{x:DV}{μ:Mem}(h:δ[i]?=some (some x)):frzV (eVar i) δ μ=.ok x μ:=by unfold frzV;rw[ev_var h];simp[Res.bind,frz_ofV]
theorem fz_D {δ:Env}{d:D}{μ:Mem}:frzV (eD d) δ μ=.ok (.dat d) μ:=rfl
theorem fz_of {f:EM}{δ:Env}{μ μ':Mem}{x:DV}(h:f δ μ=.ok (ofV x) μ'):frzV f δ μ=.ok x μ':=by unfold frzV;rw[h];simp[Res.bind,frz_ofV]
theorem fz_ofD {f:EM}{δ:Env}{μ μ':Mem}{x:D}(h:f δ μ=.ok (.dat x) μ'):frzV f δ μ=.ok (.dat x) μ':=fz_of (x:=.dat x) h
theorem ev_op {g:DV→DV→Mem→Res R}{f h:EM}{δ:Env}{μ μ1 μ2:Mem}{x y:DV}{r:Res R}(h1:frzV f δ μ=.ok x μ1)(h2:frzV h δ μ1=.ok y μ2)(h3:g x y μ2=r):eOp g f h δ μ=r:=by unfold eOp;rw[h1];simp only[Res.bind];rw[h2];exact h3
theorem ev_cb1 {g:List DV→Mem→Res R}{f:EM}{δ:Env}{μ μ1:Mem}{x:DV}{r:Res R}(h1:frzV f δ μ=.ok x μ1)(h2:g [x] μ1=r):eCB g (aCons f aNil) δ μ=r:=by unfold eCB aCons aNil;rw[h1];simp only[Res.bind];exact h2
theorem sq_next {g h:SM}{N:Nat}{δ δ':Env}{μ μ':Mem}{o:Out}(e:g N δ μ=.next δ' μ')(k:h N δ' μ'=o):gSeq g h N δ μ=o:=by unfold gSeq;rw[e];exact k
theorem sq_ret {g h:SM}{N:Nat}{δ:Env}{μ μ':Mem}{r:R}(e:g N δ μ=.ret r μ'):gSeq g h N δ μ=.ret r μ':=by unfold gSeq;rw[e]
theorem tm_of {f:EM}{δ:Env}{μ μ':Mem}{b:Bool}(h:f δ μ=.ok (.dat (.bl b)) μ'):tmB f δ μ=.ok b μ':=by unfold tmB;rw[h];rfl
theorem if_true {ft:TM}{g h:SM}{N:Nat}{δ:Env}{μ μ':Mem}{o:Out}(e:ft δ μ=.ok true μ')(k:g N δ μ'=o):gIf ft g h N δ μ=o:=by unfold gIf;rw[e];exact k
theorem if_false {ft:TM}{g h:SM}{N:Nat}{δ:Env}{μ μ':Mem}{o:Out}(e:ft δ μ=.ok false μ')(k:h N δ μ'=o):gIf ft g h N δ μ=o:=by unfold gIf;rw[e];exact k
theorem asg_ok {f:EM}{i:Nat}{N:Nat}{δ:Env}{μ μ':Mem}{x:DV}(e:frzV f δ μ=.ok x μ'):gAsg i f N δ μ=.next (δ.set i (some x)) μ':=by unfold gAsg;rw[e];rfl
theorem ret_ok {f:EM}{N:Nat}{δ:Env}{μ μ':Mem}{r:R}(e:f δ μ=.ok r μ'):gRet f N δ μ=.ret r μ':=by unfold gRet;rw[e];rfl
theorem set_lp {μ:Mem}{n:Nat}{xs:List DV}{k:Int}{j:Nat}{y:DV}(h:μ[n]?=some (.lst xs))(hk:ixN xs.length k=some j)(hb:belowB n y=true):setPl μ (.loc n) (.dat (.int k)) y=some (μ.set n (.lst (xs.set j y))):=by
 simp[setPl,atPl,h,asI,hk,hb]
theorem set_at {μ:Mem}{n:Nat}{p q:Pl}(h:μ[n]?=some p):(μ.set n q)[n]?=some q:=by rw[List.getElem?_set_self (pl_lt h)]
theorem mul_ok {i j:Int}{μ:Mem}(h:cMul i j=true):dMul (.dat (.int i)) (.dat (.int j)) μ=.ok (.dat (.int (i*j))) μ:=by simp[d2I,asI,h]
theorem mod_ok {i j:Int}{μ:Mem}(h:0<j):dMod (.dat (.int i)) (.dat (.int j)) μ=.ok (.dat (.int (i % j))) μ:=by simp[d2I,asI,h]
theorem add_ok {i j:Int}{μ:Mem}:dAdd (.dat (.int i)) (.dat (.int j)) μ=.ok (.dat (.int (i+j))) μ:=by simp[dAdd,asI]
theorem lt_ok {i j:Int}{μ:Mem}:dLt (.dat (.int i)) (.dat (.int j)) μ=.ok (.dat (.bl (decide (i<j)))) μ:=by simp[d2I,asI]
theorem ge_ok {i j:Int}{μ:Mem}:dGe (.dat (.int i)) (.dat (.int j)) μ=.ok (.dat (.bl (decide (j≤i)))) μ:=by simp[d2I,asI]
theorem gt_ok {i j:Int}{μ:Mem}:dGt (.dat (.int i)) (.dat (.int j)) μ=.ok (.dat (.bl (decide (j<i)))) μ:=by simp[d2I,asI]
theorem int_ok {i:Int}{μ:Mem}:d1 dInt [.dat (.int i)] μ=.ok (.dat (.int i)) μ:=rfl
theorem cMul_r {i j:Int}(h:-2^64<j∧j<2^64):cMul i j=true:=by unfold cMul;rw[decide_eq_true (p:=_∧_) h];simp
theorem cMul_l {i j:Int}(h:-2^64<i∧i<2^64):cMul i j=true:=by unfold cMul;rw[decide_eq_true (p:=_∧_) h];simp
theorem ev_int {f:EM}{δ:Env}{μ μ1:Mem}{i:Int}(h:frzV f δ μ=.ok (.dat (.int i)) μ1):frzV (eCB (d1 dInt) (aCons f aNil)) δ μ=.ok (.dat (.int i)) μ1:=fz_ofD (ev_cb1 h int_ok)
theorem ixN_nat {n k:Nat}(h:k<n):ixN n (k:Int)=some k:=by unfold ixN;rw[if_pos (by omega),if_pos (by omega)];simp
theorem bag_at {μ:Mem}{n:Nat}{xs:List DV}{d:D}{δ:Env}{i:Int}(k:Nat)(h:μ[n]?=some (.lst xs))(hd:δ[0]?=some (some (.loc n)))(hk:xs[k]?=some (.dat d))(hi:i=(k:Int):=by rfl):frzV (eOp dIx (eVar 0) (eD (.int i))) δ μ=.ok (.dat d) μ:=by
 subst hi;exact fz_ofD (ev_op (fz_var hd) fz_D (dIx_loc h (atI_nat hk)))
theorem gset_ok {fe:EM}{δ:Env}{μ μ1:Mem}{n N:Nat}{xs:List DV}{y:D}{i:Int}(k:Nat)(e:frzV fe δ μ=.ok (.dat y) μ1)(h:μ1[n]?=some (.lst xs))(hd:δ[0]?=some (some (.loc n)))(hk:k<xs.length)(hi:i=(k:Int):=by rfl):gSet (eVar 0) (eD (.int i)) fe N δ μ=.next δ (μ1.set n (.lst (xs.set k (.dat y)))):=by
 subst hi
 unfold gSet
 rw[e];simp only[Res.bind];rw[fz_var hd];simp only[Res.bind];rw[fz_D];simp only[]
 rw[set_lp (j:=k) h (ixN_nat hk) rfl];rfl
theorem faug_ok {δ:Env}{μ:Mem}{n N:Nat}{xs:List DV}{i j ki:Int}(k:Nat)(h:μ[n]?=some (.lst xs))(hd:δ[0]?=some (some (.loc n)))(hk:xs[k]?=some (.dat (.int i)))(hk3:k<2^63)(hi:ki=(k:Int):=by rfl):gAugS (fun i j=>i+j) (eVar 0) (eD (.int ki)) (eD (.int j)) N δ μ=.next δ (μ.set n (.lst (xs.set k (.dat (.int (i+j)))))):=by
 subst hi
 have hl:k<xs.length:=(List.getElem?_eq_some_iff.mp hk).1
 have g:getPl μ (.loc n) (.dat (.int k))=some i:=by
  have:(0:Int)≤(k:Int)∧(k:Int)<2^63:=⟨by omega,by exact_mod_cast hk3⟩
  simp[getPl,asL,h,asI,this,hk];omega
 unfold gAugS
 rw[fz_var hd];simp only[Res.bind];rw[fz_D];simp only[];rw[g];simp only[];rw[fz_D];simp only[asI]
 rw[set_lp (j:=k) h (ixN_nat hl) rfl];rfl
theorem fill_spec {B:Bg}(hB:B.ok){μ:Mem}{n N:Nat}{m:DV}(h:μ[n]?=some B.pl):∃ y z,gFill N [some (.loc n),some m,none,none,none,none,none] μ=.next [some (.loc n),some m,y,z,none,none,none] (μ.set n B.fill.pl):=by
 have e0:eOp dEq (eOp dIx (eVar 0) (eD (.int 0))) (eD (.int 0)) [some (.loc n),some m,none,none,none,none,none] μ=.ok (.dat (.bl ((B.a==0)==true))) μ:=ev_op (bag_at 0 h rfl rfl) fz_D (dEqB_int _ _ _ _)
 unfold gFill
 by_cases ha:B.a=0
 ·have e1:((B.a==0)==true)=true:=by simp[ha]
  rw[e1] at e0
  have e2:gIf (tmB (eOp dLt (eOp dIx (eVar 0) (eD (.int 2))) (eCB (d1 dLen) (aCons (eOp dIx (eVar 0) (eD (.int 3))) aNil)))) (gAsg 2 (eOp dIx (eOp dIx (eVar 0) (eD (.int 3))) (eOp dIx (eVar 0) (eD (.int 2))))) gNext N [some (.loc n),some m,some (.dat (.int 0)),none,none,none,none] μ =
    .next [some (.loc n),some m,some (.dat (.int B.cell)),none,none,none,none] μ:=by
   have l:eCB (d1 dLen) (aCons (eOp dIx (eVar 0) (eD (.int 3))) aNil) [some (.loc n),some m,some (.dat (.int 0)),none,none,none,none] μ=.ok (.dat (.int B.cs.length)) μ :=
    ev_cb1 (bag_at 3 h rfl rfl) (by simp[d1,dLen,asS,asL])
   have t:eOp dLt (eOp dIx (eVar 0) (eD (.int 2))) (eCB (d1 dLen) (aCons (eOp dIx (eVar 0) (eD (.int 3))) aNil)) [some (.loc n),some m,some (.dat (.int 0)),none,none,none,none] μ=.ok (.dat (.bl (decide (B.c<B.cs.length)))) μ :=
    ev_op (bag_at 2 h rfl rfl) (fz_ofD l) lt_ok
   by_cases c:B.c<B.cs.length
   ·rw[decide_eq_true c] at t
    have hc:=hB.c
    have hl:B.c.toNat<B.cs.length:=by omega
    have g:B.cs[B.c.toNat]?=some B.cell:=by
     unfold Bg.cell;rw[if_pos c,List.getD_eq_getElem?_getD,List.getElem?_eq_getElem hl];rfl
    have w:dIx (.dat (.lst (B.cs.map D.int))) (.dat (.int B.c)) μ=.ok (.dat (.int B.cell)) μ:=by
     have:B.c=((B.c.toNat:Nat):Int):=by omega
     rw[this]
     exact dIx_lst (atI_nat (by rw[List.getElem?_map,g];rfl))
    exact if_true (tm_of t) (asg_ok (fz_ofD (ev_op (bag_at 3 h rfl rfl) (bag_at 2 h rfl rfl) w)))
   ·rw[decide_eq_false c] at t
    have:B.cell=0:=by unfold Bg.cell;rw[if_neg c]
    rw[this]
    exact if_false (tm_of t) rfl
  have h2:=set_at (q:=.lst [.dat (.int B.a),.dat (.int B.b),.dat (.int (B.c+1)),.dat (.lst (B.cs.map D.int))]) h
  have e3:gIf (tmB (eOp dGe (eVar 2) (eD (.int 1000000000000000000)))) (gSet (eVar 0) (eD (.int 0)) (eVar 2)) gNext N [some (.loc n),some m,some (.dat (.int B.cell)),none,none,none,none] (μ.set n (.lst [.dat (.int B.a),.dat (.int B.b),.dat (.int (B.c+1)),.dat (.lst (B.cs.map D.int))])) =
    .next [some (.loc n),some m,some (.dat (.int B.cell)),none,none,none,none] (μ.set n (.lst [.dat (.int (if 1000000000000000000≤B.cell then B.cell else 0)),.dat (.int B.b),.dat (.int (B.c+1)),.dat (.lst (B.cs.map D.int))])):=by
   have t:eOp dGe (eVar 2) (eD (.int 1000000000000000000)) [some (.loc n),some m,some (.dat (.int B.cell)),none,none,none,none] (μ.set n (.lst [.dat (.int B.a),.dat (.int B.b),.dat (.int (B.c+1)),.dat (.lst (B.cs.map D.int))]))=.ok (.dat (.bl (decide (1000000000000000000≤B.cell)))) (μ.set n (.lst [.dat (.int B.a),.dat (.int B.b),.dat (.int (B.c+1)),.dat (.lst (B.cs.map D.int))])) :=
    ev_op (fz_var (i:=2) rfl) fz_D ge_ok
   by_cases c:1000000000000000000≤B.cell
   ·rw[decide_eq_true c] at t
    rw[if_pos c]
    refine if_true (tm_of t) ((gset_ok 0 (fz_var (i:=2) (x:=.dat (.int B.cell)) rfl) h2 rfl (by simp)).trans ?_)
    rw[List.set_set];rfl
   ·rw[decide_eq_false c] at t
    rw[if_neg c]
    rw[ha] at t ⊢
    exact if_false (tm_of t) rfl
  have h3:=set_at (q:=.lst [.dat (.int (if 1000000000000000000≤B.cell then B.cell else 0)),.dat (.int B.b),.dat (.int (B.c+1)),.dat (.lst (B.cs.map D.int))]) h
  refine⟨some (.dat (.int B.cell)),some (.dat (.int (B.b*48271+B.cell % 2147483647+7919*(B.c+1)))),?_⟩
  refine if_true (tm_of e0) (sq_next (asg_ok fz_D) (sq_next e2 (sq_next (faug_ok 2 h rfl rfl (by decide)) (sq_next e3 ?_))))
  have fe:B.fill.pl=.lst [.dat (.int (if 1000000000000000000≤B.cell then B.cell else 0)),.dat (.int ((B.b*48271+B.cell % 2147483647+7919*(B.c+1)) % 2147483647)),.dat (.int (B.c+1)),.dat (.lst (B.cs.map D.int))]:=by
   unfold Bg.fill;rw[if_pos ha];rfl
  rw[fe]
  generalize hz:μ.set n (.lst [.dat (.int (if 1000000000000000000≤B.cell then B.cell else 0)),.dat (.int B.b),.dat (.int (B.c+1)),.dat (.lst (B.cs.map D.int))])=μ3 at h3
  refine sq_next (asg_ok (x:=.dat (.int (B.b*48271+B.cell % 2147483647+7919*(B.c+1)))) (fz_ofD (ev_op (fz_ofD (ev_op (fz_ofD (ev_op (bag_at 1 h3 rfl rfl) fz_D (mul_ok (cMul_r (by decide)))))
   (fz_ofD (ev_op (ev_int (fz_var (i:=2) (x:=.dat (.int B.cell)) rfl)) fz_D (mod_ok (by decide)))) add_ok)) (fz_ofD (ev_op fz_D (bag_at 2 h3 rfl rfl) (mul_ok (cMul_l (by decide))))) add_ok))) ?_
  refine(gset_ok 1 (fz_ofD (ev_op (ev_int (fz_var (i:=3) (x:=.dat (.int (B.b*48271+B.cell % 2147483647+7919*(B.c+1)))) rfl)) fz_D (mod_ok (by decide)))) h3 rfl (by simp)).trans ?_
  rw[←hz,List.set_set];rfl
 ·have e1:((B.a==0)==true)=false:=by simp[ha]
  rw[e1] at e0
  refine⟨none,none,if_false (tm_of e0) ?_⟩
  unfold Bg.fill;rw[if_neg ha]
  show Out.next _ μ=_
  rw[show μ.set n B.pl=μ from by
   apply List.ext_getElem?
   intro i
   by_cases c:n=i
   ·subst c;rw[set_at h,h]
   ·rw[List.getElem?_set_ne c]]
theorem take_len {μ:Mem}{n:Nat}{p:Pl}:(μ.set n p).take μ.length=μ.set n p:=List.take_of_length_le (by rw[List.length_set];exact Nat.le_refl _)
theorem call_ret {g:SM}{k m:Nat}{xs:List DV}{μ μ':Mem}{r:R}{o:Res R}(hk:xs.length=k)(h:g μ.length (xs.map some++List.replicate m none) μ=.ret r μ')(hc:closeR μ.length r μ'=o):callD g k m xs μ=o:=by
 unfold callD;rw[if_pos hk];unfold callF;rw[h];exact hc
structure Fit (k w:Nat)(p:PyData):Prop where
 lay:p.canLay0=true
 dep:p.depth≤k
 wt:p.weight≤w
 sh:p.showable=true
 is:p.intsShort 13=true
theorem Fit.mono {k k' w w':Nat}{p:PyData}(h:Fit k w p)(hk:k≤k')(hw:w≤w'):Fit k' w' p:=⟨h.lay,Nat.le_trans h.dep hk,Nat.le_trans h.wt hw,h.sh,h.is⟩
theorem Fit.shaped {k w:Nat}{p:PyData}(h:Fit k w p)(hk:k≤64):SeqAt.shaped p=true:=by
 unfold SeqAt.shaped;rw[h.lay,decide_eq_true (Nat.le_trans h.dep hk)];rfl
theorem Fit.shown {k w:Nat}{p:PyData}(h:Fit k w p)(hk:k≤64)(hw:w≤2^20):p.shown.length≤sizeLine :=
 PyData.shown_fits_of_layable0 (B:=13) (by decide) (by decide) (by unfold PyData.layable0;rw[h.lay,decide_eq_true (Nat.le_trans h.dep hk),decide_eq_true (Nat.le_trans h.wt hw)];rfl) h.is
theorem str_beq (s t:Str):(s==t)=decide (s=t):=by
 by_cases c:s=t
 ·subst c;simp
 ·rw[decide_eq_false c];exact beq_false_of_ne c
theorem asStr_dat {x:DV}{s:Str}(h:asStr x=some s):x=.dat (.str s):=by
 unfold asStr at h;split at h <;> cases h;rfl
theorem eq_str {b:Bool}{s t:Str}{μ:Mem}:dEqS b (.dat (.str s)) (.dat (.str t)) μ=.ok (.dat (.bl (decide (s=t)==b))) μ:=rfl
theorem peekK_dat (k:Nat)(μ:Mem)(d:D):peekK k μ (.dat d)=some d:=by cases k <;> rfl
theorem tyL_loc {μ:Mem}{n:Nat}{xs:List DV}(h:μ[n]?=some (.lst xs)):tyL (.loc n) μ=true:=by unfold tyL;rw[asL_loc h];rfl
theorem len_lst {μ:Mem}{ds:List D}:d1 dLen [.dat (.lst ds)] μ=.ok (.dat (.int ds.length)) μ:=by simp[d1,dLen,asS,asL]
def gBag:SM:=(gRet (eLst (aCons (eD (.int 0)) (aCons (eD (.int 1234567891)) (aCons (eD (.int 0)) (aCons (eLc (imSeq (eSl (eVar 0) oNone (oSome (eD (.int 63))))) (tgName 1) tmYes (eCB (d1 dAbs) (aCons (eVar 1) aNil)) [1]) aNil))))))
def bag0 (ns:List Int):Bg:=⟨0,1234567891,0,(ns.take 63).map fun i=>if i<0 then -i else i⟩
theorem bag0_ok (ns:List Int):(bag0 ns).ok:=⟨Int.le_refl 0,by show(0:Int)≤1234567891;decide,by show(1234567891:Int)<2147483647;decide,Int.le_refl 0,fun z hz=>by
 obtain⟨i,_,rfl⟩:=List.mem_map.mp hz
 split <;> omega⟩
theorem lc_bag {d0:D}{μ:Mem}:∀ (is:List Int),lcL (tgName 1) tmYes (eCB (d1 dAbs) (aCons (eVar 1) aNil)) [some (.dat d0),none] (is.map D.int) μ=.ok (is.map fun i=>.dat (.int (if i<0 then -i else i))) μ
 | []=>rfl
 | i::is=>by
  have e:frzV (eCB (d1 dAbs) (aCons (eVar 1) aNil)) [some (.dat d0),some (.dat (.int i))] μ=.ok (.dat (.int (if i<0 then -i else i))) μ:=fz_ofD (ev_cb1 (fz_var (i:=1) rfl) rfl)
  have ih:=lc_bag (d0:=d0) (μ:=μ) is
  simp only[List.map_cons,lcL,tgName,tmYes,List.set_cons_succ,List.set_cons_zero,e,ih,Res.bind]
theorem bag_spec {ns:List Int}{μ:Mem}:callD gBag 1 1 [.dat (.fro (ns.map D.int))] μ=.ok (.nl [.dat (.int (bag0 ns).a),.dat (.int (bag0 ns).b),.dat (.int (bag0 ns).c),.dat (.lst ((bag0 ns).cs.map D.int))]) μ:=by
 have e1:eLc (imSeq (eSl (eVar 0) oNone (oSome (eD (.int 63))))) (tgName 1) tmYes (eCB (d1 dAbs) (aCons (eVar 1) aNil)) [1] [some (.dat (.fro (ns.map D.int))),none] μ=.ok (.nl ((bag0 ns).cs.map fun i=>.dat (.int i))) μ:=by
  have s:imSeq (eSl (eVar 0) oNone (oSome (eD (.int 63)))) [some (.dat (.fro (ns.map D.int))),none] μ=.ok ((ns.take 63).map D.int) μ:=by
   have q:eSl (eVar 0) oNone (oSome (eD (.int 63))) [some (.dat (.fro (ns.map D.int))),none] μ=.ok (.nl (((ns.take 63).map D.int).map DV.dat)) μ:=by
    unfold eSl;rw[fz_var (i:=0) (x:=.dat (.fro (ns.map D.int))) rfl]
    simp only[Res.bind,oNone,oSome,fz_D,asI,dSl,asL]
    congr 2
    unfold cutL
    rw[HT.sIx_none,show(some (63:Int))=some ((63:Nat):Int) from rfl,HT.sIx_nat]
    simp[List.map_take]
   unfold imSeq frzV
   rw[q]
   simp only[Res.bind,frz]
   rw[allDat_map]
   rfl
  unfold eLc
  rw[s]
  simp only[Res.bind]
  rw[if_pos (by simp;exact Nat.le_trans (Nat.min_le_left _ _) (by decide))]
  show Res.bind (lcL _ _ _ [some (.dat (.fro (ns.map D.int))),none] _ _) _=_
  rw[lc_bag]
  simp[Res.bind,bag0,Function.comp_def]
 refine call_ret rfl (ret_ok (r:=.nl [.dat (.int (bag0 ns).a),.dat (.int (bag0 ns).b),.dat (.int (bag0 ns).c),.dat (.lst ((bag0 ns).cs.map D.int))]) (μ':=μ) ?_) ?_
 ·have e2:frzV (eLc (imSeq (eSl (eVar 0) oNone (oSome (eD (.int 63))))) (tgName 1) tmYes (eCB (d1 dAbs) (aCons (eVar 1) aNil)) [1]) [some (.dat (.fro (ns.map D.int))),none] μ=.ok (.dat (.lst ((bag0 ns).cs.map D.int))) μ:=by
   unfold frzV;rw[e1];simp only[Res.bind,frz]
   rw[show((bag0 ns).cs.map fun i=>DV.dat (D.int i))=((bag0 ns).cs.map D.int).map DV.dat by simp,allDat_map];rfl
  show eLst _ [some (.dat (.fro (ns.map D.int))),none] μ=_
  generalize (eLc (imSeq (eSl (eVar 0) oNone (oSome (eD (.int 63))))) (tgName 1) tmYes (eCB (d1 dAbs) (aCons (eVar 1) aNil)) [1])=ff at *
  unfold eLst aCons aNil
  simp only[fz_D,Res.bind,e2]
  rw[if_pos (by simp;decide)]
  rfl
 ·unfold closeR
  simp only
  rw[if_pos (show belowA _ _=true from rfl),List.take_length]
theorem sl_lst {ds:List D}{l u:Option Int}{μ:Mem}:dSl (.dat (.lst ds)) l u μ=.ok (.nl ((cutL ds l u).map DV.dat)) μ:=by
 simp only[dSl,asL];congr 2;unfold cutL;simp[List.map_drop,List.map_take]
theorem cut_from {α:Type}(xs:List α)(k:Nat){i:Int}(hi:i=(k:Int):=by rfl):cutL xs (some i) none=xs.drop k:=by
 subst hi
 unfold cutL;rw[HT.sIx_none,HT.sIx_nat]
 by_cases c:k≤xs.length
 ·rw[Nat.min_eq_left c];exact List.take_of_length_le (by simp)
 ·rw[Nat.min_eq_right (by omega),List.drop_of_length_le (Nat.le_refl _),List.drop_of_length_le (by omega)];simp
theorem cut_to {α:Type}(xs:List α)(k:Nat):cutL xs none (some (k:Int))=xs.take k:=by
 unfold cutL;rw[HT.sIx_none,HT.sIx_nat,List.drop_zero,Nat.sub_zero]
 by_cases c:k≤xs.length
 ·rw[Nat.min_eq_left c]
 ·rw[Nat.min_eq_right (by omega),List.take_of_length_le (Nat.le_refl _),List.take_of_length_le (by omega)]
theorem dIx_tup {μ:Mem}{ds:List D}{i:Int}{d:D}(h:atI ds i=some d):dIx (.dat (.tup ds)) (.dat (.int i)) μ=.ok (.dat d) μ:=by
 have:atI (ds.map DV.dat) i=some (.dat d):=by
  unfold atI at h ⊢
  rw[List.length_map]
  cases q:ixN ds.length i with
  | none=>rw[q] at h;cases h
  | some j=>rw[q] at h;simp only[Option.bind_some] at h ⊢;rw[List.getElem?_map,h];rfl
 simp[dIx,asI,asS,asL,asT,this,ofV]
theorem flats_str:∀ ss:List Str,flats (ss.map fun s=>.dat (.str s))=some (ss.map V.str)
 | []=>rfl
 | s::ss=>by simp[flats,flat,flats_str ss]
theorem inV_str (s:Str)(ss:List Str):inV (.str s) (ss.map V.str)=decide (s∈ss):=by
 induction ss with
 | nil=>rfl
 | cons t ss ih =>
  unfold inV at ih ⊢
  rw[List.map_cons,List.any_cons,ih]
  have:eqV (V.str t) (V.str s)=decide (t=s):=by
   show(t==s)=_
   by_cases c:t=s
   ·subst c;simp
   ·rw[decide_eq_false c];exact beq_false_of_ne c
  rw[this]
  by_cases c:t=s
  ·subst c;simp
  ·have c':¬s=t:=fun h=>c h.symm
   simp[c,c']
theorem in_tup {neg:Bool}{s:Str}{ss:List Str}{μ:Mem}:dIn neg (.dat (.str s)) (.dat (.tup (ss.map D.str))) μ=.ok (.dat (.bl (if neg=true then !decide (s∈ss) else decide (s∈ss)))) μ:=by
 have:(ss.map D.str).map DV.dat=ss.map fun s=>.dat (.str s):=by simp
 simp only[dIn,flat,asS,asL,asT,Option.map,this,flats_str,inV_str]
theorem add_lst {a b:List D}{μ:Mem}(h:a.length+b.length≤sizeLine):dAdd (.dat (.lst a)) (.dat (.lst b)) μ=.ok (.nl ((a++b).map DV.dat)) μ:=by
 simp only[dAdd,asI,asStr,asT,asM,List.length_map];rw[if_pos h,List.map_append]
theorem close_dat {d:D}{μ μ':Mem}{N:Nat}(h:μ'.take N=μ):closeR N (.dat d) μ'=.ok (.dat d) μ:=by unfold closeR;simp only;rw[h]
theorem tuple_lst {ds:List D}{μ:Mem}:d1 dTuple [.dat (.lst ds)] μ=.ok (.dat (.tup ds)) μ:=by simp only[d1,dTuple,asL,allDat_map]
section
variable {P:Program}{w:World}{K:PySem.W.Frag}{mg:Str→Option Value}{base:Heap}
theorem fn_okG {x qual:Str}{st:Stmt}{f:Addr}{fd:FuncData}{Nm ps:List Str}{k n m:Nat}{g:SM}(F:Fun K x qual st f fd)(S:FnScope Nm ps (defScope st))(hn:ps.length=n)(hmn:Nm.length=n+m)
  (body:∀ (cdv:Value) (A:Around) (out:List PySem.Env) (s:Shared) (H:Hp) (E:XK),Room k (A.deeper (envOfC qual (defScope st) s.heap.objs.size f cdv))→A.guards=some [] →
   ∃ ts,PSMs (cxOf CX0 P w K mg base Nm qual (defScope st) f cdv A out s H E).nox (fun cls d _ H=>E cls d H) (defBody st) ts g) :
  FnG P w K mg base CX0 (k+1) f fd ps (spF K n (callD g n m)):=by
 obtain⟨oc,od,kV,doc,pm,an,cdv,ct,osl,rfl,lk,hcd⟩:=F.ex
 refine fnG_of lk hcd S (fun vs H Q E h=>by rw[h.1,hn]) fun A out s H vs Q E hr hg hsp=>?_
 obtain⟨ts,b⟩:=body cdv A out s H E hr hg
 refine⟨ts,b.ps.nox,?_⟩
 have e:Nm.length-n=m:=by omega
 exact body_ok (n:=n) b.sd (by omega) (by rw[e];exact sp_callD hsp)
theorem rpl_ints {G:Hp}:∀ ns:List Int,RpL K G (ns.map V.int) (ns.map D.int)
 | []=>.nil
 | i::ns=>.cons (.int i) (rpl_ints ns)
theorem law_sp {H:Hp}{a:Addr}{ns:List Int}{F:List DV→Mem→Res R}(hS:SqL K H a (ns.map V.int)){μ':Mem}(h:F [.dat (.fro (ns.map D.int))] []=.ok (.dat (.bl true)) μ') :
  spF K 1 F [.ref a] H (fun v _=>v=.bl true) (fun _ _ _=>False):=by
 refine⟨rfl,fun _=>none,H,[],[.dat (.fro (ns.map D.int))],⟨Ex.refl _,(fun _ _ _ h=>by cases h),(fun _ _ h=>by cases h),(fun _ _ h=>by cases h),(fun _ _ h=>by cases h),(fun _ _ h=>by simp at h)⟩,.cons (Rp.fro hS (rpl_ints ns)) .nil,?_⟩
 rw[h]
 intro G' H' v t R q
 cases q;rfl
end
section
variable {P:Program}{w:World}{K:PySem.W.Frag}{mg:Str→Option Value}{base:Heap}
end
section
variable {X:Cx}{W:WX}{a C d:Addr}{oe:Obj}{pn:List (Addr×Obj)}{n:Str}{p p1 p2 pos:Pos}
end
end DL
namespace DR
open PySem PyProof.Rows
mutual
inductive Rs (h:Heap):Value→PyData→Prop
 | none:Rs h .none .none
 | bool (b):Rs h (.bool b) (.bool b)
 | int (i t):Rs h (.int i t) (.int i)
 | str (x t):Rs h (.str x t) (.str x)
 | list {a o vs n xs}:h.get? a=some o→o.cls=.type "list"→o.data=.seq vs n→RsAll h vs.toList xs→Rs h (.ref a) (.list xs)
 | tuple {a o vs n xs}:h.get? a=some o→o.cls=.type "tuple"→o.data=.seq vs n→RsAll h vs.toList xs→Rs h (.ref a) (.tuple xs)
 | dict {a o es n} {kvs:List (PyData×PyData)}:h.get? a=some o→o.cls=.type "dict"→o.data=.dict es n→(a==sysModules)=false→RsAll h (es.toList.map (·.key)) (kvs.map (·.1)) →
   RsAll h (es.toList.map (·.val)) (kvs.map (·.2))→Rs h (.ref a) (.dict kvs)
inductive RsAll (h:Heap):List Value→List PyData→Prop
 | nil:RsAll h [] []
 | cons {v vs d ds}:Rs h v d→RsAll h vs ds→RsAll h (v::vs) (d::ds)
end
section
variable {h:Heap}{prog:Program}{w:World}
mutual
theorem Rs.reads:∀ {v:Value} {d:PyData},Rs h v d→∃ as,Reads h v d as
 | _,_,.none=>⟨_,.none⟩
 | _,_,.bool b=>⟨_,.bool b⟩
 | _,_,.int i t=>⟨_,.int i t⟩
 | _,_,.str x t=>⟨_,.str x t⟩
 | _,_,.list h1 h2 h3 h4=>let ⟨_,r⟩:=RsAll.reads h4;⟨_,.list h1 h2 h3 r⟩
 | _,_,.tuple h1 h2 h3 h4=>let ⟨_,r⟩:=RsAll.reads h4;⟨_,.tuple h1 h2 h3 r⟩
 | _,_,.dict h1 h2 h3 _ h4 h5=>let ⟨_,r⟩:=RsAll.reads h4;let ⟨_,r'⟩:=RsAll.reads h5;⟨_,.dict h1 h2 h3 r r'⟩
theorem RsAll.reads:∀ {vs:List Value} {ds:List PyData},RsAll h vs ds→∃ as,ReadsAll h vs ds as
 | _,_,.nil=>⟨_,.nil⟩
 | _,_,.cons a b=>let ⟨_,r⟩:=Rs.reads a;let ⟨_,r'⟩:=RsAll.reads b;⟨_,.cons r r'⟩
end
mutual
theorem Rs.reprK:∀ {v:Value} {d:PyData},Rs h v d→d.showable=true→d.shown.length≤sizeLine→∃ bs,ReadAtMost h d.depth bs∧ReprK prog w bs h d.depth v d.shown
 | _,_,.none,_,_=>⟨[],(fun _ h=>nomatch h),by simp only[PyData.shown];exact .of_is ReprIs.none _ _ _⟩
 | _,_,.bool b,_,_=>⟨[],(fun _ h=>nomatch h),by simp only[PyData.shown];exact .of_is (ReprIs.bool b) _ _ _⟩
 | _,_,.int i t,hs,_=>⟨[],(fun _ h=>nomatch h),by simp only[PyData.shown];exact .of_is (ReprIs.int t (by simpa [PyData.showable] using hs)) _ _ _⟩
 | _,_,.str x t,_,hz=>⟨[],(fun _ h=>nomatch h),by simp only[PyData.shown];exact .of_is (ReprIs.str x t (by simpa only[PyData.shown] using hz)) _ _ _⟩
 | _,_,.list (a:=a) (vs:=vs) (xs:=xs) h1 h2 h3 h4,hs,hz=>by
  have hz':(listText (PyData.shownAll xs)).length≤sizeLine:=by simpa only[PyData.shown] using hz
  obtain⟨bs,hb,hk⟩:=RsAll.reprK h4 (by simpa [PyData.showable] using hs) fun t ht=>Nat.le_trans (listText_mem_le ht) hz'
  obtain⟨as,r4⟩:=RsAll.reads h4
  have r:Reads h (.ref a) (.list xs) _:=.list h1 h2 h3 r4
  have hna:a∉bs:=not_mem_of_deeper r (by simp only[PyData.depth];omega) hb
  refine⟨a::bs,ReadAtMost.cons r (by simp only[PyData.depth];omega) hb,?_⟩
  simp only[PyData.depth,PyData.shown]
  obtain⟨l⟩:=vs
  cases l with
  | nil =>
   have h4':RsAll h [] xs:=h4
   cases h4'
   simp only[PyData.shownAll,listText_nil]
   exact ReprK.listEmpty h1 h2 h3
  | cons x l=>exact ReprK.list h1 h2 h3 hna (by simpa using hk.length_eq) (fun i y e=>hk.item i y (by simpa using e))
 | _,_,.tuple (a:=a) (xs:=xs) h1 h2 h3 h4,hs,hz=>by
  have hz':(tupleText (PyData.shownAll xs)).length≤sizeLine:=by simpa only[PyData.shown] using hz
  obtain⟨bs,hb,hk⟩:=RsAll.reprK h4 (by simpa [PyData.showable] using hs) fun t ht=>Nat.le_trans (tupleText_mem_le ht) hz'
  obtain⟨as,r4⟩:=RsAll.reads h4
  have r:Reads h (.ref a) (.tuple xs) _:=.tuple h1 h2 h3 r4
  have hna:a∉bs:=not_mem_of_deeper r (by simp only[PyData.depth];omega) hb
  refine⟨a::bs,ReadAtMost.cons r (by simp only[PyData.depth];omega) hb,?_⟩
  simp only[PyData.depth,PyData.shown]
  exact ReprK.tuple h1 h2 h3 hna hk
 | _,_,.dict (a:=a) (es:=es) (kvs:=kvs) h1 h2 h3 hsys h4 h5,hs,hz=>by
  have hz':(dictText (PyData.shownKv kvs)).length≤sizeLine:=by simpa only[PyData.shown] using hz
  obtain⟨hs1,hs2⟩:=PyData.showableKv_split kvs (by simpa [PyData.showable] using hs)
  obtain⟨b1,hb1,k1⟩:=RsAll.reprK h4 hs1 fun t ht=>let ⟨p,hp,hl⟩:=PyData.shownKv_key_le kvs t ht;Nat.le_trans hl (Nat.le_trans (dictText_mem_le hp) hz')
  obtain⟨b2,hb2,k2⟩:=RsAll.reprK h5 hs2 fun t ht=>let ⟨p,hp,hl⟩:=PyData.shownKv_val_le kvs t ht;Nat.le_trans hl (Nat.le_trans (dictText_mem_le hp) hz')
  obtain⟨as4,r4⟩:=RsAll.reads h4
  obtain⟨as5,r5⟩:=RsAll.reads h5
  have r:Reads h (.ref a) (.dict kvs) _:=.dict h1 h2 h3 r4 r5
  have hb:ReadAtMost h (PyData.depthKv kvs) (b1++b2):=(hb1.mono (PyData.depthAll_keys_le kvs)).append (hb2.mono (PyData.depthAll_vals_le kvs))
  have hna:a∉b1++b2:=not_mem_of_deeper r (by simp only[PyData.depth];omega) hb
  refine⟨a::(b1++b2),ReadAtMost.cons r (by simp only[PyData.depth];omega) hb,?_⟩
  simp only[PyData.depth,PyData.shown,PyData.shownKv_eq]
  exact ReprK.dict h1 h2 h3 hsys hna (ReprEntriesK.of_two es.toList _ _
   (k1.more_le (fun b hb=>List.mem_append_left _ hb) (PyData.depthAll_keys_le kvs)) (k2.more_le (fun b hb=>List.mem_append_right _ hb) (PyData.depthAll_vals_le kvs)))
theorem RsAll.reprK:∀ {vs:List Value} {ds:List PyData},RsAll h vs ds→PyData.showableAll ds=true→(∀ t∈PyData.shownAll ds,t.length≤sizeLine) →
  ∃ bs,ReadAtMost h (PyData.depthAll ds) bs∧ReprAllK prog w bs h (PyData.depthAll ds) vs (PyData.shownAll ds)
 | _,_,.nil,_,_=>⟨[],(fun _ h=>nomatch h),by simp only[PyData.shownAll];exact .nil⟩
 | _,_,.cons (d:=d) (ds:=ds) r rs,hs,hz=>by
  have hs':d.showable=true∧PyData.showableAll ds=true:=by simpa [PyData.showableAll] using hs
  obtain⟨b1,hb1,k1⟩:=Rs.reprK r hs'.1 (hz _ (by simp only[PyData.shownAll];exact List.mem_cons_self ..))
  obtain⟨b2,hb2,k2⟩:=RsAll.reprK rs hs'.2 fun t ht=>hz t (by simp only[PyData.shownAll];exact List.mem_cons_of_mem _ ht)
  refine⟨b1++b2,?_,?_⟩
  ·intro b hm
   simp only[PyData.depthAll]
   rcases List.mem_append.mp hm with hm|hm
   ·obtain⟨d',as',r',hd'⟩:=hb1 b hm
    exact⟨d',as',r',Nat.le_trans hd' (Nat.le_max_left _ _)⟩
   ·obtain⟨d',as',r',hd'⟩:=hb2 b hm
    exact⟨d',as',r',Nat.le_trans hd' (Nat.le_max_right _ _)⟩
  ·simp only[PyData.depthAll,PyData.shownAll]
   exact .cons ((k1.more fun b hb=>List.mem_append_left _ hb).level_le (Nat.le_max_left _ _)) (k2.more_le (fun b hb=>List.mem_append_right _ hb) (Nat.le_max_right _ _))
end
end
end DR
namespace DR
open PySem PyProof.Rows
section
variable {prog:Program}{w:World}{h₀:Heap}{a:Addr}{d:PyData}
theorem Rs.shows (r:Rs h₀ (.ref a) d)(hs:d.showable=true)(hsz:d.shown.length≤sizeLine):∃ T idr,ShowsBy prog w h₀ a d T idr:=by
 cases r with
 | list h1 h2 h3 h4 =>
  rename_i o vs n xs
  have hz':(listText (PyData.shownAll xs)).length≤sizeLine:=by simpa only[PyData.shown] using hsz
  obtain⟨bs,hb,hk⟩:=RsAll.reprK (prog:=prog) (w:=w) h4 (by simpa [PyData.showable] using hs) fun t ht=>Nat.le_trans (listText_mem_le ht) hz'
  obtain⟨as,r4⟩:=RsAll.reads h4
  have hna:a∉bs:=not_mem_of_deeper (.list h1 h2 h3 r4) (by simp only[PyData.depth];omega) hb
  refine⟨"list","list.__repr__",F.slot_list_repr.toG,F.slot_list_str,F.slot_list_format,fun s hk0=>⟨o,hk0 _ _ h1,h2⟩,fun A E s Q hg hu hk0 hQ=>?_⟩
  simp only[PyData.depth] at hu
  simp only[PyData.shown] at hQ
  obtain⟨l⟩:=vs
  cases l with
  | nil =>
   have h4':RsAll h₀ [] xs:=h4
   cases h4'
   simp only[PyData.shownAll,listText_nil] at hQ
   exact call_list_repr_empty ⟨o,hk0 _ _ h1,h2⟩ (hk0 _ _ h1) h3 (hQ s.heap _ _ fun _ _ e=>e)
  | cons x l =>
   exact call_list_reprK h1 h2 h3 hna (by simpa using hk.length_eq) (fun i y e=>hk.item i y (by simpa using e)) hg (fun b _=>Clear.nil b) hu hk0 hQ hz'
 | tuple h1 h2 h3 h4 =>
  rename_i o vs n xs
  have hz':(tupleText (PyData.shownAll xs)).length≤sizeLine:=by simpa only[PyData.shown] using hsz
  obtain⟨bs,hb,hk⟩:=RsAll.reprK (prog:=prog) (w:=w) h4 (by simpa [PyData.showable] using hs) fun t ht=>Nat.le_trans (tupleText_mem_le ht) hz'
  obtain⟨as,r4⟩:=RsAll.reads h4
  have hna:a∉bs:=not_mem_of_deeper (.tuple h1 h2 h3 r4) (by simp only[PyData.depth];omega) hb
  refine⟨"tuple","tuple.__repr__",F.slot_tuple_repr,F.slot_tuple_str,F.slot_tuple_format,fun s hk0=>⟨o,hk0 _ _ h1,h2⟩,fun A E s Q hg hu hk0 hQ=>?_⟩
  simp only[PyData.depth] at hu
  simp only[PyData.shown] at hQ
  exact call_tuple_reprK h1 h2 h3 hna hk hg (fun b _=>Clear.nil b) hu hk0 hQ hz'
 | dict h1 h2 h3 hsys h4 h5 =>
  rename_i o es n kvs
  have hz':(dictText (PyData.shownKv kvs)).length≤sizeLine:=by simpa only[PyData.shown] using hsz
  obtain⟨hs1,hs2⟩:=PyData.showableKv_split kvs (by simpa [PyData.showable] using hs)
  obtain⟨b1,hb1,k1⟩:=RsAll.reprK (prog:=prog) (w:=w) h4 hs1 fun t ht=>let ⟨p,hp,hl⟩:=PyData.shownKv_key_le kvs t ht;Nat.le_trans hl (Nat.le_trans (dictText_mem_le hp) hz')
  obtain⟨b2,hb2,k2⟩:=RsAll.reprK (prog:=prog) (w:=w) h5 hs2 fun t ht=>let ⟨p,hp,hl⟩:=PyData.shownKv_val_le kvs t ht;Nat.le_trans hl (Nat.le_trans (dictText_mem_le hp) hz')
  obtain⟨as4,r4⟩:=RsAll.reads h4
  obtain⟨as5,r5⟩:=RsAll.reads h5
  have hb:ReadAtMost h₀ (PyData.depthKv kvs) (b1++b2):=(hb1.mono (PyData.depthAll_keys_le kvs)).append (hb2.mono (PyData.depthAll_vals_le kvs))
  have hna:a∉b1++b2:=not_mem_of_deeper (.dict h1 h2 h3 r4 r5) (by simp only[PyData.depth];omega) hb
  refine⟨"dict","dict.__repr__",F.slot_dict_repr,F.slot_dict_str,F.slot_dict_format,fun s hk0=>⟨o,hk0 _ _ h1,h2⟩,fun A E s Q hg hu hk0 hQ=>?_⟩
  simp only[PyData.depth] at hu
  simp only[PyData.shown,PyData.shownKv_eq] at hQ
  exact call_dict_reprK h1 h2 h3 hsys hna (ReprEntriesK.of_two es.toList _ _
   (k1.more_le (fun b hb=>List.mem_append_left _ hb) (PyData.depthAll_keys_le kvs)) (k2.more_le (fun b hb=>List.mem_append_right _ hb) (PyData.depthAll_vals_le kvs))) hg (fun b _=>Clear.nil b) hu hk0 hQ (by rw[←PyData.shownKv_eq];exact hz')
theorem Rs.repr {A:Around}{E:Value→Shared→Prop}{s:Shared}{Q:Value→Shared→Prop}(r:Rs s.heap (.ref a) d)(hs:d.showable=true)(hg:A.guards=some [])(hu:A.units+(d.depth+1)<cLine)
  (hQ:∀ h' u tk,(∀ b o,s.heap.get? b=some o→h'.get? b=some o)→Q (.str d.shown u) { s with heap:=h',toks:=tk })
  (hsz:d.shown.length≤sizeLine):wpAny (model prog w) A (call (.builtin "repr") [.ref a]) Q E s:=by
 obtain⟨T,idr,S⟩:=r.shows (prog:=prog) (w:=w) hs hsz
 exact call_repr_slot (by omega) (S.typeIs s fun _ _ e=>e) S.slotRepr (S.call A.in1 E s _ hg (by show A.units+1+d.depth<cLine;omega) (fun _ _ e=>e) fun h' u tk hk=>⟨_,_,rfl,hQ h' u tk hk⟩)
end
end DR
namespace DL
open PySem PySem.Spec PyProof.Rows L2 DR
def keyPy:Key→PyData
 | .inl i=>.int i
 | .inr s=>.str s
mutual
def toPyK:D→Option PyData
 | .non=>some .none
 | .bl b=>some (.bool b)
 | .int i=>some (.int i)
 | .str s=>some (.str s)
 | .tup xs=>(toPyKL xs).map .tuple
 | .lst xs=>(toPyKL xs).map .list
 | .fro xs=>(toPyKL xs).map .list
 | .dct kvs=>(toPyKv kvs).map .dict
 | .ty _=>none
 | .ref _=>none
 | .ins _ _=>none
 | .err _ _ _ _ _=>none
def toPyKL:List D→Option (List PyData)
 | []=>some []
 | x::xs=>match toPyK x with
  | none=>none
  | some p=>(toPyKL xs).map (p::·)
def toPyKv:List (Ky×D)→Option (List (PyData×PyData))
 | []=>some []
 | (.k k,x)::xs=>match toPyK x with
  | none=>none
  | some p=>(toPyKv xs).map ((keyPy k,p)::·)
 | (.t _,_)::_=>none
end
theorem map_k_inj:∀ {a b:List Key},a.map Ky.k=b.map Ky.k→a=b
 | [],[],_=>rfl
 | [],_::_,h=>by cases h
 | _::_,[],h=>by cases h
 | x::a,y::b,h=>by
  simp only[List.map_cons,List.cons.injEq] at h
  cases h.1
  rw[map_k_inj h.2]
theorem toPyKv_ok:∀ {ds:List (Ky×D)} {ps:List (PyData×PyData)},toPyKv ds=some ps→toPyKL (ds.map (·.2))=some (ps.map (·.2))∧∃ ks:List Key,ds.map (·.1)=ks.map Ky.k∧ps.map (·.1)=ks.map keyPy
 | [],ps,e=>by simp only[toPyKv] at e;cases e;exact⟨by simp[toPyKL],[],rfl,rfl⟩
 | (.t _,_)::_,ps,e=>by simp only[toPyKv] at e;cases e
 | (.k k,x)::xs,ps,e=>by
  simp only[toPyKv] at e
  cases q:toPyK x with
  | none=>rw[q] at e;cases e
  | some p =>
   rw[q] at e
   cases q2:toPyKv xs with
   | none=>rw[q2] at e;cases e
   | some qs =>
    rw[q2] at e;cases e
    obtain⟨h1,ks,h2,h3⟩:=toPyKv_ok q2
    refine⟨?_,k::ks,?_,?_⟩
    ·simp only[List.map_cons,toPyKL,q,h1];rfl
    ·simp only[List.map_cons,h2]
    ·simp only[List.map_cons,h3]
section
variable {X:Cx}{pins:List (Addr×Obj)}{σ:L2.St}{H:Hp}{s:Shared}
theorem key_rs {k:Key}{u:Value}(h:(mixKind X.prog X.w).is k u=true):Rs s.heap u (keyPy k):=by
 have r:L2.RelV (kV k) u:=relV_key h
 cases k with
 | inl i=>obtain⟨t,rfl⟩:=r;exact .int i t
 | inr x=>obtain⟨t,rfl⟩:=r;exact .str x t
theorem pairs_keys {es:List DictEntry}{kvs:List (Key×Value)}(h:Pairs (mixKind X.prog X.w) es kvs):RsAll s.heap (es.map (·.key)) (kvs.map fun p=>keyPy p.1)∧es.map (·.val)=kvs.map (·.2):=by
 induction h with
 | nil=>exact⟨.nil,rfl⟩
 | cons h1 h2 _ ih=>exact⟨.cons (key_rs h1) ih.1,by simp only[List.map_cons];rw[h2,ih.2]⟩
theorem kv_vals {ls:List (Key×V)}{vs:List (Key×Value)}(h:KV ls vs):Vals (ls.map (·.2)) (vs.map (·.2)):=by
 unfold KV at h
 induction h with
 | nil=>exact .nil
 | cons a _ ih=>exact .cons a.2 ih
mutual
theorem Rp.rs (I:Inv X pins σ H s):∀ {v:V} {d:D} {p:PyData} {u:Value},Rp X.K H v d→toPyK d=some p→L2.RelV v u→Rs s.heap u p
 | _,_,_,_,.non,e,r=>by simp only[toPyK] at e;cases e;cases r;exact .none
 | _,_,_,_,.bl b,e,r=>by simp only[toPyK] at e;cases e;cases r;exact .bool b
 | _,_,_,_,.int i,e,r=>by simp only[toPyK] at e;cases e;obtain⟨t,rfl⟩:=r;exact .int i t
 | _,_,_,_,.str i,e,r=>by simp only[toPyK] at e;cases e;obtain⟨t,rfl⟩:=r;exact .str i t
 | _,_,_,_,.ty _,e,r=>by simp only[toPyK] at e;cases e
 | _,_,_,_,.ref _,e,r=>by simp only[toPyK] at e;cases e
 | _,_,_,_,.ins _ _ _ _ _,e,r=>by simp only[toPyK] at e;cases e
 | _,_,_,_,.er0 _,e,r=>by simp only[toPyK] at e;cases e
 | _,_,_,_,.err _ _ _ _,e,r=>by simp only[toPyK] at e;cases e
 | _,_,_,_,.tup (ds:=ds) h l,e,r=>by
  simp only[toPyK] at e
  cases q:toPyKL ds with
  | none=>rw[q] at e;cases e
  | some ps =>
   rw[q] at e;cases e;cases r
   obtain⟨its,rv,⟨o,ho,hc,n,hd⟩,_⟩:=I.tuple h
   exact .tuple ho hc hd (by simpa using RpL.rs I l q rv)
 | _,_,_,_,.lst (ds:=ds) h l,e,r=>by
  simp only[toPyK] at e
  cases q:toPyKL ds with
  | none=>rw[q] at e;cases e
  | some ps =>
   rw[q] at e;cases e;cases r
   obtain⟨its,rv,⟨o,n,ho,hc,hd,hdat⟩,_⟩:=I.list (.inl (.inl h))
   exact .list ho hc hdat (by simpa using RpL.rs I l q rv)
 | _,_,_,_,.fro (ds:=ds) h l,e,r=>by
  simp only[toPyK] at e
  cases q:toPyKL ds with
  | none=>rw[q] at e;cases e
  | some ps =>
   rw[q] at e;cases e;cases r
   obtain⟨its,rv,⟨o,n,ho,hc,hd,hdat⟩,_⟩:=I.list h
   exact .list ho hc hdat (by simpa using RpL.rs I l q rv)
 | _,_,_,_,.dct (ds:=ds) h k l,e,r=>by
  simp only[toPyK] at e
  cases q:toPyKv ds with
  | none=>rw[q] at e;cases e
  | some ps =>
   rw[q] at e;cases e;cases r
   obtain⟨h1,ks,h2,h3⟩:=toPyKv_ok q
   have step:∀ us,Vals _ us→RsAll s.heap us (ps.map (·.2)):=fun us rv=>RpL.rs I l h1 rv
   rcases k with⟨ls,rfl,k2,rfl⟩|⟨_,ls,hne,rfl,_,_,_,_,k2,_⟩
   ·obtain⟨_,hsys,vs',rel,o',es,ep,ho,hx,hdat,_,hp,_⟩:=dk_rd I.hok (.inr ⟨_,h⟩)
    obtain⟨p1,p2⟩:=pairs_keys (X:=X) (s:=s) hp
    have ek:ks=ls.map (·.1):=by
     have e2:ks.map Ky.k=(ls.map (·.1)).map Ky.k:=by rw[←h2,k2,List.map_map];rfl
     exact map_k_inj e2
    refine .dict ho hx.1 hdat hsys ?_ ?_
    ·have e3:ps.map (·.1)=vs'.map fun p=>keyPy p.1:=by
      rw[h3,ek,rel.keys,List.map_map];rfl
     rw[e3];exact p1
    ·rw[p2];exact step _ (kv_vals rel)
   ·cases ls with
    | nil=>exact absurd rfl hne
    | cons p ls =>
     rw[h2] at k2
     cases ks with
     | nil=>cases k2
     | cons k ks=>simp at k2
theorem RpL.rs (I:Inv X pins σ H s):∀ {vs:List V} {ds:List D} {ps:List PyData} {us:List Value},RpL X.K H vs ds→toPyKL ds=some ps→Vals vs us→RsAll s.heap us ps
 | _,_,_,_,.nil,e,r=>by simp only[toPyKL] at e;cases e;cases r;exact .nil
 | _,_,_,_,.cons (d:=d) (ds:=ds) a b,e,r=>by
  simp only[toPyKL] at e
  cases q:toPyK d with
  | none=>rw[q] at e;cases e
  | some p =>
   rw[q] at e
   cases q2:toPyKL ds with
   | none=>rw[q2] at e;cases e
   | some ps =>
    rw[q2] at e;cases e
    cases r with
    | cons r1 r2=>exact .cons (Rp.rs I a q r1) (RpL.rs I b q2 r2)
end
end
end DL
namespace DL
open PySem PySem.Spec PyProof.Rows L2 DR
def dReprD (x:DV)(μ:Mem):Res R:=match (peek μ x).bind toPyK with
 | some p=>if p.showable=true∧p.depth≤64∧p.shown.length≤sizeLine then .ok (.dat (.str p.shown)) μ else .bad
 | none=>.bad
def rReprD (K:PySem.W.Frag):List V→Hp→VK→Prop:=fun xs H Q=>∃ v d p,xs=[v]∧Rp K H v d∧toPyK d=some p∧p.showable=true∧p.depth≤64∧p.shown.length≤sizeLine∧Q (.str p.shown) H
theorem cr_reprD {X:Cx} {k:Nat} (hr:Room k X.A) (hg:X.A.guards=some []):CallR X (.builtin "repr") (rReprD X.K):=by
 intro pins s σ H xs us Q I rv h
 obtain⟨v,d,p,rfl,hd,hp,hs,hdp,hz,q⟩:=h
 obtain⟨u,rfl,ru⟩:∃ u,us=[u]∧L2.RelV v u:=by
  cases rv with
  | cons a b=>cases b;exact⟨_,rfl,a⟩
 have rd:=Rp.rs I hd hp ru
 have fin:∀ h' tk t',(∀ b o,s.heap.get? b=some o→h'.get? b=some o)→EP X pins σ Q (.str p.shown t') { s with heap:=h',toks:=tk }:=fun h' tk t' kp =>
  ⟨.str p.shown,H,I.kept kp,⟨t',rfl⟩,q⟩
 have hu:X.A.units+200<cLine:=by have:=hr.un;omega
 have all:∀ a,u=.ref a→wpAny (model X.prog X.w) X.A (call (.builtin "repr") [u]) (EP X pins σ Q) X.xe s:=fun a e=>by
  subst e
  exact rd.repr hs hg (by omega) (fun h' t' tk kp=>fin h' tk t' kp) hz
 cases rd with
 | none=>exact PySem.P.repr_of_none (fin s.heap _ _ fun _ _ e=>e)
 | bool b=>exact PySem.P.repr_of_bool (fin s.heap _ _ fun _ _ e=>e)
 | int i t=>exact PySem.P.repr_of_int (of_decide_eq_true hs) (fin s.heap _ _ fun _ _ e=>e)
 | str z t=>exact PySem.P.repr_of_str (fin s.heap _ _ fun _ _ e=>e) hz
 | list _ _ _ _=>exact all _ rfl
 | tuple _ _ _ _=>exact all _ rfl
 | dict _ _ _ _ _ _=>exact all _ rfl
theorem cd_reprD {K:PySem.W.Frag}:CallD K (rReprD K) (d1 dReprD):=cd_1 fun W ρ G H σ μ v x Q R hx hp=>by
 unfold dReprD at hp
 cases e:peek μ x with
 | none=>rw[e] at hp;exact hp.elim
 | some d =>
  rw[e] at hp
  simp only[Option.bind_some] at hp
  cases e2:toPyK d with
  | none=>rw[e2] at hp;exact hp.elim
  | some p =>
   simp only[e2] at hp
   by_cases c:p.showable=true∧p.depth≤64∧p.shown.length≤sizeLine
   ·rw[if_pos c] at hp;exact⟨v,d,p,rfl,peek_ok R hx e,e2,c.1,c.2.1,c.2.2,hp.okD R (.str _)⟩
   ·rw[if_neg c] at hp;exact hp.elim
theorem cr_reprDK (K:PySem.W.Frag){X:Cx}{k:Nat}(h:Room k X.A)(hg:X.A.guards=some [])(hK:X.K=K:=by rfl):CallR X (.builtin "repr") (rReprD K):=by subst hK;exact cr_reprD h hg
end DL
namespace DR
open PySem PySem.SeqAt PyProof.Rows
open AutoSeq1 (wpAny_loadPart')
open MeetsSeq MeetsSeq2 MeetsSeq3 SeqRoads2
section
variable {prog:Program}{w:World}
theorem tup_same (p q:Addr)(us vs:Array Value)(m m2:Nat)(f f2:Option Addr)(t t2:Array (Option Value))(hz:us.size=vs.size) :
  MeetsIn prog w (Builtin.«tuple.__eq__» ⟨[.ref p,.ref q],[]⟩)
   (fun A R s=>s.heap.get? p=some { cls:=.type "tuple",dict:=f,data:=.seq us m,slots:=t } ∧
    s.heap.get? q=some { cls:=.type "tuple",dict:=f2,data:=.seq vs m2,slots:=t2 } ∧
    (∀ j (h1:j<us.size) (h2:j<vs.size),EqP prog w A.in1 s us[j] vs[j] true)∧R (.ok (.ret (.bool true))) s):=by
 intro A R s h
 obtain⟨hp,g,d,tk,os⟩:=s
 obtain⟨hl,hb,he,h⟩:=h
 have st:=AutoSeq1.sub_tuple_tuple
 have hZ:(us.toList.zip vs.toList).length=us.size:=by simp[hz]
 wp_walk using wpAny_loadPart' hl,wpAny_loadPart' hb,wpAny_forIn_list _ (fun rest b s'=>b.1=none∧s'=⟨hp,g,d,tk,os⟩∧∃ i,rest=(us.toList.zip vs.toList).drop i) _
 case turn =>
  rintro ⟨y,x⟩ rest b s' ⟨hb',rfl,i,hzz⟩
  have hlt:i<(us.toList.zip vs.toList).length:=by
   rcases Nat.lt_or_ge i (us.toList.zip vs.toList).length with z|z
   ·exact z
   ·rw[List.drop_of_length_le z] at hzz;cases hzz
  have i1:i<us.size:=hZ▸hlt
  have i2:i<vs.size:=hz▸i1
  rw[List.drop_eq_getElem_cons hlt] at hzz
  injection hzz with hyx hrest
  obtain rfl:y=us[i]:=by have:=congrArg Prod.fst hyx;simpa using this
  obtain rfl:x=vs[i]:=by have:=congrArg Prod.snd hyx;simpa using this
  refine wpAny_bind (he i i1 i2 _ _ ?_)
  wp_walk
  exact⟨rfl,rfl,i+1,hrest⟩
 case fin =>
  rintro ⟨b1,b2⟩ s' ⟨hb',rfl,i,hzz⟩
  simp only at hb'
  subst hb'
  wp_walk
  simpa [Builtin.Tuple.tupleCompareSizes,hz] using h
 case h =>
  exact⟨rfl,rfl,0,rfl⟩
theorem rcP_tups {A:Around}{s:Shared}{p q:Addr}{us vs:Array Value}(hp:s.heap.IsTuple p us)(hq:s.heap.IsTuple q vs)(hz:us.size=vs.size)(hu:A.units<cLine)
  (he:∀ j (h1:j<us.size) (h2:j<vs.size),EqP prog w A.in1 s us[j] vs[j] true) (E Q:Value→Shared→Prop) (h:Q (.bool true) s):wpAny (model prog w) A (richCompare .Eq (.ref p) (.ref q)) Q E s:=by
 obtain⟨⟨c1,f1,k1,t1⟩,o1,e1,m1,g1⟩:=id hp
 obtain⟨⟨c2,f2,k2,t2⟩,o2,e2,m2,g2⟩:=id hq
 simp only at e1 g1 e2 g2
 subst e1 g1 e2 g2
 have ta:s.TypeIs (.ref p) "tuple":=⟨_,o1,rfl⟩
 have tb:s.TypeIs (.ref q) "tuple":=⟨_,o2,rfl⟩
 exact wpAny_richCompare_same_room (op:=.Eq) ta tb F.slot_tuple_eq (call_meetsIn F.slot_tuple_eq ta F.entry_tuple_eq (F.args_tuple_eq_2 _ _) (tup_same p q us vs m1 m2 f1 f2 t1 t2 hz)
  ⟨o1,o2,he,show Value.bool true≠Value.notImplemented∧Q (.bool true) s from⟨(fun x=>nomatch x),h⟩⟩) hu
end
end DR
namespace DR
open PySem PySem.Spec PySem.SeqAt PyProof.Rows L2 DL
mutual
inductive Rq (P:Program) (w:World) (h:Heap):Value→PyData→Prop
 | none:Rq P w h .none .none
 | bool (b):Rq P w h (.bool b) (.bool b)
 | int (i t):Rq P w h (.int i t) (.int i)
 | str (x t):Rq P w h (.str x t) (.str x)
 | list {a vs xs}:h.IsList a vs→RqAll P w h vs.toList xs→Rq P w h (.ref a) (.list xs)
 | tuple {a vs xs}:h.IsTuple a vs→RqAll P w h vs.toList xs→Rq P w h (.ref a) (.tuple xs)
 | dict {a} {vs:List (Key×Value)} {kvs:List (PyData×PyData)}:(a==sysModules)=false→h.DictOf (mixKind P w) a vs→kvs.map (·.1)=vs.map (fun p=>keyPy p.1)→RqAll P w h (vs.map (·.2)) (kvs.map (·.2))→Rq P w h (.ref a) (.dict kvs)
inductive RqAll (P:Program) (w:World) (h:Heap):List Value→List PyData→Prop
 | nil:RqAll P w h [] []
 | cons {v vs d ds}:Rq P w h v d→RqAll P w h vs ds→RqAll P w h (v::vs) (d::ds)
end
section
variable {P:Program}{w:World}{s:Shared}
theorem RqAll.length {h:Heap}:∀ {vs:List Value} {ds:List PyData},RqAll P w h vs ds→vs.length=ds.length
 | _,_,.nil=>rfl
 | _,_,.cons _ b=>congrArg (·+1) (RqAll.length b)
theorem depthKv_snd:∀ kvs:List (PyData×PyData),PyData.depthAll (kvs.map (·.2))≤PyData.depthKv kvs
 | []=>Nat.le_refl _
 | (a,b)::r=>by
  have:=depthKv_snd r
  simp only[List.map_cons,PyData.depthAll,PyData.depthKv]
  omega
theorem keyPy_inj:∀ {a b:List Key},a.map keyPy=b.map keyPy→a=b
 | [],[],_=>rfl
 | [],_::_,h=>by cases h
 | _::_,[],h=>by cases h
 | x::a,y::b,h=>by
  simp only[List.map_cons,List.cons.injEq] at h
  have e:x=y:=by
   rcases x with x|x <;> rcases y with y|y
   ·have:=h.1;simp only[keyPy,PyData.int.injEq] at this;rw[this]
   ·have:=h.1;simp[keyPy] at this
   ·have:=h.1;simp[keyPy] at this
   ·have:=h.1;simp only[keyPy,PyData.str.injEq] at this;rw[this]
  rw[e,keyPy_inj h.2]
theorem hits_same {A:Around}{kb:List (Key×Value)}:∀ {ka:List (Key×Value)},(∀ (i:Nat) (k:Key) (v:Value),ka[i]?=some (k,v)→∃ y,PySem.valueAt kb k=some y∧EqP P w A s v y true)→PySem.W.KeqHitsP P w A s kb ka true
 | [],_=>.nil
 | (k,v)::r,h=>by
  obtain⟨y,h1,h2⟩:=h 0 k v rfl
  exact .hit (e:=true) (b:=true) h1 h2 (hits_same fun i k' v' q=>h (i+1) k' v' q)
theorem hits_zip {A:Around}{a:Addr}{vs vs':List (Key×Value)}(ek:vs.map (·.1)=vs'.map (·.1))(this:∀ (j:Nat) (h1:j<(vs.map (·.2)).length) (h2:j<(vs'.map (·.2)).length),EqP P w A s (vs.map (·.2))[j] (vs'.map (·.2))[j] true)
  (k2:s.heap.DictOf (mixKind P w) a vs'):PySem.W.KeqHitsP P w A s vs' vs true:=by
 have hl:vs.length=vs'.length:=by simpa using congrArg List.length ek
 have nd:(vs'.map (·.1)).Nodup:=by obtain⟨o,es,ep,_,_,_,_,_,z⟩:=k2;exact z
 refine hits_same fun i k v q=>?_
 have hi:i<vs.length:=(List.getElem?_eq_some_iff.mp q).1
 have hi':i<vs'.length:=hl▸hi
 have e1:vs[i]=(k,v):=(List.getElem?_eq_some_iff.mp q).2
 have e2:(vs'[i]).1=k:=by
  have:=congrArg (fun l=>l[i]?) ek
  simp only[List.getElem?_map,List.getElem?_eq_getElem hi,List.getElem?_eq_getElem hi',Option.map_some,Option.some.injEq] at this
  rw[←this,e1]
 refine⟨(vs'[i]).2,PySem.valueAt_of_get nd (i:=i) (by rw[List.getElem?_eq_getElem hi',←e2]),?_⟩
 have z:=this i (by simpa using hi) (by simpa using hi')
 simpa [e1] using z
mutual
theorem Rq.same:∀ {u u':Value} {p:PyData} (A:Around),Rq P w s.heap u p→Rq P w s.heap u' p→A.units+p.depth<cLine→EqP P w A s u u' true
 | _,_,_,A,.none,r,hu=>by cases r;exact(EqAt.same _).eqP
 | _,_,_,A,.bool b,r,hu=>by cases r;exact(EqAt.same _).eqP
 | _,_,_,A,.int i t,r,hu=>by
  cases r with
  | int _ t'=>have:=EqAt.int_int (A:=A) (s:=s) i t i t';simpa using this.eqP (prog:=P) (w:=w)
 | _,_,_,A,.str x t,r,hu=>by
  cases r with
  | str _ t'=>have:=EqAt.str_str (A:=A) (s:=s) x t x t';simpa using this.eqP (prog:=P) (w:=w)
 | _,_,_,A,.list (a:=a) (vs:=vs) h1 h2,r,hu=>by
  cases r with
  | list k1 k2 =>
   rename_i a' vs'
   by_cases e:a=a'
   ·subst e;exact(EqAt.same _).eqP
   ·have hz:vs.size=vs'.size:=by have:=h2.length;have:=k2.length;simp at *;omega
    have:=RqAll.same A.in1 h2 k2 (by simp only[PyData.depth] at hu;show A.units+1+_<cLine;omega)
    refine eqP_refs e fun E Q q=>rcP_lists h1 k1 hz (by omega) (e:=fun _=>true) (fun j h1 h2=>?_) E Q (by rw[show((List.range vs.size).all fun _=>true)=true from List.all_eq_true.mpr fun _ _=>rfl];exact q)
    have z:=this j (by simpa using h1) (by simpa using h2)
    rw[Array.getElem_toList,Array.getElem_toList] at z;exact z
 | _,_,_,A,.tuple (a:=a) (vs:=vs) h1 h2,r,hu=>by
  cases r with
  | tuple k1 k2 =>
   rename_i a' vs'
   by_cases e:a=a'
   ·subst e;exact(EqAt.same _).eqP
   ·have hz:vs.size=vs'.size:=by have:=h2.length;have:=k2.length;simp at *;omega
    have:=RqAll.same A.in1 h2 k2 (by simp only[PyData.depth] at hu;show A.units+1+_<cLine;omega)
    refine eqP_refs e fun E Q q=>rcP_tups h1 k1 hz (by omega) (fun j h1 h2=>?_) E Q q
    have z:=this j (by simpa using h1) (by simpa using h2)
    rw[Array.getElem_toList,Array.getElem_toList] at z;exact z
 | _,_,_,A,.dict (a:=a) (vs:=vs) (kvs:=kvs) h1 h2 h3 h4,r,hu=>by
  cases r with
  | dict k1 k2 k3 k4 =>
   rename_i a' vs'
   by_cases e:a=a'
   ·subst e;exact(EqAt.same _).eqP
   ·have ek:vs.map (·.1)=vs'.map (·.1):=keyPy_inj (by rw[List.map_map,List.map_map];exact h3.symm.trans k3)
    have hl:vs.length=vs'.length:=by simpa using congrArg List.length ek
    have:=RqAll.same A.in1 h4 k4 (by have:=depthKv_snd kvs;simp only[PyData.depth] at hu;show A.units+1+_<cLine;omega)
    exact eqP_refs e fun E Q q=>PySem.W.rcP_dicts h1 k1 h2 k2 (by omega) (r:=true) (fun _=>hits_zip ek this k2) E Q (by simpa [hl] using q)
theorem RqAll.same:∀ {us us':List Value} {ps:List PyData} (A:Around),RqAll P w s.heap us ps→RqAll P w s.heap us' ps→A.units+PyData.depthAll ps<cLine→∀ (j:Nat) (h1:j<us.length) (h2:j<us'.length),EqP P w A s us[j] us'[j] true
 | _,_,_,A,.nil,r,hu,j,h1,h2=>absurd h1 (Nat.not_lt_zero _)
 | _,_,_,A,.cons a b,r,hu,j,h1,h2=>by
  cases r with
  | cons a' b' =>
   have hd:=hu
   simp only[PyData.depthAll] at hd
   cases j with
   | zero=>exact Rq.same A a a' (by omega)
   | succ j=>exact RqAll.same A b b' (by omega) j (Nat.lt_of_succ_lt_succ h1) (Nat.lt_of_succ_lt_succ h2)
end
end
end DR
namespace DL
open PySem PySem.Spec PyProof.Rows L2 DR
section
variable {X:Cx}{pins:List (Addr×Obj)}{σ:L2.St}{H:Hp}{s:Shared}
mutual
theorem Rp.rq (I:Inv X pins σ H s):∀ {v:V} {d:D} {p:PyData} {u:Value},Rp X.K H v d→toPyK d=some p→L2.RelV v u→Rq X.prog X.w s.heap u p
 | _,_,_,_,.non,e,r=>by simp only[toPyK] at e;cases e;cases r;exact .none
 | _,_,_,_,.bl b,e,r=>by simp only[toPyK] at e;cases e;cases r;exact .bool b
 | _,_,_,_,.int i,e,r=>by simp only[toPyK] at e;cases e;obtain⟨t,rfl⟩:=r;exact .int i t
 | _,_,_,_,.str i,e,r=>by simp only[toPyK] at e;cases e;obtain⟨t,rfl⟩:=r;exact .str i t
 | _,_,_,_,.ty _,e,r=>by simp only[toPyK] at e;cases e
 | _,_,_,_,.ref _,e,r=>by simp only[toPyK] at e;cases e
 | _,_,_,_,.ins _ _ _ _ _,e,r=>by simp only[toPyK] at e;cases e
 | _,_,_,_,.er0 _,e,r=>by simp only[toPyK] at e;cases e
 | _,_,_,_,.err _ _ _ _,e,r=>by simp only[toPyK] at e;cases e
 | _,_,_,_,.tup (ds:=ds) h l,e,r=>by
  simp only[toPyK] at e
  cases q:toPyKL ds with
  | none=>rw[q] at e;cases e
  | some ps =>
   rw[q] at e;cases e;cases r
   obtain⟨its,rv,hi,_⟩:=I.tuple h
   exact .tuple hi (by simpa using RpL.rq I l q rv)
 | _,_,_,_,.lst (ds:=ds) h l,e,r=>by
  simp only[toPyK] at e
  cases q:toPyKL ds with
  | none=>rw[q] at e;cases e
  | some ps =>
   rw[q] at e;cases e;cases r
   obtain⟨its,rv,⟨o,n,ho,hc,hd,hdat⟩,_⟩:=I.list (.inl (.inl h))
   exact .list ⟨o,ho,hc,n,hdat⟩ (by simpa using RpL.rq I l q rv)
 | _,_,_,_,.fro (ds:=ds) h l,e,r=>by
  simp only[toPyK] at e
  cases q:toPyKL ds with
  | none=>rw[q] at e;cases e
  | some ps =>
   rw[q] at e;cases e;cases r
   obtain⟨its,rv,⟨o,n,ho,hc,hd,hdat⟩,_⟩:=I.list h
   exact .list ⟨o,ho,hc,n,hdat⟩ (by simpa using RpL.rq I l q rv)
 | _,_,_,_,.dct (ds:=ds) h k l,e,r=>by
  simp only[toPyK] at e
  cases q:toPyKv ds with
  | none=>rw[q] at e;cases e
  | some ps =>
   rw[q] at e;cases e;cases r
   obtain⟨h1,ks,h2,h3⟩:=toPyKv_ok q
   have step:∀ us,Vals _ us→RqAll X.prog X.w s.heap us (ps.map (·.2)):=fun us rv=>RpL.rq I l h1 rv
   rcases k with⟨ls,rfl,k2,rfl⟩|⟨_,ls,hne,rfl,_,_,_,_,k2,_⟩
   ·obtain⟨_,hsys,vs',rel,dd⟩:=dk_rd I.hok (.inr ⟨_,h⟩)
    have ek:ks=ls.map (·.1):=by
     have e2:ks.map Ky.k=(ls.map (·.1)).map Ky.k:=by rw[←h2,k2,List.map_map];rfl
     exact map_k_inj e2
    refine .dict hsys dd ?_ (step _ (kv_vals rel))
    rw[h3,ek,rel.keys,List.map_map];rfl
   ·cases ls with
    | nil=>exact absurd rfl hne
    | cons p ls =>
     rw[h2] at k2
     cases ks with
     | nil=>cases k2
     | cons k ks=>simp at k2
theorem RpL.rq (I:Inv X pins σ H s):∀ {vs:List V} {ds:List D} {ps:List PyData} {us:List Value},RpL X.K H vs ds→toPyKL ds=some ps→Vals vs us→RqAll X.prog X.w s.heap us ps
 | _,_,_,_,.nil,e,r=>by simp only[toPyKL] at e;cases e;cases r;exact .nil
 | _,_,_,_,.cons (d:=d) (ds:=ds) a b,e,r=>by
  simp only[toPyKL] at e
  cases q:toPyK d with
  | none=>rw[q] at e;cases e
  | some p =>
   rw[q] at e
   cases q2:toPyKL ds with
   | none=>rw[q2] at e;cases e
   | some ps =>
    rw[q2] at e;cases e
    cases r with
    | cons r1 r2=>exact .cons (Rp.rq I a q r1) (RpL.rq I b q2 r2)
end
end
end DL
namespace DR
open PySem PySem.Spec PySem.SeqAt PyProof.Rows L2 DL
theorem Rq.rc {P:Program}{w:World}{A:Around}{s:Shared}{u v:Value}{p:PyData}{Q:Value→Shared→Prop}{E:Value→Shared→Prop}(a:Rq P w s.heap u p)(b:Rq P w s.heap v p)(hu:A.units+p.depth<cLine)(q:Q (.bool true) s) :
  wpAny (model P w) A (compareOp .Eq u v) Q E s:=by
 cases a with
 | none=>cases b;exact RcAt.none_none P w E Q q
 | bool x=>cases b;exact RcAt.bool_bool x x P w E Q (by simpa using q)
 | int x t =>
  cases b with
  | int _ t'=>exact RcAt.int_int x t x t' P w E Q (by simpa using q)
 | str x t =>
  cases b with
  | str _ t'=>exact RcAt.str_str x t x t' P w E Q (by simpa using q)
 | list h1 h2 =>
  cases b with
  | list k1 k2 =>
   rename_i a vs xs a' vs'
   have hz:vs.size=vs'.size:=by have:=h2.length;have:=k2.length;simp at *;omega
   have:=RqAll.same A.in1 h2 k2 (by simp only[PyData.depth] at hu;show A.units+1+_<cLine;omega)
   refine rcP_lists h1 k1 hz (by omega) (e:=fun _=>true) (fun j h1 h2=>?_) E Q (by rw[show((List.range vs.size).all fun _=>true)=true from List.all_eq_true.mpr fun _ _=>rfl];exact q)
   have z:=this j (by simpa using h1) (by simpa using h2)
   rw[Array.getElem_toList,Array.getElem_toList] at z;exact z
 | tuple h1 h2 =>
  cases b with
  | tuple k1 k2 =>
   rename_i a vs xs a' vs'
   have hz:vs.size=vs'.size:=by have:=h2.length;have:=k2.length;simp at *;omega
   have:=RqAll.same A.in1 h2 k2 (by simp only[PyData.depth] at hu;show A.units+1+_<cLine;omega)
   refine rcP_tups h1 k1 hz (by omega) (fun j h1 h2=>?_) E Q q
   have z:=this j (by simpa using h1) (by simpa using h2)
   rw[Array.getElem_toList,Array.getElem_toList] at z;exact z
 | dict h1 h2 h3 h4 =>
  cases b with
  | dict k1 k2 k3 k4 =>
   rename_i a vs kvs a' vs'
   have ek:vs.map (·.1)=vs'.map (·.1):=keyPy_inj (by rw[List.map_map,List.map_map];exact h3.symm.trans k3)
   have hl:vs.length=vs'.length:=by simpa using congrArg List.length ek
   have:=RqAll.same A.in1 h4 k4 (by have:=depthKv_snd kvs;simp only[PyData.depth] at hu;show A.units+1+_<cLine;omega)
   exact PySem.W.rcP_dicts h1 k1 h2 k2 (by omega) (r:=true) (fun _=>hits_zip ek this k2) E Q (by simpa [hl] using q)
end DR
namespace DL
open PySem PySem.Spec PyProof.Rows L2 DR
def rSame (K:PySem.W.Frag):R2:=fun x y H Q=>∃ d d' p,Rp K H x d∧Rp K H y d'∧toPyK d=some p∧toPyK d'=some p∧p.depth≤64∧Q (.bl true) H
theorem op_same {X:Cx}(hu:X.A.units+64<cLine):OpR X (compareOp .Eq) (rSame X.K):=by
 intro pins s σ H x y v u Q I rx ry h
 obtain⟨d,d',p,h1,h2,e1,e2,hp,q⟩:=h
 exact(Rp.rq I h1 e1 rx).rc (Rp.rq I h2 e2 ry) (by omega) ⟨.bl true,H,I,rfl,q⟩
open Classical in
noncomputable def dSame (x y:DV)(μ:Mem):Res R:=match (peek μ x).bind toPyK with
 | some p=>if(peek μ y).bind toPyK=some p∧p.depth≤64 then .ok (.dat (.bl true)) μ else .bad
 | none=>.bad
theorem od_same {K:PySem.W.Frag}:OpD K (rSame K) dSame:=fun W ρ G H σ μ v w x y Q R hx hy hp=>by
 unfold dSame at hp
 cases e:peek μ x with
 | none=>rw[e] at hp;exact hp.elim
 | some d =>
  rw[e] at hp
  simp only[Option.bind_some] at hp
  cases e2:toPyK d with
  | none=>rw[e2] at hp;exact hp.elim
  | some p =>
   simp only[e2] at hp
   by_cases c:(peek μ y).bind toPyK=some p∧p.depth≤64
   ·rw[if_pos c] at hp
    obtain⟨c1,c2⟩:=c
    cases e3:peek μ y with
    | none=>rw[e3] at c1;cases c1
    | some d' =>
     rw[e3] at c1
     exact⟨d,d',p,peek_ok R hx e,peek_ok R hy e3,e2,c1,c2,hp.okD R (.bl _)⟩
   ·rw[if_neg c] at hp;exact hp.elim
end DL
namespace DL
open PySem PySem.Spec PyProof.Rows L2 DR
def altR {α:Type}(a b:Res α):Res α:=match a with
 | .bad=>b
 | r=>r
def alt2 (g g':DV→DV→Mem→Res R)(x y:DV)(μ:Mem):Res R:=altR (g x y μ) (g' x y μ)
def alt1 (g g':List DV→Mem→Res R)(xs:List DV)(μ:Mem):Res R:=altR (g xs μ) (g' xs μ)
theorem OpD.alt {K:PySem.W.Frag}{r r':R2}{g g':DV→DV→Mem→Res R}(h:OpD K r g)(h':OpD K r' g'):OpD K (fun x y H Q=>r x y H Q∨r' x y H Q) (alt2 g g'):=fun W ρ G H σ μ v w x y Q R hx hy hp=>by
 unfold alt2 altR at hp
 cases e:g x y μ with
 | bad=>rw[e] at hp;exact .inr (h' W ρ G H σ μ v w x y Q R hx hy hp)
 | ok a m=>rw[e] at hp;exact .inl (h W ρ G H σ μ v w x y Q R hx hy (by rw[e];exact hp))
 | exc a m=>rw[e] at hp;exact .inl (h W ρ G H σ μ v w x y Q R hx hy (by rw[e];exact hp))
theorem CallD.alt {K:PySem.W.Frag}{r r':List V→Hp→VK→Prop}{g g':List DV→Mem→Res R}(h:CallD K r g)(h':CallD K r' g'):CallD K (fun x H Q=>r x H Q∨r' x H Q) (alt1 g g'):=fun W ρ G H σ μ vs xs Q R hx hp=>by
 unfold alt1 altR at hp
 cases e:g xs μ with
 | bad=>rw[e] at hp;exact .inr (h' W ρ G H σ μ vs xs Q R hx hp)
 | ok a m=>rw[e] at hp;exact .inl (h W ρ G H σ μ vs xs Q R hx (by rw[e];exact hp))
 | exc a m=>rw[e] at hp;exact .inl (h W ρ G H σ μ vs xs Q R hx (by rw[e];exact hp))
theorem IxR.or {X:Cx}{r r':R2}(h:IxR X r)(h':IxR X r'):IxR X (fun x y H Q=>r x y H Q∨r' x y H Q) :=
 fun a b pins s σ H x y v u Q I rx ry q=>q.elim (h a b pins s σ H x y v u Q I rx ry) (h' a b pins s σ H x y v u Q I rx ry)
def rDG:R2:=fun x y H Q=>∃ a v,x=.ref a∧DGet H a y (some v)∧Q v H
theorem ix_dict {X:Cx}(hu:X.A.units+1<cLine):IxR X rDG:=by
 intro value slice pins s σ H x y v u Q I rx ry h hs
 obtain⟨a,z,rfl,g,q⟩:=h
 obtain rfl:v=Value.ref a:=rx
 have hT:=dict_typeIs I g
 unfold subscriptTail
 refine wpAny_bind ?_
 rw[getitemInPython_of_ne hT.not_modules]
 refine wpAny_bind (wpAny_specialOf hT PySem.F.slot_dict_getitem.lookup ?_)
 have last:wpAny (model X.prog X.w) X.A (subscripted slice false (.ref a) u) (fun r s3=>wpAny (model X.prog X.w) X.A (letTemporaryGo value (.ref a) r >>= fun _=>pure r) (EP X pins σ Q) X.xe s3) X.xe s:=by
  rw[hs]
  exact wpAny_operating (wpAny_mono (d_getItem hu I g ry fun w' s3 I3 rw'=>⟨z,H,I3,rw',q⟩) (fun r s3 h3=>wpAny_bind (wpAny_letTemporaryGo (wpAny_pure h3))) fun _ _ x=>x)
 first
  | exact wpAny_pure (wpAny_bind last)
  | exact wpAny_bind (wpAny_pure (wpAny_bind last))
  | exact wpAny_bind last
theorem od_dget {K:PySem.W.Frag}:OpD K rDG dGet:=fun W ρ G H σ μ v w x y Q R hx hy hp=>by
 unfold dGet at hp
 match e1:dctOf x μ,e2:keyD y with
 | none,_=>simp only[e1] at hp;exact hp.elim
 | some _,none=>simp only[e1,e2] at hp;exact hp.elim
 | some kvs,some k =>
  simp only[e1,e2] at hp
  by_cases hk:allK kvs=true
  case neg=>rw[if_neg hk] at hp;exact hp.elim
  rw[if_pos hk] at hp
  obtain⟨a,o,vs,rfl,h1,h2,h3⟩:=dctOf_ok R hx e1
  obtain⟨ls,rfl,hl⟩:=dK_of h2 h3 hk
  rcases prl_val (k:=k) hl with⟨_,q⟩|⟨v,z,q1,q2,q3⟩
  ·rw[q] at hp;exact hp.elim
  ·rw[q2] at hp
   exact⟨a,v,rfl,.inl ⟨ls,k,h1,keyD_ok hy e2,q1.symm⟩,hp.okV R q3⟩
def dIxA:DV→DV→Mem→Res R:=alt2 dIx dGet
theorem pm_idxA (K:PySem.W.Frag){X:Cx}{W:WX}{a b:Expr}{ta tb:TE}{fa fb:EM}{pos:Pos}(hu:X.A.units+64<cLine)(ha:PM X W a ta fa)(hb:PM X W b tb fb)(hs:PlainIx b)(hK:X.K=K:=by rfl) :
  PM X W (.Subscript a b pos) (tOp (fun x y H Q=>rIx K x y H Q∨rDG x y H Q) ta tb) (eOp dIxA fa fb):=by
 subst hK;exact pm_ix (IxR.or ix_seq (ix_dict (by omega))) (OpD.alt od_ix od_dget) ha hb hs
def rDI (neg:Bool):R2:=fun y x H Q=>∃ a o,x=.ref a∧DGet H a y o∧Q (.bl (o.isSome != neg)) H
theorem op_din {X:Cx}(hu:X.A.units+1<cLine):OpR X (compareOp .In) (rDI false):=by
 intro pins s σ H x y v u Q I rx ry h
 obtain⟨a,o,rfl,g,q⟩:=h
 obtain rfl:u=Value.ref a:=ry
 exact d_in hu I g rx fun s3 I3=>⟨.bl o.isSome,H,I3,rfl,by simpa using q⟩
theorem od_din {K:PySem.W.Frag}(neg:Bool):OpD K (rDI neg) (dInD neg):=fun W ρ G H σ μ v w x y Q R hx hy hp=>inD_ok R hx hy hp
def rSgn (neg:Bool):R2:=fun x y H Q=>∃ (c:Nat) (z:Str),x=.str ⟨#[c]⟩∧y=.str z∧Q (.bl (decide (c∈z.cps.toList) != neg)) H
theorem op_sgn {X:Cx}:OpR X (compareOp .In) (rSgn false):=fun pins s σ H x y v u Q I rx ry ⟨c,z,h1,h2,q⟩=>op_in_sign pins s σ H x y v u Q I rx ry ⟨c,z,h1,h2,by simpa using q⟩
def sgn:Str→Option Nat
 | ⟨⟨[c]⟩⟩=>some c
 | _=>none
def dSgn (neg:Bool)(x y:DV)(μ:Mem):Res R:=match (asStr x).bind sgn,asStr y with
 | some c,some z=>.ok (.dat (.bl (decide (c∈z.cps.toList) != neg))) μ
 | _,_=>.bad
theorem sgn_ok {x:Str}{c:Nat}(h:sgn x=some c):x=⟨#[c]⟩:=by
 unfold sgn at h
 split at h
 ·cases h;rfl
 ·cases h
theorem od_sgn {K:PySem.W.Frag}(neg:Bool):OpD K (rSgn neg) (dSgn neg):=fun W ρ G H σ μ v w x y Q R hx hy hp=>by
 unfold dSgn at hp
 cases e1:asStr x with
 | none=>rw[e1] at hp;exact hp.elim
 | some a =>
  rw[e1] at hp
  simp only[Option.bind_some] at hp
  cases e3:sgn a with
  | none=>rw[e3] at hp;exact hp.elim
  | some c =>
   cases e2:asStr y with
   | none=>rw[e3,e2] at hp;exact hp.elim
   | some z =>
    rw[e3,e2] at hp
    have:=asStr_ok hx e1
    rw[sgn_ok e3] at this
    exact⟨c,z,this,asStr_ok hy e2,hp.okD R (.bl _)⟩
def dInA (neg:Bool):DV→DV→Mem→Res R:=alt2 (dIn neg) (alt2 (dInD neg) (dSgn neg))
def rInA (K:PySem.W.Frag)(neg:Bool):R2:=fun x y H Q=>rIn K neg x y H Q∨(fun x y H Q=>rDI neg x y H Q∨rSgn neg x y H Q) x y H Q
theorem od_inA {K:PySem.W.Frag}(neg:Bool):OpD K (rInA K neg) (dInA neg):=OpD.alt (od_in neg) (OpD.alt (od_din neg) (od_sgn neg))
theorem op_inA (K:PySem.W.Frag){X:Cx}(hu:X.A.units+64<cLine)(hK:X.K=K:=by rfl):OpR X (compareOp .In) (rInA K false):=by subst hK;exact OpR.or op_in_seq (OpR.or (op_din (by omega)) op_sgn)
noncomputable def dEqA:DV→DV→Mem→Res R:=alt2 dEq dSame
theorem od_eqA {K:PySem.W.Frag}:OpD K (fun x y H Q=>rEqQ K x y H Q∨rSame K x y H Q) dEqA:=OpD.alt od_eq od_same
theorem op_eqA (K:PySem.W.Frag){X:Cx}(h:X.A.units+64<cLine)(hK:X.K=K:=by rfl):OpR X (compareOp .Eq) (fun x y H Q=>rEqQ K x y H Q∨rSame K x y H Q):=by subst hK;exact OpR.or (op_eqQ h) (op_same h)
def dLenA:List DV→Mem→Res R:=alt1 (d1 dLen) (d1 dLenK)
theorem call_lenA (K:PySem.W.Frag){X:Cx}(hK:X.K=K:=by rfl):CallR X (.builtin "len") (fun xs H Q=>(∃ x n,xs=[x]∧LenV K x H n∧Q (V.int ↑n) H)∨rLenK xs H Q):=CallR.or (call_lenK K hK) cr_lenK
theorem cd_lenA {K:PySem.W.Frag}:CallD K (fun xs H Q=>(∃ x n,xs=[x]∧LenV K x H n∧Q (V.int (n:Nat)) H)∨rLenK xs H Q) dLenA:=CallD.alt cd_len cd_lenK
def dReprA:List DV→Mem→Res R:=alt1 (d1 dRepr) (d1 dReprD)
theorem cr_reprA (K:PySem.W.Frag){X:Cx}{k:Nat}(h:Room k X.A)(hg:X.A.guards=some [])(hK:X.K=K:=by rfl):CallR X (.builtin "repr") (fun xs H Q=>rRepr K xs H Q∨rReprD K xs H Q):=CallR.or (cr_reprK K h hg hK) (cr_reprDK K h hg hK)
theorem cd_reprA {K:PySem.W.Frag}:CallD K (fun xs H Q=>rRepr K xs H Q∨rReprD K xs H Q) dReprA:=CallD.alt cd_repr cd_reprD
def dListA:List DV→Mem→Res R:=alt1 (d1 dList) (d1 dListK)
theorem call_listA (K:PySem.W.Frag){X:Cx}(hc:X.calm=true)(hK:X.K=K:=by rfl):CallR X (.type "list") (fun xs H Q=>(∃ p ys,xs=[V.ref p]∧(SqL K H p ys∨SqT K H p ys)∧∀ (l:Addr),H l=none→Q (V.ref l) (upd H l (HO.lst ys)))∨rListK xs H Q):=CallR.or (call_list_ofK K hK) (call_listDK hc)
theorem cd_listA {K:PySem.W.Frag}:CallD K (fun xs H Q=>(∃ p ys,xs=[V.ref p]∧(SqL K H p ys∨SqT K H p ys)∧∀ (l:Addr),H l=none→Q (V.ref l) (upd H l (HO.lst ys)))∨rListK xs H Q) dListA:=CallD.alt cd_list cd_listK
def dPow:DV→DV→Mem→Res R:=d2I (fun i j=>decide (0≤j∧j≤1000000∧i.natAbs<2^64)) fun i j=>.int (i^j.toNat)
theorem od_pow {K:PySem.W.Frag}:OpD K (rI (fun i j=>0≤j∧j≤1000000∧i.natAbs<2^64) fun i j=>V.int (i^j.toNat)) dPow:=od_I (fun i j h=>of_decide_eq_true h) fun _ _ _=>.int _
end DL
namespace DL
open PySem PySem.Spec PyProof.Rows L2
def Sat {α:Type}(r:Res α)(Q:α→Mem→Prop)(E:Xc→Mem→Prop):Prop:=match r with
 | .ok a μ=>Q a μ
 | .exc x μ=>E x μ
 | .bad=>False
structure PO where
 nx:Env→Mem→Prop
 rt:R→Mem→Prop
 bk:Env→Mem→Prop
 ct:Env→Mem→Prop
 ex:Xc→Env→Mem→Prop
def SatS (o:Out)(P:PO):Prop:=match o with
 | .next δ μ=>P.nx δ μ
 | .ret r μ=>P.rt r μ
 | .brk δ μ=>P.bk δ μ
 | .cnt δ μ=>P.ct δ μ
 | .exc x δ μ=>P.ex x δ μ
 | .bad=>False
def TupK (xs:List DV)(Q:D→Prop):Prop:=∃ ds,allDat xs=some ds∧ds.length≤sizeLine∧Q (.tup ds)
def SeqK (x:DV)(Q:List D→Prop):Prop:=∃ ds,seqD x=some ds∧Q ds
def IntK (x:DV)(Q:Int→Prop):Prop:=∃ i,asI x=some i∧Q i
def StrK (x:DV)(Q:Str→Prop):Prop:=∃ i,asStr x=some i∧Q i
def ParK (xs:List DV)(Q:DV→DV→Prop):Prop:=∃ x y,xs=[x,y]∧Q x y
def TgtK (h:D→Env→Option Env)(δ:Env)(x:DV)(Q:Env→Prop):Prop:=∃ d δ',x=.dat d∧h d δ=some δ'∧Q δ'
section
variable {α β:Type}{Q:α→Mem→Prop}{QR:R→Mem→Prop}{QV:DV→Mem→Prop}{QA:List DV→Mem→Prop}{QB:Bool→Mem→Prop}{QO:Option Int→Mem→Prop}{QI:List D→Mem→Prop}{E:Xc→Mem→Prop}{P:PO}{δ:Env}{μ:Mem}{N:Nat}
theorem Sat.mono {r:Res α}{Q':α→Mem→Prop}{E':Xc→Mem→Prop}(h:Sat r Q E)(hq:∀ a μ,Q a μ→Q' a μ)(he:∀ x μ,E x μ→E' x μ):Sat r Q' E':=by
 cases r with
 | ok a μ=>exact hq a μ h
 | exc x μ=>exact he x μ h
 | bad=>exact h
theorem Sat.of_eq {r:Res α}{a:α}(e:r=.ok a μ)(h:Q a μ):Sat r Q E:=by rw[e];exact h
theorem Sat.eq {r:Res α}{a:α}(h:Sat r (fun x μ'=>x=a∧μ'=μ) (fun _ _=>False)):r=.ok a μ:=by
 cases r with
 | ok b μ1=>obtain⟨rfl,rfl⟩:=h;rfl
 | exc x μ1=>exact h.elim
 | bad=>exact h.elim
theorem sat_bind {r:Res α}{k:α→Mem→Res β}{Q':β→Mem→Prop}(h:Sat r (fun a μ=>Sat (k a μ) Q' E) E):Sat (r.bind k) Q' E:=by
 cases r with
 | ok a μ=>exact h
 | exc x μ=>exact h
 | bad=>exact h
theorem sat_lift {r:Res α}{k:α→Mem→Out}(h:Sat r (fun a μ=>SatS (k a μ) P) (fun x μ=>P.ex x δ μ)):SatS (lift r δ k) P:=by
 cases r with
 | ok a μ=>exact h
 | exc x μ=>exact h
 | bad=>exact h
def FzK (r:R)(μ:Mem)(QV:DV→Mem→Prop):Prop:=match frz r with
 | some x=>QV x μ
 | none=>False
theorem x_fz {f:EM}(h:Sat (f δ μ) (fun r μ'=>FzK r μ' QV) E):Sat (frzV f δ μ) QV E:=by
 refine sat_bind (h.mono (fun r μ' q=>?_) fun _ _ q=>q)
 unfold FzK at q
 cases e:frz r with
 | none=>rw[e] at q;exact q.elim
 | some x=>rw[e] at q;exact q
theorem z_dat {d:D}(h:QV (.dat d) μ):FzK (.dat d) μ QV:=h
theorem z_loc {n:Nat}(h:QV (.loc n) μ):FzK (.loc n) μ QV:=h
theorem z_nl {xs:List DV}{ds:List D}(e:allDat xs=some ds)(h:QV (.dat (.lst ds)) μ):FzK (.nl xs) μ QV:=by unfold FzK frz;simp only;rw[e];exact h
theorem z_nlm {ds:List D}(h:QV (.dat (.lst ds)) μ):FzK (.nl (ds.map DV.dat)) μ QV:=z_nl (allDat_map ds) h
theorem allDat_mapf {γ:Type}(f:γ→D)(ys:List γ):allDat (ys.map fun y=>.dat (f y))=some (ys.map f):=by
 have:=allDat_map (ys.map f);rw[List.map_map] at this;exact this
theorem z_nlf {γ:Type}{f:γ→D}{ys:List γ}(h:QV (.dat (.lst (ys.map f))) μ):FzK (.nl (ys.map fun y=>.dat (f y))) μ QV:=z_nl (allDat_mapf f ys) h
theorem z_nlc {γ:Type}{f:γ→D}{ys:List γ}(h:QV (.dat (.lst (ys.map f))) μ):FzK (.nl (ys.map (DV.dat∘f))) μ QV:=z_nl (allDat_mapf f ys) h
theorem v_var {i:Nat}{x:DV}(e:δ[i]?=some (some x))(h:QV x μ):Sat (frzV (eVar i) δ μ) QV E:=by rw[fz_var e];exact h
theorem v_D {d:D}(h:QV (.dat d) μ):Sat (frzV (eD d) δ μ) QV E:=h
theorem x_var {i:Nat}{x:DV}(e:δ[i]?=some (some x))(h:QR (ofV x) μ):Sat (eVar i δ μ) QR E:=by rw[ev_var e];exact h
theorem x_D {d:D}(h:QR (.dat d) μ):Sat (eD d δ μ) QR E:=h
theorem a_nilK (h:QA [] μ):Sat (aNil δ μ) QA E:=h
theorem a_consK {f:EM}{g:AM}(h:Sat (frzV f δ μ) (fun x μ1=>Sat (g δ μ1) (fun xs μ2=>QA (x::xs) μ2) E) E):Sat (aCons f g δ μ) QA E :=
 sat_bind (h.mono (fun x μ1 q=>sat_bind q) fun _ _ q=>q)
theorem x_tup {g:AM}(h:Sat (g δ μ) (fun xs μ1=>TupK xs fun d=>QR (.dat d) μ1) E):Sat (eTup g δ μ) QR E:=by
 refine sat_bind (h.mono (fun xs μ1 q=>?_) fun _ _ q=>q)
 obtain⟨ds,e,hl,q⟩:=q
 rw[e];simp only;rw[if_pos hl];exact q
theorem x_lst {g:AM}(h:Sat (g δ μ) (fun xs μ1=>xs.length≤sizeLine∧QR (.nl xs) μ1) E):Sat (eLst g δ μ) QR E:=by
 refine sat_bind (h.mono (fun xs μ1 q=>?_) fun _ _ q=>q)
 rw[if_pos q.1];exact q.2
theorem x_op {g:DV→DV→Mem→Res R}{fa fb:EM}(h:Sat (frzV fa δ μ) (fun x μ1=>Sat (frzV fb δ μ1) (fun y μ2=>Sat (g x y μ2) QR E) E) E):Sat (eOp g fa fb δ μ) QR E :=
 sat_bind (h.mono (fun x μ1 q=>sat_bind q) fun _ _ q=>q)
theorem x_cb {g:List DV→Mem→Res R}{fa:AM}(h:Sat (fa δ μ) (fun xs μ1=>Sat (g xs μ1) QR E) E):Sat (eCB g fa δ μ) QR E:=sat_bind h
theorem x_un {g:DV→Mem→Res R}{f:EM}(h:Sat (frzV f δ μ) (fun x μ1=>Sat (g x μ1) QR E) E):Sat (eUn g f δ μ) QR E:=sat_bind h
theorem x_bm {c:DV→Mem→Bool}{g:DV→List DV→Mem→Res R}{f:EM}{fa:AM}(h:Sat (frzV f δ μ) (fun x μ1=>c x μ1=true∧Sat (fa δ μ1) (fun xs μ2=>Sat (g x xs μ2) QR E) E) E):Sat (eBM c g f fa δ μ) QR E:=by
 refine sat_bind (h.mono (fun x μ1 q=>?_) fun _ _ q=>q)
 rw[if_pos q.1];exact sat_bind q.2
theorem x_bm0 {c:DV→Mem→Bool}{g:DV→List DV→Mem→Res R}{f:EM}(h:Sat (frzV f δ μ) (fun x μ1=>c x μ1=true∧Sat (g x [] μ1) QR E) E):Sat (eBM0 c g f δ μ) QR E:=by
 refine sat_bind (h.mono (fun x μ1 q=>?_) fun _ _ q=>q)
 rw[if_pos q.1];exact q.2
def BlK (r:R)(μ:Mem)(QB:Bool→Mem→Prop):Prop:=match asB r with
 | some b=>QB b μ
 | none=>False
theorem b_bl {b:Bool}(h:QB b μ):BlK (.dat (.bl b)) μ QB:=h
theorem BlK.ex {r:R}(h:BlK r μ QB):∃ b,r=.dat (.bl b)∧asB r=some b∧QB b μ:=by
 unfold BlK at h
 match r with
 | .dat (.bl b)=>exact⟨b,rfl,rfl,h⟩
 | .dat .non=>exact h.elim
 | .dat (.int _)=>exact h.elim
 | .dat (.str _)=>exact h.elim
 | .dat (.ty _)=>exact h.elim
 | .dat (.ref _)=>exact h.elim
 | .dat (.tup _)=>exact h.elim
 | .dat (.lst _)=>exact h.elim
 | .dat (.fro _)=>exact h.elim
 | .dat (.dct _)=>exact h.elim
 | .dat (.ins _ _)=>exact h.elim
 | .loc _=>exact h.elim
 | .nl _=>exact h.elim
 | .nk _=>exact h.elim
theorem t_B {f:EM}(h:Sat (f δ μ) (fun r μ'=>BlK r μ' QB) E):Sat (tmB f δ μ) QB E:=by
 refine sat_bind (h.mono (fun r μ1 q=>?_) fun _ _ q=>q)
 obtain⟨b,rfl,_,q⟩:=q.ex;exact q
theorem t_not {f:TM}(h:Sat (f δ μ) (fun b μ'=>QB (!b) μ') E):Sat (tmNot f δ μ) QB E:=sat_bind h
theorem t_and {f g:TM}(h:Sat (f δ μ) (fun b μ'=>if b=true then Sat (g δ μ') QB E else QB false μ') E):Sat (tmAnd f g δ μ) QB E:=by
 refine sat_bind (h.mono (fun b μ1 q=>?_) fun _ _ q=>q)
 cases b <;> exact q
theorem t_or {f g:TM}(h:Sat (f δ μ) (fun b μ'=>if b=true then QB true μ' else Sat (g δ μ') QB E) E):Sat (tmOr f g δ μ) QB E:=by
 refine sat_bind (h.mono (fun b μ1 q=>?_) fun _ _ q=>q)
 cases b <;> exact q
theorem t_yes (h:QB true μ):Sat (tmYes δ μ) QB E:=h
theorem x_and {f g:EM}(h:Sat (f δ μ) (fun r μ'=>BlK r μ' fun b μ'=>if b=true then Sat (g δ μ') QR E else QR (.dat (.bl false)) μ') E):Sat (eAnd f g δ μ) QR E:=by
 refine sat_bind (h.mono (fun r μ1 q=>?_) fun _ _ q=>q)
 obtain⟨b,rfl,_,q⟩:=q.ex;cases b <;> exact q
theorem x_or {f g:EM}(h:Sat (f δ μ) (fun r μ'=>BlK r μ' fun b μ'=>if b=true then QR (.dat (.bl true)) μ' else Sat (g δ μ') QR E) E):Sat (eOr f g δ μ) QR E:=by
 refine sat_bind (h.mono (fun r μ1 q=>?_) fun _ _ q=>q)
 obtain⟨b,rfl,_,q⟩:=q.ex;cases b <;> exact q
theorem x_not {f:EM}(h:Sat (f δ μ) (fun r μ'=>BlK r μ' fun b μ'=>QR (.dat (.bl (!b))) μ') E):Sat (eNot f δ μ) QR E:=by
 refine sat_bind (h.mono (fun r μ1 q=>?_) fun _ _ q=>q)
 obtain⟨b,rfl,_,q⟩:=q.ex;exact q
theorem x_if {f:TM}{g h:EM}(k:Sat (f δ μ) (fun b μ'=>if b=true then Sat (g δ μ') QR E else Sat (h δ μ') QR E) E):Sat (eIf f g h δ μ) QR E:=by
 refine sat_bind (k.mono (fun b μ1 q=>?_) fun _ _ q=>q)
 cases b <;> exact q
theorem x_isN {f:EM}(h:Sat (frzV f δ μ) (fun x μ'=>QR (.dat (.bl (isNon x))) μ') E):Sat (eIsN f δ μ) QR E:=sat_bind h
theorem x_notN {f:EM}(h:Sat (frzV f δ μ) (fun x μ'=>QR (.dat (.bl (!isNon x))) μ') E):Sat (eNotN f δ μ) QR E:=sat_bind h
theorem o_noneK (h:QO none μ):Sat (oNone δ μ) QO E:=h
theorem o_someK {f:EM}(h:Sat (frzV f δ μ) (fun x μ'=>IntK x fun i=>QO (some i) μ') E):Sat (oSome f δ μ) QO E:=by
 refine sat_bind (h.mono (fun x μ1 q=>?_) fun _ _ q=>q)
 obtain⟨i,e,q⟩:=q;rw[e];exact q
theorem x_sl {f:EM}{lo hi:OM}(h:Sat (frzV f δ μ) (fun x μ1=>Sat (lo δ μ1) (fun l μ2=>Sat (hi δ μ2) (fun u μ3=>Sat (dSl x l u μ3) QR E) E) E) E):Sat (eSl f lo hi δ μ) QR E :=
 sat_bind (h.mono (fun _ _ q=>sat_bind (q.mono (fun _ _ q=>sat_bind q) fun _ _ q=>q)) fun _ _ q=>q)
theorem x_chain {g g':DV→DV→Mem→Res R}{fa fb fc:EM}(h:Sat (frzV fa δ μ) (fun x μ1=>Sat (frzV fb δ μ1) (fun y μ2=>Sat (g x y μ2) (fun r μ3=>BlK r μ3 fun b μ3=>if b=true then Sat (frzV fc δ μ3) (fun z μ4=>Sat (g' y z μ4) QR E) E else QR (.dat (.bl false)) μ3) E) E) E) :
  Sat (eChain g g' fa fb fc δ μ) QR E:=by
 refine sat_bind (h.mono (fun _ _ q=>sat_bind (q.mono (fun _ _ q=>sat_bind (q.mono (fun r _ q=>?_) fun _ _ q=>q)) fun _ _ q=>q)) fun _ _ q=>q)
 obtain⟨b,rfl,_,q⟩:=q.ex;cases b
 ·exact q
 ·exact sat_bind q
theorem x_inK {neg:Bool}{ks:List Str}{f:EM}(h:Sat (frzV f δ μ) (fun x μ'=>StrK x fun z=>QR (.dat (.bl (if neg=true then !(ks.any fun k=>decide (k=z)) else ks.any fun k=>decide (k=z)))) μ') E):Sat (eInK neg ks f δ μ) QR E:=by
 refine sat_bind (h.mono (fun x μ1 q=>?_) fun _ _ q=>q)
 obtain⟨i,e,q⟩:=q;rw[e];exact q
theorem i_seq {f:EM}(h:Sat (frzV f δ μ) (fun x μ'=>SeqK x fun ds=>QI ds μ') E):Sat (imSeq f δ μ) QI E:=by
 refine sat_bind (h.mono (fun x μ1 q=>?_) fun _ _ q=>q)
 obtain⟨ds,e,q⟩:=q;rw[e];exact q
theorem i_enum {f:EM}(h:Sat (frzV f δ μ) (fun x μ'=>SeqK x fun ds=>QI (enumD 0 ds) μ') E):Sat (imEnum (aCons f aNil) δ μ) QI E:=by
 refine sat_bind (sat_bind (h.mono (fun x μ1 q=>?_) fun _ _ q=>q))
 obtain⟨ds,e,q⟩:=q
 show Sat (match seqD x with|some ds=>_|none=>_) _ _
 rw[e];exact q
theorem i_rng {f:EM}(h:Sat (frzV f δ μ) (fun x μ'=>IntK x fun j=>(-2^62≤j∧j<2^62)∧QI (rngD 0 j.toNat) μ') E):Sat (imRng (aCons f aNil) δ μ) QI E:=by
 refine sat_bind (sat_bind (h.mono (fun x μ1 q=>?_) fun _ _ q=>q))
 obtain⟨j,e,hj,q⟩:=q
 show Sat (match asI x with|some j=>_|none=>_) _ _
 rw[e];simp only;rw[if_pos hj];exact q
theorem i_rng2 {f g:EM}(h:Sat (frzV f δ μ) (fun x μ1=>Sat (frzV g δ μ1) (fun y μ'=>IntK x fun i=>IntK y fun j=>(-2^62≤i∧i<2^62∧-2^62≤j∧j<2^62)∧QI (rngD i (j-i).toNat) μ') E) E):Sat (imRng2 (aCons f (aCons g aNil)) δ μ) QI E:=by
 refine sat_bind (sat_bind (h.mono (fun x μ1 q=>sat_bind (sat_bind (q.mono (fun y μ2 q=>?_) fun _ _ q=>q))) fun _ _ q=>q))
 obtain⟨i,e,j,e2,hj,q⟩:=q
 show Sat (match asI x,asI y with|some i,some j=>_|_,_=>_) _ _
 rw[e,e2];simp only;rw[if_pos hj];exact q
theorem x_lc {fi:IM}{h:D→Env→Option Env}{ft:TM}{fe:EM}{vs:List Nat}(k:Sat (fi δ μ) (fun ds μ1=>ds.length≤sizeLine∧Sat (lcL h ft fe (wipeE δ vs) ds μ1) (fun ys μ2=>QR (.nl ys) μ2) E) E):Sat (eLc fi h ft fe vs δ μ) QR E:=by
 refine sat_bind (k.mono (fun ds μ1 q=>?_) fun _ _ q=>q)
 rw[if_pos q.1];exact sat_bind q.2
theorem lc_mapK {γ:Type}{h:D→Env→Option Env}{fe:EM}{xs:List γ}{enc:γ→D}(y:γ→D)(hx:∀ x∈xs,∃ δ1,h (enc x) δ=some δ1∧Sat (frzV fe δ1 μ) (fun r μ'=>r=.dat (y x)∧μ'=μ) (fun _ _=>False))(hq:QA (xs.map fun x=>.dat (y x)) μ):Sat (lcL h tmYes fe δ (xs.map enc) μ) QA E:=by
 have:lcL h tmYes fe δ (xs.map enc) μ=.ok (xs.map fun x=>.dat (y x)) μ:=by
  clear hq
  induction xs with
  | nil=>rfl
  | cons x xs ih =>
   obtain⟨δ1,h1,h2⟩:=hx x List.mem_cons_self
   have h2:=h2.eq
   simp only[List.map_cons,lcL,h1,tmYes,h2,ih fun z hz=>hx z (List.mem_cons_of_mem _ hz),Res.bind]
 rw[this];exact hq
theorem lc_filK {γ:Type}{h:D→Env→Option Env}{ft:TM}{fe:EM}{xs:List γ}{enc:γ→D}(c:γ→Bool)(y:γ→D)(hx:∀ x∈xs,∃ δ1,h (enc x) δ=some δ1∧Sat (ft δ1 μ) (fun b μ'=>b=c x∧μ'=μ) (fun _ _=>False)∧(c x=true→Sat (frzV fe δ1 μ) (fun r μ'=>r=.dat (y x)∧μ'=μ) (fun _ _=>False)))(hq:QA ((xs.filter c).map fun x=>.dat (y x)) μ):Sat (lcL h ft fe δ (xs.map enc) μ) QA E:=by
 have:lcL h ft fe δ (xs.map enc) μ=.ok ((xs.filter c).map fun x=>.dat (y x)) μ:=by
  clear hq
  induction xs with
  | nil=>rfl
  | cons x xs ih =>
   obtain⟨δ1,h1,h2,h3⟩:=hx x List.mem_cons_self
   have h2:=h2.eq
   have ih:=ih fun z hz=>hx z (List.mem_cons_of_mem _ hz)
   cases hc:c x with
   | true =>
    have h3:=(h3 hc).eq
    simp only[List.map_cons,lcL,h1,h2,hc,h3,ih,Res.bind,List.filter_cons,if_pos]
   | false=>simp[lcL,h1,h2,hc,ih,List.filter_cons]
 rw[this];exact hq
theorem s_seq {g h:SM}(k:SatS (g N δ μ) { P with nx:=fun δ μ=>SatS (h N δ μ) P }):SatS (gSeq g h N δ μ) P:=by
 unfold gSeq
 cases e:g N δ μ <;> rw[e] at k <;> exact k
theorem s_next (h:P.nx δ μ):SatS (gNext N δ μ) P:=h
theorem s_asg {i:Nat}{f:EM}(h:Sat (frzV f δ μ) (fun x μ'=>P.nx (δ.set i (some x)) μ') (fun x μ=>P.ex x δ μ)):SatS (gAsg i f N δ μ) P:=sat_lift h
theorem s_drop {f:EM}(h:Sat (f δ μ) (fun _ μ'=>P.nx δ μ') (fun x μ=>P.ex x δ μ)):SatS (gDrop f N δ μ) P:=sat_lift h
theorem s_ret {f:EM}(h:Sat (f δ μ) (fun r μ'=>P.rt r μ') (fun x μ=>P.ex x δ μ)):SatS (gRet f N δ μ) P:=sat_lift h
theorem s_if {f:TM}{g h:SM}(k:Sat (f δ μ) (fun b μ'=>if b=true then SatS (g N δ μ') P else SatS (h N δ μ') P) (fun x μ=>P.ex x δ μ)):SatS (gIf f g h N δ μ) P:=by
 refine sat_lift (k.mono (fun b μ' q=>?_) fun _ _ q=>q)
 cases b <;> exact q
theorem s_new {i:Nat}{f:EM}(h:Sat (f δ μ) (fun r μ'=>SatS (bindR N i r δ μ') P) (fun x μ=>P.ex x δ μ)):SatS (gNew i f N δ μ) P:=sat_lift h
theorem r_dat {i:Nat}{d:D}(h:P.nx (δ.set i (some (.dat d))) μ):SatS (bindR N i (.dat d) δ μ) P:=h
theorem r_loc {i n:Nat}(h:P.nx (δ.set i (some (.loc n))) μ):SatS (bindR N i (.loc n) δ μ) P:=h
theorem r_nl {i:Nat}{xs:List DV}(hN:N≤μ.length)(h:P.nx (δ.set i (some (.loc μ.length))) (μ++[.lst xs])):SatS (bindR N i (.nl xs) δ μ) P:=by
 unfold bindR;simp only;rw[if_pos hN];exact h
theorem s_tgt {h:D→Env→Option Env}{f:EM}(k:Sat (frzV f δ μ) (fun x μ'=>TgtK h δ x fun δ'=>P.nx δ' μ') (fun x μ=>P.ex x δ μ)):SatS (gTgt h f N δ μ) P:=by
 refine sat_lift (k.mono (fun x μ' q=>?_) fun _ _ q=>q)
 obtain⟨d,δ',rfl,e,q⟩:=q
 simp only;rw[e];exact q
theorem s_par {i j:Nat}{fa:AM}(h:Sat (fa δ μ) (fun xs μ'=>ParK xs fun x y=>P.nx ((δ.set i (some x)).set j (some y)) μ') (fun x μ=>P.ex x δ μ)):SatS (gPar i j fa N δ μ) P:=by
 refine sat_lift (h.mono (fun xs μ' q=>?_) fun _ _ q=>q)
 obtain⟨x,y,rfl,q⟩:=q;exact q
theorem s_par2 {i j:Nat}{f g:EM}(h:Sat (f δ μ) (fun r μ1=>∃ δ1 μ2,bindR N i r δ μ1=.next δ1 μ2∧Sat (g δ μ2) (fun r2 μ3=>SatS (bindR N j r2 δ1 μ3) P) (fun x μ=>P.ex x δ μ)) (fun x μ=>P.ex x δ μ)):SatS (gPar2 i j f g N δ μ) P:=by
 refine sat_lift (h.mono (fun r μ' q=>?_) fun _ _ q=>q)
 obtain⟨δ1,μ2,e,q⟩:=q
 rw[e];exact sat_lift q
theorem s_aug {i:Nat}{op:Int→Int→Int}{fe:EM}{a:Int}(e:δ[i]?=some (some (.dat (.int a))))(h:Sat (frzV fe δ μ) (fun y μ'=>IntK y fun b=>P.nx (δ.set i (some (.dat (.int (op a b))))) μ') (fun x μ=>P.ex x δ μ)):SatS (gAug i op fe N δ μ) P:=by
 unfold gAug;rw[e]
 show SatS (lift (frzV fe δ μ) δ fun y μ'=>match asI y with|some b=>Out.next (δ.set i (some (.dat (.int (op a b))))) μ' | none=>.bad) P
 refine sat_lift (h.mono (fun y μ' q=>?_) fun _ _ q=>q)
 obtain⟨b,e,q⟩:=q;rw[e];exact q
theorem s_set {fo fi fe:EM}(h:Sat (frzV fe δ μ) (fun y μ1=>Sat (frzV fo δ μ1) (fun x μ2=>Sat (frzV fi δ μ2) (fun i μ3=>∃ μ4,setPl μ3 x i y=some μ4∧P.nx δ μ4) (fun x μ=>P.ex x δ μ)) (fun x μ=>P.ex x δ μ)) (fun x μ=>P.ex x δ μ)):SatS (gSet fo fi fe N δ μ) P:=by
 refine sat_lift (sat_bind (h.mono (fun y μ1 q=>sat_bind (q.mono (fun x μ2 q=>sat_bind (q.mono (fun i μ3 q=>?_) fun _ _ q=>q)) fun _ _ q=>q)) fun _ _ q=>q))
 obtain⟨μ4,e,q⟩:=q;rw[e];exact q
theorem s_disp {i:Nat}{f:NM}(h:Sat (f N δ μ) (fun xs μ1=>xs.length≤sizeLine∧SatS (bindR N i (.nl xs) δ μ1) P) (fun x μ=>P.ex x δ μ)):SatS (gDisp i f N δ μ) P:=by
 unfold gDisp
 cases e:f N δ μ with
 | ok xs μ1=>rw[e] at h;simp only;rw[if_pos h.1];exact h.2
 | exc x μ1=>rw[e] at h;exact h
 | bad=>rw[e] at h;exact h.elim
def NpK (N:Nat)(r:R)(μ:Mem)(QV:DV→Mem→Prop):Prop:=match newPl N r μ with
 | none=>False
 | some (x,μ2)=>QV x μ2
theorem n_nilK (h:QA [] μ):Sat (nNil N δ μ) QA E:=h
theorem n_consK {f:EM}{g:NM}(h:Sat (f δ μ) (fun r μ1=>NpK N r μ1 fun x μ2=>Sat (g N δ μ2) (fun xs μ3=>QA (x::xs) μ3) E) E):Sat (nCons f g N δ μ) QA E:=by
 refine sat_bind (h.mono (fun r μ1 q=>?_) fun _ _ q=>q)
 unfold NpK at q
 cases e:newPl N r μ1 with
 | none=>rw[e] at q;exact q.elim
 | some p=>rw[e] at q;exact sat_bind q
theorem p_dat {d:D}(h:QV (.dat d) μ):NpK N (.dat d) μ QV:=h
theorem p_loc {n:Nat}(h:QV (.loc n) μ):NpK N (.loc n) μ QV:=h
def ClK (N:Nat)(r:R)(μ:Mem)(QR:R→Mem→Prop)(E:Xc→Mem→Prop):Prop:=Sat (closeR N r μ) QR E
abbrev endP (N:Nat)(QR:R→Mem→Prop)(E:Xc→Mem→Prop):PO :=
 { nx:=fun _ μ'=>QR (.dat .non) (μ'.take N),rt:=fun r μ'=>ClK N r μ' QR E,bk:=fun _ _=>False,ct:=fun _ _=>False,ex:=fun x _ μ'=>E x (μ'.take N) }
theorem x_call {g:SM}{n m:Nat}{args:List DV}(hn:args.length=n)(h:SatS (g μ.length (args.map some++List.replicate m none) μ) (endP μ.length QR E)):Sat (callD g n m args μ) QR E:=by
 unfold callD;rw[if_pos hn];unfold callF
 cases e:g μ.length (args.map some++List.replicate m none) μ <;> rw[e] at h <;> exact h
theorem k_dat {d:D}{μ':Mem}(e:μ'.take N=μ)(h:QR (.dat d) μ):ClK N (.dat d) μ' QR E:=by unfold ClK;rw[close_dat e];exact h
theorem k_nl {xs:List DV}{μ':Mem}(e:μ'.take N=μ)(hb:belowA N xs=true)(h:QR (.nl xs) μ):ClK N (.nl xs) μ' QR E:=by
 unfold ClK closeR;simp only;rw[if_pos hb,e];exact h
theorem below_map (ds:List D):belowA N (ds.map DV.dat)=true:=by
 unfold belowA;rw[List.all_eq_true];intro x hx
 obtain⟨d,_,rfl⟩:=List.mem_map.mp hx;rfl
theorem below_mapf {γ:Type}(f:γ→D)(ys:List γ):belowA N (ys.map fun y=>.dat (f y))=true:=by
 unfold belowA;rw[List.all_eq_true];intro x hx
 obtain⟨d,_,rfl⟩:=List.mem_map.mp hx;rfl
theorem k_nlf {γ:Type}{f:γ→D}{ys:List γ}{μ':Mem}(e:μ'.take N=μ)(h:QR (.nl (ys.map fun y=>.dat (f y))) μ):ClK N (.nl (ys.map fun y=>.dat (f y))) μ' QR E:=k_nl e (below_mapf f ys) h
theorem s_for {ks:List Bool}{fi:IM}{h:D→Env→Option Env}{gb:SM}(k:Sat (fi δ μ) (fun ds μ'=>SatS (forL μ'.length ks h gb N ds δ μ') P) (fun x μ=>P.ex x δ μ)):SatS (gFor ks fi h gb N δ μ) P:=sat_lift k
theorem for_inv {M:Nat}{ks:List Bool}{h:D→Env→Option Env}{gb:SM}{ds:List D}(I:Nat→Env→Mem→Prop)(h0:I 0 δ μ)
  (ht:∀ i d,ds[i]?=some d→∀ δ μ,I i δ μ→∃ δ1,h d δ=some δ1∧SatS (gb N δ1 μ) { nx:=fun δ' μ'=>I (i+1) (cut M ks δ') (μ'.take M),ct:=fun δ' μ'=>I (i+1) (cut M ks δ') (μ'.take M),bk:=fun δ' μ'=>P.nx (cut M ks δ') (μ'.take M),rt:=P.rt,ex:=P.ex })
  (he:∀ δ μ,I ds.length δ μ→P.nx δ μ):SatS (forL M ks h gb N ds δ μ) P:=by
 have key:∀ (n:Nat) (i:Nat) (δ:Env) (μ:Mem),i+n=ds.length→I i δ μ→SatS (forL M ks h gb N (ds.drop i) δ μ) P:=by
  intro n
  induction n with
  | zero =>
   intro i δ μ hi hI
   rw[List.drop_of_length_le (by omega)]
   have:i=ds.length:=by omega
   subst this
   exact he δ μ hI
  | succ n ih =>
   intro i δ μ hi hI
   have hl:i<ds.length:=by omega
   rw[List.drop_eq_getElem_cons hl]
   obtain⟨δ1,h1,h2⟩:=ht i ds[i] (List.getElem?_eq_getElem hl) δ μ hI
   simp only[forL,h1]
   cases e:gb N δ1 μ with
   | next δ' μ'=>rw[e] at h2;exact ih (i+1) _ _ (by omega) h2
   | cnt δ' μ'=>rw[e] at h2;exact ih (i+1) _ _ (by omega) h2
   | brk δ' μ'=>rw[e] at h2;exact h2
   | ret r μ'=>rw[e] at h2;exact h2
   | exc x δ' μ'=>rw[e] at h2;exact h2
   | bad=>rw[e] at h2;exact h2
 have:=key ds.length 0 δ μ (by omega) h0
 rw[List.drop_zero] at this;exact this
theorem s_wh {fuel:Nat}{ks:List Bool}{ft:TM}{gb:SM}(k:SatS (whL μ.length ks ft gb N fuel δ μ) P):SatS (gWh fuel ks ft gb N δ μ) P:=k
end
section
variable {QR:R→Mem→Prop}{E:Xc→Mem→Prop}{P:PO}{δ:Env}{μ:Mem}{N n:Nat}{i j:Int}{s t:Str}{ds es:List D}{xs ys:List DV}{Q Q':Prop}
theorem sl_sz {α:Type}{l:List α}(h:l.length≤1000000):l.length≤sizeLine:=Nat.le_trans h (by decide)
theorem sz_lit {n:Nat}(h:Nat.ble n 1000000=true):n≤sizeLine:=Nat.le_trans (Nat.le_of_ble_eq_true h) (by decide)
theorem if_T (h:Q):if true=true then Q else Q':=h
theorem if_F (h:Q'):if false=true then Q else Q':=h
theorem if_dec {p:Prop}[Decidable p](h1:p→Q)(h2:¬p→Q'):if decide p=true then Q else Q':=by
 by_cases h:p
 ·rw[if_pos (decide_eq_true h)];exact h1 h
 ·rw[if_neg (by simpa using h)];exact h2 h
theorem if_ndec {p:Prop}[Decidable p](h1:¬p→Q)(h2:p→Q'):if(!decide p)=true then Q else Q':=by
 by_cases h:p
 ·rw[if_neg (by simpa using h)];exact h2 h
 ·rw[if_pos (by simpa using h)];exact h1 h
theorem tk {ds:List D}{Q:D→Prop}(e:allDat xs=some ds)(hl:ds.length≤sizeLine)(h:Q (.tup ds)):TupK xs Q:=⟨ds,e,hl,h⟩
theorem sk_l {Q:List D→Prop}(h:Q ds):SeqK (.dat (.lst ds)) Q:=⟨ds,rfl,h⟩
theorem sk_f {Q:List D→Prop}(h:Q ds):SeqK (.dat (.fro ds)) Q:=⟨ds,rfl,h⟩
theorem sk_t {Q:List D→Prop}(h:Q ds):SeqK (.dat (.tup ds)) Q:=⟨ds,rfl,h⟩
theorem ik {Q:Int→Prop}(h:Q i):IntK (.dat (.int i)) Q:=⟨i,rfl,h⟩
theorem stk {Q:Str→Prop}(h:Q s):StrK (.dat (.str s)) Q:=⟨s,rfl,h⟩
theorem pk {x y:DV}{Q:DV→DV→Prop}(h:Q x y):ParK [x,y] Q:=⟨x,y,rfl,h⟩
theorem gk {h:D→Env→Option Env}{d:D}{δ':Env}{Q:Env→Prop}(e:h d δ=some δ')(k:Q δ'):TgtK h δ (.dat d) Q:=⟨d,δ',rfl,e,k⟩
theorem l_addI (h:QR (.dat (.int (i+j))) μ):Sat (dAdd (.dat (.int i)) (.dat (.int j)) μ) QR E:=h
theorem l_addT (hl:ds.length+es.length≤sizeLine)(h:QR (.dat (.tup (ds++es))) μ):Sat (dAdd (.dat (.tup ds)) (.dat (.tup es)) μ) QR E:=by
 unfold dAdd;simp only[asI,asStr,asT];rw[if_pos hl];exact h
theorem l_addL (hl:ds.length+es.length≤sizeLine)(h:QR (.nl ((ds++es).map DV.dat)) μ):Sat (dAdd (.dat (.lst ds)) (.dat (.lst es)) μ) QR E:=by
 rw[add_lst hl];exact h
theorem l_sub (h:QR (.dat (.int (i-j))) μ):Sat (dSub (.dat (.int i)) (.dat (.int j)) μ) QR E:=h
theorem l_mul (hc:cMul i j=true)(h:QR (.dat (.int (i*j))) μ):Sat (dMul (.dat (.int i)) (.dat (.int j)) μ) QR E:=by rw[mul_ok hc];exact h
theorem l_mod (hc:0<j)(h:QR (.dat (.int (i % j))) μ):Sat (dMod (.dat (.int i)) (.dat (.int j)) μ) QR E:=by rw[mod_ok hc];exact h
theorem l_lt (h:QR (.dat (.bl (decide (i<j)))) μ):Sat (dLt (.dat (.int i)) (.dat (.int j)) μ) QR E:=h
theorem l_le (h:QR (.dat (.bl (decide (i≤j)))) μ):Sat (dLe (.dat (.int i)) (.dat (.int j)) μ) QR E:=h
theorem l_gt (h:QR (.dat (.bl (decide (j<i)))) μ):Sat (dGt (.dat (.int i)) (.dat (.int j)) μ) QR E:=h
theorem l_ge (h:QR (.dat (.bl (decide (j≤i)))) μ):Sat (dGe (.dat (.int i)) (.dat (.int j)) μ) QR E:=h
theorem l_neg (h:QR (.dat (.int (-i))) μ):Sat (dNeg (.dat (.int i)) μ) QR E:=h
theorem int_beq (i j:Int):(i==j)=decide (i=j):=by
 by_cases h:i=j
 ·subst h;simp
 ·rw[decide_eq_false h];exact beq_false_of_ne h
theorem l_eqI (h:QR (.dat (.bl (decide (i=j)))) μ):Sat (dEq (.dat (.int i)) (.dat (.int j)) μ) QR E:=by
 rw[show dEq (.dat (.int i)) (.dat (.int j)) μ=.ok (.dat (.bl (decide (i=j)))) μ from(dEqB_int true i j μ).trans (by rw[int_beq];cases decide (i=j) <;> rfl)];exact h
theorem l_neI (h:QR (.dat (.bl (!decide (i=j)))) μ):Sat (dNe (.dat (.int i)) (.dat (.int j)) μ) QR E:=by
 rw[show dNe (.dat (.int i)) (.dat (.int j)) μ=.ok (.dat (.bl (!decide (i=j)))) μ from(dEqB_int false i j μ).trans (by rw[int_beq];cases decide (i=j) <;> rfl)];exact h
theorem l_eqS (h:QR (.dat (.bl (decide (s=t)))) μ):Sat (dEq (.dat (.str s)) (.dat (.str t)) μ) QR E:=by
 rw[show dEq (.dat (.str s)) (.dat (.str t)) μ=.ok (.dat (.bl (decide (s=t)))) μ from eq_str.trans (by cases decide (s=t) <;> rfl)];exact h
theorem l_neS (h:QR (.dat (.bl (!decide (s=t)))) μ):Sat (dNe (.dat (.str s)) (.dat (.str t)) μ) QR E:=by
 rw[show dNe (.dat (.str s)) (.dat (.str t)) μ=.ok (.dat (.bl (!decide (s=t)))) μ from eq_str.trans (by cases decide (s=t) <;> rfl)];exact h
theorem l_ixT {d:D}(e:atI ds i=some d)(h:QR (.dat d) μ):Sat (dIx (.dat (.tup ds)) (.dat (.int i)) μ) QR E:=by rw[dIx_tup e];exact h
theorem l_ixL {d:D}(e:atI ds i=some d)(h:QR (.dat d) μ):Sat (dIx (.dat (.lst ds)) (.dat (.int i)) μ) QR E:=by rw[dIx_lst e];exact h
theorem l_slT {lo hi:Option Int}(h:QR (.dat (.tup (cutL ds lo hi))) μ):Sat (dSl (.dat (.tup ds)) lo hi μ) QR E:=h
theorem l_slL {lo hi:Option Int}(h:QR (.nl ((cutL ds lo hi).map DV.dat)) μ):Sat (dSl (.dat (.lst ds)) lo hi μ) QR E:=by rw[sl_lst];exact h
theorem l_lenT (h:QR (.dat (.int ds.length)) μ):Sat (d1 dLen [.dat (.tup ds)] μ) QR E:=by
 have:d1 dLen [.dat (.tup ds)] μ=.ok (.dat (.int ds.length)) μ:=by simp[d1,dLen,asS,asL,asT]
 rw[this];exact h
theorem l_lenL (h:QR (.dat (.int ds.length)) μ):Sat (d1 dLen [.dat (.lst ds)] μ) QR E:=by rw[len_lst];exact h
theorem l_int (h:QR (.dat (.int i)) μ):Sat (d1 dInt [.dat (.int i)] μ) QR E:=h
theorem l_intB {b:Bool}(h:QR (.dat (.int (if b=true then 1 else 0))) μ):Sat (d1 dInt [.dat (.bl b)] μ) QR E:=h
theorem l_listT (h:QR (.nl (ds.map DV.dat)) μ):Sat (d1 dList [.dat (.tup ds)] μ) QR E:=h
theorem l_listL (h:QR (.nl (ds.map DV.dat)) μ):Sat (d1 dList [.dat (.lst ds)] μ) QR E:=h
theorem l_tupL (h:QR (.dat (.tup ds)) μ):Sat (d1 dTuple [.dat (.lst ds)] μ) QR E:=by rw[tuple_lst];exact h
theorem l_tupT (h:QR (.dat (.tup ds)) μ):Sat (d1 dTuple [.dat (.tup ds)] μ) QR E:=h
theorem bools_map {γ:Type}(f:γ→Bool)(xs:List γ):bools (xs.map fun x=>.dat (.bl (f x)))=some (xs.map f):=by
 induction xs with
 | nil=>rfl
 | cons x xs ih=>simp[bools,asBl,ih]
theorem l_all {γ:Type}{f:γ→Bool}{g:List Bool→Bool}{xs:List γ}(h:QR (.dat (.bl (g (xs.map f)))) μ):Sat (d1 (dAll g) [.dat (.lst (xs.map fun x=>.bl (f x)))] μ) QR E:=by
 have:asL μ (.dat (.lst (xs.map fun x=>.bl (f x))))=some (xs.map fun x=>.dat (.bl (f x))):=by simp[asL]
 unfold d1;simp only;unfold dAll;rw[this];simp only;rw[bools_map];exact h
theorem l_extL (e:μ[n]?=some (.lst xs))(hl:xs.length+ds.length≤sizeLine)(h:QR (.dat .non) (μ.set n (.lst (xs++ds.map DV.dat)))):Sat (dExtend (.loc n) [.dat (.lst ds)] μ) QR E:=by
 have hb:(ds.map DV.dat).all (belowB n)=true:=by
  rw[List.all_eq_true];intro x hx;obtain⟨d,_,rfl⟩:=List.mem_map.mp hx;rfl
 unfold dExtend;simp only[atPl,e,asM];rw[if_pos ⟨by simpa using hl,hb⟩];exact h
theorem l_inT {ss:List Str}(h:QR (.dat (.bl (decide (s∈ss)))) μ):Sat (dIn false (.dat (.str s)) (.dat (.tup (ss.map D.str))) μ) QR E:=by rw[in_tup];exact h
theorem l_ninT {ss:List Str}(h:QR (.dat (.bl (!decide (s∈ss)))) μ):Sat (dIn true (.dat (.str s)) (.dat (.tup (ss.map D.str))) μ) QR E:=by rw[in_tup];exact h
theorem in_lst {neg:Bool}{s:Str}{ss:List Str}{μ:Mem}:dIn neg (.dat (.str s)) (.dat (.lst (ss.map D.str))) μ=.ok (.dat (.bl (if neg=true then !decide (s∈ss) else decide (s∈ss)))) μ:=by
 have:(ss.map D.str).map DV.dat=ss.map fun s=>.dat (.str s):=by simp
 simp only[dIn,flat,asS,asL,asT,Option.map,this,flats_str,inV_str]
theorem l_inL {ss:List Str}(h:QR (.dat (.bl (decide (s∈ss)))) μ):Sat (dIn false (.dat (.str s)) (.dat (.lst (ss.map D.str))) μ) QR E:=by rw[in_lst];exact h
theorem l_ninL {ss:List Str}(h:QR (.dat (.bl (!decide (s∈ss)))) μ):Sat (dIn true (.dat (.str s)) (.dat (.lst (ss.map D.str))) μ) QR E:=by rw[in_lst];exact h
theorem ty_l:tyL (.dat (.lst ds)) μ=true:=rfl
theorem ty_s:tyS (.dat (.str s)) μ=true:=rfl
end
section
variable {QR:R→Mem→Prop}{QV:DV→Mem→Prop}{QB:Bool→Mem→Prop}{E:Xc→Mem→Prop}{P:PO}{δ δ':Env}{μ μ':Mem}{N n i:Nat}{x:Option DV}{d:D}{ds:List D}{xs:List DV}
theorem al_nil:allDat []=some []:=rfl
theorem al_cons (h:allDat xs=some ds):allDat (.dat d::xs)=some (d::ds):=by simp only[allDat,h];rfl
theorem set_now {g:SM}(e:δ.set i x=δ')(h:SatS (g N δ' μ) P):SatS (g N (δ.set i x) μ) P:=e▸h
theorem x_varD (e:δ[i]?=some (some (.dat d)))(h:QR (.dat d) μ):Sat (eVar i δ μ) QR E:=x_var e h
theorem x_varL (e:δ[i]?=some (some (.loc n)))(h:QR (.loc n) μ):Sat (eVar i δ μ) QR E:=x_var e h
theorem z_ofD (h:QV (.dat d) μ):FzK (ofV (.dat d)) μ QV:=h
theorem b_ofD {b:Bool}(h:QB b μ):BlK (ofV (.dat (.bl b))) μ QB:=h
end
def MkK (N:Nat)(QR:R→Mem→Prop):R→Mem→Prop:=fun r μ2=>∃ nm' gs ds,r=.dat .non∧μ2[N+1]?=some (.ins nm' gs)∧allDat (gs.map (·.2))=some ds∧QR (.dat (.ins nm' ((gs.map (·.1)).zip ds))) (μ2.take N)
section
variable {QR:R→Mem→Prop}{E:Xc→Mem→Prop}{P:PO}{δ:Env}{μ:Mem}{N n:Nat}{nm m:Str}{F:List DV→Mem→Res R}{f fa fb fo fe:EM}{g:AM}{x:DV}{d:D}{fs:List (Str×D)}{gs:List (Str×DV)}{tab:Kd→Option Bool}{i j:Int}{ds:List D}{xs:List DV}
theorem x_fld {nms:List Str}(h:Sat (frzV f δ μ) (fun x μ1=>∃ nm fs y,insAt μ1 x=some (nm,fs)∧nm∈nms∧fs.lookup m=some y∧QR (ofV y) μ1) E):Sat (eFld nms m f δ μ) QR E:=by
 refine sat_bind (h.mono (fun x μ1 q=>?_) fun _ _ q=>q)
 obtain⟨nm,fs,y,e1,e2,e3,q⟩:=q
 rw[e1];simp only;rw[if_pos e2,e3];exact q
theorem x_meth (h:Sat (frzV f δ μ) (fun x μ1=>isI nm m x μ1=true∧Sat (g δ μ1) (fun xs μ2=>Sat (F (x::xs) μ2) QR E) E) E):Sat (eMeth nm m F f g δ μ) QR E:=by
 refine sat_bind (h.mono (fun x μ1 q=>?_) fun _ _ q=>q)
 rw[if_pos q.1];exact sat_bind q.2
theorem x_make (h:Sat (g δ μ) (fun xs μ1=>Sat (F (.loc (μ1.length+1)::xs) (μ1++[.own]++[.ins nm []])) (MkK μ1.length QR) (fun x μ2=>E x (μ2.take μ1.length))) E):Sat (eMake nm F g δ μ) QR E:=by
 refine sat_bind (h.mono (fun xs μ1 q=>?_) fun _ _ q=>q)
 unfold mkRun
 cases e:F (.loc (μ1.length+1)::xs) (μ1++[.own]++[.ins nm []]) with
 | ok r μ2 =>
  rw[e] at q
  obtain⟨nm',gs,ds,rfl,e1,e2,q⟩:=q
  simp only[mkEnd,e1,e2];exact q
 | exc x μ2=>rw[e] at q;exact q
 | bad=>rw[e] at q;exact q
theorem x_lenO (h:Sat (frzV f δ μ) (fun x μ1=>isI nm "" x μ1=true∧Sat (F [x] μ1) (fun r μ2=>∃ n:Int,r=.dat (.int n)∧(0≤n∧n<2^63)∧QR (.dat (.int n)) μ2) (fun _ _=>False)) E):Sat (eLenO nm F f δ μ) QR E:=by
 refine sat_bind (h.mono (fun x μ1 q=>?_) fun _ _ q=>q)
 rw[if_pos q.1]
 have q:=q.2
 cases e:F [x] μ1 with
 | ok r μ2=>rw[e] at q;obtain⟨n,rfl,hn,q⟩:=q;simp only;rw[if_pos hn];exact q
 | exc x μ2=>rw[e] at q;exact q.elim
 | bad=>rw[e] at q;exact q.elim
theorem x_eqO {others:List Str} (h:Sat (frzV fa δ μ) (fun x μ1=>Sat (frzV fb δ μ1) (fun y μ2=>(isI nm "" x μ2=true∧((kindOf μ2 y).bind (tabC nm others)).isSome=true)∧Sat (F [x,y] μ2) (fun r μ3=>BlK r μ3 fun b μ3=>QR (.dat (.bl b)) μ3) (fun _ _=>False)) E) E):Sat (eEqO nm others F fa fb δ μ) QR E:=by
 refine sat_bind (h.mono (fun x μ1 q=>sat_bind (q.mono (fun y μ2 q=>?_) fun _ _ q=>q)) fun _ _ q=>q)
 rw[if_pos q.1]
 have q:=q.2
 cases e:F [x,y] μ2 with
 | ok r μ3=>rw[e] at q;obtain⟨b,rfl,_,q⟩:=BlK.ex q;exact q
 | exc x μ2=>rw[e] at q;exact q.elim
 | bad=>rw[e] at q;exact q.elim
theorem x_inO {neg:Bool} (h:Sat (frzV fa δ μ) (fun y μ1=>Sat (frzV fb δ μ1) (fun x μ2=>isI nm "" x μ2=true∧Sat (F [x,y] μ2) (fun r μ3=>BlK r μ3 fun b μ3=>QR (.dat (.bl (b != neg))) μ3) (fun _ _=>False)) E) E):Sat (eInO nm neg F fa fb δ μ) QR E:=by
 refine sat_bind (h.mono (fun y μ1 q=>sat_bind (q.mono (fun x μ2 q=>?_) fun _ _ q=>q)) fun _ _ q=>q)
 rw[if_pos q.1]
 have q:=q.2
 cases e:F [x,y] μ2 with
 | ok r μ3=>rw[e] at q;obtain⟨b,rfl,_,q⟩:=BlK.ex q;exact q
 | exc x μ2=>rw[e] at q;exact q.elim
 | bad=>rw[e] at q;exact q.elim
theorem l_isi {kd:Kd}{b:Bool}(e:kindOf μ x=some kd)(e2:tab kd=some b)(h:QR (.dat (.bl b)) μ):Sat (dIsi tab x μ) QR E:=by
 unfold dIsi;rw[e];simp only;rw[e2];exact h
theorem s_fld {nms:List Str}(h:Sat (frzV fe δ μ) (fun y μ1=>Sat (frzV fo δ μ1) (fun x μ2=>∃ μ3,setFld nms μ2 x m y=some μ3∧P.nx δ μ3) (fun x μ=>P.ex x δ μ)) (fun x μ=>P.ex x δ μ)):SatS (gFld nms m fo fe N δ μ) P:=by
 refine sat_lift (sat_bind (h.mono (fun y μ1 q=>sat_bind (q.mono (fun x μ2 q=>?_) fun _ _ q=>q)) fun _ _ q=>q))
 obtain⟨μ3,e,q⟩:=q;rw[e];exact q
theorem l_mm {f:Int→Int→Int}(h:QR (.dat (.int (f i j))) μ):Sat (d2 (dMM f) [.dat (.int i),.dat (.int j)] μ) QR E:=h
end
section
variable {QR:R→Mem→Prop}{QV:DV→Mem→Prop}{E:Xc→Mem→Prop}{P:PO}{δ δ':Env}{μ μ':Mem}{N n i:Nat}{nm m m':Str}{f:EM}{x:DV}{d:D}{ds:List D}{xs:List DV}{nms:List Str}
def FldK (nms:List Str)(m:Str)(x:DV)(μ:Mem)(Q:DV→Prop):Prop:=∃ nm fs y,insAt μ x=some (nm,fs)∧nm∈nms∧fs.lookup m=some y∧Q y
theorem x_fldK (h:Sat (frzV f δ μ) (fun x μ1=>FldK nms m x μ1 fun y=>QR (ofV y) μ1) E):Sat (eFld nms m f δ μ) QR E:=x_fld h
theorem fk1 {Q:DV→Prop}(hn:nm∈nms)(h:Q (.dat d)):FldK nms m (.dat (.ins nm [(m,d)])) μ Q:=⟨nm,_,.dat d,rfl,hn,by simp[List.lookup],h⟩
theorem isI_one (h:(m==m')=false):isI nm m (.dat (.ins nm [(m',d)])) μ=true:=by
 unfold isI;simp[insAt,List.lookup,h]
end
theorem mem_here {μ:Mem}{p:Pl}{X:Mem}:(μ++p::X)[μ.length]?=some p:=by simp
theorem mem_take {μ X:Mem}:(μ++X).take μ.length=μ:=by simp
section
variable {QR:R→Mem→Prop}{E:Xc→Mem→Prop}{P:PO}{δ δ':Env}{μ μ':Mem}{N n:Nat}{cls others:List Str}{nm:Str}{d:D}{x:DV}
theorem kb_NoneType_int:kitB "NoneType" "int"=some false:=by decide +kernel
theorem kb_NoneType_bool:kitB "NoneType" "bool"=some false:=by decide +kernel
theorem kb_NoneType_str:kitB "NoneType" "str"=some false:=by decide +kernel
theorem kb_NoneType_tuple:kitB "NoneType" "tuple"=some false:=by decide +kernel
theorem kb_NoneType_list:kitB "NoneType" "list"=some false:=by decide +kernel
theorem kb_NoneType_dict:kitB "NoneType" "dict"=some false:=by decide +kernel
theorem kb_bool_int:kitB "bool" "int"=some true:=by decide +kernel
theorem kb_bool_bool:kitB "bool" "bool"=some true:=by decide +kernel
theorem kb_bool_str:kitB "bool" "str"=some false:=by decide +kernel
theorem kb_bool_tuple:kitB "bool" "tuple"=some false:=by decide +kernel
theorem kb_bool_list:kitB "bool" "list"=some false:=by decide +kernel
theorem kb_bool_dict:kitB "bool" "dict"=some false:=by decide +kernel
theorem kb_int_int:kitB "int" "int"=some true:=by decide +kernel
theorem kb_int_bool:kitB "int" "bool"=some false:=by decide +kernel
theorem kb_int_str:kitB "int" "str"=some false:=by decide +kernel
theorem kb_int_tuple:kitB "int" "tuple"=some false:=by decide +kernel
theorem kb_int_list:kitB "int" "list"=some false:=by decide +kernel
theorem kb_int_dict:kitB "int" "dict"=some false:=by decide +kernel
theorem kb_str_int:kitB "str" "int"=some false:=by decide +kernel
theorem kb_str_bool:kitB "str" "bool"=some false:=by decide +kernel
theorem kb_str_str:kitB "str" "str"=some true:=by decide +kernel
theorem kb_str_tuple:kitB "str" "tuple"=some false:=by decide +kernel
theorem kb_str_list:kitB "str" "list"=some false:=by decide +kernel
theorem kb_str_dict:kitB "str" "dict"=some false:=by decide +kernel
theorem kb_tuple_int:kitB "tuple" "int"=some false:=by decide +kernel
theorem kb_tuple_bool:kitB "tuple" "bool"=some false:=by decide +kernel
theorem kb_tuple_str:kitB "tuple" "str"=some false:=by decide +kernel
theorem kb_tuple_tuple:kitB "tuple" "tuple"=some true:=by decide +kernel
theorem kb_tuple_list:kitB "tuple" "list"=some false:=by decide +kernel
theorem kb_tuple_dict:kitB "tuple" "dict"=some false:=by decide +kernel
theorem kb_list_int:kitB "list" "int"=some false:=by decide +kernel
theorem kb_list_bool:kitB "list" "bool"=some false:=by decide +kernel
theorem kb_list_str:kitB "list" "str"=some false:=by decide +kernel
theorem kb_list_tuple:kitB "list" "tuple"=some false:=by decide +kernel
theorem kb_list_list:kitB "list" "list"=some true:=by decide +kernel
theorem kb_list_dict:kitB "list" "dict"=some false:=by decide +kernel
theorem kb_dict_int:kitB "dict" "int"=some false:=by decide +kernel
theorem kb_dict_bool:kitB "dict" "bool"=some false:=by decide +kernel
theorem kb_dict_str:kitB "dict" "str"=some false:=by decide +kernel
theorem kb_dict_tuple:kitB "dict" "tuple"=some false:=by decide +kernel
theorem kb_dict_list:kitB "dict" "list"=some false:=by decide +kernel
theorem kb_dict_dict:kitB "dict" "dict"=some true:=by decide +kernel
theorem is_non_int (h:QR (.dat (.bl false)) μ):Sat (dIsi (tabT "int" cls) (.dat .non) μ) QR E:=l_isi rfl (show tabT "int" cls (.b "NoneType")=some false from kb_NoneType_int) h
theorem is_non_bool (h:QR (.dat (.bl false)) μ):Sat (dIsi (tabT "bool" cls) (.dat .non) μ) QR E:=l_isi rfl (show tabT "bool" cls (.b "NoneType")=some false from kb_NoneType_bool) h
theorem is_non_str (h:QR (.dat (.bl false)) μ):Sat (dIsi (tabT "str" cls) (.dat .non) μ) QR E:=l_isi rfl (show tabT "str" cls (.b "NoneType")=some false from kb_NoneType_str) h
theorem is_non_tuple (h:QR (.dat (.bl false)) μ):Sat (dIsi (tabT "tuple" cls) (.dat .non) μ) QR E:=l_isi rfl (show tabT "tuple" cls (.b "NoneType")=some false from kb_NoneType_tuple) h
theorem is_non_list (h:QR (.dat (.bl false)) μ):Sat (dIsi (tabT "list" cls) (.dat .non) μ) QR E:=l_isi rfl (show tabT "list" cls (.b "NoneType")=some false from kb_NoneType_list) h
theorem is_non_dict (h:QR (.dat (.bl false)) μ):Sat (dIsi (tabT "dict" cls) (.dat .non) μ) QR E:=l_isi rfl (show tabT "dict" cls (.b "NoneType")=some false from kb_NoneType_dict) h
theorem is2_non_list_tuple (h:QR (.dat (.bl false)) μ):Sat (dIsi (tabT2 "list" "tuple" cls) (.dat .non) μ) QR E:=l_isi rfl (show tabT2 "list" "tuple" cls (.b "NoneType")=some false from by simp only[tabT2,kb_NoneType_list,kb_NoneType_tuple]) h
theorem isC_non (h:QR (.dat (.bl false)) μ):Sat (dIsi (tabC nm others) (.dat .non) μ) QR E:=l_isi rfl (show tabC nm others (.b "NoneType")=some false from by simp[tabC]) h
theorem is_bl_int {b:Bool} (h:QR (.dat (.bl true)) μ):Sat (dIsi (tabT "int" cls) (.dat (.bl b)) μ) QR E:=l_isi rfl (show tabT "int" cls (.b "bool")=some true from kb_bool_int) h
theorem is_bl_bool {b:Bool} (h:QR (.dat (.bl true)) μ):Sat (dIsi (tabT "bool" cls) (.dat (.bl b)) μ) QR E:=l_isi rfl (show tabT "bool" cls (.b "bool")=some true from kb_bool_bool) h
theorem is_bl_str {b:Bool} (h:QR (.dat (.bl false)) μ):Sat (dIsi (tabT "str" cls) (.dat (.bl b)) μ) QR E:=l_isi rfl (show tabT "str" cls (.b "bool")=some false from kb_bool_str) h
theorem is_bl_tuple {b:Bool} (h:QR (.dat (.bl false)) μ):Sat (dIsi (tabT "tuple" cls) (.dat (.bl b)) μ) QR E:=l_isi rfl (show tabT "tuple" cls (.b "bool")=some false from kb_bool_tuple) h
theorem is_bl_list {b:Bool} (h:QR (.dat (.bl false)) μ):Sat (dIsi (tabT "list" cls) (.dat (.bl b)) μ) QR E:=l_isi rfl (show tabT "list" cls (.b "bool")=some false from kb_bool_list) h
theorem is_bl_dict {b:Bool} (h:QR (.dat (.bl false)) μ):Sat (dIsi (tabT "dict" cls) (.dat (.bl b)) μ) QR E:=l_isi rfl (show tabT "dict" cls (.b "bool")=some false from kb_bool_dict) h
theorem is2_bl_list_tuple {b:Bool} (h:QR (.dat (.bl false)) μ):Sat (dIsi (tabT2 "list" "tuple" cls) (.dat (.bl b)) μ) QR E:=l_isi rfl (show tabT2 "list" "tuple" cls (.b "bool")=some false from by simp only[tabT2,kb_bool_list,kb_bool_tuple]) h
theorem isC_bl {b:Bool}(h:QR (.dat (.bl false)) μ):Sat (dIsi (tabC nm others) (.dat (.bl b)) μ) QR E:=l_isi rfl (show tabC nm others (.b "bool")=some false from by simp[tabC]) h
theorem is_int_int {i:Int} (h:QR (.dat (.bl true)) μ):Sat (dIsi (tabT "int" cls) (.dat (.int i)) μ) QR E:=l_isi rfl (show tabT "int" cls (.b "int")=some true from kb_int_int) h
theorem is_int_bool {i:Int} (h:QR (.dat (.bl false)) μ):Sat (dIsi (tabT "bool" cls) (.dat (.int i)) μ) QR E:=l_isi rfl (show tabT "bool" cls (.b "int")=some false from kb_int_bool) h
theorem is_int_str {i:Int} (h:QR (.dat (.bl false)) μ):Sat (dIsi (tabT "str" cls) (.dat (.int i)) μ) QR E:=l_isi rfl (show tabT "str" cls (.b "int")=some false from kb_int_str) h
theorem is_int_tuple {i:Int} (h:QR (.dat (.bl false)) μ):Sat (dIsi (tabT "tuple" cls) (.dat (.int i)) μ) QR E:=l_isi rfl (show tabT "tuple" cls (.b "int")=some false from kb_int_tuple) h
theorem is_int_list {i:Int} (h:QR (.dat (.bl false)) μ):Sat (dIsi (tabT "list" cls) (.dat (.int i)) μ) QR E:=l_isi rfl (show tabT "list" cls (.b "int")=some false from kb_int_list) h
theorem is_int_dict {i:Int} (h:QR (.dat (.bl false)) μ):Sat (dIsi (tabT "dict" cls) (.dat (.int i)) μ) QR E:=l_isi rfl (show tabT "dict" cls (.b "int")=some false from kb_int_dict) h
theorem is2_int_list_tuple {i:Int} (h:QR (.dat (.bl false)) μ):Sat (dIsi (tabT2 "list" "tuple" cls) (.dat (.int i)) μ) QR E:=l_isi rfl (show tabT2 "list" "tuple" cls (.b "int")=some false from by simp only[tabT2,kb_int_list,kb_int_tuple]) h
theorem isC_int {i:Int}(h:QR (.dat (.bl false)) μ):Sat (dIsi (tabC nm others) (.dat (.int i)) μ) QR E:=l_isi rfl (show tabC nm others (.b "int")=some false from by simp[tabC]) h
theorem is_str_int {s:Str} (h:QR (.dat (.bl false)) μ):Sat (dIsi (tabT "int" cls) (.dat (.str s)) μ) QR E:=l_isi rfl (show tabT "int" cls (.b "str")=some false from kb_str_int) h
theorem is_str_bool {s:Str} (h:QR (.dat (.bl false)) μ):Sat (dIsi (tabT "bool" cls) (.dat (.str s)) μ) QR E:=l_isi rfl (show tabT "bool" cls (.b "str")=some false from kb_str_bool) h
theorem is_str_str {s:Str} (h:QR (.dat (.bl true)) μ):Sat (dIsi (tabT "str" cls) (.dat (.str s)) μ) QR E:=l_isi rfl (show tabT "str" cls (.b "str")=some true from kb_str_str) h
theorem is_str_tuple {s:Str} (h:QR (.dat (.bl false)) μ):Sat (dIsi (tabT "tuple" cls) (.dat (.str s)) μ) QR E:=l_isi rfl (show tabT "tuple" cls (.b "str")=some false from kb_str_tuple) h
theorem is_str_list {s:Str} (h:QR (.dat (.bl false)) μ):Sat (dIsi (tabT "list" cls) (.dat (.str s)) μ) QR E:=l_isi rfl (show tabT "list" cls (.b "str")=some false from kb_str_list) h
theorem is_str_dict {s:Str} (h:QR (.dat (.bl false)) μ):Sat (dIsi (tabT "dict" cls) (.dat (.str s)) μ) QR E:=l_isi rfl (show tabT "dict" cls (.b "str")=some false from kb_str_dict) h
theorem is2_str_list_tuple {s:Str} (h:QR (.dat (.bl false)) μ):Sat (dIsi (tabT2 "list" "tuple" cls) (.dat (.str s)) μ) QR E:=l_isi rfl (show tabT2 "list" "tuple" cls (.b "str")=some false from by simp only[tabT2,kb_str_list,kb_str_tuple]) h
theorem isC_str {s:Str}(h:QR (.dat (.bl false)) μ):Sat (dIsi (tabC nm others) (.dat (.str s)) μ) QR E:=l_isi rfl (show tabC nm others (.b "str")=some false from by simp[tabC]) h
theorem is_tup_int {ds:List D} (h:QR (.dat (.bl false)) μ):Sat (dIsi (tabT "int" cls) (.dat (.tup ds)) μ) QR E:=l_isi rfl (show tabT "int" cls (.b "tuple")=some false from kb_tuple_int) h
theorem is_tup_bool {ds:List D} (h:QR (.dat (.bl false)) μ):Sat (dIsi (tabT "bool" cls) (.dat (.tup ds)) μ) QR E:=l_isi rfl (show tabT "bool" cls (.b "tuple")=some false from kb_tuple_bool) h
theorem is_tup_str {ds:List D} (h:QR (.dat (.bl false)) μ):Sat (dIsi (tabT "str" cls) (.dat (.tup ds)) μ) QR E:=l_isi rfl (show tabT "str" cls (.b "tuple")=some false from kb_tuple_str) h
theorem is_tup_tuple {ds:List D} (h:QR (.dat (.bl true)) μ):Sat (dIsi (tabT "tuple" cls) (.dat (.tup ds)) μ) QR E:=l_isi rfl (show tabT "tuple" cls (.b "tuple")=some true from kb_tuple_tuple) h
theorem is_tup_list {ds:List D} (h:QR (.dat (.bl false)) μ):Sat (dIsi (tabT "list" cls) (.dat (.tup ds)) μ) QR E:=l_isi rfl (show tabT "list" cls (.b "tuple")=some false from kb_tuple_list) h
theorem is_tup_dict {ds:List D} (h:QR (.dat (.bl false)) μ):Sat (dIsi (tabT "dict" cls) (.dat (.tup ds)) μ) QR E:=l_isi rfl (show tabT "dict" cls (.b "tuple")=some false from kb_tuple_dict) h
theorem is2_tup_list_tuple {ds:List D} (h:QR (.dat (.bl true)) μ):Sat (dIsi (tabT2 "list" "tuple" cls) (.dat (.tup ds)) μ) QR E:=l_isi rfl (show tabT2 "list" "tuple" cls (.b "tuple")=some true from by simp only[tabT2,kb_tuple_list,kb_tuple_tuple]) h
theorem isC_tup {ds:List D}(h:QR (.dat (.bl false)) μ):Sat (dIsi (tabC nm others) (.dat (.tup ds)) μ) QR E:=l_isi rfl (show tabC nm others (.b "tuple")=some false from by simp[tabC]) h
theorem is_lst_int {ds:List D} (h:QR (.dat (.bl false)) μ):Sat (dIsi (tabT "int" cls) (.dat (.lst ds)) μ) QR E:=l_isi rfl (show tabT "int" cls (.b "list")=some false from kb_list_int) h
theorem is_lst_bool {ds:List D} (h:QR (.dat (.bl false)) μ):Sat (dIsi (tabT "bool" cls) (.dat (.lst ds)) μ) QR E:=l_isi rfl (show tabT "bool" cls (.b "list")=some false from kb_list_bool) h
theorem is_lst_str {ds:List D} (h:QR (.dat (.bl false)) μ):Sat (dIsi (tabT "str" cls) (.dat (.lst ds)) μ) QR E:=l_isi rfl (show tabT "str" cls (.b "list")=some false from kb_list_str) h
theorem is_lst_tuple {ds:List D} (h:QR (.dat (.bl false)) μ):Sat (dIsi (tabT "tuple" cls) (.dat (.lst ds)) μ) QR E:=l_isi rfl (show tabT "tuple" cls (.b "list")=some false from kb_list_tuple) h
theorem is_lst_list {ds:List D} (h:QR (.dat (.bl true)) μ):Sat (dIsi (tabT "list" cls) (.dat (.lst ds)) μ) QR E:=l_isi rfl (show tabT "list" cls (.b "list")=some true from kb_list_list) h
theorem is_lst_dict {ds:List D} (h:QR (.dat (.bl false)) μ):Sat (dIsi (tabT "dict" cls) (.dat (.lst ds)) μ) QR E:=l_isi rfl (show tabT "dict" cls (.b "list")=some false from kb_list_dict) h
theorem is2_lst_list_tuple {ds:List D} (h:QR (.dat (.bl true)) μ):Sat (dIsi (tabT2 "list" "tuple" cls) (.dat (.lst ds)) μ) QR E:=l_isi rfl (show tabT2 "list" "tuple" cls (.b "list")=some true from by simp only[tabT2,kb_list_list]) h
theorem isC_lst {ds:List D}(h:QR (.dat (.bl false)) μ):Sat (dIsi (tabC nm others) (.dat (.lst ds)) μ) QR E:=l_isi rfl (show tabC nm others (.b "list")=some false from by simp[tabC]) h
theorem is_fro_int {ds:List D} (h:QR (.dat (.bl false)) μ):Sat (dIsi (tabT "int" cls) (.dat (.fro ds)) μ) QR E:=l_isi rfl (show tabT "int" cls (.b "list")=some false from kb_list_int) h
theorem is_fro_bool {ds:List D} (h:QR (.dat (.bl false)) μ):Sat (dIsi (tabT "bool" cls) (.dat (.fro ds)) μ) QR E:=l_isi rfl (show tabT "bool" cls (.b "list")=some false from kb_list_bool) h
theorem is_fro_str {ds:List D} (h:QR (.dat (.bl false)) μ):Sat (dIsi (tabT "str" cls) (.dat (.fro ds)) μ) QR E:=l_isi rfl (show tabT "str" cls (.b "list")=some false from kb_list_str) h
theorem is_fro_tuple {ds:List D} (h:QR (.dat (.bl false)) μ):Sat (dIsi (tabT "tuple" cls) (.dat (.fro ds)) μ) QR E:=l_isi rfl (show tabT "tuple" cls (.b "list")=some false from kb_list_tuple) h
theorem is_fro_list {ds:List D} (h:QR (.dat (.bl true)) μ):Sat (dIsi (tabT "list" cls) (.dat (.fro ds)) μ) QR E:=l_isi rfl (show tabT "list" cls (.b "list")=some true from kb_list_list) h
theorem is_fro_dict {ds:List D} (h:QR (.dat (.bl false)) μ):Sat (dIsi (tabT "dict" cls) (.dat (.fro ds)) μ) QR E:=l_isi rfl (show tabT "dict" cls (.b "list")=some false from kb_list_dict) h
theorem is2_fro_list_tuple {ds:List D} (h:QR (.dat (.bl true)) μ):Sat (dIsi (tabT2 "list" "tuple" cls) (.dat (.fro ds)) μ) QR E:=l_isi rfl (show tabT2 "list" "tuple" cls (.b "list")=some true from by simp only[tabT2,kb_list_list]) h
theorem isC_fro {ds:List D}(h:QR (.dat (.bl false)) μ):Sat (dIsi (tabC nm others) (.dat (.fro ds)) μ) QR E:=l_isi rfl (show tabC nm others (.b "list")=some false from by simp[tabC]) h
theorem is_dct_int {kvs:List (Ky×D)} (h:QR (.dat (.bl false)) μ):Sat (dIsi (tabT "int" cls) (.dat (.dct kvs)) μ) QR E:=l_isi rfl (show tabT "int" cls (.b "dict")=some false from kb_dict_int) h
theorem is_dct_bool {kvs:List (Ky×D)} (h:QR (.dat (.bl false)) μ):Sat (dIsi (tabT "bool" cls) (.dat (.dct kvs)) μ) QR E:=l_isi rfl (show tabT "bool" cls (.b "dict")=some false from kb_dict_bool) h
theorem is_dct_str {kvs:List (Ky×D)} (h:QR (.dat (.bl false)) μ):Sat (dIsi (tabT "str" cls) (.dat (.dct kvs)) μ) QR E:=l_isi rfl (show tabT "str" cls (.b "dict")=some false from kb_dict_str) h
theorem is_dct_tuple {kvs:List (Ky×D)} (h:QR (.dat (.bl false)) μ):Sat (dIsi (tabT "tuple" cls) (.dat (.dct kvs)) μ) QR E:=l_isi rfl (show tabT "tuple" cls (.b "dict")=some false from kb_dict_tuple) h
theorem is_dct_list {kvs:List (Ky×D)} (h:QR (.dat (.bl false)) μ):Sat (dIsi (tabT "list" cls) (.dat (.dct kvs)) μ) QR E:=l_isi rfl (show tabT "list" cls (.b "dict")=some false from kb_dict_list) h
theorem is_dct_dict {kvs:List (Ky×D)} (h:QR (.dat (.bl true)) μ):Sat (dIsi (tabT "dict" cls) (.dat (.dct kvs)) μ) QR E:=l_isi rfl (show tabT "dict" cls (.b "dict")=some true from kb_dict_dict) h
theorem is2_dct_list_tuple {kvs:List (Ky×D)} (h:QR (.dat (.bl false)) μ):Sat (dIsi (tabT2 "list" "tuple" cls) (.dat (.dct kvs)) μ) QR E:=l_isi rfl (show tabT2 "list" "tuple" cls (.b "dict")=some false from by simp only[tabT2,kb_dict_list,kb_dict_tuple]) h
theorem isC_dct {kvs:List (Ky×D)}(h:QR (.dat (.bl false)) μ):Sat (dIsi (tabC nm others) (.dat (.dct kvs)) μ) QR E:=l_isi rfl (show tabC nm others (.b "dict")=some false from by simp[tabC]) h
theorem isC_own {fs:List (Str×D)}(h:QR (.dat (.bl true)) μ):Sat (dIsi (tabC nm others) (.dat (.ins nm fs)) μ) QR E:=l_isi rfl (show tabC nm others (.c nm)=some true from by simp[tabC]) h
theorem is_ins_int {fs:List (Str×D)} (hn:nm∈cls) (h:QR (.dat (.bl false)) μ):Sat (dIsi (tabT "int" cls) (.dat (.ins nm fs)) μ) QR E:=l_isi rfl (show tabT "int" cls (.c nm)=some false from by simp[tabT,tabT2,hn]) h
theorem is_ins_bool {fs:List (Str×D)} (hn:nm∈cls) (h:QR (.dat (.bl false)) μ):Sat (dIsi (tabT "bool" cls) (.dat (.ins nm fs)) μ) QR E:=l_isi rfl (show tabT "bool" cls (.c nm)=some false from by simp[tabT,tabT2,hn]) h
theorem is_ins_str {fs:List (Str×D)} (hn:nm∈cls) (h:QR (.dat (.bl false)) μ):Sat (dIsi (tabT "str" cls) (.dat (.ins nm fs)) μ) QR E:=l_isi rfl (show tabT "str" cls (.c nm)=some false from by simp[tabT,tabT2,hn]) h
theorem is_ins_tuple {fs:List (Str×D)} (hn:nm∈cls) (h:QR (.dat (.bl false)) μ):Sat (dIsi (tabT "tuple" cls) (.dat (.ins nm fs)) μ) QR E:=l_isi rfl (show tabT "tuple" cls (.c nm)=some false from by simp[tabT,tabT2,hn]) h
theorem is_ins_list {fs:List (Str×D)} (hn:nm∈cls) (h:QR (.dat (.bl false)) μ):Sat (dIsi (tabT "list" cls) (.dat (.ins nm fs)) μ) QR E:=l_isi rfl (show tabT "list" cls (.c nm)=some false from by simp[tabT,tabT2,hn]) h
theorem is_ins_dict {fs:List (Str×D)} (hn:nm∈cls) (h:QR (.dat (.bl false)) μ):Sat (dIsi (tabT "dict" cls) (.dat (.ins nm fs)) μ) QR E:=l_isi rfl (show tabT "dict" cls (.c nm)=some false from by simp[tabT,tabT2,hn]) h
theorem is2_ins {T U:String}{fs:List (Str×D)}(hn:nm∈cls)(h:QR (.dat (.bl false)) μ):Sat (dIsi (tabT2 T U cls) (.dat (.ins nm fs)) μ) QR E:=l_isi rfl (show tabT2 T U cls (.c nm)=some false from by simp[tabT,tabT2,hn]) h
theorem e_dat (e:μ'.take N=μ)(h:QR (.dat d) μ):(endP N QR E).rt (.dat d) μ':=k_dat (E:=E) e h
theorem e_ofD (e:μ'.take N=μ)(h:QR (.dat d) μ):(endP N QR E).rt (ofV (.dat d)) μ':=k_dat (E:=E) e h
theorem e_nlf {γ:Type}{f:γ→D}{ys:List γ}(e:μ'.take N=μ)(h:QR (.nl (ys.map fun y=>.dat (f y))) μ):(endP N QR E).rt (.nl (ys.map fun y=>.dat (f y))) μ':=k_nlf (E:=E) e h
theorem e_nlm {ds:List D}(e:μ'.take N=μ)(h:QR (.nl (ds.map DV.dat)) μ):(endP N QR E).rt (.nl (ds.map DV.dat)) μ':=k_nl (E:=E) e (below_map ds) h
theorem e_nl {xs:List DV}(e:μ'.take N=μ)(hb:belowA N xs=true)(h:QR (.nl xs) μ):(endP N QR E).rt (.nl xs) μ':=k_nl (E:=E) e hb h
theorem e_nx (e:μ'.take N=μ)(h:QR (.dat .non) μ):(endP N QR E).nx δ μ':=by show QR (.dat .non) (μ'.take N);rw[e];exact h
theorem take_cons {p q:Pl}{ν:Mem}:(p::ν).take (q::ν).length=p::ν:=List.take_of_length_le (by simp)
theorem take_consA {p q:Pl}{ν X:Mem}:(p::(ν++X)).take (q::ν).length=p::ν:=by simp
end
end DL
namespace DL
section
variable {Q Q':Prop}{b:Bool}
theorem if_bT (e:b=true)(h:Q):if b=true then Q else Q':=by rw[if_pos e];exact h
theorem if_bF (e:b=false)(h:Q'):if b=true then Q else Q':=by rw[if_neg (by rw[e];exact Bool.false_ne_true)];exact h
end
end DL
namespace DL
open PySem PySem.Spec PyProof.Rows L2
section
variable {E:Xc→Mem→Prop}{P:PO}{δ δ':Env}{μ μ':Mem}{N:Nat}{nm m:Str}{d:D}{nms:List Str}
theorem gS {o:Out}(h:SatS o P):SatS o P:=h
theorem gR {r:Res R}{Q:R→Mem→Prop}(h:Sat r Q E):Sat r Q E:=h
theorem gV {r:Res DV}{Q:DV→Mem→Prop}(h:Sat r Q E):Sat r Q E:=h
theorem gA {r:Res (List DV)}{Q:List DV→Mem→Prop}(h:Sat r Q E):Sat r Q E:=h
theorem gT {r:Res Bool}{Q:Bool→Mem→Prop}(h:Sat r Q E):Sat r Q E:=h
theorem gO {r:Res (Option Int)}{Q:Option Int→Mem→Prop}(h:Sat r Q E):Sat r Q E:=h
theorem gI {r:Res (List D)}{Q:List D→Mem→Prop}(h:Sat r Q E):Sat r Q E:=h
theorem gF {r:R}{Q:DV→Mem→Prop}(h:FzK r μ Q):FzK r μ Q:=h
theorem gC {b:Bool}{Q Q':Prop}(h:if b=true then Q else Q'):if b=true then Q else Q':=h
theorem gRt {r:R}{QR:R→Mem→Prop}(h:(endP N QR E).rt r μ):(endP N QR E).rt r μ:=h
end
def FitD (k w:Nat)(d:D):Prop:=∃ p,toPy d=some p∧Fit k w p
section
variable {k k' w w' n:Nat}{d:D}{ds:List D}{i:Int}{s:Str}{μ:Mem}{x y:DV}{QR:R→Mem→Prop}{E:Xc→Mem→Prop}
theorem FitD.mono (h:FitD k w d)(hk:k≤k')(hw:w≤w'):FitD k' w' d:=let ⟨p,a,b⟩:=h;⟨p,a,b.mono hk hw⟩
theorem fit_int (h:i.natAbs<10^12):Fit 0 40 (.int i):=by
 refine⟨rfl,Nat.zero_le _,?_,?_,?_⟩
 ·simp only[PyData.weight]
  split
  ·exact Nat.zero_le _
  ·rename_i h0
   have h1:i.natAbs≠0:=by simpa using h0
   have:=(Nat.log2_lt h1 (k:=40)).mpr (Nat.lt_of_lt_of_le h (by decide))
   omega
 ·simp only[PyData.showable,decide_eq_true_eq]
  by_cases h1:i.natAbs=0
  ·rw[h1];decide
  ·have:=(Nat.log2_lt h1 (k:=40)).mpr (Nat.lt_of_lt_of_le h (by decide))
   omega
 ·simp only[PyData.intsShort,decide_eq_true_eq];exact PyData.shown_int_le h
theorem pk_dat:peek μ (.dat d)=some d:=peekK_dat 5 μ d
theorem peekPy_of {p:PyData}(h:peek μ x=some d)(hp:toPy d=some p):peekPy μ x=some p:=by unfold peekPy;rw[h];exact hp
end
end DL
namespace DX
open PySem PySem.W PySem.Calls PyProof.Rows PySem.HandSPX
end DX
namespace DL
open PySem PySem.Spec PyProof.Rows L2 DR
section
variable {α:Type}{Q:α→Mem→Prop}{QR:R→Mem→Prop}{QI:List D→Mem→Prop}{E:Xc→Mem→Prop}{μ ν:Mem}{δ:Env}{N:Nat}{P:PO}
theorem sat_alt {a b:Res α}(h:Sat a Q E):Sat (altR a b) Q E:=by
 cases a with
 | bad=>exact h.elim
 | ok x m=>exact h
 | exc x m=>exact h
theorem w_ix {x y:DV}(h:Sat (dIx x y μ) QR E):Sat (dIxA x y μ) QR E:=sat_alt h
theorem w_in {neg:Bool}{x y:DV}(h:Sat (dIn neg x y μ) QR E):Sat (dInA neg x y μ) QR E:=sat_alt h
theorem w_eq {x y:DV}(h:Sat (dEq x y μ) QR E):Sat (dEqA x y μ) QR E:=sat_alt h
theorem w_len {xs:List DV}(h:Sat (d1 dLen xs μ) QR E):Sat (dLenA xs μ) QR E:=sat_alt h
theorem w_list {xs:List DV}(h:Sat (d1 dList xs μ) QR E):Sat (dListA xs μ) QR E:=sat_alt h
theorem s_raise {nm f:Str}{fe:EM}(h:Sat (frzV fe δ μ) (fun x μ'=>∃ d,x=.dat d∧P.ex ⟨nm,[(f,d)]⟩ δ μ') (fun x μ=>P.ex x δ μ)):SatS (gRaise nm f fe N δ μ) P:=by
 refine sat_lift (Sat.mono h (fun x m ⟨d,e,q⟩=>?_) fun _ _ q=>q)
 subst e;exact q
abbrev IsP (o:Out):PO:=⟨fun δ μ=>o=.next δ μ,fun r μ=>o=.ret r μ,fun δ μ=>o=.brk δ μ,fun δ μ=>o=.cnt δ μ,fun x δ μ=>o=.exc x δ μ⟩
theorem isP {o o':Out}(h:SatS o' (IsP o)):o'=o:=by
 cases o' with
 | next δ μ=>exact(show o=_ from h).symm
 | ret r μ=>exact(show o=_ from h).symm
 | brk δ μ=>exact(show o=_ from h).symm
 | cnt δ μ=>exact(show o=_ from h).symm
 | exc x δ μ=>exact(show o=_ from h).symm
 | bad=>exact h.elim
def TryK (cat:List (Str×Bool))(i:Nat)(gs:Addr→Addr→Addr→SM)(N:Nat)(P:PO)(x:Xc)(δ:Env)(μ:Mem):Prop :=
 (cat.lookup x.nm=some true∧x.fs≠[])∧∃ o,(∀ a C d,SatS (gs a C d N (δ.set i (some (.dat (.err a C d x.nm x.fs)))) μ) (IsP o))∧SatS (unset i o) P
theorem s_try {cat:List (Str×Bool)}{i:Nat}{gb:SM}{gs:Addr→Addr→Addr→SM}(h:SatS (gb N δ μ) { P with ex:=fun x δ' μ'=>TryK cat i gs N P x δ' μ' }):SatS (gTry cat i gb gs N δ μ) P:=by
 unfold gTry
 cases e:gb N δ μ with
 | exc x δ' μ' =>
  rw[e] at h
  obtain⟨⟨h1,h2⟩,o,h3,h4⟩:=h
  simp only[h1,if_pos h2]
  rw[suiteOut_of fun a C d=>isP (h3 a C d)]
  exact h4
 | next _ _=>rw[e] at h;exact h
 | ret _ _=>rw[e] at h;exact h
 | brk _ _=>rw[e] at h;exact h
 | cnt _ _=>rw[e] at h;exact h
 | bad=>rw[e] at h;exact h
theorem x_isE {i:Nat}{a C d:Addr}{tab:List (Str×Bool)}{nm:Str}{fs:List (Str×D)}{p0:Str×D}{b:Bool}(e:δ[i]?=some (some (.dat (.err a C d nm (p0::fs)))))(hb:tab.lookup nm=some b)(h:QR (.dat (.bl b)) μ):Sat (eIsE i a C d tab δ μ) QR E:=by
 unfold eIsE errAt
 simp only[e,true_and,if_true,hb]
 exact h
theorem x_xf {i:Nat}{a C d:Addr}{nm f:Str}{fs:List (Str×D)}{p0:Str×D}{v:D}(e:δ[i]?=some (some (.dat (.err a C d nm (p0::fs)))))(hb:(p0::fs).lookup f=some v)(h:QR (.dat v) μ):Sat (eXf i a C d nm f δ μ) QR E:=by
 unfold eXf errAt
 simp only[e,true_and,if_true,hb]
 exact h
theorem x_kget {tab:List (Str×Str)}{f:EM}(h:Sat (frzV f δ μ) (fun x μ'=>StrK x fun z=>QR (.dat (match tab.lookup z with|some y=>.str y|none=>.non)) μ') E):Sat (eKGet tab f δ μ) QR E:=by
 unfold eKGet
 refine sat_bind (Sat.mono h (fun x m ⟨z,e,q⟩=>?_) fun _ _ q=>q)
 rw[e]
 cases e2:tab.lookup z with
 | none=>simp only[e2] at q ⊢;exact q
 | some y=>simp only[e2] at q ⊢;exact q
theorem x_lk {f:EM}(h:Sat (f δ μ) (fun r μ1=>∃ kvs ds,r=.nk kvs∧allDatK kvs=some ds∧QR (.dat (.dct ds)) μ1) E):Sat (eLk f δ μ) QR E:=by
 unfold eLk
 refine sat_bind (Sat.mono h (fun r m ⟨kvs,ds,e,e2,q⟩=>?_) fun _ _ q=>q)
 subst e
 simp only[e2]
 exact q
theorem x_disK {f:PsM}(h:Sat (f δ μ) (fun ps μ1=>ps.length≤15∧QR (.nk (mergeD [] ps)) μ1) E):Sat (eDisK f δ μ) QR E:=by
 unfold eDisK
 refine sat_bind (Sat.mono h (fun ps m ⟨hl,q⟩=>?_) fun _ _ q=>q)
 rw[if_pos hl];exact q
theorem x_dnew (h:QR (.nk []) μ):Sat (eDNew δ μ) QR E:=h
theorem p_nilK {QP:List (Ky×DV)→Mem→Prop}(h:QP [] μ):Sat (psNil δ μ) QP E:=h
theorem p_consK {QP:List (Ky×DV)→Mem→Prop}{fk fv:EM}{r:PsM}(h:Sat (frzV fk δ μ) (fun k μ1=>Sat (frzV fv δ μ1) (fun v μ2=>Sat (r δ μ2) (fun ps μ3=>∃ key,keyD k=some key∧QP ((.k key,v)::ps) μ3) E) E) E):Sat (psCons fk fv r δ μ) QP E:=by
 unfold psCons
 refine sat_bind (Sat.mono h (fun k m1 h1=>?_) fun _ _ q=>q)
 refine sat_bind (Sat.mono h1 (fun v m2 h2=>?_) fun _ _ q=>q)
 refine sat_bind (Sat.mono h2 (fun ps m3 ⟨key,e,q⟩=>?_) fun _ _ q=>q)
 rw[e];exact q
theorem l_pow {i j:Int}(hc:0≤j∧j≤1000000∧i.natAbs<2^64)(h:QR (.dat (.int (i^j.toNat))) μ):Sat (dPow (.dat (.int i)) (.dat (.int j)) μ) QR E:=by
 unfold dPow d2I
 simp only[asI,decide_eq_true hc,if_true]
 exact h
end
end DL
namespace DL
open PySem PySem.Spec PyProof.Rows L2
mutual
def lnodes:D→List (List D)
 | .lst xs=>xs::lnodesL xs
 | .fro xs=>xs::lnodesL xs
 | .tup xs=>lnodesL xs
 | .dct kvs=>lnodesK kvs
 | .ins _ fs=>lnodesF fs
 | .err _ _ _ _ fs=>lnodesF fs
 | .non=>[]
 | .bl _=>[]
 | .int _=>[]
 | .str _=>[]
 | .ty _=>[]
 | .ref _=>[]
def lnodesL:List D→List (List D)
 | []=>[]
 | x::xs=>lnodes x++lnodesL xs
def lnodesK:List (Ky×D)→List (List D)
 | []=>[]
 | (_,x)::xs=>lnodes x++lnodesK xs
def lnodesF:List (Str×D)→List (List D)
 | []=>[]
 | (_,x)::xs=>lnodes x++lnodesF xs
end
theorem lnodesK_eq:∀ kvs:List (Ky×D),lnodesK kvs=lnodesL (kvs.map (·.2))
 | []=>rfl
 | (_,x)::xs=>by simp only[lnodesK,List.map_cons,lnodesL,lnodesK_eq xs]
theorem lnodesF_eq:∀ kvs:List (Str×D),lnodesF kvs=lnodesL (kvs.map (·.2))
 | []=>rfl
 | (_,x)::xs=>by simp only[lnodesF,List.map_cons,lnodesL,lnodesF_eq xs]
def vk:D→Nat
 | .non=>0
 | .bl _=>1
 | .int _=>2
 | .str _=>3
 | .ty _=>4
 | _=>5
def vkV:V→Nat
 | .non=>0
 | .bl _=>1
 | .int _=>2
 | .str _=>3
 | .ty _=>4
 | .ref _=>5
 | _=>6
theorem Rp.vk {K:PySem.W.Frag}{G:Hp}{v:V}{d:D}(h:Rp K G v d):vkV v=vk d:=by cases h <;> rfl
def apart (ds es:List D):Bool:=decide (ds.length≠es.length)||match ds,es with
 | d::_,e::_=>decide (vk d≠vk e)
 | _,_=>false
open Classical in
noncomputable def only (K:PySem.W.Frag)(L:List (List D))(G:Hp):Hp:=fun a=>match G a with
 | some (.lst vs)=>if ∃ es∈L,RpL K G vs es then some (.lst vs) else none
 | o=>o
theorem only_at {K:PySem.W.Frag}{L:List (List D)}{G:Hp}{a:Addr}{o:HO}(h:G a=some o)(hn:∀ vs,o≠.lst vs):only K L G a=some o:=by
 unfold only
 rw[h]
 split
 ·rename_i vs e;cases e;exact absurd rfl (hn vs)
 ·rfl
theorem only_lst {K:PySem.W.Frag}{L:List (List D)}{G:Hp}{a:Addr}{vs:List V}{es:List D}(h:G a=some (.lst vs))(hm:es∈L)(r:RpL K G vs es):only K L G a=some (.lst vs):=by
 unfold only
 rw[h]
 simp only
 rw[if_pos ⟨es,hm,r⟩]
mutual
theorem Rp.only {K:PySem.W.Frag}{L:List (List D)}{G:Hp}:∀ {v:V} {d:D},Rp K G v d→(∀ es∈lnodes d,es∈L)→Rp K (DL.only K L G) v d
 | _,_,.non,_=>.non
 | _,_,.bl b,_=>.bl b
 | _,_,.int i,_=>.int i
 | _,_,.str s,_=>.str s
 | _,_,.ty n,_=>.ty n
 | _,_,.ref a,_=>.ref a
 | _,_,.tup h r,hl=>.tup (by
   rcases h with (h|⟨o,h⟩)|h
   ·exact .inl (.inl (only_at h fun _ z=>by cases z))
   ·exact .inl (.inr ⟨o,only_at h fun _ z=>by cases z⟩)
   ·exact .inr h) (RpL.only r (by simpa only[lnodes] using hl))
 | _,_,.lst h r,hl=>.lst (only_lst h (hl _ (by simp only[lnodes];exact List.mem_cons_self)) r) (RpL.only r fun es he=>hl es (by simp only[lnodes];exact List.mem_cons_of_mem _ he))
 | _,_,.fro h r,hl=>.fro (by
   rcases h with (h|⟨o,h⟩)|h
   ·exact .inl (.inl (only_lst h (hl _ (by simp only[lnodes];exact List.mem_cons_self)) r))
   ·exact .inl (.inr ⟨o,only_at h fun _ z=>by cases z⟩)
   ·exact .inr h) (RpL.only r fun es he=>hl es (by simp only[lnodes];exact List.mem_cons_of_mem _ he))
 | _,_,.dct h k r,hl=>.dct (only_at h fun _ z=>by cases z) (k.map fun b xs h=>by
   rcases h with (h|⟨o,h⟩)|h
   ·exact .inl (.inl (only_at h fun _ z=>by cases z))
   ·exact .inl (.inr ⟨o,only_at h fun _ z=>by cases z⟩)
   ·exact .inr h) (RpL.only r (by simpa only[lnodes,lnodesK_eq] using hl))
 | _,_,.ins c h o k r,hl=>.ins c (only_at h fun _ z=>by cases z) (only_at o fun _ z=>by cases z) k (RpL.only r (by simpa only[lnodes,lnodesF_eq] using hl))
 | _,_,.er0 c,hl=>.er0 c
 | _,_,.err c h k r,hl=>.err c (only_at h fun _ z=>by cases z) k (RpL.only r (by simpa only[lnodes,lnodesF_eq] using hl))
theorem RpL.only {K:PySem.W.Frag}{L:List (List D)}{G:Hp}:∀ {vs:List V} {ds:List D},RpL K G vs ds→(∀ es∈lnodesL ds,es∈L)→RpL K (DL.only K L G) vs ds
 | _,_,.nil,_=>.nil
 | _,_,.cons a b,hl=>.cons (Rp.only a fun es he=>hl es (by simp only[lnodesL];exact List.mem_append_left _ he)) (RpL.only b fun es he=>hl es (by simp only[lnodesL];exact List.mem_append_right _ he))
end
noncomputable def both (G G':Hp)(a:Option Addr):Hp:=fun b=>if some b=a then none else match G b with
 | some o=>some o
 | none=>G' b
section
variable {K:PySem.W.Frag}{G G':Hp}{a:Addr}{oa:Option Addr}{us:List V}
theorem both_r {b:Addr}{o:HO}(hc:∀ b o,G b=some o→∀ o',G' b=some o'→o=o')(hb:some b≠oa)(e:G' b=some o):both G G' oa b=some o:=by
 unfold both
 rw[if_neg hb]
 cases q:G b with
 | none=>exact e
 | some u=>simp only;rw[hc b u q o e]
mutual
theorem Rp.off (hc:∀ b o,G b=some o→∀ o',G' b=some o'→o=o')(ha:G' a=some (.lst us)):∀ {v:V} {d:D},Rp K G' v d→lnodes d=[]→Rp K (both G G' (some a)) v d
 | _,_,.non,_=>.non
 | _,_,.bl b,_=>.bl b
 | _,_,.int i,_=>.int i
 | _,_,.str s,_=>.str s
 | _,_,.ty n,_=>.ty n
 | _,_,.ref a,_=>.ref a
 | _,_,.tup h r,hl=>.tup (by
   rcases h with (h|⟨o,h⟩)|h
   ·exact .inl (.inl (both_r hc (fun z=>by cases z;rw[ha] at h;cases h) h))
   ·exact .inl (.inr ⟨o,both_r hc (fun z=>by cases z;rw[ha] at h;cases h) h⟩)
   ·exact .inr h) (RpL.off hc ha r (by simpa only[lnodes] using hl))
 | _,_,.lst h r,hl=>by simp only[lnodes] at hl;cases hl
 | _,_,.fro h r,hl=>by simp only[lnodes] at hl;cases hl
 | _,_,.dct h k r,hl=>.dct (both_r hc (fun z=>by cases z;rw[ha] at h;cases h) h) (k.map fun b xs h=>by
   rcases h with (h|⟨o,h⟩)|h
   ·exact .inl (.inl (both_r hc (fun z=>by cases z;rw[ha] at h;cases h) h))
   ·exact .inl (.inr ⟨o,both_r hc (fun z=>by cases z;rw[ha] at h;cases h) h⟩)
   ·exact .inr h) (RpL.off hc ha r (by simpa only[lnodes,lnodesK_eq] using hl))
 | _,_,.ins c h o k r,hl=>.ins c (both_r hc (fun z=>by cases z;rw[ha] at h;cases h) h) (both_r hc (fun z=>by cases z;rw[ha] at o;cases o) o) k (RpL.off hc ha r (by simpa only[lnodes,lnodesF_eq] using hl))
 | _,_,.er0 c,hl=>.er0 c
 | _,_,.err c h k r,hl=>.err c (both_r hc (fun z=>by cases z;rw[ha] at h;cases h) h) k (RpL.off hc ha r (by simpa only[lnodes,lnodesF_eq] using hl))
theorem RpL.off (hc:∀ b o,G b=some o→∀ o',G' b=some o'→o=o')(ha:G' a=some (.lst us)):∀ {vs:List V} {ds:List D},RpL K G' vs ds→lnodesL ds=[]→RpL K (both G G' (some a)) vs ds
 | _,_,.nil,_=>.nil
 | _,_,.cons x y,hl=>by
  simp only[lnodesL,List.append_eq_nil_iff] at hl
  exact .cons (Rp.off hc ha x hl.1) (RpL.off hc ha y hl.2)
end
end
def thaw (args:List D)(μ:Mem):Res R→Res R
 | .ok (.dat (.lst ds)) _=>if(lnodesL args).all (apart ds)=true∧(lnodesL ds).isEmpty=true then .ok (.nl (ds.map DV.dat)) μ else .bad
 | .ok (.dat .non) _=>.ok (.dat .non) μ
 | .ok (.dat (.bl b)) _=>.ok (.dat (.bl b)) μ
 | .ok (.dat (.int b)) _=>.ok (.dat (.int b)) μ
 | .ok (.dat (.str b)) _=>.ok (.dat (.str b)) μ
 | .exc x _=>if x.fs.all (fun p=>(lnodes p.2).isEmpty)=true then .exc x μ else .bad
 | _=>.bad
def eCBT (F:List DV→Mem→Res R)(fa:AM):EM:=fun δ μ=>(fa δ μ).bind fun xs μ1=>match allDat xs with
 | some ds=>thaw ds μ1 (F xs [])
 | none=>.bad
section
variable {K:PySem.W.Frag}{W:WX}{ρ:Pm}{G H:Hp}{μ:Mem}{σ:Slots}{δ:Env}
end
def ltS (a b:Str):Bool:=ltCps a.cps.toList b.cps.toList
theorem ltC_irrefl:∀ a:List Nat,ltCps a a=false
 | []=>rfl
 | x::r=>by simp[ltCps,ltC_irrefl r]
theorem ltC_total:∀ {a b:List Nat},ltCps a b=false→ltCps b a=false→a=b
 | [],[],_,_=>rfl
 | [],_::_,h,_=>by cases h
 | _::_,[],_,h=>by cases h
 | x::a,y::b,h,h'=>by
  simp only[ltCps,Bool.or_eq_false_iff,decide_eq_false_iff_not,Bool.and_eq_false_iff] at h h'
  obtain rfl:x=y:=by omega
  have h1:ltCps a b=false:=h.2.elim (fun z=>by simp at z) id
  have h2:ltCps b a=false:=h'.2.elim (fun z=>by simp at z) id
  rw[ltC_total h1 h2]
theorem str_ext {a b:Str}(h:a.cps.toList=b.cps.toList):a=b:=by
 cases a;cases b
 have:(_:Array Nat)=_:=Array.toList_inj.mp h
 simp_all
theorem ltS_irrefl (a:Str):ltS a a=false:=ltC_irrefl _
theorem ltS_total {a b:Str}(h:ltS a b=false)(h':ltS b a=false):a=b:=str_ext (ltC_total h h')
def insU (x:Str):List Str→List Str
 | []=>[x]
 | y::ys=>if ltS x y=true then x::y::ys else if ltS y x=true then y::insU x ys else y::ys
def sortU:List Str→List Str
 | []=>[]
 | x::xs=>insU x (sortU xs)
section
variable {K:PySem.W.Frag}{W:WX}{ρ:Pm}{G H:Hp}{μ:Mem}{σ:Slots}{δ:Env}
def eListRng (f:EM):EM:=fun δ μ=>(frzV f δ μ).bind fun x μ'=>match asI x with
 | some n=>if 0≤n∧n≤1000000 then .ok (.nl ((List.range n.toNat).map fun i=>.dat (.int (i:Nat)))) μ' else .bad
 | none=>.bad
def insS (x:Str):List Str→List Str
 | []=>[x]
 | y::ys=>if ltS y x=true then y::insS x ys else x::y::ys
def sortS:List Str→List Str
 | []=>[]
 | x::xs=>insS x (sortS xs)
end
section
variable {K:PySem.W.Frag}{W:WX}{ρ:Pm}{G H:Hp}{μ:Mem}{σ:Slots}{δ:Env}
end
section
variable {X:Cx}{W:WX}{e:Expr}{te:TE}{f:EM}{p p2 pos pos2:Pos}
end
theorem u1 {n m:Nat}(h:n+64<m):n+1<m:=by omega
def alikeB (ps:List PyData):Bool:=(ps.all fun x=>ps.all fun y=>PySem.W.alike x y)&&ps.all fun x=>match x with
 | .none=>false
 | _=>true
section
variable {K:PySem.W.Frag}{W:WX}{N:Nat}{ρ:Pm}{G H G0 H0:Hp}{μ:Mem}{σ:Slots}{δ:Env}{Q:VK}
def pyD (d:D):PyData:=(toPy d).getD .none
def sortableB (ps:List PyData):Bool:=(ps.all fun d=>match d with
 | .tuple (_::_)=>true
 | _=>false)||ps.all fun d=>match d with
 | .none=>false
 | .tuple _=>false
 | _=>true
end
end DL
noncomputable section
namespace DL
open PySem PySem.Spec PyProof.Rows L2 DR
section
variable {QR:R→Mem→Prop}{E:Xc→Mem→Prop}{μ ν:Mem}{δ:Env}{N:Nat}{P:PO}{d:D}{x y:DV}{k w:Nat}
theorem gP {r:Res (List (Ky×DV))}{Q:List (Ky×DV)→Mem→Prop}(h:Sat r Q E):Sat r Q E:=h
def Fk (k w:Nat)(d:D):Prop:=∃ p,toPyK d=some p∧p.showable=true∧p.depth≤k∧p.shown.length≤w
theorem l_same (hx:peek μ x=some d)(hy:peek μ y=some d)(h:Fk k w d)(hk:k≤64)(q:QR (.dat (.bl true)) μ):Sat (dSame x y μ) QR E:=by
 obtain⟨p,e,_,h2,_⟩:=h
 unfold dSame
 rw[hx,hy]
 simp only[Option.bind_some,e]
 rw[if_pos ⟨trivial,by omega⟩]
 exact q
theorem l_reprD {p:PyData}(hx:peek μ x=some d)(hp:toPyK d=some p)(h1:p.showable=true)(h2:p.depth≤64)(h3:p.shown.length≤2^20)(q:QR (.dat (.str p.shown)) μ):Sat (d1 dReprD [x] μ) QR E:=by
 show Sat (dReprD x μ) QR E
 unfold dReprD
 rw[hx]
 simp only[Option.bind_some,hp]
 rw[if_pos ⟨h1,h2,Nat.le_trans h3 (by decide)⟩]
 exact q
theorem peek_str {t:Str}(h:peek μ y=some (.str t)):y=.dat (.str t):=by
 cases y with
 | dat d=>rw[pk_dat] at h;cases h;rfl
 | loc n =>
  unfold peek peekK at h
  split at h
  ·rename_i xs _
   cases e:peekL (peekK 4 μ) xs <;> rw[e] at h <;> cases h
  ·rename_i xs _
   cases e:peekL (peekK 4 μ) xs <;> rw[e] at h <;> cases h
  ·cases h
theorem eqA_same (hx:peek μ x=some d)(hy:peek μ y=some d)(h:Fk k w d)(hk:k≤64)(q:QR (.dat (.bl true)) μ):Sat (dEqA x y μ) QR E:=by
 unfold dEqA alt2
 have key:dEq x y μ=.bad∨dEq x y μ=.ok (.dat (.bl true)) μ:=by
  unfold dEq dEqS
  cases e:asStr x with
  | some s =>
   have ex:x=.dat (.str s):=by unfold asStr at e;split at e <;> cases e;rfl
   subst ex
   rw[pk_dat] at hx;cases hx
   have ey:=peek_str hy
   subst ey
   right
   simp[asStr]
  | none =>
   simp only
   unfold dEqB peekPy
   rw[hx,hy]
   simp only[Option.bind_some]
   cases e2:toPy d with
   | none=>left;rfl
   | some p =>
    simp only
    by_cases c:SeqAt.shaped p=true
    ·right
     rw[if_pos ⟨c,c⟩,SeqAt.eqv_refl p (SeqAt.canLay_of_shaped c)];rfl
    ·left
     rw[if_neg (fun z=>c z.1)]
 rcases key with e|e
 ·rw[e];exact l_same hx hy h hk q
 ·rw[e];exact q
def gAlikeA:SM:=(gRet (eAnd (eOp dEqA (eVar 0) (eVar 1)) (eOp dEqA (eCB dReprA (aCons (eVar 0) aNil)) (eCB dReprA (aCons (eVar 1) aNil)))))
mutual
theorem toPyK_of:∀ (d:D) (p:PyData),toPy d=some p→toPyK d=some p
 | .non,_,h=>by simp only[toPy] at h;cases h;rfl
 | .bl _,_,h=>by simp only[toPy] at h;cases h;rfl
 | .int _,_,h=>by simp only[toPy] at h;cases h;rfl
 | .str _,_,h=>by simp only[toPy] at h;cases h;rfl
 | .tup xs,_,h=>by
  simp only[toPy] at h
  cases e:toPyL xs with
  | none=>rw[e] at h;cases h
  | some ps=>rw[e] at h;cases h;simp only[toPyK,toPyKL_of xs ps e];rfl
 | .lst xs,_,h=>by
  simp only[toPy] at h
  cases e:toPyL xs with
  | none=>rw[e] at h;cases h
  | some ps=>rw[e] at h;cases h;simp only[toPyK,toPyKL_of xs ps e];rfl
 | .fro xs,_,h=>by
  simp only[toPy] at h
  cases e:toPyL xs with
  | none=>rw[e] at h;cases h
  | some ps=>rw[e] at h;cases h;simp only[toPyK,toPyKL_of xs ps e];rfl
 | .ty _,_,h=>by simp only[toPy] at h;cases h
 | .ref _,_,h=>by simp only[toPy] at h;cases h
 | .dct _,_,h=>by simp only[toPy] at h;cases h
 | .ins _ _,_,h=>by simp only[toPy] at h;cases h
 | .err _ _ _ _ _,_,h=>by simp only[toPy] at h;cases h
theorem toPyKL_of:∀ (ds:List D) (ps:List PyData),toPyL ds=some ps→toPyKL ds=some ps
 | [],_,h=>by simp only[toPyL] at h;cases h;rfl
 | d::ds,_,h=>by
  simp only[toPyL] at h
  cases e:toPy d with
  | none=>rw[e] at h;cases h
  | some p =>
   rw[e] at h
   cases e2:toPyL ds with
   | none=>rw[e2] at h;cases h
   | some ps=>rw[e2] at h;cases h;simp only[toPyKL,toPyK_of d p e,toPyKL_of ds ps e2];rfl
end
theorem reprA_ok {p:PyData}(hx:peek μ x=some d)(hp:toPyK d=some p)(h1:p.showable=true)(h2:p.depth≤64)(h3:p.shown.length≤2^20)(q:QR (.dat (.str p.shown)) μ):Sat (dReprA [x] μ) QR E:=by
 unfold dReprA alt1
 have key:d1 dRepr [x] μ=.bad∨d1 dRepr [x] μ=.ok (.dat (.str p.shown)) μ:=by
  show dRepr x μ=.bad∨dRepr x μ=_
  unfold dRepr peekPy
  rw[hx]
  simp only[Option.bind_some]
  cases e:toPy d with
  | none=>left;rfl
  | some p' =>
   have e2:=toPyK_of d p' e
   rw[hp] at e2;cases e2
   simp only
   by_cases c:p.showable=true∧SeqAt.shaped p=true∧p.shown.length≤sizeLine
   ·right;rw[if_pos c]
   ·left;rw[if_neg c]
 rcases key with e|e
 ·rw[e];exact l_reprD hx hp h1 h2 h3 q
 ·rw[e];exact q
theorem alikeA (hx:peek μ x=some d)(hy:peek μ y=some d)(h:Fk k w d)(hk:k≤64)(hw:w≤2^20)(q:QR (.dat (.bl true)) μ):Sat (callD gAlikeA 2 0 [x,y] μ) QR E:=by
 obtain⟨p,hp,h1,h2,h3⟩:=h
 have h:Fk k w d:=⟨p,hp,h1,h2,h3⟩
 refine x_call rfl ?_
 show SatS (gAlikeA μ.length [some x,some y] μ) _
 unfold gAlikeA
 refine s_ret (x_and (x_op (v_var rfl (v_var rfl (eqA_same hx hy h hk (b_bl (if_T ?_)))))))
 refine x_op (x_fz (x_cb (a_consK (v_var rfl (a_nilK (reprA_ok hx hp h1 (by omega) (by omega) (z_dat ?_)))))))
 refine x_fz (x_cb (a_consK (v_var rfl (a_nilK (reprA_ok hy hp h1 (by omega) (by omega) (z_dat (w_eq (l_eqS ?_))))))))
 rw[decide_eq_true rfl]
 exact e_dat List.take_length q
theorem Fk.mono {k' w':Nat}(h:Fk k w d)(hk:k≤k')(hw:w≤w'):Fk k' w' d:=let ⟨p,a,b,c,e⟩:=h;⟨p,a,b,Nat.le_trans c hk,Nat.le_trans e hw⟩
theorem fk_bl {b:Bool}:Fk 0 5 (.bl b):=⟨.bool b,rfl,rfl,Nat.le_refl _,by cases b <;> decide⟩
theorem fk_int {i:Int}(h:i.natAbs<10^12):Fk 0 13 (.int i):=⟨.int i,rfl,(fit_int h).sh,Nat.le_refl _,PyData.shown_int_le h⟩
theorem fk_all {ds:List D}(h:∀ d∈ds,Fk k w d):∃ ps,toPyKL ds=some ps∧ps.length=ds.length∧PyData.showableAll ps=true∧PyData.depthAll ps≤k∧((PyData.shownAll ps).map (·.length)).sum≤ds.length*w∧(PyData.shownAll ps).length=ds.length:=by
 induction ds with
 | nil=>exact⟨[],rfl,rfl,rfl,Nat.zero_le _,Nat.zero_le _,rfl⟩
 | cons d ds ih =>
  obtain⟨ps,a1,a2,a3,a4,a5,a6⟩:=ih fun x hx=>h x (List.mem_cons_of_mem _ hx)
  obtain⟨p,b1,b2,b3,b4⟩:=h d List.mem_cons_self
  refine⟨p::ps,by simp only[toPyKL,b1,a1];rfl,by simp[a2],by simp[PyData.showableAll,b2,a3],by simp only[PyData.depthAll];omega,?_,by simp[PyData.shownAll,a6]⟩
  simp only[PyData.shownAll,List.map_cons,List.sum_cons,List.length_cons,Nat.succ_mul]
  omega
theorem fk_lst {ds:List D}{n:Nat}(h:∀ d∈ds,Fk k w d)(hn:ds.length≤n):Fk (k+1) (n*(w+2)+3) (.lst ds):=by
 obtain⟨ps,a1,a2,a3,a4,a5,a6⟩:=fk_all h
 refine⟨.list ps,by simp only[toPyK,a1];rfl,by simpa [PyData.showable] using a3,by simp only[PyData.depth];omega,?_⟩
 have:=listText_len_le (PyData.shownAll ps)
 simp only[PyData.shown]
 have:ds.length*(w+2)≤n*(w+2):=Nat.mul_le_mul_right _ hn
 have e:ds.length*(w+2)=ds.length*w+2*ds.length:=by rw[Nat.mul_add,Nat.mul_comm ds.length 2]
 omega
end
end DL
namespace DL
open PySem PySem.Spec PyProof.Rows L2 DR
section
variable {QR:R→Mem→Prop}{E:Xc→Mem→Prop}{μ ν:Mem}{δ:Env}{N n:Nat}{P:PO}{d:D}{x y:DV}{k:Key}{kvs:List (Ky×DV)}{ds:List D}
theorem s_dput {fo fi fe:EM}(h:Sat (frzV fe δ μ) (fun y μ1=>Sat (frzV fo δ μ1) (fun x μ2=>Sat (frzV fi δ μ2) (fun i μ3=>∃ μ4,setDct μ3 x i y=some μ4∧P.nx δ μ4) (fun x μ=>P.ex x δ μ)) (fun x μ=>P.ex x δ μ)) (fun x μ=>P.ex x δ μ)):SatS (gDPut fo fi fe N δ μ) P:=by
 refine sat_lift (sat_bind (h.mono (fun y μ1 q=>sat_bind (q.mono (fun x μ2 q=>sat_bind (q.mono (fun i μ3 q=>?_) fun _ _ q=>q)) fun _ _ q=>q)) fun _ _ q=>q))
 obtain⟨μ4,e,q⟩:=q;rw[e];exact q
theorem x_dget1 {fd fy:EM}(h:Sat (frzV fd δ μ) (fun x μ1=>isDct x μ1=true∧Sat (frzV fy δ μ1) (fun y μ2=>Sat (dGet1 x y μ2) QR E) E) E):Sat (eDGet1 fd fy δ μ) QR E:=by
 unfold eDGet1
 refine sat_bind (h.mono (fun x m ⟨e,q⟩=>?_) fun _ _ q=>q)
 rw[if_pos e]
 exact sat_bind q
theorem isDct_dat {ds:List (Ky×D)}(hk:allKD ds=true):isDct (.dat (.dct ds)) μ=true:=by
 show allK (datP ds)=true
 unfold allKD at hk;unfold allK datP;rw[List.all_map];exact hk
def ThawK (args:List D)(r:R)(Q:R→Prop):Prop:=match r with
 | .dat (.lst ds)=>((lnodesL args).all (apart ds)=true∧(lnodesL ds).isEmpty=true)∧Q (.nl (ds.map DV.dat))
 | .dat .non=>Q (.dat .non)
 | .dat (.bl b)=>Q (.dat (.bl b))
 | .dat (.int b)=>Q (.dat (.int b))
 | .dat (.str b)=>Q (.dat (.str b))
 | _=>False
theorem x_cbT {F:List DV→Mem→Res R}{fa:AM}(h:Sat (fa δ μ) (fun xs μ1=>∃ ds,allDat xs=some ds∧Sat (F xs []) (fun r _=>ThawK ds r fun r'=>QR r' μ1) (fun x _=>x.fs.all (fun p=>(lnodes p.2).isEmpty)=true∧E x μ1)) E):Sat (eCBT F fa δ μ) QR E:=by
 unfold eCBT
 refine sat_bind (h.mono (fun xs m ⟨ds,e,q⟩=>?_) fun _ _ q=>q)
 rw[e]
 simp only
 cases e2:F xs [] with
 | bad=>rw[e2] at q;exact q.elim
 | exc x m' =>
  rw[e2] at q
  have q:_∧_:=q
  simp only[thaw]
  rw[if_pos q.1];exact q.2
 | ok r m' =>
  rw[e2] at q
  have q:ThawK ds r fun r'=>QR r' m:=q
  unfold ThawK at q
  split at q
  ·simp only[thaw];rw[if_pos q.1];exact q.2
  ·exact q
  ·exact q
  ·exact q
  ·exact q
  ·exact q.elim
theorem x_listRng {f:EM}(h:Sat (frzV f δ μ) (fun x μ'=>IntK x fun n=>(0≤n∧n≤1000000)∧QR (.nl ((List.range n.toNat).map fun i=>.dat (.int (i:Nat)))) μ') E):Sat (eListRng f δ μ) QR E:=by
 unfold eListRng
 refine sat_bind (h.mono (fun x m ⟨i,e,q⟩=>?_) fun _ _ q=>q)
 rw[e];simp only;rw[if_pos q.1];exact q.2
end
end DL
namespace DL
open PySem PySem.Spec PyProof.Rows L2
def bindB (b:Bool)(N i:Nat)(r:R)(δ:Env)(μ:Mem):Out:=if b=true then bindR N i r δ μ else match frz r with
 | some x=>.next (δ.set i (some x)) μ
 | none=>.bad
def gPar3 (b1 b2 b3:Bool)(i j l:Nat)(f g h:EM):SM:=fun N δ μ=>lift (f δ μ) δ fun r1 μ1=>match bindB b1 N i r1 δ μ1 with
 | .next δ1 μ2=>lift (g δ μ2) δ fun r2 μ3=>match bindB b2 N j r2 δ1 μ3 with
  | .next δ2 μ4=>lift (h δ μ4) δ fun r3 μ5=>bindB b3 N l r3 δ2 μ5
  | _=>.bad
 | _=>.bad
section
variable {K:PySem.W.Frag}{W:WX}{N:Nat}{ρ:Pm}{G H:Hp}{μ:Mem}{σ:Slots}{δ:Env}{v:V}
end
section
variable {X:Cx}{W:WX}{pos px py pz pt pt2:Pos}{a b c:Expr}{ta tb tc:TE}{fa fb fc:EM}
end
section
variable {δ:Env}{μ:Mem}{QR:R→Mem→Prop}{E:Xc→Mem→Prop}{N n:Nat}{P:PO}{x y:DV}{k:List Int}
def BindK (b:Bool)(N i:Nat)(r:R)(δ:Env)(μ:Mem)(k:Env→Mem→Prop):Prop:=∃ δ1 μ2,bindB b N i r δ μ=.next δ1 μ2∧k δ1 μ2
theorem bk_dat {b:Bool}{i:Nat}{d:D}{k:Env→Mem→Prop}(h:k (δ.set i (some (.dat d))) μ):BindK b N i (.dat d) δ μ k:=⟨_,_,by cases b <;> rfl,h⟩
theorem bk_loc {b:Bool}{i:Nat}{m:Nat}{k:Env→Mem→Prop}(h:k (δ.set i (some (.loc m))) μ):BindK b N i (.loc m) δ μ k:=⟨_,_,by cases b <;> rfl,h⟩
theorem bk_nlF {i:Nat}{xs:List DV}{ds:List D}{k:Env→Mem→Prop}(e:allDat xs=some ds)(h:k (δ.set i (some (.dat (.lst ds)))) μ):BindK false N i (.nl xs) δ μ k:=by
 refine⟨_,_,?_,h⟩
 simp[bindB,frz,e]
theorem s_par3 {b1 b2 b3:Bool}{i j l:Nat}{f g h:EM}(hh:Sat (f δ μ) (fun r1 μ1=>BindK b1 N i r1 δ μ1 fun δ1 μ2=>Sat (g δ μ2) (fun r2 μ3=>BindK b2 N j r2 δ1 μ3 fun δ2 μ4=>Sat (h δ μ4) (fun r3 μ5=>BindK b3 N l r3 δ2 μ5 P.nx) (fun x μ=>P.ex x δ μ)) (fun x μ=>P.ex x δ μ)) (fun x μ=>P.ex x δ μ)) :
  SatS (gPar3 b1 b2 b3 i j l f g h N δ μ) P:=by
 refine sat_lift (hh.mono (fun r μ1 q=>?_) fun _ _ q=>q)
 obtain⟨δ1,μ2,e,q⟩:=q
 rw[e]
 refine sat_lift (q.mono (fun r μ1 q=>?_) fun _ _ q=>q)
 obtain⟨δ1,μ2,e,q⟩:=q
 rw[e]
 refine sat_lift (q.mono (fun r μ1 q=>?_) fun _ _ q=>q)
 obtain⟨δ1,μ2,e,q⟩:=q
 rw[e];exact q
theorem x_tget {fd fy:EM}(h:Sat (frzV fd δ μ) (fun x μ1=>Sat (frzV fy δ μ1) (fun y μ2=>Sat (dGetT x y μ2) QR E) E) E):Sat (eTGet fd fy δ μ) QR E:=x_op h
theorem x_tin {neg:Bool}{fd fy:EM}(h:Sat (frzV fy δ μ) (fun y μ1=>Sat (frzV fd δ μ1) (fun x μ2=>Sat (dInT neg y x μ2) QR E) E) E):Sat (eTIn neg fy fd δ μ) QR E:=x_op h
theorem s_tput {fo fi fe:EM}(h:Sat (frzV fe δ μ) (fun y μ1=>Sat (frzV fo δ μ1) (fun x μ2=>Sat (frzV fi δ μ2) (fun i μ3=>∃ μ4,setDctT μ3 x i y=some μ4∧P.nx δ μ4) (fun x μ=>P.ex x δ μ)) (fun x μ=>P.ex x δ μ)) (fun x μ=>P.ex x δ μ)):SatS (gTPut fo fi fe N δ μ) P:=by
 unfold gTPut
 refine sat_lift (sat_bind (h.mono (fun y m q=>?_) fun _ _ q=>q))
 refine sat_bind (q.mono (fun x m q=>?_) fun _ _ q=>q)
 refine sat_bind (q.mono (fun i m q=>?_) fun _ _ q=>q)
 obtain⟨μ4,e,q⟩:=q
 rw[e];exact q
theorem x_disT {fk fv:EM}(h:Sat (frzV fk δ μ) (fun y μ1=>Sat (frzV fv δ μ1) (fun v μ2=>∃ k,keyT y=some k∧QR (.nk [(.t (kI k),v)]) μ2) E) E):Sat (eDisT fk fv δ μ) QR E:=by
 unfold eDisT fPair
 refine sat_bind (sat_bind (h.mono (fun y m q=>?_) fun _ _ q=>q))
 refine sat_bind (q.mono (fun v m q=>?_) fun _ _ q=>q)
 obtain⟨k,e,q⟩:=q
 show Sat (match keyT y with|some kk=>Res.ok (R.nk [(.t (kI kk),v)]) m|none=>.bad) QR E
 rw[e];exact q
theorem i_keysT {f:EM}{Q:List D→Mem→Prop}(h:Sat (frzV f δ μ) (fun x μ'=>∃ ds,x=.dat (.dct ds)∧isT ds=true∧Q (keysD ds) μ') E):Sat (imKeysT f δ μ) Q E:=by
 unfold imKeysT
 refine sat_bind (h.mono (fun x m ⟨ds,e,ht,q⟩=>?_) fun _ _ q=>q)
 subst e;simp only;rw[if_pos ht];exact q
theorem i_itemsT {f:EM}{Q:List D→Mem→Prop}(h:Sat (frzV f δ μ) (fun x μ'=>∃ ds,x=.dat (.dct ds)∧isT ds=true∧Q (pairsOf ds) μ') E):Sat (imItemsT f δ μ) Q E:=by
 unfold imItemsT
 refine sat_bind (h.mono (fun x m ⟨ds,e,ht,q⟩=>?_) fun _ _ q=>q)
 subst e;simp only;rw[if_pos ht];exact q
theorem i_keysK {f:EM}{Q:List D→Mem→Prop}(h:Sat (frzV f δ μ) (fun x μ'=>∃ ds,x=.dat (.dct ds)∧allKD ds=true∧Q (keysD ds) μ') E):Sat (imKeys f δ μ) Q E:=by
 unfold imKeys
 refine sat_bind (h.mono (fun x m ⟨ds,e,ht,q⟩=>?_) fun _ _ q=>q)
 subst e;simp only;rw[if_pos ht];exact q
theorem i_itemsK {f:EM}{Q:List D→Mem→Prop}(h:Sat (frzV f δ μ) (fun x μ'=>∃ ds,x=.dat (.dct ds)∧allKD ds=true∧Q (pairsOf ds) μ') E):Sat (imItems f δ μ) Q E:=by
 unfold imItems
 refine sat_bind (h.mono (fun x m ⟨ds,e,ht,q⟩=>?_) fun _ _ q=>q)
 subst e;simp only;rw[if_pos ht];exact q
end
set_option maxHeartbeats 2000000
section
variable {prog:Program}{w:World}{A:Around}{E:Value→Shared→Prop}{s:Shared}
end
set_option maxHeartbeats 1000000
section
variable {K:PySem.W.Frag}{W:WX}{ρ:Pm}{G H G0 H0:Hp}{μ:Mem}{σ:Slots}{δ:Env}
end
section
variable {K:PySem.W.Frag}{W:WX}{ρ:Pm}{G H H' G0 H0:Hp}{μ:Mem}{σ:Slots}{δ:Env}
end
section
variable {δ:Env}{μ:Mem}{QR:R→Mem→Prop}{E:Xc→Mem→Prop}
end
section
variable {prog:Program}{w:World}{K:Type}[DecidableEq K]{knd:PySem.KeyKind prog w K}{A:Around}{E:Value→Shared→Prop}{s:Shared}
end
section
variable {prog:Program}{w:World}{A:Around}{E:Value→Shared→Prop}{s:Shared}
end
section
variable {prog:Program}{w:World}{A:Around}{E:Value→Shared→Prop}{s:Shared}
end
def eDisU (f:EM)(g:PsM):EM:=fun δ μ=>(frzV f δ μ).bind fun x μ1=>match x with
 | .dat (.dct ds)=>if allKD ds=true∧ds.length≤1000 then(g δ μ1).bind fun ps μ2=>if ps.length≤15 then .ok (.nk (mergeD (mergeD [] (datP ds)) (mergeD [] ps))) μ2 else .bad else .bad
 | _=>.bad
section
variable {K:PySem.W.Frag}{W:WX}{ρ:Pm}{G H G0 H0:Hp}{μ:Mem}{σ:Slots}{δ:Env}
end
section
variable {X:Cx}{W:WX}{e k v:Expr}{te tk tv:TE}{f fk fv:EM}{pos:Pos}
end
section
variable {prog:Program}{w:World}{A:Around}{E:Value→Shared→Prop}{s:Shared}{K:PySem.W.Frag}{x C L f:Addr}{h₀:Heap}{m:Str→Option Value}{ox:Obj}{od:Option Obj}{b tb:Value}
end
structure NoNe (K:PySem.W.Frag)(C:Addr):Prop where
 ne:PySem.W.findIn K (.ref C) "__ne__"=some (some (.builtin "object.__ne__"))
 mro:PySem.W.mroIn K C (.type "object")=some true
section
variable {X:Cx}{k:Nat}{f C:Addr}{fd:FuncData}{ps:List Str}{sp:Sp}
end
def notR:Res R→Res R
 | .ok (.dat (.bl b)) μ=>.ok (.dat (.bl (!b))) μ
 | _=>.bad
def eNeO (nm:Str)(others:List Str)(F:List DV→Mem→Res R)(fa fb:EM):EM:=fun δ μ=>(frzV fa δ μ).bind fun x μ1=>(frzV fb δ μ1).bind fun y μ2=>if isI nm "" x μ2=true∧((kindOf μ2 y).bind (tabC nm others)).isSome=true then notR (F [x,y] μ2) else .bad
section
variable {K:PySem.W.Frag}{W:WX}{ρ:Pm}{G H:Hp}{σ:Slots}{δ:Env}{μ:Mem}{nm:Str}{C:Addr}{n:Nat}{F:List DV→Mem→Res R}
end
section
variable {X:Cx}{W:WX}{P:Program}{w:World}{K:PySem.W.Frag}{mg:Str→Option Value}{base:Heap}{k n:Nat}{nm:Str}{F:List DV→Mem→Res R}{a b e:Expr}{ta tb te:TE}{fa fb f:EM}{p pos:Pos}
end
section
variable {K:PySem.W.Frag}{W:WX}{ρ:Pm}{G H:Hp}{σ:Slots}{δ:Env}{μ:Mem}
def imVals (f:EM):IM:=fun δ μ=>(frzV f δ μ).bind fun x μ'=>match x with
 | .dat (.dct ds)=>if allKD ds=true then .ok (ds.map (·.2)) μ' else .bad
 | _=>.bad
def dwnD (i:Int)(n:Nat):List D:=(List.range n).map fun k=>.int (i-(k:Nat))
def imDwn (f:AM):IM:=fun δ μ=>(f δ μ).bind fun xs μ'=>match xs with
 | [x,y,z]=>match asI x,asI y,asI z with
  | some i,some j,some c=>if -(2^62)≤i∧i<2^62∧-(2^62)≤j∧j<2^62∧c=-1 then .ok (dwnD i (i-j).toNat) μ' else .bad
  | _,_,_=>.bad
 | _=>.bad
end
section
variable {X:Cx}{W:WX}{tg e a b c:Expr}{te:TE}{ta:TA}{f:EM}{fa:AM}{apos cpos p pos:Pos}
end
inductive Pth where
 | s (i:Nat)|f (p:Pth) (m:Str)|k (p:Pth) (key:Key)
def Pth.at (δ:Env)(μ:Mem):Pth→Option Nat
 | .s i=>match δ[i]? with
  | some (some (.loc n))=>some n
  | _=>none
 | .f p m=>match p.at δ μ with
  | some n=>match μ[n]? with
   | some (.ins _ fs)=>match fs.lookup m with
    | some (.loc c)=>some c
    | _=>none
   | _=>none
  | none=>none
 | .k p key=>match p.at δ μ with
  | some n=>match dctOf (.loc n) μ with
   | some kvs=>match dval kvs (.k key) with
    | some (.loc c)=>some c
    | _=>none
   | none=>none
  | none=>none
def unlk (c:Nat)(μ:Mem):Option Mem:=match μ[c]? with
 | some (.lkd kvs)=>some (μ.set c (.dct kvs))
 | _=>none
section
variable {K:PySem.W.Frag}{W:WX}{N:Nat}{ρ ρ':Pm}{G H G' H' G0 H0:Hp}{μ μ':Mem}{σ:Slots}{δ:Env}{n c:Nat}{d:Addr}{od:Obj}{u:HO}{Dn:Ends}
def lkdOf (x:DV)(μ:Mem):Option (List (Ky×D)):=match x with
 | .dat (.dct ds)=>some ds
 | .dat _=>none
 | .loc c=>match μ[c]? with
  | some (.lkd kvs)=>allDatK kvs
  | _=>none
def imKeysL (f:EM):IM:=fun δ μ=>(frzV f δ μ).bind fun x μ'=>match lkdOf x μ' with
 | some ds=>if allKD ds=true then .ok (keysD ds) μ' else .bad
 | none=>.bad
def imItemsL (f:EM):IM:=fun δ μ=>(frzV f δ μ).bind fun x μ'=>match lkdOf x μ' with
 | some ds=>if allKD ds=true then .ok (pairsOf ds) μ' else .bad
 | none=>.bad
end
section
variable {X:Cx}{W:WX}{tg e:Expr}{te:TE}{f:EM}{apos cpos:Pos}{st:Stmt}{ts:TS}{g:SM}
end
section
variable {K:PySem.W.Frag}{W:WX}{N M:Nat}{ρ ρ1:Pm}{G H G1 H1:Hp}{σ:Slots}{δ:Env}{μ:Mem}{Dn:Ends}
theorem TrS.low (t:TrS M ρ G H ρ1 G1 H1)(h:N≤M):TrS N ρ G H ρ1 G1 H1 :=
 ⟨fun n hn=>t.pre n (Nat.lt_of_lt_of_le hn h),t.exG,t.keep,t.th,fun a q=>(t.nG a q).imp_right fun z=>z.imp_right fun⟨n,hn,e⟩=>⟨n,Nat.le_trans h hn,e⟩,fun n a q=>(t.nρ n a q).imp_left fun z=>z.imp_right fun⟨m,hm,w⟩=>⟨m,Nat.le_trans h hm,w⟩,t.fz⟩
end
abbrev XM:=Env→Mem→Res DV
def PostX (K:PySem.W.Frag)(W:WX)(M:Nat)(ρ:Pm)(G H:Hp)(σ:Slots)(Q:VK):Res DV→Prop
 | .ok x μ'=>∀ ρ' G' H' v,TrS M ρ G H ρ' G' H'→Rel K ρ' G' H' μ'→DvOk K ρ' G' v x→Q v H'
 | .exc x μ'=>∀ ρ' G' H' cls d,TrS M ρ G H ρ' G' H'→Rel K ρ' G' H' μ'→XcOk K G' H' x cls d→W cls d σ H'
 | .bad=>False
def SndX (K:PySem.W.Frag)(W:WX)(t:TE)(f:XM):Prop:=∀ (ρ:Pm) (G H:Hp) (σ:Slots) (δ:Env) (μ:Mem) (Q:VK),Rel K ρ G H μ→EnvOk K ρ G σ δ →
 PostX K W μ.length ρ G H σ Q (f δ μ)→t σ H Q
structure PMX (X:Cx)(W:WX)(e:Expr)(te:TE)(f:XM):Prop where
 pe:PE X e te
 sd:SndX X.K W te f
def xOf (f:EM):XM:=fun δ μ=>(f δ μ).bind fun r μ'=>match newPl μ.length r μ' with
 | some (x,μ'')=>.ok x μ''
 | none=>.bad
section
variable {K:PySem.W.Frag}{W:WX}{N M:Nat}{ρ ρ1:Pm}{G H G1 H1 G0 H0:Hp}{σ:Slots}{δ:Env}{μ:Mem}{te:TE}{ta:TA}{f:EM}{fa:AM}{fx:XM}{Dn:Ends}
theorem up_of (R:Rel K ρ G H μ)(t:TrS μ.length ρ G H ρ1 G1 H1):∀ n b,ρ n=some b→ρ1 n=some b:=fun n b q=>(t.pre n (R.lt n b q)).trans q
abbrev XA:=Env→Mem→Res (List DV)
def SndXA (K:PySem.W.Frag)(W:WX)(t:TA)(f:XA):Prop:=∀ (ρ:Pm) (G H:Hp) (σ:Slots) (δ:Env) (μ:Mem) (Q:List V→Hp→Prop),Rel K ρ G H μ→EnvOk K ρ G σ δ →
 (match f δ μ with
  | .ok xs μ'=>∀ ρ' G' H' vs,TrS μ.length ρ G H ρ' G' H'→Rel K ρ' G' H' μ'→DvL K ρ' G' vs xs→Q vs H'
  | .exc x μ'=>∀ ρ' G' H' cls d,TrS μ.length ρ G H ρ' G' H'→Rel K ρ' G' H' μ'→XcOk K G' H' x cls d→W cls d σ H'
  | .bad=>False)→t σ H Q
def xaNil:XA:=fun _ μ=>.ok [] μ
def xaCons (f:XM)(g:XA):XA:=fun δ μ=>(f δ μ).bind fun x μ1=>if μ.length≤μ1.length then(g δ μ1).bind fun xs μ2=>.ok (x::xs) μ2 else .bad
def spX (K:PySem.W.Frag)(n:Nat)(F:List DV→Mem→Res DV):Sp:=fun vs H Q E=>vs.length=n∧∃ ρ G μ xs,Rel K ρ G H μ∧DvL K ρ G vs xs ∧
 PostX K (fun cls d _ H=>E cls d H) μ.length ρ G H [] Q (F xs μ)
def xCall (F:List DV→Mem→Res DV)(fa:AM):XM:=fun δ μ=>(fa δ μ).bind fun xs μ1=>if μ.length≤μ1.length then F xs μ1 else .bad
def xMeth (nm m:Str)(F:List DV→Mem→Res DV)(f:EM)(fa:AM):XM:=fun δ μ=>(frzV f δ μ).bind fun x μ1=>if isI nm m x μ1=true then(fa δ μ1).bind fun xs μ2=>if μ.length≤μ2.length then F (x::xs) μ2 else .bad else .bad
abbrev Fds:=List (Str×DV)
structure Hid (K:PySem.W.Frag)(ρ:Pm)(G H:Hp)(C x dx:Addr)(fs:Fds):Prop where
 vs:∃ vs:List (Str×V),H x=some (.ins C dx vs)∧vs.map (·.1)=fs.map (·.1)∧DvL K ρ G (vs.map (·.2)) (fs.map (·.2))
 own:H dx=some (.own x)
 nx:∀ n,ρ n≠some x
 nd:∀ n,ρ n≠some dx
 gx:G x=none
 gd:G dx=none
theorem Hid.ne {C x dx:Addr}{fs:Fds}(h:Hid K ρ G H C x dx fs):dx≠x:=fun e=>by
 obtain⟨vs,h1,_⟩:=h.vs
 have:=h.own
 rw[e,h1] at this;cases this
theorem Hid.step {C x dx:Addr}{fs:Fds}(h:Hid K ρ G H C x dx fs)(R:Rel K ρ G H μ)(t:TrS N ρ G H ρ1 G1 H1)(up:∀ n b,ρ n=some b→ρ1 n=some b):Hid K ρ1 G1 H1 C x dx fs:=by
 obtain⟨vs,h1,h2,h3⟩:=h.vs
 refine⟨⟨vs,t.keep _ _ h.nx h1,h2,DvL.mono t.exG up h3⟩,t.keep _ _ h.nd h.own,fun n q=>?_,fun n q=>?_,?_,?_⟩
 ·rcases t.nρ n x q with (z|⟨m,_,z⟩)|z
  ·exact h.nx n z
  ·exact h.nx m z
  ·rw[h1] at z;cases z
 ·rcases t.nρ n dx q with (z|⟨m,_,z⟩)|z
  ·exact h.nd n z
  ·exact h.nd m z
  ·rw[h.own] at z;cases z
 ·cases q:G1 x with
  | none=>rfl
  | some o =>
   rcases t.nG x (by rw[q];simp) with z|z|⟨m,_,z⟩
   ·exact absurd h.gx z
   ·rw[h1] at z;cases z
   ·exact absurd z (h.nx m)
 ·cases q:G1 dx with
  | none=>rfl
  | some o =>
   rcases t.nG dx (by rw[q];simp) with z|z|⟨m,_,z⟩
   ·exact absurd h.gd z
   ·rw[h.own] at z;cases z
   ·exact absurd z (h.nd m)
abbrev BM:=Env→Mem→Fds→Res Fds
structure Bld (K:PySem.W.Frag)(nm:Str)(i N:Nat)(ρ0:Pm)(G0 H0:Hp)(C x dx:Addr)(ρ:Pm)(G H:Hp)(σ:Slots)(δ:Env)(μ:Mem)(fs:Fds):Prop where
 hN:N≤μ.length
 t:TrS N ρ0 G0 H0 ρ G H
 zx:H0 x=none
 zd:H0 dx=none
 R:Rel K ρ G H μ
 E:EnvOk K ρ G σ δ
 di:δ[i]?=some none
 si:σ[i]?=some (some (.ref x))
 hid:Hid K ρ G H C x dx fs
 cl:Cls K C
 at_:ClsAt K nm C
def PostB (K:PySem.W.Frag)(W:WX)(nm:Str)(i N:Nat)(ρ0:Pm)(G0 H0:Hp)(C x dx:Addr)(σ:Slots)(δ:Env)(Q:Hp→Prop):Res Fds→Prop
 | .ok fs' μ'=>∀ ρ' G' H',Bld K nm i N ρ0 G0 H0 C x dx ρ' G' H' σ δ μ' fs'→Q H'
 | .exc e μ'=>∀ ρ' G' H' cls d,TrS N ρ0 G0 H0 ρ' G' H'→Rel K ρ' G' H' μ'→EnvOk K ρ' G' σ δ→XcOk K G' H' e cls d→W cls d σ H'
 | .bad=>False
def SndB (K:PySem.W.Frag)(W:WX)(nm:Str)(i:Nat)(ts:TS)(g:BM):Prop:=∀ (N:Nat) (ρ0:Pm) (G0 H0:Hp) (C x dx:Addr) (ρ:Pm) (G H:Hp) (σ:Slots) (δ:Env) (μ:Mem) (fs:Fds) (D:Ends),
 Bld K nm i N ρ0 G0 H0 C x dx ρ G H σ δ μ fs→PostB K W nm i N ρ0 G0 H0 C x dx σ δ (D.nx σ) (g δ μ fs)→ts D σ H
def bNil:BM:=fun _ μ fs=>.ok fs μ
def bSeq (g h:BM):BM:=fun δ μ fs=>(g δ μ fs).bind fun fs' μ'=>h δ μ' fs'
def bFld (m:Str)(f:EM):BM:=fun δ μ fs=>(xOf f δ μ).bind fun y μ1=>if μ.length≤μ1.length∧fs.length<1000 then .ok (putD m y fs) μ1 else .bad
def spB (K:PySem.W.Frag)(nm:Str)(n:Nat)(F:List DV→Mem→Res Fds):Sp:=fun vs H Q E=>vs.length=n∧∃ N ρ0 G0 H0 C x dx ρ G μ xs ws,vs=.ref x::ws ∧
 (N≤μ.length∧TrS N ρ0 G0 H0 ρ G H∧H0 x=none∧H0 dx=none∧Rel K ρ G H μ∧DvL K ρ G ws xs∧Hid K ρ G H C x dx []∧Cls K C∧ClsAt K nm C) ∧
 (match F xs μ with
 | .ok fs' μ'=>∀ ρ' G' H',TrS N ρ0 G0 H0 ρ' G' H'→Rel K ρ' G' H' μ'→N≤μ'.length→Hid K ρ' G' H' C x dx fs'→Q .non H'
 | .exc e μ'=>∀ ρ' G' H' cls d,TrS N ρ0 G0 H0 ρ' G' H'→Rel K ρ' G' H' μ'→XcOk K G' H' e cls d→E cls d H'
 | .bad=>False)
def xMake (nm:Str)(F:List DV→Mem→Res Fds)(fa:AM):XM:=fun δ μ=>(fa δ μ).bind fun xs μ1=>if μ.length≤μ1.length then(F xs μ1).bind fun fs μ2=>.ok (.loc (μ2.length+1)) (μ2++[.own]++[.ins nm fs]) else .bad
def SndBS (K:PySem.W.Frag)(W:WX)(nm:Str)(i:Nat)(ts:TS)(g:Fds→SM):Prop:=∀ (N:Nat) (ρ0:Pm) (G0 H0:Hp) (C x dx:Addr) (ρ:Pm) (G H:Hp) (σ:Slots) (δ:Env) (μ:Mem) (fs:Fds) (D:Ends),
 Bld K nm i N ρ0 G0 H0 C x dx ρ G H σ δ μ fs→PostS K W N ρ0 G0 H0 D (g fs N δ μ)→ts D σ H
def gPub (nm:Str)(i:Nat)(g:SM):Fds→SM:=fun fs N δ μ=>g N (δ.set i (some (.loc (μ.length+1)))) (μ++[.own]++[.ins nm fs])
def gBSeq (b:BM)(g:Fds→SM):Fds→SM:=fun fs N δ μ=>lift (b δ μ fs) δ fun fs' μ'=>g fs' N δ μ'
def gBld (i:Nat)(F:List DV→Mem→Res Fds)(fa:AM)(g:Fds→SM):SM:=fun N δ μ=>lift (fa δ μ) δ fun xs μ1=>if N≤μ1.length∧i<δ.length then lift (F xs μ1) δ fun fs μ2=>g fs N (δ.set i none) μ2 else .bad
end
structure PMXA (X:Cx)(W:WX)(es:List Expr)(ta:TA)(f:XA):Prop where
 pe:PA X es ta
 sd:SndXA X.K W ta f
section
variable {K:PySem.W.Frag}{W:WX}{N M:Nat}{ρ ρ1:Pm}{G H G1 H1 G0 H0:Hp}{σ:Slots}{δ:Env}{μ:Mem}{te:TE}{ta:TA}{f:EM}{fa:AM}{fx:XM}{fs:XA}{Dn:Ends}
theorem SndXA.stm (h:SndXA K W ta fs)(R:Rel K ρ G H μ)(E:EnvOk K ρ G σ δ)(hN:N≤μ.length){k:List DV→Mem→Out}(hp:PostS K W N ρ G H Dn (lift (fs δ μ) δ k)){Q:List V→Hp→Prop}
  (go:∀ xs μ' ρ' G' H' vs,TrS N ρ G H ρ' G' H'→Rel K ρ' G' H' μ'→EnvOk K ρ' G' σ δ→DvL K ρ' G' vs xs→PostS K W N ρ G H Dn (k xs μ')→Q vs H'):ta σ H Q:=by
 refine h ρ G H σ δ μ Q R E ?_
 cases e:fs δ μ with
 | bad=>rw[e] at hp;exact hp
 | exc x μ'=>rw[e] at hp;exact fun ρ' G' H' cls d t R' q=>hp ρ' G' H' σ cls d (t.low hN) R' (E.up t.exG (up_of R t)) q
 | ok xs μ'=>rw[e] at hp;exact fun ρ' G' H' vs t R' q=>go xs μ' ρ' G' H' vs (t.low hN) R' (E.up t.exG (up_of R t)) q hp
end
structure FnDX (P:Program)(w:World)(K:PySem.W.Frag)(mg:Str→Option Value)(base:Heap)(cx:CXT)(k:Nat)(x:Str)(n:Nat)(F:List DV→Mem→Res DV):Prop where
 ar:∀ xs μ,F xs μ≠.bad→xs.length=n
 ex:∃ (f:Addr) (fd:FuncData) (ps:List Str),ps.length=n∧FnG P w K mg base cx k f fd ps (spX K n F)∧mg x=some (.ref f)∧PySem.W.keepIn K (.ref f)=true∧Binds K fd ps []
structure MthDX (P:Program)(w:World)(K:PySem.W.Frag)(mg:Str→Option Value)(base:Heap)(cx:CXT)(k:Nat)(nm m:Str)(n:Nat)(F:List DV→Mem→Res DV):Prop where
 ar:∀ xs μ,F xs μ≠.bad→xs.length=n
 ex:∃ (C f:Addr) (fd:FuncData) (ps:List Str),ps.length=n∧ClsAt K nm C∧FnG P w K mg base cx k f fd ps (spX K n F)∧Cls K C∧Meth K C m f∧Binds K fd ps []
structure MakDB (P:Program)(w:World)(K:PySem.W.Frag)(mg:Str→Option Value)(base:Heap)(cx:CXT)(k:Nat)(nm:Str)(n:Nat)(F:List DV→Mem→Res Fds):Prop where
 ar:∀ xs μ,F xs μ≠.bad→xs.length+1=n
 ex:∃ (C f:Addr) (fd:FuncData) (ps:List Str),ps.length=n∧ClsAt K nm C∧Cls K C∧mg nm=some (.ref C)∧FnG P w K mg base cx k f fd ps (spB K nm n F)∧Mk K C f∧Binds K fd ps []
structure PMB (X:Cx)(W:WX)(nm:Str)(i:Nat)(ss:List Stmt)(ts:TS)(g:BM):Prop where
 ps:PSs X ss ts
 sd:SndB X.K W nm i ts g
structure PMBS (X:Cx)(W:WX)(nm:Str)(i:Nat)(ss:List Stmt)(ts:TS)(g:Fds→SM):Prop where
 ps:PSs X ss ts
 sd:SndBS X.K W nm i ts g
section
variable {X:Cx}{W:WX}{P:Program}{w:World}{K:PySem.W.Frag}{mg:Str→Option Value}{base:Heap}{cx:CXT}{k n:Nat}{nm m x:Str}{F:List DV→Mem→Res DV}{FB:List DV→Mem→Res Fds}{e o:Expr}{es:List Expr}{tA:TA}{fA:AM}{xA:XA}{to te:TE}{fo fe f:EM}{fx:XM}{p pos apos:Pos}{t u:TS}{ss:List Stmt}{st:Stmt}
end
section
variable {K:PySem.W.Frag}{W:WX}{N:Nat}{ρ ρ1:Pm}{G H G1 H1 G0 H0:Hp}{σ:Slots}{δ:Env}{μ:Mem}{n c:Nat}{a:Addr}{nm m:Str}{fs:Fds}{d:D}{o':HO}
end
section
variable {X:Cx}{W:WX}{ss:List Stmt}{t:TS}{g:SM}
end
def ddrop {α:Type}(kvs:List (Ky×α))(k:Ky):List (Ky×α):=kvs.filter fun p=>decide (p.1≠k)
def dPopK (x y:DV)(z:Option DV)(μ:Mem):Res R:=match x with
 | .dat _=>.bad
 | .loc n=>match μ[n]?,keyD y with
  | some (.dct kvs),some k=>if allK kvs=true then match dval kvs (.k k) with
    | some v=>.ok (ofV v) (μ.set n (.dct (ddrop kvs (.k k))))
    | none=>match z with
     | some w=>.ok (ofV w) μ
     | none=>.bad
   else .bad
  | _,_=>.bad
def eDPop1 (fd fy:EM):EM:=fun δ μ=>(frzV fd δ μ).bind fun x μ1=>if isDct x μ1=true then(frzV fy δ μ1).bind fun y μ2=>dPopK x y none μ2 else .bad
def eDPop2 (fd fy fz:EM):EM:=fun δ μ=>(frzV fd δ μ).bind fun x μ1=>if isDct x μ1=true then(frzV fy δ μ1).bind fun y μ2=>(frzV fz δ μ2).bind fun z μ3=>dPopK x y (some z) μ3 else .bad
section
variable {K:PySem.W.Frag}{W:WX}{N:Nat}{ρ:Pm}{G H:Hp}{σ:Slots}{δ:Env}{μ:Mem}{td ty tz te to ti:TE}{fd fy fz fe fo fi:EM}{Q:VK}
def gDAug (fo fi fe:EM):SM:=fun _ δ μ=>lift ((frzV fo δ μ).bind fun x μ1=>(frzV fi δ μ1).bind fun i μ2=>(dGet x i μ2).bind fun r μ3=>(frzV fe δ μ3).bind fun y μ4=>match r,y with
 | .dat (.int a),.dat (.int b)=>match setDct μ4 x i (.dat (.int (a+b))) with
  | some μ5=>.ok () μ5
  | none=>.bad
 | _,_=>.bad) δ fun _ μ5=>.next δ μ5
def fldI (nms:List Str)(m:Str)(x:DV)(μ:Mem):Option Int:=match insAt μ x with
 | some (nm,fs)=>if nm∈nms then match fs.lookup m with
   | some (.dat (.int a))=>some a
   | _=>none
  else none
 | none=>none
def gFldAug (nms:List Str)(m:Str)(fo fe:EM):SM:=fun _ δ μ=>lift ((frzV fo δ μ).bind fun x μ1=>match fldI nms m x μ1 with
 | some a=>(frzV fe δ μ1).bind fun y μ2=>match y with
  | .dat (.int b)=>if(insAt μ2 x).map (·.1)=(insAt μ1 x).map (·.1) then match setFld nms μ2 x m (.dat (.int (a+b))) with
   | some μ3=>.ok () μ3
   | none=>.bad
   else .bad
  | _=>.bad
 | none=>.bad) δ fun _ μ3=>.next δ μ3
end
end DL
set_option maxHeartbeats 1000000
namespace DL
open PySem PySem.Spec PyProof.Rows L2 StX
section
variable {K:PySem.W.Frag}{W:WX}{N:Nat}{ρ:Pm}{G H:Hp}{σ:Slots}{δ:Env}{μ:Mem}{td ty tz te to ti:TE}{fd fy fz fe fo fi:EM}{Q:VK}{ts:TA}{g:AM}
def seqOf:DV→Option (List D)
 | .dat (.tup ds)=>some ds
 | .dat (.lst ds)=>some ds
 | _=>none
def aStar (f:EM)(g:AM):AM:=fun δ μ=>(frzV f δ μ).bind fun x μ1=>match seqOf x with
 | some ds=>(g δ μ1).bind fun xs μ2=>.ok (ds.map DV.dat++xs) μ2
 | none=>.bad
abbrev TGM:=DV→Env→Mem→Res Env
def hName (i:Nat):TGM:=fun x δ μ=>.ok (δ.set i (some x)) μ
def hFld (nms:List Str)(m:Str)(fo:EM):TGM:=fun y δ μ=>(frzV fo δ μ).bind fun x μ1=>match setFld nms μ1 x m y with
 | some μ2=>.ok δ μ2
 | none=>.bad
def hDPut (fo fi:EM):TGM:=fun y δ μ=>(frzV fo δ μ).bind fun x μ1=>(frzV fi δ μ1).bind fun i μ2=>match setDct μ2 x i y with
 | some μ3=>.ok δ μ3
 | none=>.bad
def hNil:List DV→Env→Mem→Res Env:=fun xs δ μ=>match xs with
 | []=>.ok δ μ
 | _=>.bad
def hCons (h:TGM)(r:List DV→Env→Mem→Res Env):List DV→Env→Mem→Res Env:=fun xs δ μ=>match xs with
 | x::xs=>(h x δ μ).bind fun δ1 μ1=>r xs δ1 μ1
 | []=>.bad
def TgMs (K:PySem.W.Frag)(g:TGs)(h:List DV→Env→Mem→Res Env):Prop:=∀ (ρ:Pm) (G H:Hp) (μ:Mem) (σ:Slots) (δ δ':Env) (μ':Mem) (vs:List V) (xs:List DV) (Q:Slots→Hp→Prop),Rel K ρ G H μ→EnvOk K ρ G σ δ→DvL K ρ G vs xs →
 h xs δ μ=.ok δ' μ'→(∀ G' H' σ',Tr ρ G H G' H'→Rel K ρ G' H' μ'→EnvOk K ρ G' σ' δ'→Q σ' H')→g vs σ H Q
def gTgtM (n:Nat)(h:List DV→Env→Mem→Res Env)(f:EM):SM:=fun _ δ μ=>lift (frzV f δ μ) δ fun x μ1=>match x with
 | .dat (.tup ds)=>if ds.length=n then match h (ds.map DV.dat) δ μ1 with
   | .ok δ' μ'=>.next δ' μ'
   | _=>.bad
  else .bad
 | _=>.bad
end
section
variable {X:Cx}{W:WX}{pos p tpos apos cpos:Pos}{e o i:Expr}{te to ti:TE}{f fo fi:EM}{tA:TA}{fA:AM}{es:List Expr}{m:Str}
end
structure PMHs (X:Cx)(es:List Expr)(g:TGs)(h:List DV→Env→Mem→Res Env):Prop where
 pg:PGs X es g
 ok:TgMs X.K g h
section
variable {X:Cx}{W:WX}{pos p tpos apos cpos:Pos}{e o i:Expr}{te to ti:TE}{f fo fi:EM}{es:List Expr}{m x:Str}{g:TGs}{h:List DV→Env→Mem→Res Env}
end
end DL
set_option maxHeartbeats 1000000
namespace DL
open PySem PySem.Spec PyProof.Rows L2 StX
section
variable {P:Program}{w:World}{K:PySem.W.Frag}{mg:Str→Option Value}{base:Heap}
end
section
variable {X:Cx}{W:WX}{P:Program}{w:World}{K:PySem.W.Frag}{mg:Str→Option Value}{base:Heap}{cx:CXT}{k n:Nat}{nm m x:Str}{FB:List DV→Mem→Res Fds}{e o:Expr}{es:List Expr}{tA:TA}{fA:AM}{to te:TE}{fo fe f:EM}{p pos pos2 apos:Pos}{t u:TS}{ss:List Stmt}{st:Stmt}{g:Fds→SM}
end
structure PrpD (P:Program)(w:World)(K:PySem.W.Frag)(mg:Str→Option Value)(base:Heap)(k:Nat)(nm f m:Str):Prop where
 ex:∃ (C p g:Addr) (fd:FuncData) (ps:List Str),ClsAt K nm C∧Cls K C∧PropOf K C f p g∧FnOk P w K mg base CX0 k g fd ps (getSp C m)∧Binds K fd ps []
section
variable {X:Cx}{W:WX}{P:Program}{w:World}{K:PySem.W.Frag}{mg:Str→Option Value}{base:Heap}{k:Nat}{nm f m:Str}{o:Expr}{to:TE}{fo:EM}{pos:Pos}
end
end DL
set_option maxHeartbeats 1000000
namespace DL
open PySem PySem.Spec PyProof.Rows L2 StX
section
variable {K:PySem.W.Frag}{W:WX}{N n:Nat}{ρ:Pm}{G H:Hp}{σ:Slots}{δ:Env}{μ:Mem}
end
end DL
namespace DL
open PySem PySem.Spec PyProof.Rows L2
def keyAt (e:Int×Value):Key:=match e.2 with
 | .int k _=>.inl k
 | .str x _=>.inr x
 | _=>.inl 0
def Good (w:World)(e:Int×Value):Prop:=keyIs (keyAt e) e.2=true∧e.1=keyH w (keyAt e)
theorem good_of (w:World){k:Key}{v:Value}(h:keyIs k v=true):Good w (keyH w k,v)∧keyAt (keyH w k,v)=k:=by
 rcases keyIs_shape h with⟨i,t,rfl,rfl⟩|⟨x,t,rfl,rfl⟩
 ·exact⟨⟨keyIs_int i t,rfl⟩,rfl⟩
 ·exact⟨⟨keyIs_str x t,rfl⟩,rfl⟩
theorem key_scan {k:Key}{v:Value}(h:keyIs k v=true):v.scannable=true:=by
 rcases keyIs_shape h with⟨i,t,rfl,rfl⟩|⟨x,t,rfl,rfl⟩ <;> rfl
theorem key_one {k j:Key}{v:Value}(h:keyIs k v=true):keyIs j v=true↔k=j:=by
 rcases keyIs_shape h with⟨i,t,rfl,rfl⟩|⟨x,t,rfl,rfl⟩
 ·constructor
  ·intro q
   rcases keyIs_shape q with⟨i',t',rfl,e⟩|⟨y,u,_,e⟩
   ·cases e;rfl
   ·cases e
  ·rintro rfl;exact h
 ·constructor
  ·intro q
   rcases keyIs_shape q with⟨i',t',_,e⟩|⟨y,u,rfl,e⟩
   ·cases e
   ·cases e;rfl
  ·rintro rfl;exact h
structure SetW (w:World)(h:Heap)(a:Addr)(S:Key→Bool)(n:Nat)(o:Obj)(es:Array (Int×Value))(ep:Nat)(t:SetTable):Prop where
 ob:h.get? a=some o
 ex:o.ExactSet
 da:o.data=.set es ep t
 gd:∀ e∈es.toList,Good w e
 nd:(es.toList.map keyAt).Nodup
 mb:∀ k,S k=true↔k∈es.toList.map keyAt
 bd:es.size<scanBound
 ft:t.fits es.size=true
 sz:es.size=n
 rs:Ris t.place.toList
 ld:w.params.followText "set-order"=true∨t.led=true
def SetX (w:World)(h:Heap)(a:Addr)(S:Key→Bool)(n:Nat):Prop:=∃ o es ep t,SetW w h a S n o es ep t
section
variable {P:Program}{w:World}{A:Around}{E:Value→Shared→Prop}{s:Shared}{a:Addr}{S:Key→Bool}{n:Nat}{h h':Heap}
theorem SetX.at (R:SetX w h a S n)(k:∀ o,h.get? a=some o→h'.get? a=some o):SetX w h' a S n:=by
 obtain⟨o,es,ep,t,r⟩:=R
 exact⟨o,es,ep,t,⟨k o r.ob,r.ex,r.da,r.gd,r.nd,r.mb,r.bd,r.ft,r.sz,r.rs,r.ld⟩⟩
theorem SetX.congr {S':Key→Bool}(R:SetX w h a S n)(e:∀ k,S' k=S k):SetX w h a S' n:=by
 rw[show S'=S from funext e];exact R
theorem SetW.elems {o:Obj}{es:Array (Int×Value)}{ep:Nat}{t:SetTable}(r:SetW w h a S n o es ep t):ElemsOf (mixKind P w) es.toList:=fun e he =>
 ⟨⟨keyAt e,(r.gd e he).1,(r.gd e he).2⟩,key_scan (r.gd e he).1⟩
theorem mem_keys {es:List (Int×Value)}(g:∀ e∈es,Good w e)(k:Key):k∈es.map keyAt↔∃ e∈es,(mixKind P w).is k e.2=true:=by
 rw[List.mem_map]
 constructor
 ·rintro ⟨e,he,q⟩;exact⟨e,he,(key_one (g e he).1).2 q⟩
 ·rintro ⟨e,he,q⟩;exact⟨e,he,(key_one (g e he).1).1 q⟩
theorem set_put {g:Bool→Sem Unit}(hg:∀ (b:Bool) (s₁:Shared) (Q':Unit→Shared→Prop),Q' () s₁→wpAny (model P w) A (g b) Q' E s₁){o:Obj}{es es1:Array (Int×Value)}{ep:Nat}{t t2:SetTable}{S':Key→Bool}
  (ho:s.heap.get? a=some o) (hex:o.ExactSet) (hd:o.data=.set es ep t) (g1:∀ e∈es1.toList,Good w e) (nd1:(es1.toList.map keyAt).Nodup) (m1:∀ k,S' k=true↔k∈es1.toList.map keyAt)
  (hb1:es1.size<scanBound) (hf2:t2.fits es1.size=true) (hr:Ris t2.place.toList) (hl:w.params.followText "set-order"=true∨t2.led=true) {wd:Bool} {R:Option Bool→Shared→Prop}
  (hR:∀ h',Heap.SameBut a s.heap h'→SetX w h' a S' es1.size→R (some true) { s with heap:=h' }) :
  wpAny (model P w) A (do
    storeSet a es1 t2
    if(!wd&&t2.tooFull)=true then do
      g (relayAll t2 es1 (SetTable.grown es1.size)).2.2
      storeSet a (relayAll t2 es1 (SetTable.grown es1.size)).1 (relayAll t2 es1 (SetTable.grown es1.size)).2.1
      pure (some true)
     else pure (some true)) R E s:=by
 refine wpAny_bind (wpAny_storeSet_of ho hd ?_ (fits_of_scanBound hb1))
 have ho1:=store_at (es':=es1) (t':=t2) ho hd
 have sb1:=Heap.SameBut.update s.heap a (Obj.putSet es1 t2)
 split
 ·have pm:=relayAll_perm t2 es1 (SetTable.grown es1.size)
  have f3:=relayAll_fits t2 es1 (SetTable.grown es1.size)
  have r3:=relayAll_ris t2 es1 (SetTable.grown es1.size)
  have l3:=relayAll_led t2 es1 (SetTable.grown es1.size)
  generalize relayAll t2 es1 (SetTable.grown es1.size)=Z at pm f3 r3 l3 ⊢
  obtain⟨es2,t3,gave⟩:=Z
  dsimp only at pm f3 r3 l3 ⊢
  have hsz:es2.size=es1.size:=by rw[←Array.length_toList,pm.length_eq,Array.length_toList]
  have hb2:es2.size<scanBound:=hsz▸hb1
  refine wpAny_bind (hg _ _ _ (wpAny_bind (wpAny_storeSet_of ho1 rfl ?_ (fits_of_scanBound hb2))))
  have pk:=pm.map keyAt
  exact wpAny_pure (hR _ (sb1.trans (Heap.SameBut.update _ a _)) ⟨_,es2,_,t3,⟨store_at (es':=es2) (t':=t3) ho1 rfl,hex,rfl,fun e he=>g1 e (pm.mem_iff.mp he),pk.nodup_iff.mpr nd1,fun k=>(m1 k).trans pk.mem_iff.symm,hb2,f3,hsz,r3,hl.imp id fun z=>l3.trans z⟩⟩)
 ·exact wpAny_pure (hR _ sb1 ⟨_,es1,_,t2,⟨ho1,hex,rfl,g1,nd1,m1,hb1,hf2,rfl,hr,hl⟩⟩)
theorem set_add {k:Key}{v:Value}{Q:Bool→Shared→Prop}(hk:keyIs k v=true)(R:SetX w s.heap a S n)(room:n+1<scanBound)
  (hQ:∀ h',Heap.SameBut a s.heap h'→SetX w h' a (fun j=>S j||decide (j=k)) (if S k=true then n else n+1)→Q (!S k) { s with heap:=h' }) :
  wpAny (model P w) A (setAddHashed a v (keyH w k)) Q E s:=by
 obtain⟨o,es,ep,t,r⟩:=R
 have hsc:=key_scan hk
 have hel:ElemsOf (mixKind P w) es.toList:=r.elems
 have hkm:(mixKind P w).is k v=true:=hk
 unfold setAddHashed setAddHashedIn
 refine wpAny_holding (wpAny_bind (wpAny_setState_of r.ob r.da r.ft ?_))
 dsimp only
 rw[byScan_of hsc r.bd hel]
 simp only[↓reduceIte]
 unfold setAddByScan
 refine wpAny_bind (wpAny_bind (wpAny_rule (wpAny_bind (wpAny_setScan_of (knd:=mixKind P w) hkm r.ob r.da r.ft hel ?_))))
 cases hfi:List.findIdx? (fun e=>(mixKind P w).is k e.2) es.toList with
 | some j =>
  dsimp only
  obtain⟨hj,pj,_⟩:=List.findIdx?_eq_some_iff_getElem.mp hfi
  have hSk:S k=true:=(r.mb k).2 ((mem_keys (P:=P) r.gd k).2 ⟨es.toList[j],List.getElem_mem hj,pj⟩)
  have q:=hQ s.heap (Heap.SameBut.refl a s.heap) ⟨o,es,ep,t,⟨r.ob,r.ex,r.da,r.gd,r.nd,fun i=>by
   rw[Bool.or_eq_true,decide_eq_true_eq,←r.mb i]
   exact⟨fun z=>z.elim id (fun e=>e▸hSk),.inl⟩,r.bd,r.ft,by rw[if_pos hSk];exact r.sz,r.rs,r.ld⟩⟩
  rw[hSk] at q
  exact wpAny_pure (wpAny_pure q)
 | none =>
  dsimp only
  have hnk:k∉es.toList.map keyAt:=fun z=>by
   obtain⟨e,he,q⟩:=(mem_keys (P:=P) r.gd k).1 z
   have c:=List.findIdx?_eq_none_iff.mp hfi e he
   rw[q] at c;cases c
  have hSk:S k=false:=by
   cases q:S k with
   | false=>rfl
   | true=>exact absurd ((r.mb k).1 q) hnk
  have pm:=layNew_perm t es (keyH w k) v
  have f1:=layNew_fits t es (keyH w k) v
  have r1:=layNew_ris t es (keyH w k) v r.rs
  have l1:=layNew_led t es (keyH w k) v
  show wpAny (model P w) A _ _ E s
  have eH:(mixKind P w).hash k=keyH w k:=rfl
  try rw[eH]
  generalize layNew t es (keyH w k) v=Z at pm f1 r1 l1 ⊢
  obtain⟨es1,t1,wd,gave⟩:=Z
  dsimp only at pm f1 r1 l1 ⊢
  rw[Array.toList_push] at pm
  have pc:es1.toList.Perm ((keyH w k,v)::es.toList):=pm.trans (List.perm_append_singleton _ _)
  have pk:(es1.toList.map keyAt).Perm (k::es.toList.map keyAt):=by
   have q:=pc.map keyAt
   rw[List.map_cons,(good_of w hk).2] at q
   exact q
  have g1:∀ e∈es1.toList,Good w e:=fun e he=>(List.mem_cons.mp (pc.mem_iff.mp he)).elim (fun z=>z▸(good_of w hk).1) (r.gd e)
  have nd1:(es1.toList.map keyAt).Nodup:=pk.nodup_iff.mpr (List.nodup_cons.mpr ⟨hnk,r.nd⟩)
  have m1:∀ i,(S i||decide (i=k))=true↔i∈es1.toList.map keyAt:=fun i=>by
   rw[Bool.or_eq_true,decide_eq_true_eq,r.mb i,pk.mem_iff,List.mem_cons]
   exact Or.comm
  have hsz:es1.size=n+1:=by rw[←Array.length_toList,pc.length_eq,List.length_cons,Array.length_toList,r.sz]
  have hb1:es1.size<scanBound:=hsz▸room
  have hled:w.params.followText "set-order"=true∨t1.led=true:=r.ld.imp id fun z=>l1.trans z
  have fin:∀ h',Heap.SameBut a s.heap h'→SetX w h' a (fun j=>S j||decide (j=k)) es1.size→Q true { s with heap:=h' }:=fun h' sb x=>by
   have q:=hQ h' sb
   rw[hSk] at q
   exact q (hsz▸x)
  have gw:∀ (b:Bool) {s₁:Shared} {Q':Unit→Shared→Prop},Q' () s₁→wpAny (model P w) A (match b with|true=>rule "set.scan.the-table-gave-way" | false=>pure ()) Q' E s₁:=fun b s₁ Q' q=>by
   cases b
   ·exact wpAny_pure q
   ·exact wpAny_rule q
  refine wpAny_bind (gw _ ?_)
  split
  ·refine wpAny_bind ?_
   rw[hashByValue_scannable 8 hsc]
   refine wpAny_pure (set_put ?_ r.ob r.ex r.da g1 nd1 m1 hb1 ?_ ?_ ?_ ?_)
   ·intro b s₁ Q' q
    cases b <;> first|exact wpAny_pure q|exact wpAny_rule q
   ·first|(split <;> first|exact f1|exact SetTable.fits_plain_off f1)|exact f1
   ·first|(split <;> exact r1)|exact r1
   ·first|(split <;> exact hled)|exact hled
   ·intro h' sb x;dsimp only;exact wpAny_pure (fin h' sb x)
  ·refine wpAny_bind (wpAny_pure ?_)
   simp only[↓reduceIte]
   refine set_put ?_ r.ob r.ex r.da g1 nd1 m1 hb1 f1 r1 hled ?_
   ·intro b s₁ Q' q
    cases b <;> first|exact wpAny_pure q|exact wpAny_rule q
   ·intro h' sb x;dsimp only;exact wpAny_pure (fin h' sb x)
end
def kIn (ks:List Key)(j:Key):Bool:=ks.any fun k=>decide (j=k)
theorem kIn_iff {ks:List Key}{j:Key}:kIn ks j=true↔j∈ks:=by
 unfold kIn
 rw[List.any_eq_true]
 exact⟨fun⟨k,h,e⟩=>of_decide_eq_true e▸h,fun h=>⟨j,h,decide_eq_true rfl⟩⟩
abbrev KeysAre:List Value→List Key→Prop:=Paired fun v k=>keyIs k v=true
section
variable {P:Program}{w:World}{A:Around}{E:Value→Shared→Prop}{s:Shared}
theorem setX_fresh {h:Heap}{a:Addr}{ks:List Key}(ho:h.get? a=some { cls:=.type "set",dict:=none,data:=.set #[] 0 (.fresh 0 0 (!w.params.followText "set-order")) }):SetX w h a (kIn (ks.take 0)) 0 :=
 ⟨_,#[],0,_,⟨ho,⟨rfl,rfl,rfl⟩,rfl,(fun e he=>by simp at he),(by simp),(fun k=>by simp[kIn]),(by decide),(by rfl),rfl,List.Pairwise.nil,by
  show _∨(!w.params.followText "set-order")=true
  cases w.params.followText "set-order"
  ·exact .inr rfl
  ·exact .inl rfl⟩⟩
theorem key_hash {k:Key}{v:Value}{Q:Int→Shared→Prop}(h:keyIs k v=true)(q:Q (keyH w k) { s with toks:=s.toks+1 }):wpAny (model P w) A (pyHash v) Q E s:=(mixKind P w).pyHash (k:=k) h q
theorem keys_get:∀ {vs:List Value} {ks:List Key} {i:Nat} {v:Value},KeysAre vs ks→vs[i]?=some v→∃ k,ks[i]?=some k∧keyIs k v=true
 | _,_,_,_,.nil,h=>by simp at h
 | _,_,0,_,.cons a _,h=>by cases h;exact⟨_,rfl,a⟩
 | _,_,i+1,_,.cons _ b,h=>keys_get (i:=i) b h
end
section
variable {P:Program}{w:World}{A:Around}{E:Value→Shared→Prop}{s:Shared}{a:Addr}{S:Key→Bool}{n:Nat}
end
def SetH (w:World)(a:Addr)(S:Key→Bool):HO:=.ext fun h=>∃ n,SetX w h a S n
theorem setH_ok {P:Program}{w:World}{H:Hp}{h:Heap}{a:Addr}{S:Key→Bool}{n:Nat}(R:SetX w h a S n):ObjOk P w H h a (SetH w a S) :=
 ⟨⟨n,R⟩,by obtain⟨o,_,_,_,r⟩:=R;exact⟨o,r.ob⟩,fun h1 h2 ⟨m,x⟩ k=>⟨m,x.at k⟩⟩
section
variable {X:Cx}
theorem keys_of_vals:∀ {ks:List Key} {us:List Value},Vals (ks.map kV) us→KeysAre us ks
 | [],_,r=>by cases r;exact .nil
 | .inl i::ks,_,r=>by
  cases r with
  | cons r1 r2=>obtain⟨t,rfl⟩:=r1;exact .cons (keyIs_int i t) (keys_of_vals r2)
 | .inr x::ks,_,r=>by
  cases r with
  | cons r1 r2=>obtain⟨t,rfl⟩:=r1;exact .cons (keyIs_str x t) (keys_of_vals r2)
end
section
variable {K:PySem.W.Frag}{W:WX}{ρ:Pm}{G H:Hp}{w:World}
end
section
variable {X:Cx}{W:WX}{pos p p2 q tpos apos cpos:Pos}{a b e o i:Expr}{es:List Expr}{lo hi:Option Expr}{te ta tb to ti:TE}{tA:TA}{fA:AM}{tl th:TO}{f fa fb fo fi:EM}{fl fh:OM}
end
section
variable {QR:R→Mem→Prop}{E:Xc→Mem→Prop}{δ:Env}{μ:Mem}
end
end DL
set_option maxHeartbeats 2500000
namespace DL
open PySem PySem.Spec PyProof.Rows L2 PpSet
section
variable {X:Cx}
end
end DL
namespace DL
open PySem PySem.Spec PyProof.Rows L2
section
variable {K:PySem.W.Frag}{W:WX}{ρ:Pm}{G H G0 H0:Hp}{μ:Mem}{σ:Slots}{δ:Env}
def dcL (h:D→Env→Option Env)(ft:TM)(fk fv:EM)(δ:Env):List D→List (Ky×DV)→Mem→Res (List (Ky×DV))
 | [],acc,μ=>.ok acc μ
 | d::ds,acc,μ=>match h d δ with
  | none=>.bad
  | some δ1=>match ft δ1 μ with
   | .ok true μ1=>match frzV fk δ1 μ1 with
    | .ok k μ2=>match keyD k,frzV fv δ1 μ2 with
     | some kk,.ok y μ3=>dcL h ft fk fv δ ds (dput acc (.k kk) y) μ3
     | _,_=>.bad
    | _=>.bad
   | .ok false μ1=>dcL h ft fk fv δ ds acc μ1
   | _=>.bad
def eDc (fi:IM)(h:D→Env→Option Env)(ft:TM)(fk fv:EM)(vs:List Nat):EM:=fun δ μ=>(fi δ μ).bind fun xs μ' =>
 if xs.length≤sizeLine then(dcL h ft fk fv (wipeE δ vs) xs [] μ').bind fun ys μ2=>.ok (.nk ys) μ2 else .bad
def lc2L (h:D→Env→Option Env)(ft:TM)(fi1:IM)(h1:D→Env→Option Env)(ft1:TM)(fe:EM)(vs1:List Nat)(δ:Env):List D→Nat→Mem→Res (List DV)
 | [],_,μ=>.ok [] μ
 | d::ds,c,μ=>match h d δ with
  | none=>.bad
  | some δ1=>match ft δ1 μ with
   | .ok true μ1=>match fi1 δ1 μ1 with
    | .ok xs1 μ2=>if c+xs1.length≤sizeLine then(lcL h1 ft1 fe (wipeE δ1 vs1) xs1 μ2).bind fun ys μ3=>(lc2L h ft fi1 h1 ft1 fe vs1 δ ds (c+ys.length) μ3).bind fun zs μ4=>.ok (ys++zs) μ4 else .bad
    | _=>.bad
   | .ok false μ1=>lc2L h ft fi1 h1 ft1 fe vs1 δ ds c μ1
   | _=>.bad
def eLc2 (fi:IM)(h:D→Env→Option Env)(ft:TM)(fi1:IM)(h1:D→Env→Option Env)(ft1:TM)(fe:EM)(vs vs1:List Nat):EM:=fun δ μ=>(fi δ μ).bind fun xs μ' =>
 (lc2L h ft fi1 h1 ft1 fe vs1 (wipeE δ vs) xs 0 μ').bind fun ys μ2=>.ok (.nl ys) μ2
end
def DatK (x:DV)(Q:D→Prop):Prop:=∃ d,x=.dat d∧Q d
theorem dkk {d:D}{Q:D→Prop}(h:Q d):DatK (.dat d) Q:=⟨d,rfl,h⟩
theorem s_raiseK {nm f:Str}{fe:EM}{P:DL.PO}{δ:DL.Env}{μ:Mem}{N:Nat}(h:Sat (frzV fe δ μ) (fun x μ'=>DatK x fun d=>P.ex ⟨nm,[(f,d)]⟩ δ μ') (fun x μ=>P.ex x δ μ)):SatS (gRaise nm f fe N δ μ) P:=s_raise h
theorem at0 {α:Type}{x:α}{xs:List α}:atI (x::xs) 0=some x:=DL.atI_nat (k:=0) rfl
theorem l_ix0T {d:D}{ds:List D}{QR:R→Mem→Prop}{E:Xc→Mem→Prop}{μ:Mem}(h:QR (.dat d) μ):Sat (dIx (.dat (.tup (d::ds))) (.dat (.int 0)) μ) QR E:=l_ixT at0 h
theorem l_ix0L {d:D}{ds:List D}{QR:R→Mem→Prop}{E:Xc→Mem→Prop}{μ:Mem}(h:QR (.dat d) μ):Sat (dIx (.dat (.lst (d::ds))) (.dat (.int 0)) μ) QR E:=l_ixL at0 h
theorem lc_ix {h:D→DL.Env→Option DL.Env}{ft:TM}{fe:EM}{ds:List D}{δ:DL.Env}{μ:Mem}{QA:List DV→Mem→Prop}{E:Xc→Mem→Prop}(I:Nat→List DV→Mem→Prop)(h0:I 0 [] μ)
  (ht:∀ (i:Nat) d,ds[i]?=some d→∀ ys μ,I i ys μ→∃ δ1,h d δ=some δ1∧Sat (ft δ1 μ) (fun b μ1=>if b=true then Sat (frzV fe δ1 μ1) (fun y μ2=>I (i+1) (ys++[y]) μ2) (fun _ _=>False) else I (i+1) ys μ1) (fun _ _=>False))
  (hq:∀ ys μ,I ds.length ys μ→QA ys μ):Sat (lcL h ft fe δ ds μ) QA E:=by
 have key:∀ (n i:Nat),i+n=ds.length→∀ zs μ,I i zs μ→Sat (lcL h ft fe δ (ds.drop i) μ) (fun ys μ'=>I ds.length (zs++ys) μ') (fun _ _=>False):=by
  intro n
  induction n with
  | zero =>
   intro i hi zs μ hz
   rw[List.drop_of_length_le (by omega)]
   have:i=ds.length:=by omega
   subst this
   show I ds.length (zs++[]) μ
   rw[List.append_nil];exact hz
  | succ n ih =>
   intro i hi zs μ hz
   have hl:i<ds.length:=by omega
   rw[List.drop_eq_getElem_cons hl]
   obtain⟨δ1,h1,h2⟩:=ht i ds[i] (List.getElem?_eq_getElem hl) zs μ hz
   simp only[lcL,h1]
   cases e:ft δ1 μ with
   | ok b μ1 =>
    rw[e] at h2
    cases b with
    | true =>
     simp only at h2 ⊢
     have h2:Sat (frzV fe δ1 μ1) (fun y μ2=>I (i+1) (zs++[y]) μ2) (fun _ _=>False):=h2
     cases e2:frzV fe δ1 μ1 with
     | ok y μ2 =>
      rw[e2] at h2
      refine sat_bind ((ih (i+1) (by omega) (zs++[y]) μ2 h2).mono (fun ys μ3 q=>?_) fun _ _ q=>q)
      show I ds.length (zs++y::ys) μ3
      rw[List.append_cons];exact q
     | exc x μ2=>rw[e2] at h2;exact h2.elim
     | bad=>rw[e2] at h2;exact h2.elim
    | false=>exact ih (i+1) (by omega) zs μ1 h2
   | exc x μ1=>rw[e] at h2;exact h2.elim
   | bad=>rw[e] at h2;exact h2.elim
 have:=key ds.length 0 (by omega) [] μ h0
 rw[List.drop_zero] at this
 exact this.mono (fun ys m q=>hq ys m q) fun _ _ q=>q.elim
theorem rng_len (k:Int)(n:Nat):(rngD k n).length=n:=by unfold rngD;simp
theorem range_at {n k:Nat}{d:D}(h:(rngD 0 n)[k]?=some d):k<n∧d=.int k:=by
 unfold rngD at h
 rw[List.getElem?_map] at h
 obtain⟨j,hj,rfl⟩:=Option.map_eq_some_iff.mp h
 obtain⟨h1,h2⟩:=List.getElem?_eq_some_iff.mp hj
 rw[List.getElem_range] at h2
 subst h2
 exact⟨by simpa using h1,by simp⟩
def menu:List Str:=["a","ab","end","l","more","new","share","write","x","zzzzzzzz"]
def louds:List Str:=["new","share","share","end","write","write"]
def quiets:List Str:=["hold","leave","more","less"]
theorem menu_fit:∀ s∈menu,PyData.strOk s=true∧s.cps.size≤16:=by decide +kernel
abbrev Sp1:=Str×List Str
def two (w:Str):Bool:=decide (w="share")||decide (w="hold")
structure StOk (b:Bool)(ss:List Str)(x:Sp1):Prop where
 w:x.1∈(if b=true then louds else louds++quiets)
 sh:two x.1=true→∃ a c,x.2=[a,c]∧a≠c∧a∈ss∧c∈ss
 ot:two x.1=false→∃ a,x.2=[a]∧a∈ss
structure DeedOk (b:Bool)(as os:List Str)(xs:List Sp1):Prop where
 nd:(as++os).Nodup
 me:∀ s∈as++os,s∈menu
 a1:1≤as.length
 a3:as.length≤3
 o2:os.length≤2
 x1:1≤xs.length
 x8:xs.length≤8
 st:∀ x∈xs,StOk b (as++os) x
theorem StOk.word {b:Bool}{ss:List Str}{x:Sp1}(h:StOk b ss x):x.1∈louds++quiets:=by
 have:=h.w
 by_cases e:b=true
 ·rw[if_pos e] at this;exact List.mem_append_left _ this
 ·rw[if_neg e] at this;exact this
theorem StOk.mem {b:Bool}{ss:List Str}{x:Sp1}(h:StOk b ss x):∀ s∈x.2,s∈ss:=by
 intro s hs
 cases e:two x.1 with
 | true=>obtain⟨a,c,e2,_,h1,h2⟩:=h.sh e;rw[e2] at hs;simp at hs;rcases hs with rfl|rfl <;> assumption
 | false=>obtain⟨a,e2,h1⟩:=h.ot e;rw[e2] at hs;simp at hs;subst hs;exact h1
theorem StOk.len {b:Bool}{ss:List Str}{x:Sp1}(h:StOk b ss x):1≤x.2.length∧x.2.length≤2:=by
 cases e:two x.1 with
 | true=>obtain⟨a,c,e2,_⟩:=h.sh e;rw[e2];simp
 | false=>obtain⟨a,e2,_⟩:=h.ot e;rw[e2];simp
def quietT:List (Str×Str):=[("share","hold"),("end","leave")]
def loudT:List (Str×Str):=[("hold","share"),("leave","end")]
def tabW (q:Bool):List (Str×Str):=if q=true then quietT else loudT
def other (q:Bool)(xs:List Sp1)(i:Nat):Option Sp1:=match xs[i]? with
 | some x=>match (tabW q).lookup x.1 with
  | some w=>some (w,x.2)
  | none=>none
 | none=>none
def ixOf:D→Option Nat
 | .int i=>if 0≤i then some i.toNat else none
 | _=>none
def good (q:Bool)(xs:List Sp1)(d:D):Option (Nat×Sp1):=match ixOf d with
 | some i=>match other q xs i with
  | some y=>some (i,y)
  | none=>none
 | none=>none
structure DeedSh (as:List Str)(xs:List Sp1):Prop where
 a3:as.length≤3
 am:∀ s∈as,s∈menu
 x8:xs.length≤8
 xw:∀ x∈xs,x.1∈louds++quiets
 x2:∀ x∈xs,x.2.length≤2
 xm:∀ x∈xs,∀ s∈x.2,s∈menu
theorem DeedOk.sh {b:Bool}{as os:List Str}{xs:List Sp1}(h:DeedOk b as os xs):DeedSh as xs :=
 ⟨h.a3,fun s hs=>h.me s (List.mem_append_left _ hs),h.x8,fun x hx=>(h.st x hx).word,fun x hx=>(h.st x hx).len.2,fun x hx s hs=>h.me s ((h.st x hx).mem s hs)⟩
def isC (w:Str):Bool:=((tabW true).lookup w).isSome
def cnt (xs:List Sp1):List Nat:=(xs.zipIdx.filter fun p=>isC p.1.1).map (·.2)
structure Mk where
 a:Int
 l:Option Int
 c:Bool
def MkOk (n:Int)(m:Mk):Prop:=(0≤m.a∧m.a<n)∧∀ i,m.l=some i→0≤i∧i<n
structure MsOk (ms:List Mk):Prop where
 h1:1≤ms.length
 h6:ms.length≤6
 ok:∀ m∈ms,MkOk ms.length m
def stepM (m:Mk)(b:Bool):Option Int:=if b=true then some m.a else m.l
def stepO (ms:List Mk)(o:Option Int)(b:Bool):Option Int:=match o with
 | none=>none
 | some i=>match ms[i.toNat]? with
  | some m=>stepM m b
  | none=>none
def InR (n:Nat)(o:Option Int):Prop:=∀ i,o=some i→0≤i∧i<n
variable {ms:List Mk}{n k:Nat}{b:Bool}
theorem step_in (hms:MsOk ms){o:Option Int}(h:InR ms.length o):InR ms.length (stepO ms o b):=by
 intro i e
 cases o with
 | none=>cases e
 | some j =>
  obtain⟨h1,h2⟩:=h j rfl
  simp only[stepO] at e
  have hl:j.toNat<ms.length:=by omega
  rw[List.getElem?_eq_getElem hl] at e
  have ok:=hms.ok _ (List.getElem_mem hl)
  simp only[stepM] at e
  by_cases hb:b=true
  ·rw[if_pos hb] at e;cases e;exact ok.1
  ·rw[if_neg hb] at e;exact ok.2 i e
abbrev Ws:=List (Int×List Bool)
structure Gd (ms:List Mk)(s:Ws×List Int):Prop where
 nd:(s.1.map (·.1)).Nodup
 lt:∀ p∈s.1,0≤p.1∧p.1<ms.length
 q:∀ x∈s.2,x∈s.1.map (·.1)
 ln:∀ p∈s.1,p.2.length+1≤s.1.length
 ne:1≤s.1.length
 z:(0,([]:List Bool))∈s.1
end DL
namespace DL
open PySem PySem.Spec PyProof.Rows L2
section
variable {δ:Env}{μ:Mem}{QR:R→Mem→Prop}{E:Xc→Mem→Prop}{a b:Bool}{o o':Option Int}
end
section
variable {K:PySem.W.Frag}{W:WX}{ρ:Pm}{G H G0 H0:Hp}{μ:Mem}{σ:Slots}{δ:Env}
def eqKv (ps qs:List (Key×PyData)):Bool:=ps.length==qs.length&&ps.all fun p=>match (qs.find? fun q=>decide (q.1=p.1)) with
 | some q=>PyData.eqv p.2 q.2
 | none=>false
end
section
variable {X:Cx}{pins:List (Addr×Obj)}{σ:L2.St}{H:Hp}{s:Shared}
end
def pyKd:List (Ky×D)→Option (List (Key×PyData))
 | []=>some []
 | (.k k,d)::r=>match toPy d,pyKd r with
  | some p,some ps=>if SeqAt.shaped p=true then some ((k,p)::ps) else none
  | _,_=>none
 | (.t _,_)::_=>none
def dctD (x:DV)(μ:Mem):Option (List (Ky×D)):=(dctOf x μ).bind allDatK
def dEqK (x y:DV)(μ:Mem):Res R:=match (dctD x μ).bind pyKd,(dctD y μ).bind pyKd with
 | some ps,some qs=>.ok (.dat (.bl (eqKv ps qs))) μ
 | _,_=>.bad
section
variable {K:PySem.W.Frag}{W:WX}{ρ:Pm}{G H G0 H0:Hp}{μ:Mem}{σ:Slots}{δ:Env}
end
noncomputable def dEqC:DV→DV→Mem→Res R:=alt2 dEqA dEqK
section
variable {X:Cx}{W:WX}{p p2 q pos:Pos}{e:Expr}{te:TE}{f:EM}
end
section
variable {K:PySem.W.Frag}{W:WX}{ρ:Pm}{G H:Hp}{σ:Slots}{δ:Env}{μ:Mem}{w:World}
end
section
variable {X:Cx}{W:WX}
end
section
variable {X:Cx}{W:WX}{e:Expr}{te:TE}{p p2 q pos:Pos}
end
section
variable {K:PySem.W.Frag}{W:WX}{ρ:Pm}{G H:Hp}
end
end DL
set_option maxHeartbeats 1000000
namespace DL
open PySem PySem.Spec PyProof.Rows L2 RZ
section
variable {prog:Program}{w:World}{A:Around}{E:Value→Shared→Prop}{s:Shared}{z tin tout p i j a b:Addr}{fl:Bool}{op:Obj}{m n:Nat}{us vs:Array Value}
end
section
variable {prog:Program}{w:World}
end
section
variable {X:Cx}{W:WX}{e e2:Expr}{ta:TA}{p p2 q pos:Pos}
end
end DL
set_option maxHeartbeats 1000000
namespace DL
open PySem PySem.Spec PyProof.Rows L2
def pairsZ:List D→List D→Option (List (Ky×DV))
 | [],[]=>some []
 | a::as,b::bs=>match keyD (.dat a),pairsZ as bs with
  | some k,some ps=>some ((.k k,.dat b)::ps)
  | _,_=>none
 | _,_=>none
def zipOf (xs:List DV):Option (List (Ky×DV)):=match xs with
 | [.dat (.tup as),.dat (.tup bs)]=>pairsZ as bs
 | [.dat (.lst as),.dat (.lst bs)]=>pairsZ as bs
 | _=>none
def eDictZip (fa:AM):EM:=fun δ μ=>(fa δ μ).bind fun xs μ1=>match zipOf xs with
 | some ps=>.ok (.nk (mergeD [] ps)) μ1
 | none=>.bad
section
variable {K:PySem.W.Frag}{W:WX}{ρ:Pm}{G H:Hp}{μ:Mem}{ta:TA}{fa:AM}
end
section
variable {X:Cx}{W:WX}{e e2:Expr}{ta:TA}{fa:AM}{p p2 q pos px py pz pt pt2:Pos}
end
def unlkL (c:Nat)(μ:Mem):Option Mem:=match μ[c]? with
 | some (.lkl xs)=>some (μ.set c (.lst xs))
 | _=>none
section
variable {K:PySem.W.Frag}{W:WX}{N:Nat}{ρ ρ':Pm}{G H G' H' G0 H0:Hp}{μ μ':Mem}{σ:Slots}{δ:Env}{n c:Nat}{d:Addr}{od:Obj}{u:HO}{Dn:Ends}
def lklOf (x:DV)(μ:Mem):Option (List D):=match x with
 | .dat d=>seqD (.dat d)
 | .loc c=>match μ[c]? with
  | some (.lkl xs)=>allDat xs
  | _=>none
def imEnumL (f:AM):IM:=fun δ μ=>(f δ μ).bind fun xs μ'=>match xs with
 | [x]=>match lklOf x μ' with
  | some ds=>.ok (enumD 0 ds) μ'
  | none=>.bad
 | _=>.bad
def repS (x:Str)(k:Nat):Str:=⟨(List.replicate k x.cps).foldl (·++·) #[]⟩
end
section
variable {X:Cx}{W:WX}{tg e a b:Expr}{te ta tb:TE}{f fa fb:EM}{tA:TA}{fA:AM}{pos p tpos:Pos}
end
section
variable {X:Cx}{cx:CXT}{k n:Nat}{f:Addr}{fd:FuncData}{ps ks:List Str}{sp:Sp}{E:L2.St→XK}{x:Str}{p pos:Pos}{e:Expr}{es:List Expr}{kws:List Keyword}{t tk:TA}
abbrev appL {α:Type}(a b:List α):List α:=a++b
def tCallNG (n m:Nat)(sp:Sp)(E:L2.St→XK)(t tk:TA):TE:=fun σ H Q=>t σ H fun vs H1=>tk σ H1 fun zs H2=>vs.length=n∧zs.length=m∧sp (vs++zs) H2 Q (E σ)
end
structure FnDK (P:Program)(w:World)(K:PySem.W.Frag)(mg:Str→Option Value)(base:Heap)(cx:CXT)(k:Nat)(x:Str)(n:Nat)(kw:Str)(F:List DV→Mem→Res R):Prop where
 ar:∀ xs μ,F xs μ≠.bad→xs.length=n+1
 ex:∃ (f:Addr) (fd:FuncData) (ps:List Str),ps.length=n+1∧FnG P w K mg base cx k f fd ps (spF K (n+1) F)∧mg x=some (.ref f)∧PySem.W.keepIn K (.ref f)=true∧KBn K fd ps n [kw] appL appL
section
variable {X:Cx}{W:WX}{P:Program}{w:World}{K:PySem.W.Frag}{mg:Str→Option Value}{base:Heap}{cx:CXT}{k n m:Nat}{x kw:Str}{F:List DV→Mem→Res R}{e e2 ke:Expr}{p pos kpos:Pos}{t1 t2 tk:TE}{f1 f2 fk:EM}
theorem nG1 {sp:Sp}{E:L2.St→XK}:tCallNG 1 [kw].length sp E (tCons t1 tNil) (tCons tk tNil)=tCallSD sp [] E (tCons t1 (tCons tk tNil)):=by
 funext σ H Q
 simp[tCallNG,tCallSD,tCons,tNil]
theorem nG2 {sp:Sp}{E:L2.St→XK}:tCallNG 2 [kw].length sp E (tCons t1 (tCons t2 tNil)) (tCons tk tNil)=tCallSD sp [] E (tCons t1 (tCons t2 (tCons tk tNil))):=by
 funext σ H Q
 simp[tCallNG,tCallSD,tCons,tNil]
end
section
variable {K:PySem.W.Frag}{W:WX}{ρ ρ1:Pm}{G H G1 H1 G0 H0:Hp}{v:V}{r:R}
theorem RpR.base (h:∀ a,H1 a=none→H0 a=none)(q:RpR K ρ G H1 H v r):RpR K ρ G H0 H v r:=by
 cases r with
 | dat d=>exact q
 | loc n=>exact q
 | nl xs=>obtain⟨a,vs,h1,h2,h3,h4,h5,h6⟩:=q;exact⟨a,vs,h1,h2,h3,h4,h5,h _ h6⟩
 | nk xs=>obtain⟨a,o,vs,h1,h2,h3,h4,h5,h6,h7⟩:=q;exact⟨a,o,vs,h1,h2,h3,h4,h5,h6,h _ h7⟩
end
section
variable {X:Cx}{W:WX}{P:Program}{w:World}{K:PySem.W.Frag}{mg:Str→Option Value}{base:Heap}{cx:CXT}{k n:Nat}{nm m:Str}{F:List DV→Mem→Res R}{o:Expr}{to:TE}{fo:XM}{pos apos:Pos}
end
def gSwp (fo fi go gi f:EM):SM:=fun _ δ μ=>lift ((frzV f δ μ).bind fun x μ1=>match x with
 | .dat (.tup [a,b])=>(frzV fo δ μ1).bind fun o μ2=>(frzV fi δ μ2).bind fun i μ3=>match setPl μ3 o i (.dat a) with
  | some μ4=>(frzV go δ μ4).bind fun o2 μ5=>(frzV gi δ μ5).bind fun i2 μ6=>match setPl μ6 o2 i2 (.dat b) with
   | some μ7=>.ok () μ7
   | none=>.bad
  | none=>.bad
 | _=>.bad) δ fun _ μ7=>.next δ μ7
section
variable {K:PySem.W.Frag}{W:WX}{N:Nat}{ρ:Pm}{G H:Hp}{σ:Slots}{δ:Env}{μ:Mem}
end
section
variable {X:Cx}{W:WX}{pos p p2 pt:Pos}{e o i o2 i2:Expr}{te to ti uo ui:TE}{f fo fi go gi:EM}{k:Nat}
end
section
variable {δ:Env}{μ:Mem}{QR:R→Mem→Prop}{E:Xc→Mem→Prop}{QA:List DV→Mem→Prop}{QK:List (Ky×DV)→Mem→Prop}
theorem x_dc {fi:IM}{h:D→Env→Option Env}{ft:TM}{fk fv:EM}{vs:List Nat}(k:Sat (fi δ μ) (fun ds μ1=>ds.length≤sizeLine∧Sat (dcL h ft fk fv (wipeE δ vs) ds [] μ1) (fun ys μ2=>QR (.nk ys) μ2) E) E):Sat (eDc fi h ft fk fv vs δ μ) QR E:=by
 refine sat_bind (k.mono (fun ds μ1 q=>?_) fun _ _ q=>q)
 rw[if_pos q.1];exact sat_bind q.2
theorem x_lc2 {fi fi1:IM}{h h1:D→Env→Option Env}{ft ft1:TM}{fe:EM}{vs vs1:List Nat}(k:Sat (fi δ μ) (fun ds μ1=>Sat (lc2L h ft fi1 h1 ft1 fe vs1 (wipeE δ vs) ds 0 μ1) (fun ys μ2=>QR (.nl ys) μ2) E) E):Sat (eLc2 fi h ft fi1 h1 ft1 fe vs vs1 δ μ) QR E:=by
 refine sat_bind (k.mono (fun ds μ1 q=>?_) fun _ _ q=>q)
 exact sat_bind q
theorem w_eqC {x y:DV}(h:Sat (dEqA x y μ) QR E):Sat (dEqC x y μ) QR E:=sat_alt h
end
section
variable {δ:Env}{μ:Mem}{QR:R→Mem→Prop}{E:Xc→Mem→Prop}{ds:List (Ky×D)}{kvs:List (Ky×DV)}{n:Nat}
end
section
variable {δ:Env}{μ:Mem}{QR:R→Mem→Prop}{QI:List D→Mem→Prop}{E:Xc→Mem→Prop}{QK:List (Ky×DV)→Mem→Prop}{fa fb:EM}{nm:Str}{F:List DV→Mem→Res R}
theorem x_disU {f:EM}{g:PsM}(h:Sat (frzV f δ μ) (fun x μ1=>∃ ds,x=.dat (.dct ds)∧(allKD ds=true∧ds.length≤1000)∧Sat (g δ μ1) (fun ps μ2=>ps.length≤15∧QR (.nk (mergeD (mergeD [] (datP ds)) (mergeD [] ps))) μ2) E) E):Sat (eDisU f g δ μ) QR E:=by
 unfold eDisU
 refine sat_bind (h.mono (fun x m ⟨ds,e,hk,q⟩=>?_) fun _ _ q=>q)
 subst e;simp only;rw[if_pos hk]
 refine sat_bind (q.mono (fun ps m2 q=>?_) fun _ _ q=>q)
 rw[if_pos q.1];exact q.2
theorem s_swp {P:DL.PO}{N:Nat}{fo fi go gi f:EM}(h:Sat (frzV f δ μ) (fun x μ1=>∃ a b,x=.dat (.tup [a,b])∧Sat (frzV fo δ μ1) (fun o μ2=>Sat (frzV fi δ μ2) (fun i μ3=>∃ μ4,setPl μ3 o i (.dat a)=some μ4∧Sat (frzV go δ μ4) (fun o2 μ5=>Sat (frzV gi δ μ5) (fun i2 μ6=>∃ μ7,setPl μ6 o2 i2 (.dat b)=some μ7∧P.nx δ μ7) (fun x μ=>P.ex x δ μ)) (fun x μ=>P.ex x δ μ)) (fun x μ=>P.ex x δ μ)) (fun x μ=>P.ex x δ μ)) (fun x μ=>P.ex x δ μ)):SatS (gSwp fo fi go gi f N δ μ) P:=by
 refine sat_lift (sat_bind (h.mono (fun x μ1 q=>?_) fun _ _ q=>q))
 obtain⟨a,b,rfl,q⟩:=q
 refine sat_bind (q.mono (fun o μ2 q=>sat_bind (q.mono (fun i μ3 q=>?_) fun _ _ q=>q)) fun _ _ q=>q)
 obtain⟨μ4,e,q⟩:=q
 rw[e]
 refine sat_bind (q.mono (fun o μ2 q=>sat_bind (q.mono (fun i μ3 q=>?_) fun _ _ q=>q)) fun _ _ q=>q)
 obtain⟨μ7,e,q⟩:=q
 rw[e];exact q
theorem x_neO {others:List Str} (h:Sat (frzV fa δ μ) (fun x μ1=>Sat (frzV fb δ μ1) (fun y μ2=>(isI nm "" x μ2=true∧((kindOf μ2 y).bind (tabC nm others)).isSome=true)∧Sat (F [x,y] μ2) (fun r μ3=>BlK r μ3 fun b μ3=>QR (.dat (.bl (!b))) μ3) (fun _ _=>False)) E) E):Sat (eNeO nm others F fa fb δ μ) QR E:=by
 refine sat_bind (h.mono (fun x μ1 q=>sat_bind (q.mono (fun y μ2 q=>?_) fun _ _ q=>q)) fun _ _ q=>q)
 rw[if_pos q.1]
 have q:=q.2
 cases e:F [x,y] μ2 with
 | ok r μ3=>rw[e] at q;obtain⟨b,rfl,_,q⟩:=BlK.ex q;exact q
 | exc x μ2=>rw[e] at q;exact q.elim
 | bad=>rw[e] at q;exact q.elim
theorem i_vals {f:EM}(h:Sat (frzV f δ μ) (fun x μ'=>∃ ds,x=.dat (.dct ds)∧allKD ds=true∧QI (ds.map (·.2)) μ') E):Sat (imVals f δ μ) QI E:=by
 unfold imVals
 refine sat_bind (h.mono (fun x m ⟨ds,e,ht,q⟩=>?_) fun _ _ q=>q)
 subst e;simp only;rw[if_pos ht];exact q
theorem i_dwn {f:AM}(h:Sat (f δ μ) (fun xs μ'=>∃ i j:Int,xs=[.dat (.int i),.dat (.int j),.dat (.int (-1))]∧(-(2^62)≤i∧i<2^62∧-(2^62)≤j∧j<2^62)∧QI (dwnD i (i-j).toNat) μ') E):Sat (imDwn f δ μ) QI E:=by
 unfold imDwn
 refine sat_bind (h.mono (fun x m ⟨i,j,e,hb,q⟩=>?_) fun _ _ q=>q)
 subst e
 show Sat (if -(2^62)≤i∧i<2^62∧-(2^62)≤j∧j<2^62∧(-1:Int)=-1 then _ else _) _ _
 rw[if_pos ⟨hb.1,hb.2.1,hb.2.2.1,hb.2.2.2,rfl⟩];exact q
end
section
variable {δ:Env}{μ:Mem}{QR:R→Mem→Prop}{E:Xc→Mem→Prop}{P:DL.PO}{N:Nat}
end
section
variable {X:Cx}{W:WX}
end
section
variable {δ:Env}{μ:Mem}{QR:R→Mem→Prop}{E:Xc→Mem→Prop}{ds:List D}{d:D}
end
section
variable {μ:Mem}{δ:Env}{N:Nat}{QR:R→Mem→Prop}{E:Xc→Mem→Prop}
theorem gTup {xs:List DV}{Q:D→Prop}(h:TupK xs Q):TupK xs Q:=h
theorem gTgt' {f:D→Env→Option Env}{x:DV}{Q:Env→Prop}(h:TgtK f δ x Q):TgtK f δ x Q:=h
theorem gFld' {nms:List Str}{m:Str}{x:DV}{Q:DV→Prop}(h:FldK nms m x μ Q):FldK nms m x μ Q:=h
theorem gNxt {μ':Mem}(h:(endP N QR E).nx δ μ'):(endP N QR E).nx δ μ':=h
theorem gAnd {a b:Prop}(h:a∧b):a∧b:=h
theorem gBind {b:Bool}{i:Nat}{r:R}{k:Env→Mem→Prop}(h:BindK b N i r δ μ k):BindK b N i r δ μ k:=h
theorem gBlK {r:R}{QB:Bool→Mem→Prop}(h:BlK r μ QB):BlK r μ QB:=h
end
section
variable {QR:R→Mem→Prop}{QV:DV→Mem→Prop}{QA:List DV→Mem→Prop}{QI:List D→Mem→Prop}{QF:Fds→Mem→Prop}{QE:Env→Mem→Prop}{E:Xc→Mem→Prop}{μ ν:Mem}{δ:Env}{N n c:Nat}{P:PO}{x y:DV}{kvs:List (Ky×DV)}{ds:List (Ky×D)}{fs:Fds}
theorem gBb {r:Res Fds}{QF:Fds→Mem→Prop}{E:Xc→Mem→Prop}(h:Sat r QF E):Sat r QF E:=h
theorem gHh {r:Res Env}{QF:Env→Mem→Prop}{E:Xc→Mem→Prop}(h:Sat r QF E):Sat r QF E:=h
def UnK (c:Nat)(μ:Mem)(Q:Mem→Prop):Prop:=∃ kvs,μ[c]?=some (.lkd kvs)∧Q (μ.set c (.dct kvs))
theorem UnK.of {Q:Mem→Prop}(h:UnK c μ Q):∃ μ',unlk c μ=some μ'∧Q μ':=by
 obtain⟨kvs,e,q⟩:=h
 exact⟨_,by unfold unlk;rw[e],q⟩
def LkK (x:DV)(μ:Mem)(Q:List (Ky×D)→Prop):Prop:=∃ ds,lkdOf x μ=some ds∧allKD ds=true∧Q ds
theorem i_keysL {f:EM}(h:Sat (frzV f δ μ) (fun x μ'=>LkK x μ' fun ds=>QI (keysD ds) μ') E):Sat (imKeysL f δ μ) QI E:=by
 refine sat_bind (h.mono (fun x m ⟨ds,e,hk,q⟩=>?_) fun _ _ q=>q)
 rw[e];simp only[hk,if_true];exact q
theorem i_itemsL {f:EM}(h:Sat (frzV f δ μ) (fun x μ'=>LkK x μ' fun ds=>QI (pairsOf ds) μ') E):Sat (imItemsL f δ μ) QI E:=by
 refine sat_bind (h.mono (fun x m ⟨ds,e,hk,q⟩=>?_) fun _ _ q=>q)
 rw[e];simp only[hk,if_true];exact q
theorem x_xof {f:EM}(h:Sat (f δ μ) (fun r μ'=>NpK μ.length r μ' QV) E):Sat (xOf f δ μ) QV E:=by
 refine sat_bind (h.mono (fun r m q=>?_) fun _ _ q=>q)
 unfold NpK at q
 cases e:newPl μ.length r m with
 | none=>rw[e] at q;exact q.elim
 | some p=>rw[e] at q;exact q
theorem xa_nilK (h:QA [] μ):Sat (xaNil δ μ) QA E:=h
theorem xa_consK {f:XM}{g:XA}(h:Sat (f δ μ) (fun x μ1=>μ.length≤μ1.length∧Sat (g δ μ1) (fun xs μ2=>QA (x::xs) μ2) E) E):Sat (xaCons f g δ μ) QA E:=by
 refine sat_bind (h.mono (fun x m q=>?_) fun _ _ q=>q)
 rw[if_pos q.1];exact sat_bind q.2
theorem x_xcall {F:List DV→Mem→Res DV}{fa:AM}(h:Sat (fa δ μ) (fun xs μ1=>μ.length≤μ1.length∧Sat (F xs μ1) QV E) E):Sat (xCall F fa δ μ) QV E:=by
 refine sat_bind (h.mono (fun xs m q=>?_) fun _ _ q=>q)
 rw[if_pos q.1];exact q.2
theorem x_xmeth {nm m:Str}{F:List DV→Mem→Res DV}{f:EM}{fa:AM}(h:Sat (frzV f δ μ) (fun x μ1=>isI nm m x μ1=true∧Sat (fa δ μ1) (fun xs μ2=>μ.length≤μ2.length∧Sat (F (x::xs) μ2) QV E) E) E):Sat (xMeth nm m F f fa δ μ) QV E:=by
 refine sat_bind (h.mono (fun x m q=>?_) fun _ _ q=>q)
 rw[if_pos q.1]
 refine sat_bind (q.2.mono (fun xs m q=>?_) fun _ _ q=>q)
 rw[if_pos q.1];exact q.2
theorem x_xmake {nm:Str}{F:List DV→Mem→Res Fds}{fa:AM}(h:Sat (fa δ μ) (fun xs μ1=>μ.length≤μ1.length∧Sat (F xs μ1) (fun fs μ2=>QV (.loc (μ2.length+1)) (μ2++[.own]++[.ins nm fs])) E) E):Sat (xMake nm F fa δ μ) QV E:=by
 refine sat_bind (h.mono (fun xs m q=>?_) fun _ _ q=>q)
 rw[if_pos q.1];exact sat_bind q.2
theorem b_nilK (h:QF fs μ):Sat (bNil δ μ fs) QF E:=h
theorem b_seqK {g h:BM}(k:Sat (g δ μ fs) (fun fs' μ'=>Sat (h δ μ' fs') QF E) E):Sat (bSeq g h δ μ fs) QF E:=sat_bind k
theorem b_fldK {m:Str}{f:EM}(h:Sat (xOf f δ μ) (fun y μ1=>(μ.length≤μ1.length∧fs.length<1000)∧QF (putD m y fs) μ1) E):Sat (bFld m f δ μ fs) QF E:=by
 refine sat_bind (h.mono (fun y m q=>?_) fun _ _ q=>q)
 rw[if_pos q.1];exact q.2
theorem s_bld {i:Nat}{F:List DV→Mem→Res Fds}{fa:AM}{g:Fds→SM}(h:Sat (fa δ μ) (fun xs μ1=>(N≤μ1.length∧i<δ.length)∧Sat (F xs μ1) (fun fs μ2=>SatS (g fs N (δ.set i none) μ2) P) (fun x μ=>P.ex x δ μ)) (fun x μ=>P.ex x δ μ)):SatS (gBld i F fa g N δ μ) P:=by
 refine sat_lift (h.mono (fun xs m q=>?_) fun _ _ q=>q)
 rw[if_pos q.1];exact sat_lift q.2
theorem s_bseq {b:BM}{g:Fds→SM}(h:Sat (b δ μ fs) (fun fs' μ'=>SatS (g fs' N δ μ') P) (fun x μ=>P.ex x δ μ)):SatS (gBSeq b g fs N δ μ) P:=sat_lift h
theorem s_pub {nm:Str}{i:Nat}{g:SM}(h:SatS (g N (δ.set i (some (.loc (μ.length+1)))) (μ++[.own]++[.ins nm fs])) P):SatS (gPub nm i g fs N δ μ) P:=h
theorem x_dpop1 {fd fy:EM}(h:Sat (frzV fd δ μ) (fun x μ1=>isDct x μ1=true∧Sat (frzV fy δ μ1) (fun y μ2=>Sat (dPopK x y none μ2) QR E) E) E):Sat (eDPop1 fd fy δ μ) QR E:=by
 refine sat_bind (h.mono (fun x m q=>?_) fun _ _ q=>q)
 rw[if_pos q.1];exact sat_bind q.2
theorem x_dpop2 {fd fy fz:EM}(h:Sat (frzV fd δ μ) (fun x μ1=>isDct x μ1=true∧Sat (frzV fy δ μ1) (fun y μ2=>Sat (frzV fz δ μ2) (fun z μ3=>Sat (dPopK x y (some z) μ3) QR E) E) E) E):Sat (eDPop2 fd fy fz δ μ) QR E:=by
 refine sat_bind (h.mono (fun x m q=>?_) fun _ _ q=>q)
 rw[if_pos q.1]
 exact sat_bind (q.2.mono (fun _ _ q=>sat_bind q) fun _ _ q=>q)
theorem s_daug {fo fi fe:EM}(h:Sat (frzV fo δ μ) (fun x μ1=>Sat (frzV fi δ μ1) (fun i μ2=>Sat (dGet x i μ2) (fun r μ3=>Sat (frzV fe δ μ3) (fun y μ4=>∃ a b μ5,r=.dat (.int a)∧y=.dat (.int b)∧setDct μ4 x i (.dat (.int (a+b)))=some μ5∧P.nx δ μ5) (fun x μ=>P.ex x δ μ)) (fun x μ=>P.ex x δ μ)) (fun x μ=>P.ex x δ μ)) (fun x μ=>P.ex x δ μ)):SatS (gDAug fo fi fe N δ μ) P:=by
 refine sat_lift (sat_bind (h.mono (fun x m q=>sat_bind (q.mono (fun i m q=>sat_bind (q.mono (fun r m q=>sat_bind (q.mono (fun y m q=>?_) fun _ _ q=>q)) fun _ _ q=>q)) fun _ _ q=>q)) fun _ _ q=>q))
 obtain⟨a,b,μ5,rfl,rfl,e,q⟩:=q
 simp only[e];exact q
theorem s_fldaug {nms:List Str}{m:Str}{fo fe:EM}(h:Sat (frzV fo δ μ) (fun x μ1=>∃ a,fldI nms m x μ1=some a∧Sat (frzV fe δ μ1) (fun y μ2=>∃ b μ3,y=.dat (.int b)∧(insAt μ2 x).map (·.1)=(insAt μ1 x).map (·.1)∧setFld nms μ2 x m (.dat (.int (a+b)))=some μ3∧P.nx δ μ3) (fun x μ=>P.ex x δ μ)) (fun x μ=>P.ex x δ μ)):SatS (gFldAug nms m fo fe N δ μ) P:=by
 refine sat_lift (sat_bind (h.mono (fun x m q=>?_) fun _ _ q=>q))
 obtain⟨a,e,q⟩:=q
 rw[e]
 refine sat_bind (q.mono (fun y m q=>?_) fun _ _ q=>q)
 obtain⟨b,μ3,rfl,e1,e2,q⟩:=q
 simp only;rw[if_pos e1,e2];exact q
def SoK (x:DV)(Q:List D→Prop):Prop:=∃ ds,seqOf x=some ds∧Q ds
theorem a_starK {f:EM}{g:AM}(h:Sat (frzV f δ μ) (fun x μ1=>SoK x fun ds=>Sat (g δ μ1) (fun xs μ2=>QA (ds.map DV.dat++xs) μ2) E) E):Sat (aStar f g δ μ) QA E:=by
 refine sat_bind (h.mono (fun x m ⟨ds,e,q⟩=>?_) fun _ _ q=>q)
 rw[e];exact sat_bind q
theorem s_tgtM {n:Nat}{h:List DV→Env→Mem→Res Env}{f:EM}(k:Sat (frzV f δ μ) (fun x μ1=>∃ ds,x=.dat (.tup ds)∧ds.length=n∧Sat (h (ds.map DV.dat) δ μ1) (fun δ' μ'=>P.nx δ' μ') (fun _ _=>False)) (fun x μ=>P.ex x δ μ)):SatS (gTgtM n h f N δ μ) P:=by
 refine sat_lift (k.mono (fun x m q=>?_) fun _ _ q=>q)
 obtain⟨ds,rfl,e,q⟩:=q
 simp only;rw[if_pos e]
 cases eh:h (ds.map DV.dat) δ m with
 | bad=>rw[eh] at q;exact q.elim
 | exc x m=>rw[eh] at q;exact q.elim
 | ok d m=>rw[eh] at q;exact q
theorem h_nilK (h:QE δ μ):Sat (hNil [] δ μ) QE E:=h
theorem h_consK {g:TGM}{r:List DV→Env→Mem→Res Env}{xs:List DV}(h:Sat (g x δ μ) (fun δ1 μ1=>Sat (r xs δ1 μ1) QE E) E):Sat (hCons g r (x::xs) δ μ) QE E:=sat_bind h
theorem h_nameK {i:Nat}(h:QE (δ.set i (some x)) μ):Sat (hName i x δ μ) QE E:=h
theorem h_fldK {nms:List Str}{m:Str}{fo:EM}(h:Sat (frzV fo δ μ) (fun o μ1=>∃ μ2,setFld nms μ1 o m x=some μ2∧QE δ μ2) E):Sat (hFld nms m fo x δ μ) QE E:=by
 refine sat_bind (h.mono (fun o m ⟨μ2,e,q⟩=>?_) fun _ _ q=>q)
 rw[e];exact q
theorem h_dputK {fo fi:EM}(h:Sat (frzV fo δ μ) (fun o μ1=>Sat (frzV fi δ μ1) (fun i μ2=>∃ μ3,setDct μ2 o i x=some μ3∧QE δ μ3) E) E):Sat (hDPut fo fi x δ μ) QE E:=by
 refine sat_bind (h.mono (fun o m q=>sat_bind (q.mono (fun i m ⟨μ3,e,q⟩=>?_) fun _ _ q=>q)) fun _ _ q=>q)
 rw[e];exact q
theorem x_dictZip {fa:AM}(h:Sat (fa δ μ) (fun xs μ1=>∃ ps,zipOf xs=some ps∧QR (.nk (mergeD [] ps)) μ1) E):Sat (eDictZip fa δ μ) QR E:=by
 refine sat_bind (h.mono (fun xs m ⟨ps,e,q⟩=>?_) fun _ _ q=>q)
 rw[e];exact q
end
section
variable {QR:R→Mem→Prop}{QI:List D→Mem→Prop}{E:Xc→Mem→Prop}{μ ν:Mem}{δ:Env}{N n c:Nat}{P:PO}{x y:DV}{xs:List DV}{ds:List D}
def UnL (c:Nat)(μ:Mem)(Q:Mem→Prop):Prop:=∃ xs,μ[c]?=some (.lkl xs)∧Q (μ.set c (.lst xs))
theorem UnL.of {Q:Mem→Prop}(h:UnL c μ Q):∃ μ',unlkL c μ=some μ'∧Q μ':=by
 obtain⟨kvs,e,q⟩:=h
 exact⟨_,by unfold unlkL;rw[e],q⟩
def LkLK (x:DV)(μ:Mem)(Q:List D→Prop):Prop:=∃ ds,lklOf x μ=some ds∧Q ds
theorem i_enumL {f:EM}(h:Sat (frzV f δ μ) (fun x μ'=>LkLK x μ' fun ds=>QI (enumD 0 ds) μ') E):Sat (imEnumL (aCons f aNil) δ μ) QI E:=by
 refine sat_bind (sat_bind (h.mono (fun x μ1 q=>?_) fun _ _ q=>q))
 obtain⟨ds,e,q⟩:=q
 show Sat (match lklOf x μ1 with|some ds=>_|none=>_) _ _
 rw[e];exact q
end
section
variable {K:PySem.W.Frag}{ρ:Pm}{G:Hp}{σ:Slots}{δ:Env}{W:WX}{t:TS}{g:SM}
end
section
variable {QV:DV→Mem→Prop}{E:Xc→Mem→Prop}{μ:Mem}{δ:Env}{N:Nat}{P:PO}
end
section
variable {K:PySem.W.Frag}{W:WX}{N M:Nat}{ρ ρ1 ρ0:Pm}{G H G1 H1 G0 H0:Hp}{σ:Slots}{δ:Env}{μ:Mem}{Dn:Ends}{te:TE}{ta:TA}{f:EM}{xa:XA}
def xTup (g:XA):XM:=fun δ μ=>(g δ μ).bind fun xs μ'=>if μ.length≤μ'.length∧xs.length≤sizeLine then .ok (.loc μ'.length) (μ'++[.tp xs]) else .bad
def tpOf (x:DV)(μ:Mem):Option (List DV):=match x with
 | .dat _=>none
 | .loc n=>match μ[n]? with
  | some (.tp xs)=>some xs
  | _=>none
end
section
variable {X:Cx}{W:WX}{te ta:TE}{tA:TA}{f fa fb:EM}{xA:XA}{tb:TE}{a b e:Expr}{es:List Expr}{pos:Pos}{body:List Stmt}{t:TS}{g:SM}
end
section
variable {K:PySem.W.Frag}{W:WX}{N M:Nat}{ρ ρ0 ρ1 ρ2:Pm}{G H G0 H0 G1 H1 G2 H2:Hp}{σ:Slots}{δ:Env}{μ:Mem}{Dn:Ends}
end
section
variable {X:Cx}{W:WX}
end
section
variable {QR:R→Mem→Prop}{QV:DV→Mem→Prop}{QA:List DV→Mem→Prop}{E:Xc→Mem→Prop}{μ:Mem}{δ:Env}{N M:Nat}{P:PO}
theorem x_xtup {g:XA}(h:Sat (g δ μ) (fun xs μ'=>(μ.length≤μ'.length∧xs.length≤sizeLine)∧QV (.loc μ'.length) (μ'++[.tp xs])) E):Sat (xTup g δ μ) QV E:=by
 refine sat_bind (h.mono (fun xs m q=>?_) fun _ _ q=>q)
 rw[if_pos q.1];exact q.2
end
section
variable {K:PySem.W.Frag}{W:WX}{N M:Nat}{ρ ρ0 ρ1 ρ2:Pm}{G H G0 H0 G1 H1 G2 H2:Hp}{σ:Slots}{δ:Env}{μ:Mem}{Dn:Ends}
end
section
variable {X:Cx}{W:WX}
end
section
variable {QR:R→Mem→Prop}{QV:DV→Mem→Prop}{QA:List DV→Mem→Prop}{E:Xc→Mem→Prop}{μ:Mem}{δ:Env}{N M n:Nat}{P:PO}
end
section
variable {K:PySem.W.Frag}{W:WX}{N M:Nat}{ρ ρ1:Pm}{G H G1 H1:Hp}{σ:Slots}{δ:Env}{μ:Mem}{Dn:Ends}
end
section
variable {X:Cx}{W:WX}
end
section
variable {QR:R→Mem→Prop}{QV:DV→Mem→Prop}{QA:List DV→Mem→Prop}{E:Xc→Mem→Prop}{μ:Mem}{δ:Env}{N M n:Nat}{P:PO}
end
section
variable {X:Cx}{W:WX}{spos pos py px:Pos}{te te0:TE}
end
abbrev YM:=Env→Mem→Res R
def eCut (f:YM):EM:=fun δ μ=>match f δ μ with
 | .ok r μ'=>closeR μ.length r μ'
 | .exc x μ'=>.exc x (μ'.take μ.length)
 | .bad=>.bad
section
variable {K:PySem.W.Frag}{W:WX}{N M n:Nat}{ρ ρ1:Pm}{G H G1 H1 G0 H0:Hp}{σ:Slots}{δ:Env}{μ:Mem}{t te to ty tz td:TE}{ta:TA}{f fy fz fd:EM}{fa:AM}{fx:XM}{Dn:Ends}{nm m:Str}{F:List DV→Mem→Res R}{C:Addr}{Q:VK}
end
section
variable {X:Cx}{W:WX}{P:Program}{w:World}{K:PySem.W.Frag}{mg:Str→Option Value}{base:Heap}{cx:CXT}{k n:Nat}{nm m x:Str}{F:List DV→Mem→Res R}{e o:Expr}{es:List Expr}{tA:TA}{fA:AM}{to te:TE}{fe:EM}{fx:XM}{p pos apos cpos:Pos}
end
section
variable {X:Cx}{W:WX}
end
section
variable {X:Cx}{W:WX}{spos pos py:Pos}{te:TE}
end
section
variable {QR:R→Mem→Prop}{E:Xc→Mem→Prop}{μ:Mem}{δ:Env}
end
section
variable {K:PySem.W.Frag}{W:WX}{N M n:Nat}{ρ ρ0 ρ1 ρ2:Pm}{G H G0 H0 G1 H1 G2 H2:Hp}{σ:Slots}{δ:Env}{μ:Mem}{Dn:Ends}{te te0:TE}{fx:XM}{f:EM}
end
section
open StX
variable {X:Cx}{W:WX}{spos pos py px tpos:Pos}{te te0:TE}{e:Expr}{es:List Expr}{g:TGs}{h:List DV→Env→Mem→Res Env}{fx:XM}
end
section
variable {QV:DV→Mem→Prop}{QA:List DV→Mem→Prop}{E:Xc→Mem→Prop}{μ:Mem}{δ:Env}{N M n:Nat}{P:PO}
end
end DL
set_option maxHeartbeats 1000000
namespace DL
open PySem PySem.Spec PyProof.Rows L2
section
variable {K:PySem.W.Frag}{W:WX}{N n:Nat}{ρ ρ1:Pm}{G H G1 H1:Hp}{σ:Slots}{δ:Env}{μ:Mem}{Dn:Ends}{to te:TE}{fx:XM}
end
section
open StX
variable {X:Cx}{W:WX}{to:TE}{tA:TA}{fx:XM}{o e:Expr}{apos cpos spos:Pos}
end
section
variable {E:Xc→Mem→Prop}{μ:Mem}{δ:Env}{N n:Nat}{P:PO}
end
end DL
set_option maxHeartbeats 1000000
namespace DL
open PySem PySem.Spec PyProof.Rows L2
abbrev PxM:=Env→Mem→Res (List (Ky×DV))
section
variable {K:PySem.W.Frag}{W:WX}{N M n:Nat}{ρ ρ0 ρ1 ρ2:Pm}{G H G0 H0 G1 H1 G2 H2:Hp}{σ:Slots}{δ:Env}{μ:Mem}{Dn:Ends}{te:TE}{fx:XM}{f:EM}
def SndPX (K:PySem.W.Frag)(W:WX)(trs:List (TE×TE))(f:PxM):Prop:=∀ (ρ:Pm) (G H:Hp) (σ:Slots) (δ:Env) (μ:Mem) (Q:List (V×V)→Hp→Prop),Rel K ρ G H μ→EnvOk K ρ G σ δ →
 (match f δ μ with
  | .ok ps μ'=>∀ ρ' G' H' vs,TrS μ.length ρ G H ρ' G' H'→Rel K ρ' G' H' μ'→(∃ ls:List (Key×V),vs=ls.map (fun kv=>(kV kv.1,kv.2))∧PrL K ρ' G' ls ps)→Q vs H'
  | .exc x μ'=>∀ ρ' G' H' cls d,TrS μ.length ρ G H ρ' G' H'→Rel K ρ' G' H' μ'→XcOk K G' H' x cls d→W cls d σ H'
  | .bad=>False)→tPairs trs σ H Q
end
section
variable {X:Cx}{W:WX}{pos:Pos}{i e:Expr}{ty te:TE}{fy:EM}{fx:XM}
structure PMPX (X:Cx)(W:WX)(pos:Pos)(ks:List (Option Expr))(vs:List Expr)(trs:List (TE×TE))(f:PxM):Prop where
 pp:PPs X pos ks vs trs
 sd:SndPX X.K W trs f
end
section
variable {QV:DV→Mem→Prop}{QP:List (Ky×DV)→Mem→Prop}{E:Xc→Mem→Prop}{μ:Mem}{δ:Env}
end
def yCall (F:List DV→Mem→Res R)(fa:XA):YM:=fun δ μ=>(fa δ μ).bind fun xs μ1=>F xs μ1
section
variable {K:PySem.W.Frag}{W:WX}{n:Nat}{ta:TA}{fa:XA}{F:List DV→Mem→Res R}
end
section
variable {X:Cx}{W:WX}{pos:Pos}{tA:TA}{fA:XA}
end
section
variable {QR:R→Mem→Prop}{E:Xc→Mem→Prop}{μ:Mem}{δ:Env}
theorem x_ycall {F:List DV→Mem→Res R}{fa:XA}(h:Sat (fa δ μ) (fun xs μ1=>Sat (F xs μ1) (fun r μ2=>Sat (closeR μ.length r μ2) QR E) (fun x μ2=>E x (μ2.take μ.length))) (fun x μ2=>E x (μ2.take μ.length))):Sat (eCut (yCall F fa) δ μ) QR E:=by
 unfold eCut yCall
 cases e:fa δ μ with
 | bad=>rw[e] at h;exact h
 | exc x m=>rw[e] at h;exact h
 | ok xs m =>
  rw[e] at h
  simp only[Res.bind_ok]
  have h:Sat (F xs m) _ _:=h
  cases e2:F xs m with
  | bad=>rw[e2] at h;exact h
  | exc x m=>rw[e2] at h;exact h
  | ok r m=>rw[e2] at h;exact h
end
section
variable {K:PySem.W.Frag}{W:WX}{N M:Nat}{ρ ρ1:Pm}{G H G1 H1:Hp}{σ:Slots}{δ:Env}{μ:Mem}{Dn:Ends}{te:TE}{fx:XM}
end
section
open StX
variable {X:Cx}{W:WX}{te:TE}{fx:XM}{t:TS}{g:SM}{tg iter:Expr}{body:List Stmt}{pos:Pos}
end
section
variable {E:Xc→Mem→Prop}{μ:Mem}{δ:Env}{N n:Nat}{P:PO}
end
section
variable {K:PySem.W.Frag}{W:WX}{te:TE}{f:EM}
end
end DL
set_option maxHeartbeats 1000000
namespace DL
open PySem PySem.Spec PyProof.Rows L2
structure Err0 (K:PySem.W.Frag)(mg:Str→Option Value)(nm:Str)(C:Addr):Prop where
 gC:mg nm=some (.ref C)
 exc:PySem.W.excIn K C [.type "ValueError",.type "Exception",.type "BaseException",.type "object"] "ValueError.__new__"=true
 kC:PySem.W.keepIn K (.ref C)=true
 exC:PySem.W.subIn K (.ref C) (.type "BaseException")=some true
 tyC:PySem.W.typeIn K (.ref C)=some (.type "type")
def gRaise0 (nm:Str):SM:=fun _ δ μ=>.exc ⟨nm,[]⟩ δ μ
def errAt0 (i:Nat)(δ:Env):Option (Addr×Addr×Str):=match δ[i]? with
 | some (some (.dat (.err a C _ nm [])))=>some (a,C,nm)
 | _=>none
def eIsE0 (i:Nat)(a C:Addr)(tab:List (Str×Bool)):EM:=fun δ μ=>match errAt0 i δ with
 | some (a',C',nm)=>if a'=a∧C'=C then match tab.lookup nm with
   | some b=>.ok (.dat (.bl b)) μ
   | none=>.bad
  else .bad
 | none=>.bad
section
variable {X:Cx}{W:WX}{a C:Addr}{oe:Obj}{pn:List (Addr×Obj)}{n:Str}{p p1 p2 pos:Pos}
end
open Classical in
noncomputable def gTryE (cat:List (Str×Bool))(i:Nat)(gb:SM)(gs:Addr→Addr→Addr→SM)(gs0:Addr→Addr→SM):SM:=fun N δ μ=>match gb N δ μ with
 | .exc x δ' μ'=>match cat.lookup x.nm with
  | some true=>if x.fs≠[] then suiteOut i fun a C d=>gs a C d N (δ'.set i (some (.dat (.err a C d x.nm x.fs)))) μ'
   else suiteOut i fun a C _=>gs0 a C N (δ'.set i (some (.dat (.err a C 0 x.nm [])))) μ'
  | some false=>.exc x δ' μ'
  | none=>.bad
 | o=>o
section
variable {K:PySem.W.Frag}{W:WX}
end
section
variable {P:Program}{w:World}{K:PySem.W.Frag}{mg:Str→Option Value}{base:Heap}
end
set_option maxHeartbeats 2000000
section
variable {K:PySem.W.Frag}
end
section
variable {QR:R→Mem→Prop}{E:Xc→Mem→Prop}{μ:Mem}{n:Nat}{kvs:List (Ky×DV)}
end
section
variable {QR:R→Mem→Prop}{E:Xc→Mem→Prop}{μ:Mem}
end
section
variable {M:Model}{A:Around}{E:Value→Shared→Prop}{s:Shared}
end
section
variable {M:Model}{A:Around}{E:Value→Shared→Prop}{s:Shared}{K:PySem.W.Frag}{env:PySem.Env}{pos p:Pos}{f:Value}{first:List Value}{Q:Value→Shared→Prop}{h₀:Heap}{e e2:Expr}{rest:List Expr}
end
section
variable {X:Cx}{cx:CXT}{k:Nat}{C f:Addr}{fd:FuncData}{ps:List Str}{sp:Sp}{E:L2.St→XK}{m:Str}{o e e2:Expr}{es:List Expr}{ta:TE}{t:TA}{pos apos q:Pos}
end
section
variable {X:Cx}{W:WX}{P:Program}{w:World}{K:PySem.W.Frag}{mg:Str→Option Value}{base:Heap}{cx:CXT}{k n:Nat}{nm m:Str}{F:List DV→Mem→Res R}{o e e2:Expr}{es:List Expr}{tA:TA}{to:TE}{fo:EM}{fA:AM}{pos apos q:Pos}
end
section
variable {K:PySem.W.Frag}{W:WX}{te:TE}{f:EM}{ρ:Pm}{G H:Hp}{μ:Mem}
def bFldV (m:Str)(f:EM):BM:=fun δ μ fs=>(frzV f δ μ).bind fun y μ1=>if μ.length≤μ1.length∧fs.length<1000 then .ok (putD m y fs) μ1 else .bad
def bTup2 (m1 m2:Str)(f:EM):BM:=fun δ μ fs=>(frzV f δ μ).bind fun y μ1=>match y with
 | .dat (.tup [a,b])=>if μ.length≤μ1.length∧fs.length<900 then .ok (putD m2 (.dat b) (putD m1 (.dat a) fs)) μ1 else .bad
 | _=>.bad
end
section
variable {X:Cx}{W:WX}{pos p apos:Pos}{e:Expr}{te:TE}{fe:EM}{nm m:Str}{ss:List Stmt}{u:TS}
end
def xIx (i:Int)(fx:XM):XM:=fun δ μ=>(fx δ μ).bind fun x μ1=>match tpOf x μ1 with
 | some xs=>match atI xs i with
  | some z=>.ok z μ1
  | none=>.bad
 | none=>.bad
def yIx (i:Int)(fx:XM):YM:=fun δ μ=>(fx δ μ).bind fun x μ1=>match tpOf x μ1 with
 | some xs=>match atI xs i with
  | some z=>.ok (ofV z) μ1
  | none=>.bad
 | none=>.bad
section
variable {K:PySem.W.Frag}{W:WX}{te:TE}{fx:XM}{i:Int}
end
section
variable {X:Cx}{W:WX}{pos ap:Pos}{a:Expr}{ta:TE}{fx:XM}{i:Int}{j:Nat}
end
section
variable {QR:R→Mem→Prop}{QV:DV→Mem→Prop}{E:Xc→Mem→Prop}{μ:Mem}{δ:Env}
theorem x_xix {k:Nat}{fx:XM}(h:Sat (fx δ μ) (fun x μ1=>∃ n xs z,x=.loc n∧μ1[n]?=some (.tp xs)∧xs[k]?=some z∧QV z μ1) E):Sat (xIx (k:Int) fx δ μ) QV E:=by
 refine sat_bind (h.mono (fun x m q=>?_) fun _ _ q=>q)
 obtain⟨n,xs,z,rfl,e1,e2,q⟩:=q
 have z1:tpOf (.loc n) m=some xs:=by unfold tpOf;simp only[e1]
 simp only[z1,atI_nat e2]
 exact q
theorem x_yix {k:Nat}{fx:XM}(h:Sat (fx δ μ) (fun x μ1=>∃ n xs z,x=.loc n∧μ1[n]?=some (.tp xs)∧xs[k]?=some z∧Sat (closeR μ.length (ofV z) μ1) QR E) (fun x μ2=>E x (μ2.take μ.length))):Sat (eCut (yIx (k:Int) fx) δ μ) QR E:=by
 unfold eCut yIx
 cases e:fx δ μ with
 | bad=>rw[e] at h;exact h
 | exc x m=>rw[e] at h;exact h
 | ok x m =>
  rw[e] at h
  obtain⟨n,xs,z,rfl,e1,e2,q⟩:=h
  have z1:tpOf (.loc n) m=some xs:=by unfold tpOf;simp only[e1]
  simp only[Res.bind_ok,z1,atI_nat e2]
  exact q
theorem b_fldVK {m:Str}{f:EM}{fs:Fds}{QF:Fds→Mem→Prop}(h:Sat (frzV f δ μ) (fun y μ1=>(μ.length≤μ1.length∧fs.length<1000)∧QF (putD m y fs) μ1) E):Sat (bFldV m f δ μ fs) QF E:=by
 refine sat_bind (h.mono (fun y m q=>?_) fun _ _ q=>q)
 rw[if_pos q.1];exact q.2
theorem b_tup2K {m1 m2:Str}{f:EM}{fs:Fds}{QF:Fds→Mem→Prop}(h:Sat (frzV f δ μ) (fun y μ1=>∃ a b,y=.dat (.tup [a,b])∧(μ.length≤μ1.length∧fs.length<900)∧QF (putD m2 (.dat b) (putD m1 (.dat a) fs)) μ1) E):Sat (bTup2 m1 m2 f δ μ fs) QF E:=by
 refine sat_bind (h.mono (fun y m q=>?_) fun _ _ q=>q)
 obtain⟨a,b,rfl,q1,q2⟩:=q
 show Sat (if _ then _ else _) _ _
 rw[if_pos q1];exact q2
end
def yMethA (nm m:Str)(F:List DV→Mem→Res R)(fo:EM)(fa:XA):YM:=fun δ μ=>(frzV fo δ μ).bind fun x μ1=>if μ.length≤μ1.length∧isI nm m x μ1=true then(fa δ μ1).bind fun xs μ2=>F (x::xs) μ2 else .bad
section
variable {K:PySem.W.Frag}{W:WX}{n:Nat}{to:TE}{ta:TA}{fo:EM}{fa:XA}{nm m:Str}{F:List DV→Mem→Res R}{C:Addr}
end
section
variable {X:Cx}{W:WX}{P:Program}{w:World}{K:PySem.W.Frag}{mg:Str→Option Value}{base:Heap}{cx:CXT}{k n:Nat}{nm m x:Str}{F:List DV→Mem→Res R}{e o:Expr}{es:List Expr}{tA:TA}{fA:XA}{to:TE}{fo:EM}{p pos apos cpos:Pos}
end
section
variable {QR:R→Mem→Prop}{E:Xc→Mem→Prop}{μ:Mem}{δ:Env}
theorem x_ymethA {nm m:Str}{F:List DV→Mem→Res R}{fo:EM}{fa:XA}(h:Sat (frzV fo δ μ) (fun x μ1=>(μ.length≤μ1.length∧isI nm m x μ1=true)∧Sat (fa δ μ1) (fun xs μ2=>Sat (F (x::xs) μ2) (fun r μ3=>Sat (closeR μ.length r μ3) QR E) (fun x μ2=>E x (μ2.take μ.length))) (fun x μ2=>E x (μ2.take μ.length))) (fun x μ2=>E x (μ2.take μ.length))):Sat (eCut (yMethA nm m F fo fa) δ μ) QR E:=by
 unfold eCut yMethA
 cases e:frzV fo δ μ with
 | bad=>rw[e] at h;exact h
 | exc x m=>rw[e] at h;exact h
 | ok x m =>
  rw[e] at h
  obtain⟨h1,h2⟩:=h
  simp only[Res.bind_ok]
  rw[if_pos h1]
  cases e1:fa δ m with
  | bad=>rw[e1] at h2;exact h2
  | exc x m=>rw[e1] at h2;exact h2
  | ok xs m2 =>
   rw[e1] at h2
   simp only[Res.bind_ok]
   have h2:Sat (F (x::xs) m2) _ _:=h2
   cases e2:F (x::xs) m2 with
   | bad=>rw[e2] at h2;exact h2
   | exc x m=>rw[e2] at h2;exact h2
   | ok r m=>rw[e2] at h2;exact h2
end
section
variable {prog:Program}{w:World}{A:Around}{E:Value→Shared→Prop}{s:Shared}{d:Addr}{o:Obj}{es:Array DictEntry}{ep:Nat}{xs:List T3}
end
section
variable {K:PySem.W.Frag}
end
structure KeyD (P:Program)(w:World)(K:PySem.W.Frag)(mg:Str→Option Value)(x:Str):Prop where
 ex:∃ f:Addr,mg x=some (.ref f)∧PySem.W.keepIn K (.ref f)=true∧∀ (A:Around) (s:Shared) (a:Addr) (v0:Value) (its:List Value),K.In s.heap→s.heap.NoLimit→A.depth<recursionLimit→IsTup s.heap a (v0::its).toArray →
  wpAny (model P w) A (call (.ref f) [.ref a]) (fun v s'=>v=v0∧∃ h' tk,s'={ s with heap:=h',toks:=tk }∧∀ b o,s.heap.get? b=some o→h'.get? b=some o) (fun _ _=>False) s
def keyB:D→Bool
 | .int _=>true
 | .tup ds=>ds.all fun d=>match d with
  | .int _=>true
  | _=>false
 | _=>false
def fstP:D→PyData
 | .tup (k::_)=>pyD k
 | _=>.none
def fstB:D→Bool
 | .tup (k::_)=>keyB k
 | _=>false
section
variable {K:PySem.W.Frag}
def dSort0:List DV→Mem→Res R:=d1 fun x μ=>match (asL μ x).bind allDat with
 | some ds=>if ds.all fstB=true∧alikeB (ds.map fstP)=true∧sortableB (ds.map fstP)=true then .ok (.nl ((ds.mergeSort (PySem.W.dataLe false fstP)).map DV.dat)) μ else .bad
 | none=>.bad
def eSortF (f:EM):EM:=fun δ μ=>(frzV f δ μ).bind fun x μ1=>dSort0 [x] μ1
theorem l_sortF {QR:R→Mem→Prop}{E:Xc→Mem→Prop}{μ:Mem}{δ:Env}{fe:EM}(h:Sat (frzV fe δ μ) (fun x μ1=>∃ ds,(asL μ1 x).bind allDat=some ds∧(ds.all fstB=true∧alikeB (ds.map fstP)=true∧sortableB (ds.map fstP)=true)∧QR (.nl ((ds.mergeSort (PySem.W.dataLe false fstP)).map DV.dat)) μ1) E):Sat (eSortF fe δ μ) QR E:=by
 refine sat_bind (h.mono (fun x m q=>?_) fun _ _ q=>q)
 obtain⟨ds,q1,q2,q3⟩:=q
 unfold dSort0 d1
 simp only[q1]
 rw[if_pos q2];exact q3
end
section
variable {X:Cx}{cx:CXT}{k:Nat}{C g:Addr}{fd:FuncData}{ps:List Str}{sp:Sp}{E:L2.St→XK}{nm m:Str}{o e e2:Expr}{to:TE}{t:TA}{pos apos q:Pos}
end
section
variable {K:PySem.W.Frag}{W:WX}{n:Nat}{to:TE}{ta:TA}{fo:EM}{fa:AM}{nm m:Str}{F:List DV→Mem→Res R}{C g:Addr}
end
section
variable {X:Cx}{W:WX}{P:Program}{w:World}{K:PySem.W.Frag}{mg:Str→Option Value}{base:Heap}{cx:CXT}{k n:Nat}{nm m:Str}{F:List DV→Mem→Res R}{o e e2:Expr}{tA:TA}{to:TE}{fo:EM}{fA:AM}{pos apos q:Pos}
end
section
variable {K:PySem.W.Frag}
end
section
variable {QR:R→Mem→Prop}{E:Xc→Mem→Prop}{μ:Mem}{neg:Bool}{x y:DV}
end
end DL
theorem L2.Room.units65 {k:Nat}{A:PySem.Around}(r:L2.Room k A):A.units+65<PySem.cLine:=by have:=r.un;omega
namespace DL
open PySem PySem.Spec PyProof.Rows L2
theorem sub_len {α:Type}[DecidableEq α]:∀ {l m:List α},l.Nodup→(∀ x∈l,x∈m)→l.length≤m.length
 | [],_,_,_=>Nat.zero_le _
 | x::l,m,h,hs=>by
  obtain⟨h1,h2⟩:=List.nodup_cons.mp h
  have hx:=hs x List.mem_cons_self
  have:=sub_len (m:=m.erase x) h2 fun y hy=>(List.mem_erase_of_ne (fun(e:y=x)=>h1 (by rw[←e];exact hy))).mpr (hs y (List.mem_cons_of_mem _ hy))
  have e:=List.length_erase_of_mem hx
  have hp:=List.length_pos_of_mem hx
  simp only[List.length_cons]
  omega
section
variable {P:Program}{w:World}{A:Around}{E:Value→Shared→Prop}{s:Shared}
theorem setX_le {h:Heap}{a:Addr}{zs bx:List Key}{c:Nat}(R:SetX w h a (kIn zs) c)(hb:∀ k∈zs,k∈bx):c≤bx.length:=by
 obtain⟨o,es,ep,t,r⟩:=R
 have:=sub_len r.nd fun k hk=>hb k (kIn_iff.mp ((r.mb k).mpr hk))
 rw[List.length_map,Array.length_toList,r.sz] at this
 exact this
theorem set_update_keysN {I:Addr}{fp wr:List Addr}{G:Array GenState→Array GenState→Prop}{n:Nat}{Pv:Nat→Value→Prop}{St:Nat→Shared→Prop}{R:Result→Shared→Prop}
  (W:WalksS P w A.in1 I fp wr G n Pv St) (S:Addr) (hSf:S∉fp) (ks:List Key) (hn:n=ks.length) (bx:List Key) (hbx:∀ k∈ks,k∈bx) (hb:bx.length+1<scanBound) (hval:∀ i v,Pv i v→∃ k,ks[i]?=some k∧keyIs k v=true) :
  ∀ (m i:Nat) (s:Shared),n-i=m→i≤n→St i s→(∃ c,SetX w s.heap S (kIn (ks.take i)) c) →
   (∀ s' c,Moved (S::wr) G s s'→SetX w s'.heap S (kIn ks) c→R (.ok (.ret .none)) s') →
   codeAny (model P w) A (.builtin "set.update.loop" ⟨[.ref S,.ref I],[]⟩) R s:=by
 have hSw:S∉wr:=fun h=>hSf (W.sub _ h)
 have hsub:∀ b∈wr,b∈S::wr:=fun b hb=>List.mem_cons_of_mem _ hb
 intro m
 induction m with
 | zero =>
  rintro i s hk' hi hst ⟨c,hS⟩ hR
  obtain rfl:i=n:=by omega
  refine codeAny_builtin PyProof.Rows.F.entry_set_update_loop ?_
  rw[Around.under_plainId PyProof.Rows.F.plain_set_update_loop _]
  show wpAny _ A.in1 (pyNext (.ref I) >>= _) _ _ s
  refine wpAny_bind (W.done s _ _ hst fun s' hm=>?_)
  show wpAny _ A.in1 (ret Value.none) _ _ s'
  rw[List.take_of_length_le (by omega)] at hS
  exact wpAny_pure (hR s' c (hm.mono hsub) (hS.at fun o e=>hm.heap S o hSw e))
 | succ m ih =>
  rintro i s hk' hi hst ⟨c,hS⟩ hR
  have hlt:i<n:=by omega
  refine codeAny_builtin PyProof.Rows.F.entry_set_update_loop ?_
  rw[Around.under_plainId PyProof.Rows.F.plain_set_update_loop _]
  show wpAny _ A.in1 (pyNext (.ref I) >>= _) _ _ s
  refine wpAny_bind (W.item i s _ _ hlt hst fun v s' hP hst' hm=>?_)
  obtain⟨z,hz,hkz⟩:=hval i v hP
  have hS':SetX w s'.heap S (kIn (ks.take i)) c:=hS.at fun o e=>hm.heap S o hSw e
  show wpAny _ A.in1 (holding [v] (setAdd S v) >>= _) _ _ s'
  refine wpAny_bind (wpAny_holding ?_)
  unfold setAdd
  refine wpAny_holding (wpAny_bind (key_hash hkz ?_))
  refine set_add (s:={ s' with toks:=s'.toks+1 }) hkz hS' (by have:=setX_le hS' fun k hk=>hbx k (List.mem_of_mem_take hk);omega) fun h' hsb hS2=>?_
  have hS3:SetX w h' S (kIn (ks.take (i+1))) (if kIn (ks.take i) z=true then c else c+1):=hS2.congr fun j=>by
   unfold kIn
   rw[List.take_add_one,hz,List.any_append]
   simp
  refine wpAny_pure ⟨plainId_quiet PyProof.Rows.F.plain_set_update_loop _,ih (i+1) _ (by omega) hlt (W.frame _ s' _ _ hst' (Nat.le_succ _) fun b hb o e=>?_) ⟨_,hS3⟩ fun s'' c2 hm'' hS''=>?_⟩
  ·rw[hsb.2 b (fun h:b=S=>hSf (h▸hb))];exact e
  ·refine hR s'' c2 (Moved.trans W.gtrans ((hm.mono hsub).then_heap (Nat.le_succ _) fun b o hb e=>?_) hm'') hS''
   rw[hsb.2 b (fun h:b=S=>hb (by rw[h];exact List.mem_cons_self))];exact e
set_option maxHeartbeats 3200000 in
theorem call_set_tupN {l:Addr}{items:Array Value}(ks:List Key){Q:Value→Shared→Prop}(hh:A.handled=none)(hl:s.heap.IsTuple l items)(hit:KeysAre items.toList ks)(bx:List Key)(hbx:∀ k∈ks,k∈bx)(hb:bx.length+1<scanBound)
  (h:∀ (h':Heap) (tk c:Nat),SetX w h' s.heap.objs.size (kIn ks) c→(∀ b o,s.heap.get? b=some o→h'.get? b=some o)→Q (.ref s.heap.objs.size) { s with heap:=h',toks:=tk }) :
  wpAny (model P w) A (call (.type "set") [.ref l]) Q E s:=by
 have hisz:items.size=ks.length:=by rw[←paired_len hit,Array.length_toList]
 obtain⟨c,tl,hmro⟩:=F.called_set.mro
 have hmade:=F.called_set.made
 have hsub:=F.called_set.sub
 refine wpAny_call (codeAny_of_tree ?_)
 show wpAny _ _ (callAny (.type "set") _) _ _ _
 refine wpAny_pure ⟨Code.quiet_builtin _ (by decide +kernel),codeAny_builtin F.entry_type_call ?_⟩
 rw[Around.under_plain (weight_type_call_type "set" [.ref l] []) rfl]
 have h1:=F.called_set.notType
 have h2:=F.called_set.canCreate
 have hct:=F.typeCall_set_1 (.ref l)
 repeat (any_goals (first|assumption|wp_step))
 let so:Obj:={ cls:=.type "set",dict:=none,data:=.set #[] 0 (.fresh 0 0 (!w.params.followText "set-order")) }
 refine codeAny_mono (code_set_led1 (.ref l) (E:=E) (Q₁:=fun obj s₁=>obj=.ref s.heap.objs.size∧s₁={ s with heap:=s.heap.push so }) ⟨rfl,rfl⟩) fun r s₁ hr=>?_
 match r,hr with
 | .error e,hr=>exact hr
 | .ok .next,hr=>exact hr.elim
 | .ok .brk,hr=>exact hr.elim
 | .ok .cont,hr=>exact hr.elim
 | .ok (.ret obj),hr =>
  obtain⟨rfl,rfl⟩:=hr
  have hS:(s.heap.push so).get? s.heap.objs.size=some so:=Heap.get?_push_size _ rfl
  have hT:Shared.TypeIs { s with heap:=s.heap.push so } (.ref s.heap.objs.size) "set":=⟨_,hS,rfl⟩
  have hli:=F.called_set.init.lookup
  have hbi:=F.called_set.init.bind (.ref s.heap.objs.size)
  repeat (any_goals (first|assumption|wp_step))
  refine codeAny_mono (codeAny_call_builtin (R:=wants (fun r s₂=>r=.none∧∃ h' tk c,s₂={ s with heap:=h',toks:=tk }∧SetX w h' s.heap.objs.size (kIn ks) c ∧
    (∀ b o,s.heap.get? b=some o→h'.get? b=some o)) E) F.called_set.init.plain F.entry_set_init (check_set_init_1 hT ?_)) fun r₂ s₂ hr₂=>?_
  ·obtain⟨⟨ocls,odict,odata,oslots⟩,hol,hcl,nl,hdl⟩:=hl
   obtain rfl:ocls=.type "tuple":=hcl
   obtain rfl:odata=.seq items nl:=hdl
   have hol':(s.heap.push so).get? l=some { cls:=.type "tuple",dict:=odict,data:=.seq items nl,slots:=oslots }:=Heap.get?_push_of_some _ hol
   have hsls:=F.sub_tuple_set
   have hslf:=F.sub_tuple_frozenset
   have hne:(Value.type "tuple"==Value.type "dict")=false:=by decide
   have hl1:(s.heap.push so).IsTuple l items:=⟨_,hol',rfl,nl,rfl⟩
   unfold Builtin.«set.__init__» noKeywords Builtin.Frozenset.updateFrom
   generalize hPI:pyIter=PI
   wp_walk
   subst hPI
   refine wpAny_pyIter_tuple hl1 (wpAny_bind (wpAny_runValue ?_))
   have hlS:l<s.heap.objs.size:=Heap.lt_size hol
   have hh3:A.in1.in1.in1.handled=none:=by simp[hh]
   have hz1:(s.heap.push so).objs.size=s.heap.objs.size+1:=Heap.size_push ..
   have hneI:l≠(s.heap.push so).objs.size:=by rw[hz1];exact Nat.ne_of_lt (Nat.lt_succ_of_lt hlS)
   have hSf:s.heap.objs.size∉[(s.heap.push so).objs.size,l]:=by
    rw[hz1]
    simp only[List.mem_cons,List.not_mem_nil,or_false,not_or]
    exact⟨Nat.ne_of_lt (Nat.lt_succ_self _),Nat.ne_of_gt hlS⟩
   have hval:∀ (i:Nat) (v:Value),items[i]?=some v→∃ k,ks[i]?=some k∧keyIs k v=true:=fun i v hv=>keys_get hit (by rw[Array.getElem?_toList];exact hv)
   refine set_update_keysN ((Walks.tuple hh3 _ l hneI items).toS) s.heap.objs.size hSf ks hisz bx hbx hb hval (items.size-0) 0 _ (by omega) (Nat.zero_le _)
    ⟨⟨_,Heap.get?_push_size _ rfl,rfl,rfl⟩,(hl1.push _)⟩ ⟨0,setX_fresh (Heap.get?_push_of_some _ hS)⟩ fun s' c' hm hS'=>?_
   obtain⟨h',g2,d',tk',os'⟩:=s'
   obtain rfl:g2=s.gens:=hm.gens
   obtain rfl:d'=s.drawn:=hm.drawn
   obtain rfl:os'=s.os:=hm.os
   show wpAny _ _ _ _ _ _
   refine wpAny_pure ?_
   show wpAny _ _ (ret Value.none) _ _ _
   refine wpAny_pure ⟨rfl,h',tk',c',rfl,hS',fun b o e=>?_⟩
   have hb0:b<s.heap.objs.size:=Heap.lt_size e
   refine hm.heap b o ?_ (Heap.get?_push_of_some _ (Heap.get?_push_of_some _ e))
   rw[hz1]
   simp only[List.mem_cons,List.not_mem_nil,or_false,not_or]
   exact⟨Nat.ne_of_lt hb0,Nat.ne_of_lt (Nat.lt_succ_of_lt hb0)⟩
  ·match r₂,hr₂ with
   | .error e,hr₂=>exact hr₂
   | .ok .next,hr₂=>exact hr₂.elim
   | .ok .brk,hr₂=>exact hr₂.elim
   | .ok .cont,hr₂=>exact hr₂.elim
   | .ok (.ret r),hr₂ =>
    obtain⟨rfl,h',tk,c',rfl,hS',hk'⟩:=hr₂
    repeat (any_goals (first|assumption|wp_step))
    exact h _ _ _ hS' hk'
set_option maxHeartbeats 3200000 in
theorem call_set_lstN {l:Addr}{items:Array Value}(ks:List Key){Q:Value→Shared→Prop}(hh:A.handled=none)(hl:s.heap.IsList l items)(hit:KeysAre items.toList ks)(bx:List Key)(hbx:∀ k∈ks,k∈bx)(hb:bx.length+1<scanBound)
  (h:∀ (h':Heap) (tk c:Nat),SetX w h' s.heap.objs.size (kIn ks) c→(∀ b o,s.heap.get? b=some o→h'.get? b=some o)→Q (.ref s.heap.objs.size) { s with heap:=h',toks:=tk }) :
  wpAny (model P w) A (call (.type "set") [.ref l]) Q E s:=by
 have hisz:items.size=ks.length:=by rw[←paired_len hit,Array.length_toList]
 obtain⟨c,tl,hmro⟩:=F.called_set.mro
 have hmade:=F.called_set.made
 have hsub:=F.called_set.sub
 refine wpAny_call (codeAny_of_tree ?_)
 show wpAny _ _ (callAny (.type "set") _) _ _ _
 refine wpAny_pure ⟨Code.quiet_builtin _ (by decide +kernel),codeAny_builtin F.entry_type_call ?_⟩
 rw[Around.under_plain (weight_type_call_type "set" [.ref l] []) rfl]
 have h1:=F.called_set.notType
 have h2:=F.called_set.canCreate
 have hct:=F.typeCall_set_1 (.ref l)
 repeat (any_goals (first|assumption|wp_step))
 let so:Obj:={ cls:=.type "set",dict:=none,data:=.set #[] 0 (.fresh 0 0 (!w.params.followText "set-order")) }
 refine codeAny_mono (code_set_led1 (.ref l) (E:=E) (Q₁:=fun obj s₁=>obj=.ref s.heap.objs.size∧s₁={ s with heap:=s.heap.push so }) ⟨rfl,rfl⟩) fun r s₁ hr=>?_
 match r,hr with
 | .error e,hr=>exact hr
 | .ok .next,hr=>exact hr.elim
 | .ok .brk,hr=>exact hr.elim
 | .ok .cont,hr=>exact hr.elim
 | .ok (.ret obj),hr =>
  obtain⟨rfl,rfl⟩:=hr
  have hS:(s.heap.push so).get? s.heap.objs.size=some so:=Heap.get?_push_size _ rfl
  have hT:Shared.TypeIs { s with heap:=s.heap.push so } (.ref s.heap.objs.size) "set":=⟨_,hS,rfl⟩
  have hli:=F.called_set.init.lookup
  have hbi:=F.called_set.init.bind (.ref s.heap.objs.size)
  repeat (any_goals (first|assumption|wp_step))
  refine codeAny_mono (codeAny_call_builtin (R:=wants (fun r s₂=>r=.none∧∃ h' tk c,s₂={ s with heap:=h',toks:=tk }∧SetX w h' s.heap.objs.size (kIn ks) c ∧
    (∀ b o,s.heap.get? b=some o→h'.get? b=some o)) E) F.called_set.init.plain F.entry_set_init (check_set_init_1 hT ?_)) fun r₂ s₂ hr₂=>?_
  ·obtain⟨⟨ocls,odict,odata,oslots⟩,hol,hcl,nl,hdl⟩:=hl
   obtain rfl:ocls=.type "list":=hcl
   obtain rfl:odata=.seq items nl:=hdl
   have hol':(s.heap.push so).get? l=some { cls:=.type "list",dict:=odict,data:=.seq items nl,slots:=oslots }:=Heap.get?_push_of_some _ hol
   have hsls:=F.sub_list_set
   have hslf:=F.sub_list_frozenset
   have hne:(Value.type "list"==Value.type "dict")=false:=by decide
   have hl1:(s.heap.push so).IsList l items:=⟨_,hol',rfl,nl,rfl⟩
   unfold Builtin.«set.__init__» noKeywords Builtin.Frozenset.updateFrom
   generalize hPI:pyIter=PI
   wp_walk
   subst hPI
   refine wpAny_pyIter_list hl1 (wpAny_bind (wpAny_runValue ?_))
   have hlS:l<s.heap.objs.size:=Heap.lt_size hol
   have hh3:A.in1.in1.in1.handled=none:=by simp[hh]
   have hz1:(s.heap.push so).objs.size=s.heap.objs.size+1:=Heap.size_push ..
   have hneI:l≠(s.heap.push so).objs.size:=by rw[hz1];exact Nat.ne_of_lt (Nat.lt_succ_of_lt hlS)
   have hSf:s.heap.objs.size∉[(s.heap.push so).objs.size,l]:=by
    rw[hz1]
    simp only[List.mem_cons,List.not_mem_nil,or_false,not_or]
    exact⟨Nat.ne_of_lt (Nat.lt_succ_self _),Nat.ne_of_gt hlS⟩
   have hval:∀ (i:Nat) (v:Value),items[i]?=some v→∃ k,ks[i]?=some k∧keyIs k v=true:=fun i v hv=>keys_get hit (by rw[Array.getElem?_toList];exact hv)
   refine set_update_keysN ((Walks.list hh3 _ l hneI items).toS) s.heap.objs.size hSf ks hisz bx hbx hb hval (items.size-0) 0 _ (by omega) (Nat.zero_le _)
    ⟨⟨_,Heap.get?_push_size _ rfl,rfl,rfl⟩,(hl1.push _)⟩ ⟨0,setX_fresh (Heap.get?_push_of_some _ hS)⟩ fun s' c' hm hS'=>?_
   obtain⟨h',g2,d',tk',os'⟩:=s'
   obtain rfl:g2=s.gens:=hm.gens
   obtain rfl:d'=s.drawn:=hm.drawn
   obtain rfl:os'=s.os:=hm.os
   show wpAny _ _ _ _ _ _
   refine wpAny_pure ?_
   show wpAny _ _ (ret Value.none) _ _ _
   refine wpAny_pure ⟨rfl,h',tk',c',rfl,hS',fun b o e=>?_⟩
   have hb0:b<s.heap.objs.size:=Heap.lt_size e
   refine hm.heap b o ?_ (Heap.get?_push_of_some _ (Heap.get?_push_of_some _ e))
   rw[hz1]
   simp only[List.mem_cons,List.not_mem_nil,or_false,not_or]
   exact⟨Nat.ne_of_lt hb0,Nat.ne_of_lt (Nat.lt_succ_of_lt hb0)⟩
  ·match r₂,hr₂ with
   | .error e,hr₂=>exact hr₂
   | .ok .next,hr₂=>exact hr₂.elim
   | .ok .brk,hr₂=>exact hr₂.elim
   | .ok .cont,hr₂=>exact hr₂.elim
   | .ok (.ret r),hr₂ =>
    obtain⟨rfl,h',tk,c',rfl,hS',hk'⟩:=hr₂
    repeat (any_goals (first|assumption|wp_step))
    exact h _ _ _ hS' hk'
end
def insN (x:Int):List Int→List Int
 | []=>[x]
 | y::ys=>if x<y then x::y::ys else if y<x then y::insN x ys else y::ys
def sortN:List Int→List Int
 | []=>[]
 | x::xs=>insN x (sortN xs)
theorem insN_mem (x y:Int):∀ ys:List Int,y∈insN x ys↔y=x∨y∈ys
 | []=>by simp[insN]
 | z::zs=>by
  unfold insN
  split
  ·simp
  ·split
   ·rw[List.mem_cons,insN_mem x y zs,List.mem_cons]
    constructor
    ·rintro (h|h|h) <;> simp[h]
    ·rintro (h|h|h) <;> simp[h]
   ·have e:x=z:=by omega
    rw[e,List.mem_cons]
    constructor
    ·exact .inr
    ·rintro (h|h)
     ·exact .inl h
     ·exact h
theorem insN_rises {x:Int}:∀ {ys:List Int},ys.Pairwise (· < ·)→(insN x ys).Pairwise (· < ·)
 | [],_=>by simp[insN]
 | z::zs,h=>by
  obtain⟨h1,h2⟩:=List.pairwise_cons.mp h
  unfold insN
  split
  ·rename_i c
   exact List.pairwise_cons.mpr ⟨fun y hy=>(List.mem_cons.mp hy).elim (fun e=>e▸c) fun q=>Int.lt_trans c (h1 y q),h⟩
  ·split
   ·rename_i c
    exact List.pairwise_cons.mpr ⟨fun y hy=>((insN_mem x y zs).1 hy).elim (fun e=>e▸c) (h1 y),insN_rises h2⟩
   ·exact h
theorem sortN_mem (y:Int):∀ xs:List Int,y∈sortN xs↔y∈xs
 | []=>Iff.rfl
 | x::xs=>by rw[sortN,insN_mem,sortN_mem y xs,List.mem_cons]
theorem sortN_rises:∀ xs:List Int,(sortN xs).Pairwise (· < ·)
 | []=>.nil
 | x::xs=>insN_rises (sortN_rises xs)
theorem risesN_one:∀ {xs ys:List Int},xs.Pairwise (· < ·)→ys.Pairwise (· < ·)→(∀ z,z∈xs↔z∈ys)→xs=ys
 | [],[],_,_,_=>rfl
 | [],y::ys,_,_,h=>absurd ((h y).2 List.mem_cons_self) (fun z=>nomatch z)
 | x::xs,[],_,_,h=>absurd ((h x).1 List.mem_cons_self) (fun z=>nomatch z)
 | x::xs,y::ys,hx,hy,h=>by
  obtain⟨x1,x2⟩:=List.pairwise_cons.mp hx
  obtain⟨y1,y2⟩:=List.pairwise_cons.mp hy
  have e:x=y:=by
   rcases List.mem_cons.mp ((h x).1 List.mem_cons_self) with e|q
   ·exact e
   ·rcases List.mem_cons.mp ((h y).2 List.mem_cons_self) with e|q'
    ·exact e.symm
    ·have a:=y1 x q
     have b:=x1 y q'
     omega
  subst e
  rw[risesN_one x2 y2 fun z=>?_]
  constructor
  ·intro hz
   rcases List.mem_cons.mp ((h z).1 (List.mem_cons_of_mem _ hz)) with e|q
   ·have:=x1 z hz
    omega
   ·exact q
  ·intro hz
   rcases List.mem_cons.mp ((h z).2 (List.mem_cons_of_mem _ hz)) with e|q
   ·have:=y1 z hz
    omega
   ·exact q
theorem sortN_nodup (xs:List Int):(sortN xs).Nodup:=List.Pairwise.imp (fun h e=>by omega) (sortN_rises xs)
theorem rises_of_le {xs:List Int}(h:xs.Pairwise (·≤·))(nd:xs.Nodup):xs.Pairwise (· < ·):=List.Pairwise.imp₂ (fun {_ _} h1 h2=>by omega) h nd
section
variable {P:Program}{w:World}{A:Around}{E:Value→Shared→Prop}{s:Shared}{a:Addr}{S:Key→Bool}{n:Nat}
theorem ints_of_keys:∀ (vs:List Value),(∀ v∈vs,∃ x t,v=Value.int x t)→∃ ns,IntsAre vs ns∧∀ (f:Value→Key),(∀ x t,f (.int x t)=.inl x)→vs.map f=ns.map Sum.inl
 | [],_=>⟨[],.nil,fun _ _=>rfl⟩
 | v::vs,h=>by
  obtain⟨x,t,rfl⟩:=h v List.mem_cons_self
  obtain⟨ss,h1,h2⟩:=ints_of_keys vs fun u hu=>h u (List.mem_cons_of_mem _ hu)
  exact⟨x::ss,.cons x t h1,fun f hf=>by rw[List.map_cons,List.map_cons,hf,h2 f hf]⟩
theorem sorted_setN {zs:List Int}{Q:Value→Shared→Prop}(R:SetX w s.heap a S n)(hS:∀ k,S k=true↔k∈zs.map Sum.inl)(hh:A.handled=none)
  (hQ:∀ s' p (out:Array Value) (c:Nat),(∀ b o,s.heap.get? b=some o→s'.heap.get? b=some o)→s'.gens=s.gens→s'.os=s.os→s.heap.objs.size≤p →
   s'.heap.get? p=some (seqObj "list" out c)→IntsAre out.toList (sortN zs)→(sortN zs).length<scanBound→Q (.ref p) s') :
  wpAny (model P w) A (call (.builtin "sorted") [.ref a]) Q E s:=by
 obtain⟨o,es,ep,t,r⟩:=R
 refine Calls.call_function_entry kind_sorted plain_sorted entry_sorted (args_sorted1 _) ?_
 unfold Builtin.«sorted»
 refine wpAny_bind (m:=checkCount "sorted" 1 1 _) (wpAny_pure ?_)
 refine wpAny_bind (collect_set (A:=A.in1) hh ⟨o,r.ob,r.ex.1,r.da⟩ r.ft r.bd r.rs r.ld fun s1 vs k1 hz g1 o1 pm=>?_)
 have hvl:vs.length=n:=by rw[pm.length_eq,List.length_map,Array.length_toList];exact r.sz
 have hbd:vs.length<scanBound:=by rw[hvl,←r.sz];exact r.bd
 let kv:Value→Key:=fun v=>keyAt (0,v)
 have hmap:(vs.map kv).Perm (es.toList.map keyAt):=by
  have q:=pm.map kv
  rw[List.map_map] at q
  exact q
 have hstr:∀ v∈vs,∃ x t,v=Value.int x t:=fun v hv=>by
  obtain⟨e,he,rfl⟩:=List.mem_map.mp (pm.mem_iff.mp hv)
  have hk:keyAt e∈zs.map Sum.inl:=(hS _).1 ((r.mb _).2 (List.mem_map.mpr ⟨e,he,rfl⟩))
  obtain⟨x,_,ex⟩:=List.mem_map.mp hk
  rcases keyIs_shape (r.gd e he).1 with⟨i,t,_,e2⟩|⟨y,t,e1,_⟩
  ·exact⟨i,t,e2⟩
  ·rw[e1] at ex;cases ex
 obtain⟨ss,hss,hk⟩:=ints_of_keys vs hstr
 have eqm:vs.map kv=ss.map Sum.inl:=hk kv fun _ _=>rfl
 have hL:vs.length≤sizeLine:=Nat.le_trans (Nat.le_of_lt hbd) (by decide)
 refine wpAny_bind (wpAny_newList ?_ hL)
 have hoL:(s1.heap.push (seqObj "list" vs.toArray 0)).get? s1.heap.objs.size=some (seqObj "list" vs.toArray 0):=Heap.get?_push_size _ rfl
 refine wpAny_bind (wpAny_holding (wpAny_call_entry slot_list_sort ⟨_,hoL,rfl⟩ entry_list_sort
  (list_sort_treeKAny intKind_oneLt hoL hss.keysOfInt (fun v₁ v₂ rest e=>keyKind_ints (by rw[←e];exact hss)) hL fun st' hp hs=>⟨_,rfl,?_⟩) (args_list_sort _)))
 obtain⟨ss',q1,q2,q3⟩:=sorted_out hss hp (sortedTo_of_int hs)
 obtain⟨c,hc⟩:=sortedHeap_at (vs:=vs) (out:=(arrOf st').map (·.2)) hoL
 have nd:ss.Nodup:=by
  have z:(ss.map (Sum.inl:Int→Key)).Nodup:=by rw[←eqm];exact hmap.nodup_iff.mpr r.nd
  exact List.Pairwise.of_map _ (fun _ _ hne e=>hne (congrArg _ e)) z
 have es':ss'=sortN zs:=risesN_one (rises_of_le q3 (q2.nodup_iff.mpr nd)) (sortN_rises zs) fun z=>by
  rw[q2.mem_iff,sortN_mem]
  have m1:(Sum.inl z:Key)∈ss.map Sum.inl↔(Sum.inl z:Key)∈zs.map Sum.inl:=by
   rw[←eqm,hmap.mem_iff,←r.mb,hS]
  have inj:∀ l:List Int,(Sum.inl z:Key)∈l.map Sum.inl↔z∈l:=fun l=>by
   rw[List.mem_map]
   exact⟨fun⟨y,h,e⟩=>Sum.inl.inj e▸h,fun h=>⟨z,h,rfl⟩⟩
  rw[inj,inj] at m1
  exact m1
 subst es'
 refine wpAny_pure ⟨_,rfl,hQ _ s1.heap.objs.size _ c (fun b u e=>?_) g1 o1 hz hc q1 ?_⟩
 ·have q:=k1 b u e
  have hlt:=Heap.lt_size q
  show(sortedHeap (s1.heap.push (seqObj "list" vs.toArray 0)) s1.heap.objs.size vs _).get? b=some u
  rw[sortedHeap_old (Nat.ne_of_lt hlt) (by rw[size_push'];exact Nat.lt_succ_of_lt hlt)]
  exact Heap.get?_push_of_some _ q
 ·rw[q2.length_eq,←hss.length];exact hbd
end
section
variable {X:Cx}
def rSetN (K:PySem.W.Frag)(w:World):List V→Hp→VK→Prop:=fun xs H Q=>∃ l ys,∃ ks bx:List Key,xs=[.ref l]∧(SqL K H l ys∨SqT K H l ys)∧ys=ks.map kV∧(∀ k∈ks,k∈bx)∧bx.length+1<scanBound ∧
 ∀ a,H a=none→Q (.ref a) (upd H a (SetH w a (kIn ks)))
theorem cr_setN (hc:X.calm=true):CallR X (.type "set") (rSetN X.K X.w):=by
 intro pins s σ H vs us Q I r h
 obtain⟨l,ys,ks,bx,rfl,hs,rfl,hbx,hb,q⟩:=h
 rw[Vals.ref1 r]
 have fin:∀ (h':Heap) (tk c:Nat),SetX X.w h' s.heap.objs.size (kIn ks) c→(∀ b o,s.heap.get? b=some o→h'.get? b=some o)→EP X pins σ Q (.ref s.heap.objs.size) { s with heap:=h',toks:=tk }:=fun h' tk c R kp =>
  ⟨.ref s.heap.objs.size,_,I.laid (o:=SetH X.w s.heap.objs.size (kIn ks)) kp (Nat.le_refl _) (setH_ok R),rfl,q _ (I.hok.fresh (Nat.le_refl _))⟩
 rcases hs with hs|hs
 ·obtain⟨its,rv,pl,_⟩:=I.list hs
  exact call_set_lstN ks (I.ok.hd hc) pl.isList (by simpa using keys_of_vals rv) bx hbx hb fin
 ·obtain⟨its,rv,pl,_⟩:=I.tuple hs
  exact call_set_tupN ks (I.ok.hd hc) (show s.heap.IsTuple l its.toArray from pl) (by simpa using keys_of_vals rv) bx hbx hb fin
def rSortedN (w:World):List V→Hp→VK→Prop:=fun xs H Q=>∃ a S zs,xs=[.ref a]∧H a=some (SetH w a S)∧(∀ k,S k=true↔k∈(zs:List Int).map Sum.inl) ∧
 ∀ p,H p=none→Q (.ref p) (upd H p (.lst ((sortN zs).map V.int)))
theorem vals_of_intsN:∀ {vs:List Value} {ns:List Int},IntsAre vs ns→Vals (ns.map V.int) vs
 | _,_,.nil=>.nil
 | _,_,.cons n t h=>.cons ⟨t,rfl⟩ (vals_of_intsN h)
theorem cr_sortedN (hc:X.calm=true):CallR X (.builtin "sorted") (rSortedN X.w):=by
 intro pins s σ H vs us Q I r h
 obtain⟨a,S,zs,rfl,ha,hS,q⟩:=h
 rw[Vals.ref1 r]
 obtain⟨⟨n,R⟩,_⟩:=I.hok a _ ha
 refine sorted_setN R hS (I.ok.hd hc) fun s' p out c k g o hp hg hi hl=>?_
 have hlen:((sortN zs).map V.int).length≤sizeLine:=by rw[List.length_map];exact Nat.le_trans (Nat.le_of_lt hl) (by decide)
 have hn:H p=none:=I.hok.fresh hp
 have J:L2.Inv X pins σ (upd H p (.lst ((sortN zs).map V.int))) { s with heap:=s'.heap,gens:=s'.gens,drawn:=s'.drawn,toks:=s'.toks } :=
  I.call (ch:=[]) (Un.laid k hp hn) (I.hok.laid k hp ⟨hlen,out.toList,c,vals_of_intsN hi,hg⟩) (by rw[g];exact I.bare) (fun _ z=>nomatch z)
 have e:s'={ s with heap:=s'.heap,gens:=s'.gens,drawn:=s'.drawn,toks:=s'.toks }:=by
  cases s';cases s;cases o;rfl
 rw[e]
 exact⟨.ref p,_,J,rfl,q p hn⟩
end
def asIntsN:List DV→Option (List Int)
 | []=>some []
 | x::xs=>match asI x with
  | none=>none
  | some s=>(asIntsN xs).map (s::·)
section
variable {K:PySem.W.Frag}{W:WX}{ρ:Pm}{G H:Hp}{w:World}
theorem asIntsN_ok:∀ {xs:List DV} {vs:List V} {ss:List Int},DvL K ρ G vs xs→asIntsN xs=some ss→vs=ss.map V.int
 | [],_,_,h,e=>by cases e;cases h;rfl
 | x::xs,_,_,h,e=>by
  cases h with
  | cons r1 r2 =>
   simp only[asIntsN] at e
   cases q:asI x with
   | none=>rw[q] at e;cases e
   | some b =>
    rw[q] at e
    cases q2:asIntsN xs with
    | none=>rw[q2] at e;cases e
    | some bs=>rw[q2] at e;cases e;rw[asI_ok r1 q,asIntsN_ok r2 q2];rfl
def intsR (ss:List Int):R:=.nl (ss.map fun s=>.dat (.int s))
theorem dvl_intsN:∀ (ss:List Int),DvL K ρ G (ss.map V.int) (ss.map fun s=>DV.dat (.int s))
 | []=>.nil
 | s::ss=>.cons (.int s) (dvl_intsN ss)
def eSortSetN (f:EM):EM:=fun δ μ=>(frzV f δ μ).bind fun x μ'=>match asS μ' x with
 | none=>.bad
 | some xs=>match asIntsN xs with
  | none=>.bad
  | some ss=>if(sortN ss).length+1<scanBound then .ok (intsR (sortN ss)) μ' else .bad
theorem snd_sortsetN {te:TE}{f:EM}(h:SndE K W te f):SndE K W (tCB (rSortedN w) (tCons (tCB (rSetN K w) (tCons te tNil)) tNil)) (eSortSetN f):=fun ρ G H σ δ μ Q R E hp=>by
 refine SndG.seq (t:=te) h.toV R E hp fun x μ1 G1 H1 v t1 R1 E1 d1 hp1=>?_
 cases e:asS μ1 x with
 | none=>rw[e] at hp1;exact hp1.elim
 | some xs =>
  simp only[e] at hp1
  cases e2:asIntsN xs with
  | none=>rw[e2] at hp1;exact hp1.elim
  | some ss =>
   simp only[e2] at hp1
   by_cases c:(sortN ss).length+1<scanBound
   case neg=>rw[if_neg c] at hp1;exact hp1.elim
   rw[if_pos c] at hp1
   obtain⟨a,vs,rfl,h2,h3⟩:=asS_ok R1 d1 e
   have ev:=asIntsN_ok h3 e2
   refine⟨a,vs,ss.map Sum.inl,(sortN ss).map Sum.inl,rfl,h2,by rw[ev,List.map_map];rfl,fun k hk=>?_,by rw[List.length_map];exact c,fun b hb=>?_⟩
   ·obtain⟨i,hi,rfl⟩:=List.mem_map.mp hk
    exact List.mem_map.mpr ⟨i,(sortN_mem i ss).mpr hi,rfl⟩
   obtain⟨R2,t2⟩:=R1.lay (o:=SetH w b (kIn (ss.map Sum.inl))) hb
   refine⟨b,_,ss,rfl,upd_same,fun k=>kIn_iff,fun p hpn=>?_⟩
   exact new_list R2 (t1.trans t2) hpn (dvl_intsN _) hp1
end
theorem pm_sortsetN {X:Cx} {W:WX} {p p2 q pos:Pos} {e:Expr} {te:TE} {f:EM} (hc:X.calm=true) (hg:Gl X "sorted") (hm:X.mg "sorted"=none) (hg2:Gl X "set") (hm2:X.mg "set"=none) (he:PM X W e te f)
  (h1:starEach [e] X.env=(false,eval e X.env)::starEach [] X.env:=by rfl) (h2:(backTo q (starEach [] X.env)).any (·.1)=false:=by rfl)
  (h3:starEach [Expr.Call (.Name "set" p2) [e] [] q] X.env=(false,eval (Expr.Call (.Name "set" p2) [e] [] q) X.env)::starEach [] X.env:=by rfl) (h4:(backTo pos (starEach [] X.env)).any (·.1)=false:=by rfl) :
  PM X W (.Call (.Name "sorted" p) [.Call (.Name "set" p2) [e] [] q] [] pos) (tCB (rSortedN X.w) (tCons (tCB (rSetN X.K X.w) (tCons te tNil)) tNil)) (eSortSetN f) :=
 ⟨pe_callB (cr_sortedN hc) hg hm (by decide +kernel) (pa_cons (pe_callTy (cr_setN hc) hg2 hm2 (by decide +kernel) (pa_cons he.pe pa_nil h1) (by decide) (by decide) h1 h2) pa_nil h3) (by decide) (by decide) h3 h4,snd_sortsetN he.sd⟩
def rgN (i j k:Int):Nat:=if i<j then((j-i-1) / k+1).toNat else 0
def rgC (i k:Int)(n:Nat):List Int:=(List.range n).map fun(m:Nat)=>i+(m:Int)*k
def RgS (i j k:Int):Prop:=(1≤k∧k≤1000000)∧(0≤i∧i≤1000000)∧0≤j∧j≤1000000
instance (i j k:Int):Decidable (RgS i j k):=by unfold RgS;exact inferInstance
theorem rgN_le {i j k:Int}(h:RgS i j k):rgN i j k≤1000001:=by
 obtain⟨⟨a,b⟩,⟨c,d⟩,e,f⟩:=h
 unfold rgN
 split
 ·have:(j-i-1) / k≤j-i-1:=Int.ediv_le_self _ (by omega)
  omega
 ·omega
theorem rgS_C {i j k:Int}(h:RgS i j k):RgC i j k (rgN i j k):=by
 have hn:=rgN_le h
 obtain⟨⟨a,b⟩,⟨c,d⟩,e,f⟩:=h
 have hs:Builtin.Range.rangeSize i j k=(rgN i j k:Nat):=by
  unfold Builtin.Range.rangeSize rgN
  rw[if_pos (by omega)]
  split
  ·have:0≤(j-i-1) / k:=Int.ediv_nonneg (by omega) (by omega)
   omega
  ·rfl
 refine⟨by omega,by omega,?_,hs⟩
 unfold Builtin.Range.small
 rw[hs]
 simp only[Builtin.Range.rangeFitsLong,Bool.and_eq_true,Bool.or_eq_true,decide_eq_true_eq,beq_iff_eq,show k > 0 by omega,if_true]
 refine⟨⟨⟨⟨?_,?_⟩,?_⟩,?_⟩,.inr ?_⟩
 ·omega
 ·omega
 ·omega
 ·omega
 ·rw[if_pos trivial,Bool.and_eq_true,decide_eq_true_eq,decide_eq_true_eq]
  omega
section
variable {X:Cx}{W:WX}{a b c:Expr}{ta:TA}{fa:AM}{p p2 pos pos2:Pos}
theorem vals_rgC {i k:Int}{acc:Array Value}{n:Nat}(h:ItemsOf (fun m v=>∃ t,v=.int (i+m*k) t) acc n):Vals ((rgC i k n).map V.int) acc.toList:=by
 have e:acc.toList.length=n:=by rw[Array.length_toList];exact h.1
 unfold rgC
 rw[List.map_map,←e]
 refine vals_of_get acc.toList _ fun j u hj=>?_
 obtain⟨t,rfl⟩:=h.2 j u (by rw[←hj,Array.getElem?_toList])
 exact⟨t,rfl⟩
def tLstRg3 (ta:TA):TE:=fun σ H Q=>ta σ H fun vs H1=>∃ (i j k:Int),vs=[.int i,.int j,.int k]∧RgS i j k∧∀ q,H1 q=none→Q (.ref q) (upd H1 q (.lst ((rgC i k (rgN i j k)).map V.int)))
theorem pe_listRg3 (hc:X.calm=true) (hg:Gl X "list") (hm:X.mg "list"=none) (hg2:Gl X "range") (hm2:X.mg "range"=none) (ha:PA X [a,b,c] ta)
  (hs:starEach [a,b,c] X.env=(false,eval a X.env)::starEach [b,c] X.env:=by rfl) (hpl:(backTo pos2 (starEach [b,c] X.env)).any (·.1)=false:=by rfl)
  (na:starEach [.Call (.Name "range" p2) [a,b,c] [] pos2] X.env=(false,eval (.Call (.Name "range" p2) [a,b,c] [] pos2) X.env)::starEach [] X.env:=by rfl) :
  PE X (.Call (.Name "list" p) [.Call (.Name "range" p2) [a,b,c] [] pos2] [] pos) (tLstRg3 ta):=by
 have hr:∀ (pins:List (Addr×Obj)) (s:Shared) (σ:L2.St) (H:Hp) (Q:VK),L2.Inv X pins σ H s→tLstRg3 ta σ H Q →
   wpAny (model X.prog X.w) X.A (eval (.Call (.Name "range" p2) [a,b,c] [] pos2) X.env) (fun x s'=>∃ (r:Addr) (i j k:Int) (t u v:Tok) (H':Hp),x=.ref r∧IsRange s'.heap r i j k t u v∧RgS i j k∧L2.Inv X pins σ H' s'∧∀ q,H' q=none→Q (.ref q) (upd H' q (.lst ((rgC i k (rgN i j k)).map V.int)))) X.xe s:=by
  intro pins s σ H Q I h
  refine Call_ (ld_blt I hg2 hm2 boot_range (PyProof.Rows.callWith_type1 (thn (ha.run pos2 pins s σ H _ I h) fun us s1 ⟨vs,H1,I1,r1,q1⟩=>?_) hs hpl))
  obtain⟨i,j,k,e,hS,q⟩:=q1
  subst e
  obtain⟨c0,c1,c2,c3⟩:=rgS_C hS
  cases r1 with
  | cons r rr =>
   cases rr with
   | cons r' rr =>
    cases rr with
    | cons r'' rr =>
     cases rr
     obtain⟨t,rfl⟩:=r
     obtain⟨t',rfl⟩:=r'
     obtain⟨t'',rfl⟩:=r''
     refine call_range_3 c0 ?_ (.inl (PyProof.noPylong_small c1))
     exact⟨_,i,j,k,_,_,_,H1,rfl,IsRange.new _ _ _ _ _ _ _,hS,I1.kept (t':=s1.toks) fun b o e=>Heap.get?_push_of_some _ e,q⟩
 refine⟨fun pins s σ H Q I h=>?_⟩
 refine Call_ (ld_blt I hg hm boot_list (PyProof.Rows.callWith_type1 (args_cons (thn (hr pins s σ H _ I h) fun x s1 ⟨r,i,j,k,t,u,v,H1,ex,hr,hS,I1,q⟩=>args_nil ?_) na) na))
 subst ex
 have hn:=rgN_le hS
 obtain⟨c0,c1,c2,c3⟩:=rgS_C hS
 refine call_list_range (n:=rgN i j k) (I1.ok.hd hc) hr c2 c3 (by omega) fun h' tk acc c' hk e' hi=>?_
 refine⟨.ref s1.heap.objs.size,upd H1 s1.heap.objs.size (.lst ((rgC i k (rgN i j k)).map V.int)),I1.laid hk (Nat.le_refl _) (show ObjOk X.prog X.w _ _ _ (.lst ((rgC i k (rgN i j k)).map V.int)) from⟨?_,acc.toList,c',vals_rgC hi,?_⟩),rfl,q _ (I1.hok.fresh (Nat.le_refl _))⟩
 ·unfold rgC;rw[List.length_map,List.length_map,List.length_range,sizeLine_eq];omega
 ·rw[Array.toArray_toList];exact e'
end
section
variable {K:PySem.W.Frag}{W:WX}
def eListRg3 (fa:AM):EM:=fun δ μ=>(fa δ μ).bind fun xs μ'=>match xs with
 | [x,y,z]=>match asI x,asI y,asI z with
  | some i,some j,some k=>if RgS i j k then .ok (intsR (rgC i k (rgN i j k))) μ' else .bad
  | _,_,_=>.bad
 | _=>.bad
theorem snd_listRg3 {ta:TA}{fa:AM}(h:SndA K W ta fa):SndE K W (tLstRg3 ta) (eListRg3 fa):=fun ρ G H σ δ μ Q R E hp=>by
 refine SndG.seq (t:=ta) h R E hp fun xs μ1 G1 H1 vs t1 R1 E1 d1 hp1=>?_
 match xs,d1,hp1 with
 | [],_,hp1=>exact hp1.elim
 | [_],_,hp1=>exact hp1.elim
 | [_,_],_,hp1=>exact hp1.elim
 | _::_::_::_::_,_,hp1=>exact hp1.elim
 | [x,y,z],d1,hp1 =>
  cases d1 with
  | cons dx d1 =>
   cases d1 with
   | cons dy d1 =>
   cases d1 with
   | cons dz d1 =>
   cases d1
   simp only at hp1
   split at hp1
   ·rename_i i j k e1 e2 e3
    by_cases c:RgS i j k
    ·rw[if_pos c] at hp1
     rw[asI_ok dx e1,asI_ok dy e2,asI_ok dz e3]
     exact⟨i,j,k,rfl,c,fun q hq=>new_list R1 t1 hq (dvl_intsN _) hp1⟩
    ·rw[if_neg c] at hp1;exact hp1.elim
   ·exact hp1.elim
theorem pm_listRg3 {X:Cx} {W:WX} {a b c:Expr} {ta:TA} {fa:AM} {p p2 pos pos2:Pos} (hc:X.calm=true) (hg:Gl X "list") (hm:X.mg "list"=none) (hg2:Gl X "range") (hm2:X.mg "range"=none) (ha:PMA X W [a,b,c] ta fa)
  (hs:starEach [a,b,c] X.env=(false,eval a X.env)::starEach [b,c] X.env:=by rfl) (hpl:(backTo pos2 (starEach [b,c] X.env)).any (·.1)=false:=by rfl)
  (na:starEach [.Call (.Name "range" p2) [a,b,c] [] pos2] X.env=(false,eval (.Call (.Name "range" p2) [a,b,c] [] pos2) X.env)::starEach [] X.env:=by rfl) :
  PM X W (.Call (.Name "list" p) [.Call (.Name "range" p2) [a,b,c] [] pos2] [] pos) (tLstRg3 ta) (eListRg3 fa):=⟨pe_listRg3 hc hg hm hg2 hm2 ha.pe hs hpl na,snd_listRg3 ha.sd⟩
end
section
variable {X:Cx}{W:WX}{e:Expr}{te:TE}{f:EM}{p p2 q pos:Pos}
theorem pm_sortsetNK (K:PySem.W.Frag) (w:World) (hc:X.calm=true) (hg:Gl X "sorted") (hm:X.mg "sorted"=none) (hg2:Gl X "set") (hm2:X.mg "set"=none) (he:PM X W e te f) (hK:X.K=K:=by rfl) (hw:X.w=w:=by rfl)
  (h1:starEach [e] X.env=(false,eval e X.env)::starEach [] X.env:=by rfl) (h2:(backTo q (starEach [] X.env)).any (·.1)=false:=by rfl)
  (h3:starEach [Expr.Call (.Name "set" p2) [e] [] q] X.env=(false,eval (Expr.Call (.Name "set" p2) [e] [] q) X.env)::starEach [] X.env:=by rfl) (h4:(backTo pos (starEach [] X.env)).any (·.1)=false:=by rfl) :
  PM X W (.Call (.Name "sorted" p) [.Call (.Name "set" p2) [e] [] q] [] pos) (tCB (rSortedN w) (tCons (tCB (rSetN K w) (tCons te tNil)) tNil)) (eSortSetN f):=by subst hK hw;exact pm_sortsetN hc hg hm hg2 hm2 he h1 h2 h3 h4
end
theorem asIntsN_map:∀ ns:List Int,asIntsN (ns.map fun s=>.dat (.int s))=some ns
 | []=>rfl
 | s::ss=>by simp[asIntsN,asI,asIntsN_map ss]
section
variable {QR:R→Mem→Prop}{E:Xc→Mem→Prop}{δ:Env}{μ:Mem}
theorem x_sortsetN {f:EM}(h:Sat (frzV f δ μ) (fun x μ'=>∃ xs ns,asS μ' x=some xs∧asIntsN xs=some ns∧(sortN ns).length+1<scanBound∧QR (.nl ((sortN ns).map fun s=>.dat (.int s))) μ') E):Sat (eSortSetN f δ μ) QR E:=by
 refine sat_bind (h.mono (fun x μ1 q=>?_) fun _ _ q=>q)
 obtain⟨xs,ss,e,e2,hl,q⟩:=q;rw[e];simp only;rw[e2];simp only;rw[if_pos hl];exact q
theorem x_listRg3 {fa:AM}(h:Sat (fa δ μ) (fun xs μ'=>∃ i j k:Int,xs=[.dat (.int i),.dat (.int j),.dat (.int k)]∧RgS i j k∧QR (.nl ((rgC i k (rgN i j k)).map fun s=>.dat (.int s))) μ') E):Sat (eListRg3 fa δ μ) QR E:=by
 refine sat_bind (h.mono (fun xs μ1 q=>?_) fun _ _ q=>q)
 obtain⟨i,j,k,rfl,hS,q⟩:=q;simp only[asI];rw[if_pos hS];exact q
end
abbrev dDivW:DV→DV→Mem→Res R:=d2I (fun _ j=>decide (0<j∧j.natAbs.log2<9000)) fun i j=>.int (i / j)
section
variable {K:PySem.W.Frag}{X:Cx}{W:WX}{pos:Pos}
theorem od_divW:OpD K (rI CDivW fun i j=>V.int (i / j)) dDivW:=od_I (fun i j h=>of_decide_eq_true (p:=0<j∧j.natAbs.log2<9000) h) fun _ _ _=>.int _
theorem pm_divW {a b:Expr}{ta tb:TE}{fa fb:EM}(ha:PM X W a ta fa)(hb:PM X W b tb fb):PM X W (.BinOp a .FloorDiv b pos) (tOp (rI CDivW fun i j=>V.int (i / j)) ta tb) (eOp dDivW fa fb):=pm_op op_fdivW od_divW ha hb
end
theorem divW_ok {i j:Int}{μ:Mem}(h:0<j)(h':j.natAbs.log2<9000):dDivW (.dat (.int i)) (.dat (.int j)) μ=.ok (.dat (.int (i / j))) μ:=by simp[d2I,asI,h,h']
def gTakeW:SM :=
  (gSeq (gIf (tmB (eOp dEq (eOp dIx (eVar 0) (eD (.int 0))) (eD (.int 0)))) (gSeq (gAsg 2 (eD (.int 0)))
  (gSeq (gIf (tmB (eOp dLt (eOp dIx (eVar 0) (eD (.int 2))) (eCB (d1 dLen) (aCons (eOp dIx (eVar 0) (eD (.int 3))) aNil)))) (gAsg 2 (eOp dIx (eOp dIx (eVar 0) (eD (.int 3))) (eOp dIx (eVar 0) (eD (.int 2))))) gNext)
  (gSeq (gAugS (fun i j=>i+j) (eVar 0) (eD (.int 2)) (eD (.int 1)))
  (gSeq (gIf (tmB (eOp dGe (eVar 2) (eD (.int 1000000000000000000)))) (gSet (eVar 0) (eD (.int 0)) (eVar 2)) gNext)
  (gSeq (gAsg 3 (eOp dAdd (eOp dAdd (eOp dMul (eOp dIx (eVar 0) (eD (.int 1))) (eD (.int 48271))) (eOp dMod (eCB (d1 dInt) (aCons (eVar 2) aNil)) (eD (.int 2147483647)))) (eOp dMul (eD (.int 7919)) (eOp dIx (eVar 0) (eD (.int 2))))))
  (gSet (eVar 0) (eD (.int 1)) (eOp dMod (eCB (d1 dInt) (aCons (eVar 3) aNil)) (eD (.int 2147483647))))))))) gNext)
  (gSeq (gIf (tmB (eOp dGt (eOp dIx (eVar 0) (eD (.int 0))) (eD (.int 0)))) (gSeq (gAsg 4 (eOp dMod (eCB (d1 dInt) (aCons (eOp dIx (eVar 0) (eD (.int 0))) aNil)) (eVar 1)))
  (gSeq (gSet (eVar 0) (eD (.int 0)) (eOp dDivW (eCB (d1 dInt) (aCons (eOp dIx (eVar 0) (eD (.int 0))) aNil)) (eVar 1)))
  (gRet (eVar 4)))) gNext)
  (gSeq (gAsg 5 (eOp dMod (eCB (d1 dInt) (aCons (eOp dMul (eOp dAdd (eOp dIx (eVar 0) (eD (.int 1))) (eD (.int 1))) (eD (.int 39373))) aNil)) (eD (.int 1000000007))))
  (gSeq (gAsg 6 (eOp dMod (eCB (d1 dInt) (aCons (eOp dMul (eOp dMod (eCB (d1 dInt) (aCons (eOp dMul (eVar 5) (eVar 5)) aNil)) (eD (.int 998244353))) (eD (.int 30011))) aNil)) (eD (.int 998244353))))
  (gRet (eOp dMod (eCB (d1 dInt) (aCons (eOp dDivW (eVar 6) (eD (.int 7))) aNil)) (eVar 1)))))))
theorem take_specW {B:Bg}(hB:B.ok){μ:Mem}{n:Nat}{m:Int}(h:μ[n]?=some B.pl)(hm:0<m)(hm':m.natAbs.log2<9000) :
  callD gTakeW 2 5 [.loc n,.dat (.int m)] μ=.ok (.dat (.int (takeB B m).1)) (μ.set n (takeB B m).2.pl):=by
 obtain⟨y,z,hf⟩:=fill_spec hB (N:=μ.length) (m:=.dat (.int m)) h
 have h1:=set_at (q:=B.fill.pl) h
 have f:=fill_ok hB
 have key:gTakeW μ.length [some (.loc n),some (.dat (.int m)),none,none,none,none,none] μ=.ret (.dat (.int (takeB B m).1)) (μ.set n (takeB B m).2.pl):=by
  refine sq_next hf ?_
  have t:eOp dGt (eOp dIx (eVar 0) (eD (.int 0))) (eD (.int 0)) [some (.loc n),some (.dat (.int m)),y,z,none,none,none] (μ.set n B.fill.pl)=.ok (.dat (.bl (decide (0<B.fill.a)))) (μ.set n B.fill.pl) :=
   ev_op (bag_at 0 h1 rfl rfl) fz_D gt_ok
  by_cases c:0<B.fill.a
  ·rw[decide_eq_true c] at t
   have tk:takeB B m=(B.fill.a % m,{ B.fill with a:=B.fill.a / m }):=by unfold takeB;rw[if_pos c]
   rw[tk]
   refine sq_ret (if_true (tm_of t) (sq_next (asg_ok (fz_ofD (ev_op (ev_int (bag_at 0 h1 rfl rfl)) (fz_var (i:=1) (x:=.dat (.int m)) rfl) (mod_ok hm))))
    (sq_next (gset_ok 0 (fz_ofD (ev_op (ev_int (bag_at 0 h1 rfl rfl)) (fz_var (i:=1) (x:=.dat (.int m)) rfl) (divW_ok hm hm'))) h1 rfl (by simp[Bg.pl]))
     ((ret_ok (ev_var (i:=4) (x:=.dat (.int (B.fill.a % m))) rfl)).trans ?_))))
   rw[List.set_set];rfl
  ·rw[decide_eq_false c] at t
   have tk:takeB B m=(B.fill.low m,B.fill):=by unfold takeB;rw[if_neg c]
   rw[tk]
   refine sq_next (if_false (tm_of t) rfl) ?_
   have hb:=f.b
   have hb':=f.b'
   have q1:0≤(B.fill.b+1)*39373 % 1000000007∧(B.fill.b+1)*39373 % 1000000007<1000000007:=by omega
   refine sq_next (asg_ok (fz_ofD (ev_op (ev_int (fz_ofD (ev_op (fz_ofD (ev_op (bag_at 1 h1 rfl rfl) fz_D add_ok)) fz_D (mul_ok (cMul_r (by decide)))))) fz_D (mod_ok (by decide))))) ?_
   unfold Bg.low
   generalize (B.fill.b+1)*39373 % 1000000007=e at q1
   refine sq_next (asg_ok (fz_ofD (ev_op (ev_int (fz_ofD (ev_op (fz_ofD (ev_op (ev_int (fz_ofD (ev_op (fz_var (i:=5) (x:=.dat (.int e)) rfl) (fz_var (i:=5) (x:=.dat (.int e)) rfl) (mul_ok (cMul_r (by omega)))))) fz_D (mod_ok (by decide)))) fz_D (mul_ok (cMul_r (by decide)))))) fz_D (mod_ok (by decide))))) ?_
   exact ret_ok (ev_op (ev_int (fz_ofD (ev_op (fz_var (i:=6) (x:=.dat (.int (e*e % 998244353*30011 % 998244353))) rfl) fz_D (divW_ok (by decide) (by decide +kernel))))) (fz_var (i:=1) (x:=.dat (.int m)) rfl) (mod_ok hm))
 refine call_ret rfl key ?_
 show Res.ok _ (List.take _ _)=_
 rw[take_len]
section
variable {QR:R→Mem→Prop}{E:Xc→Mem→Prop}
theorem d_takeW {B:Bg}{ν:Mem}{m:Int}(hB:B.ok)(hm:0<m)(hm':m.natAbs.log2<9000)(h:∀ (r:Nat) (B':Bg),B'.ok→(r:Int)<m→QR (.dat (.int r)) (B'.pl::ν)):Sat (callD gTakeW 2 5 [.loc 0,.dat (.int m)] (B.pl::ν)) QR E:=by
 obtain⟨o1,o2,o3⟩:=takeB_ok hB hm
 rw[take_specW (n:=0) (μ:=B.pl::ν) hB rfl hm hm']
 generalize (takeB B m).1=t at *
 generalize (takeB B m).2=B2 at *
 obtain⟨k,rfl⟩:=Int.eq_ofNat_of_zero_le o2
 exact h k B2 o1 o3
end
set_option maxHeartbeats 1000000
def rNil (K:PySem.W.Frag)(b:Bool):R2:=fun x y H Q=>∃ (p q:Addr) (vs:List V),x=.ref p∧y=.ref q∧((SqL K H p vs∧SqL K H q [])∨(SqT K H p vs∧SqT K H q []))∧Q (.bl (vs.isEmpty==b)) H
theorem op_eqNl (K:PySem.W.Frag){X:Cx}(hu:X.A.units+64<cLine)(hK:X.K=K:=by rfl):OpR X (compareOp .Eq) (rNil K true):=by
 subst hK
 intro pins s σ H x y v u Q I rx ry h
 obtain⟨a,b,vs,rfl,rfl,hh,q⟩:=h
 cases rx
 cases ry
 rcases hh with⟨hT,hT2⟩|⟨hT,hT2⟩
 ·obtain⟨its,r,ho,hs⟩:=I.list hT
  obtain⟨its2,r2,ho2,hs2⟩:=I.list hT2
  cases r2
  cases r with
  | nil=>exact PySem.SeqAt.eq_listAt (e:=fun _=>true) ho.isList ho2.isList rfl (by omega) (fun k h1 h2=>absurd h2 (Nat.not_lt_zero _)) ⟨.bl _,H,I,(rfl:Value.bool _=Value.bool _),q⟩
  | cons r1 rs=>exact PySem.SeqAt.eq_list_lengthsAt ho.isList ho2.isList (by simp) (by omega) ⟨.bl _,H,I,(rfl:Value.bool _=Value.bool _),q⟩
 ·obtain⟨its,r,ho,hs⟩:=I.tuple hT
  obtain⟨its2,r2,ho2,hs2⟩:=I.tuple hT2
  cases r2
  refine PySem.SeqAt.eq_tupleAt (e:=fun _=>true) ho ho2 (by omega) (fun k h1 h2=>absurd h2 (Nat.not_lt_zero _)) ⟨.bl _,H,I,?_,q⟩
  cases r with
  | nil=>exact(rfl:Value.bool _=Value.bool _)
  | cons r1 rs=>show Value.bool _=Value.bool _;simp
theorem op_neNl (K:PySem.W.Frag){X:Cx}(hu:X.A.units+64<cLine)(hK:X.K=K:=by rfl):OpR X (compareOp .NotEq) (rNil K false):=by
 subst hK
 intro pins s σ H x y v u Q I rx ry h
 obtain⟨a,b,vs,rfl,rfl,hh,q⟩:=h
 cases rx
 cases ry
 rcases hh with⟨hT,hT2⟩|⟨hT,hT2⟩
 ·obtain⟨its,r,ho,hs⟩:=I.list hT
  obtain⟨its2,r2,ho2,hs2⟩:=I.list hT2
  cases r2
  cases r with
  | nil=>exact PySem.SeqAt.RcNeAt.lists (e:=fun _=>true) ho.isList ho2.isList rfl (by omega) (fun k h1 h2=>absurd h2 (Nat.not_lt_zero _)) _ _ _ _ ⟨.bl _,H,I,(rfl:Value.bool _=Value.bool _),q⟩
  | cons r1 rs=>exact PySem.SeqAt.RcNeAt.lists_lengths ho.isList ho2.isList (by simp) (by omega) _ _ _ _ ⟨.bl _,H,I,(rfl:Value.bool _=Value.bool _),q⟩
 ·obtain⟨its,r,ho,hs⟩:=I.tuple hT
  obtain⟨its2,r2,ho2,hs2⟩:=I.tuple hT2
  cases r2
  refine PySem.SeqAt.RcNeAt.tuples (e:=fun _=>true) ho ho2 (by omega) (fun k h1 h2=>absurd h2 (Nat.not_lt_zero _)) _ _ _ _ ⟨.bl _,H,I,?_,q⟩
  cases r with
  | nil=>exact(rfl:Value.bool _=Value.bool _)
  | cons r1 rs=>show Value.bool _=Value.bool _;simp
def dNil (b:Bool)(x y:DV)(μ:Mem):Res R:=match x,y with
 | .dat (.tup ds),.dat (.tup [])=>.ok (.dat (.bl (ds.isEmpty==b))) μ
 | .dat (.lst ds),.dat (.lst [])=>.ok (.dat (.bl (ds.isEmpty==b))) μ
 | _,_=>.bad
theorem od_nil {K:PySem.W.Frag}(b:Bool):OpD K (rNil K b) (dNil b):=fun W ρ G H σ μ v w x y Q R hx hy hp=>by
 unfold dNil at hp
 split at hp
 ·rename_i ds
  cases hx with|tup h r =>
  cases hy with|tup h' r' =>
  cases r'
  refine⟨_,_,_,rfl,rfl,.inr ⟨ex_t R.ex h,ex_t R.ex h'⟩,?_⟩
  cases r with
  | nil=>exact hp.okD R (.bl _)
  | cons _ _=>exact hp.okD R (.bl _)
 ·rename_i ds
  cases hx with|lst h r =>
  cases hy with|lst h' r' =>
  cases r'
  refine⟨_,_,_,rfl,rfl,.inl ⟨.inl (.inl (R.ex _ _ h)),.inl (.inl (R.ex _ _ h'))⟩,?_⟩
  cases r with
  | nil=>exact hp.okD R (.bl _)
  | cons _ _=>exact hp.okD R (.bl _)
 ·exact hp.elim
section
variable {QR:R→Mem→Prop}{E:Xc→Mem→Prop}{μ:Mem}{ds:List D}{b:Bool}
theorem l_nilT (h:QR (.dat (.bl (ds.isEmpty==b))) μ):Sat (dNil b (.dat (.tup ds)) (.dat (.tup [])) μ) QR E:=h
theorem l_nilL (h:QR (.dat (.bl (ds.isEmpty==b))) μ):Sat (dNil b (.dat (.lst ds)) (.dat (.lst [])) μ) QR E:=h
end
section
variable {prog:Program}{w:World}{A:Around}{E:Value→Shared→Prop}{s:Shared}
theorem adjust_rev (n:Nat):Builtin.Slice.sliceAdjust none none (-1) (n:Int)=((n:Int)-1,-1):=by
 unfold Builtin.Slice.sliceAdjust
 simp
theorem places_rev (n:Nat):Builtin.Slice.slicePlaces ((n:Int)-1) (-1) (-1)=n:=by
 unfold Builtin.Slice.slicePlaces
 rw[if_neg (by decide)]
 by_cases hn:n=0
 ·subst hn;rfl
 ·rw[if_pos (by omega)]
  have:((n:Int)-1 - -1-1) / - -1+1=n:=by rw[show(- -1:Int)=1 by decide,Int.ediv_one];omega
  rw[this];rfl
theorem fm_congr {α β:Type}{f g:α→Option β}:∀ {l:List α},(∀ x∈l,f x=g x)→l.filterMap f=l.filterMap g
 | [],_=>rfl
 | x::l,h=>by
  rw[List.filterMap_cons,List.filterMap_cons,h x List.mem_cons_self,fm_congr fun y hy=>h y (List.mem_cons_of_mem _ hy)]
theorem sliceApplied_rev {sl:Addr}{vk:Value}{n:Nat}{Q:Int×Int×Nat→Shared→Prop}(hs:s.heap.IsSliceOf sl .none .none vk)(pk:IsPart vk (some (-1)))
  (h:Q ((n:Int)-1,-1,n) s):wpAny (model prog w) A (Builtin.Slice.sliceApplied (.ref sl) (pure (n:Int))) Q E s:=by
 obtain⟨os,hos,hcs,hds⟩:=id hs
 unfold Builtin.Slice.sliceApplied Builtin.Slice.sliceFields
 refine wpAny_bind (wpAny_bind (wpAny_field hos hds (x:=.none) rfl (wpAny_bind (wpAny_field hos hds (x:=.none) rfl (wpAny_bind (wpAny_field hos hds (x:=vk) rfl (wpAny_pure ?_)))))))
 refine wpAny_bind (HT.slicePart_ pk ?_)
 show wpAny _ _ (if((-1:Int)==0)=true then _ else _) _ _ s
 rw[if_neg (by decide)]
 refine wpAny_bind (slicePart_none (wpAny_bind (slicePart_none (wpAny_bind (wpAny_pure ?_)))))
 show wpAny _ _ (match Builtin.Slice.sliceAdjust none none (-1) (n:Int) with|(lo,hi)=>pure (lo,(-1:Int),Builtin.Slice.slicePlaces lo hi (-1))) _ _ s
 rw[adjust_rev n]
 show wpAny _ _ (pure ((n:Int)-1,(-1:Int),Builtin.Slice.slicePlaces ((n:Int)-1) (-1) (-1))) _ _ s
 rw[places_rev]
 exact wpAny_pure h
theorem pick_rev (xs:Array Value):((List.range xs.size).filterMap fun(m:Nat)=>xs[((xs.size:Int)-1+(m:Int)*(-1)).toNat]?).toArray=xs.toList.reverse.toArray:=by
 have e:(List.range xs.size).filterMap (fun(m:Nat)=>xs[((xs.size:Int)-1+(m:Int)*(-1)).toNat]?)=((List.range xs.size).map fun k=>xs.size-1-k).filterMap (xs[·]?):=by
  rw[List.filterMap_map]
  refine fm_congr fun m hm=>?_
  have:=List.mem_range.mp hm
  have e2:((xs.size:Int)-1+(m:Int)*(-1)).toNat=xs.size-1-m:=by omega
  simp only[Function.comp_def,e2]
 rw[e,PySem.W.krv_range,List.filterMap_reverse,PySem.W.krv_all]
theorem getItem_tuple_rev {t sl:Addr}{items:Array Value}{vk:Value}{Q:Value→Shared→Prop}(ht:IsTup s.heap t items)(hs:s.heap.IsSliceOf sl .none .none vk)(pk:IsPart vk (some (-1)))
  (h:Q (.ref s.heap.objs.size) { s with heap:=s.heap.push { cls:=.type "tuple",data:=.seq items.toList.reverse.toArray } })
  (hsz:items.size≤sizeLine):wpAny (model prog w) A (getItem (.ref t) (.ref sl)) Q E s:=by
 have htake:sizeOk (.seq items.toList.reverse.toArray):=by
  show items.toList.reverse.toArray.size≤sizeLine
  rw[List.size_toArray,List.length_reverse,Array.length_toList]
  omega
 obtain⟨os,hos,hcs,hds⟩:=id hs
 have hTs:s.TypeIs (.ref sl) "slice":=⟨os,hos,hcs⟩
 unfold getItem
 try with_reducible refine wpAny_holding ?_
 first|refine wpAny_bind (wpAny_pure ?_)|skip
 refine wpAny_bind (wpAny_sequenceKey ht.typeIs (by decide) ?_)
 refine wpAny_bind (wpAny_callSpecial?_slot (name:=Str.ofString "__getitem__") ht.typeIs PyProof.Rows.slot_tuple_getitem
  (wpAny_call_entry PyProof.Rows.slot_tuple_getitem ht.typeIs PyProof.Rows.entry_tuple_getitem ?_ (PyProof.Rows.args_tuple_getitem _ _)))
 show wpAny _ _ (Builtin.Tuple.tupleItemsOf (.ref t) >>= _) _ _ s
 refine wpAny_bind (PyProof.Rows.tupleItemsOf_ ht ?_)
 refine wpAny_bind (wpAny_typeOf hTs ?_)
 rw[if_pos (by decide)]
 refine wpAny_bind (sliceApplied_rev hs pk ?_)
 have hno:¬((((items.size:Int)-1)==0&&(-1:Int)==1&&items.size==items.size)=true):=by
  intro q
  rw[Bool.and_eq_true,Bool.and_eq_true] at q
  exact absurd q.1.2 (by decide)
 show wpAny _ _ (if(((items.size:Int)-1)==0&&(-1:Int)==1&&items.size==items.size)=true then _ else _) _ _ s
 rw[if_neg hno,pick_rev]
 first
  | exact wpAny_bind (m:=Builtin.Tuple.tupleExact _) (wpAny_newObj_type (wpAny_pure ⟨_,rfl,wpAny_pure h⟩) htake)
  | exact wpAny_bind (m:=Builtin.Tuple.tupleExact _) (wpAny_newObj_type (wpAny_bind (wpAny_pure (wpAny_pure ⟨_,rfl,wpAny_pure h⟩))) htake)
  | exact wpAny_bind (wpAny_bind (m:=Builtin.Tuple.tupleExact _) (wpAny_newObj_type (wpAny_pure (wpAny_pure ⟨_,rfl,wpAny_pure h⟩)) htake))
  | exact wpAny_bind (wpAny_bind (m:=Builtin.Tuple.tupleExact _) (wpAny_newObj_type (wpAny_pure ⟨_,rfl,wpAny_pure h⟩) htake))
end
section
variable {X:Cx}{e st:Expr}{te ts:TE}{pos p2:Pos}
def rRevT (K:PySem.W.Frag)(x:V)(H:Hp)(Q:VK):Prop:=∃ a xs,x=.ref a∧SqT K H a xs∧∀ p,H p=none→Q (.ref p) (upd H p (.tup xs.reverse))
def tRv (K:PySem.W.Frag)(te ts:TE):TE:=fun σ H Q=>te σ H fun x H1=>ts σ H1 fun y H2=>y=.int (-1)∧rRevT K x H2 Q
theorem vals_reverse {vs:List V}{us:List Value}(h:Vals vs us):Vals vs.reverse us.reverse:=by
 have key:∀ (vs:List V) (us:List Value),Vals vs us→∀ (ws:List V) (zs:List Value),Vals ws zs→Vals (vs.reverseAux ws) (us.reverseAux zs):=by
  intro vs us h
  induction h with
  | nil=>intro ws zs h;exact h
  | cons a b ih=>intro ws zs h;exact ih _ _ (.cons a h)
 exact key vs us h [] [] .nil
theorem pe_rev (he:PE X e te)(hs:PE X st ts):PE X (.Subscript e (.Slice none none (some st) p2) pos) (tRv X.K te ts):=by
 refine⟨fun pins s σ H Q I h=>?_⟩
 refine Subscript_ (thn (he.run pins s σ H _ I h) fun v s1 ⟨x,H1,I1,r1,q1⟩=>?_)
 refine wpAny_Slice ?_
 rw[evalPart_none]
 refine wpAny_pure ?_
 refine wpAny_pure ?_
 rw[evalPart_some]
 refine thn (hs.run pins s1 σ H1 _ I1 q1) fun u s3 ⟨y,H3,I3,r3,q3⟩=>?_
 obtain⟨rfl,a,xs,rfl,hx,q⟩:=q3
 obtain⟨t,rfl⟩:=r3
 cases r1
 have I4:Inv X pins σ H3 { s3 with heap:=s3.heap.push { cls:=.type "slice",data:=.fields #[.none,.none,.int (-1) t] } }:=I3.kept (t':=s3.toks) fun b ob q=>Heap.get?_push_of_some _ q
 obtain⟨its,r,ht,hz⟩:=I4.tuple hx
 have hlen:its.toArray.size=xs.length:=by rw[List.size_toArray];exact r.length.symm
 show wpAny (model X.prog X.w) X.A (subscriptTail e (.Slice none none (some st) p2) (.ref a) (.ref s3.heap.objs.size)) (EP X pins σ Q) X.xe { s3 with heap:=s3.heap.push { cls:=.type "slice",data:=.fields #[.none,.none,.int (-1) t] } }
 refine tail_any (ops:=[.ref a,.ref s3.heap.objs.size]) ht.typeIs PyProof.Rows.slot_tuple_getitem.lookup ?_ (by with_unfolding_all rfl)
 refine getItem_tuple_rev ht (Heap.IsSliceOf.new ..) (.int (-1) t) ?_ (by rw[hlen];exact hz)
 refine⟨.ref _,_,I4.laid (t':=s3.toks) (o:=.tup xs.reverse) (fun b ob q=>Heap.get?_push_of_some _ q) (Nat.le_refl _) ?_,rfl,q _ (I4.hok.fresh (Nat.le_refl _))⟩
 exact⟨by rw[List.length_reverse];exact hz,_,vals_reverse r,IsTup.new _ _⟩
end
section
variable {K:PySem.W.Frag}{W:WX}{ρ:Pm}{G H:Hp}
theorem rpl_revA {vs:List V}{ds:List D}(h:RpL K G vs ds):∀ (ws:List V) (es:List D),RpL K G ws es→RpL K G (vs.reverseAux ws) (ds.reverseAux es):=by
 induction vs generalizing ds with
 | nil=>intro ws es h2;cases h;exact h2
 | cons v vs ih =>
  intro ws es h2
  cases h with
  | cons a b=>exact ih b _ _ (.cons a h2)
theorem rpl_rev {vs:List V}{ds:List D}(h:RpL K G vs ds):RpL K G vs.reverse ds.reverse:=rpl_revA h [] [] .nil
def eRv (f g:EM):EM:=fun δ μ=>(frzV f δ μ).bind fun x μ1=>(frzV g δ μ1).bind fun y μ2=>match asI y,asT x with
 | some i,some ds=>if i=-1 then .ok (.dat (.tup ds.reverse)) μ2 else .bad
 | _,_=>.bad
theorem snd_rev {te ts:TE}{f g:EM}(h:SndE K W te f)(hg:SndE K W ts g):SndE K W (tRv K te ts) (eRv f g):=fun ρ G H σ δ μ Q R E hp=>by
 refine SndG.seq (t:=te) h.toV R E hp fun x μ1 G1 H1 v t1 R1 E1 d1 hp1=>?_
 refine SndG.seq (t:=ts) hg.toV R1 E1 (hp1.shiftE t1) fun y μ2 G2 H2 u t2 R2 E2 d2 hp2=>?_
 cases e1:asI y with
 | none=>rw[e1] at hp2;exact hp2.elim
 | some i =>
  rw[e1] at hp2
  cases e2:asT x with
  | none=>rw[e2] at hp2;exact hp2.elim
  | some ds =>
   rw[e2] at hp2
   simp only at hp2
   by_cases c:i=-1
   case neg=>rw[if_neg c] at hp2;exact hp2.elim
   rw[if_pos c] at hp2
   obtain⟨a,vs,rfl,h2,h3⟩:=asT_ok R2 (d1.mono t2.exG fun _ _ q=>q) e2
   refine⟨by rw[asI_ok d2 e1,c],a,vs,rfl,h2,fun p hn=>new_tup R2 (Tr.refl _ _ _) hn (rpl_rev h3) (hp2.shiftE t2)⟩
theorem pm_rev (K:PySem.W.Frag){X:Cx}{W:WX}{e st:Expr}{te ts:TE}{f g:EM}{pos p2:Pos}(h:PM X W e te f)(hs:PM X W st ts g)(hK:X.K=K:=by rfl):PM X W (.Subscript e (.Slice none none (some st) p2) pos) (tRv K te ts) (eRv f g):=by
 subst hK;exact⟨pe_rev h.pe hs.pe,snd_rev h.sd hs.sd⟩
end
section
variable {QR:R→Mem→Prop}{E:Xc→Mem→Prop}{μ:Mem}{δ:Env}{P:PO}{N:Nat}
theorem s_raise0 {nm:Str}(h:P.ex ⟨nm,[]⟩ δ μ):SatS (gRaise0 nm N δ μ) P:=h
theorem x_isE0 {i:Nat}{a C d:Addr}{tab:List (Str×Bool)}{nm:Str}{b:Bool}(e:δ[i]?=some (some (.dat (.err a C d nm []))))(hb:tab.lookup nm=some b)(h:QR (.dat (.bl b)) μ):Sat (eIsE0 i a C tab δ μ) QR E:=by
 unfold eIsE0 errAt0
 simp only[e,and_self,if_true,hb]
 exact h
def TryE (cat:List (Str×Bool))(i:Nat)(gs:Addr→Addr→Addr→SM)(gs0:Addr→Addr→SM)(N:Nat)(P:PO)(x:Xc)(δ:Env)(μ:Mem):Prop :=
 cat.lookup x.nm=some true∧((x.fs≠[]∧∃ o,(∀ a C d,SatS (gs a C d N (δ.set i (some (.dat (.err a C d x.nm x.fs)))) μ) (IsP o))∧SatS (unset i o) P) ∨
  (x.fs=[]∧∃ o,(∀ a C,SatS (gs0 a C N (δ.set i (some (.dat (.err a C 0 x.nm [])))) μ) (IsP o))∧SatS (unset i o) P))
theorem s_tryE {cat:List (Str×Bool)}{i:Nat}{gb:SM}{gs:Addr→Addr→Addr→SM}{gs0:Addr→Addr→SM}(h:SatS (gb N δ μ) { P with ex:=fun x δ' μ'=>TryE cat i gs gs0 N P x δ' μ' }):SatS (gTryE cat i gb gs gs0 N δ μ) P:=by
 unfold gTryE
 cases e:gb N δ μ with
 | exc x δ' μ' =>
  rw[e] at h
  obtain⟨h1,h2⟩:=h
  simp only[h1]
  rcases h2 with⟨h2,o,h3,h4⟩|⟨h2,o,h3,h4⟩
  ·rw[if_pos h2,suiteOut_of fun a C d=>isP (h3 a C d)]
   exact h4
  ·rw[if_neg (fun z=>z h2),suiteOut_of fun a C _=>isP (h3 a C)]
   exact h4
 | next _ _=>rw[e] at h;exact h
 | ret _ _=>rw[e] at h;exact h
 | brk _ _=>rw[e] at h;exact h
 | cnt _ _=>rw[e] at h;exact h
 | bad=>rw[e] at h;exact h
end
def letters:Str:="abcdefghijklmnopqrstuvwxyz"
def nameB (s:Str):Bool:=decide (1≤s.length∧s.length≤8)&&s.cps.toList.all fun c=>decide (c∈letters.cps.toList)
structure DdOk (as os:List Str)(xs:List Sp1):Prop where
 nd:as.Nodup
 nm:∀ s∈as++os,nameB s=true∧PyData.strOk s=true∧s.cps.size≤16
 a1:1≤as.length
 a3:as.length≤3
 o2:os.length≤2
 x1:1≤xs.length
 x8:xs.length≤8
 st:∀ x∈xs,StOk false (as++os) x
theorem menu_name:∀ s∈menu,nameB s=true:=by decide +kernel
theorem StOk.wide {b:Bool}{ss:List Str}{x:Sp1}(h:StOk b ss x):StOk false ss x:=⟨h.word,h.sh,h.ot⟩
theorem DeedOk.dd {b:Bool}{as os:List Str}{xs:List Sp1}(h:DeedOk b as os xs):DdOk as os xs :=
 ⟨(List.nodup_append.mp h.nd).1,fun s hs=>⟨menu_name s (h.me s hs),menu_fit s (h.me s hs)⟩,h.a1,h.a3,h.o2,h.x1,h.x8,fun x hx=>(h.st x hx).wide⟩
abbrev Dd:=List Str×List Sp1
def DdV (d:Dd):Prop:=∃ os,DdOk d.1 os d.2
abbrev Sd:=List (Str×Dd)
structure SdOk (sd:Sd):Prop where
 n1:1≤sd.length
 n5:sd.length≤5
 nd:(sd.map (·.1)).Nodup
 nm:∀ p∈sd,nameB p.1=true∧PyData.strOk p.1=true∧p.1.cps.size≤16
 dd:∀ p∈sd,DdV p.2
def sget (sd:Sd)(n:Str):Option Dd:=(sd.find? fun p=>decide (p.1=n)).map (·.2)
variable {sd sd':Sd}{n:Str}{d:Dd}
theorem sget_none:sget sd n=none↔∀ p∈sd,p.1≠n:=by
 unfold sget;rw[Option.map_eq_none_iff,List.find?_eq_none];simp
end DL
namespace DL
open PySem PySem.Spec PyProof.Rows L2
section
variable {as os:List Str}{xs:List Sp1}{sd:Sd}{d:Dd}{n:Str}{QR:R→Mem→Prop}{E:Xc→Mem→Prop}{μ:Mem}
def plainSd:Sd:=[("give",["a"],[("new",["a"])]),("let",["a"],[("end",["a"])]),("put",["a"],[("write",["a"])]),("same",["a","b"],[("share",["a","b"])])]
def plainNames:List Str:=["give","let","put","same"]
def moreNames:List Str:=["go","gone","peek"]
theorem stock_names:∀ s∈plainNames++moreNames,nameB s=true∧PyData.strOk s=true∧s.cps.size≤16:=by decide +kernel
theorem plain_sorted:sortS (plainSd.map (·.1))=plainNames:=by decide +kernel
structure StkIn (ns:List Str)(sd:Sd):Prop where
 n5:sd.length≤5
 nd:(sd.map (·.1)).Nodup
 nm:∀ p∈sd,p.1∈ns
 dd:∀ p∈sd,DdV p.2
theorem StkIn.mono {ns ms:List Str}(h:StkIn ns sd)(hs:∀ s∈ns,s∈ms):StkIn ms sd:=⟨h.n5,h.nd,fun p hp=>hs _ (h.nm p hp),h.dd⟩
theorem StkIn.put {ns:List Str}{s:Str}(h:StkIn ns sd)(hs:s∉ns)(hl:sd.length<5)(hd:DdV d):sget sd s=none∧StkIn (ns++[s]) (sd++[(s,d)]):=by
 have e:∀ p∈sd,p.1≠s:=fun p hp z=>hs (z▸h.nm p hp)
 refine⟨sget_none.mpr e,by simp;omega,?_,fun p hp=>?_,fun p hp=>?_⟩
 ·rw[List.map_append]
  refine List.nodup_append.mpr ⟨h.nd,by simp,fun a ha b hb=>?_⟩
  obtain⟨p,hp,rfl⟩:=List.mem_map.mp ha
  simp at hb;subst hb;exact e p hp
 ·rcases List.mem_append.mp hp with q|q
  ·exact List.mem_append_left _ (h.nm p q)
  ·simp at q;subst q;simp
 ·rcases List.mem_append.mp hp with q|q
  ·exact h.dd p q
  ·simp at q;subst q;exact hd
theorem StkIn.ok {ns:List Str}(h:StkIn ns sd)(hn:sd≠[])(hs:∀ s∈ns,s∈plainNames++moreNames):SdOk sd :=
 ⟨List.length_pos_iff.mpr hn,h.n5,h.nd,fun p hp=>stock_names _ (hs _ (h.nm p hp)),h.dd⟩
end
def KdO:D→Bool
 | .non=>true
 | .bl _=>true
 | .int _=>true
 | .str _=>true
 | .tup _=>true
 | .lst _=>true
 | .dct _=>true
 | .ins nm _=>decide (nm="Counter"∨nm="Stock")
 | _=>false
def seqO:D→Option (List D)
 | .tup ds=>some ds
 | .lst ds=>some ds
 | _=>none
def itemsO (d:D):List D:=(seqO d).getD []
def O2 (d:D):Prop:=KdO d=true∧∀ x∈itemsO d,KdO x=true
def O3 (d:D):Prop:=KdO d=true∧∀ x∈itemsO d,O2 x
def isIntO:D→Option Int
 | .int i=>some i
 | _=>none
def wtD (d:D):Nat:=match toPyK d with
 | some p=>p.weight
 | none=>0
def Sw (k:Nat)(d:D):Prop:=∃ p,toPyK d=some p∧p.showable=true∧p.depth≤k∧p.leavesShort 13=true
section
variable {k k':Nat}{d:D}{ds:List D}
theorem wt_of {p:PyData}(e:toPyK d=some p):wtD d=p.weight:=by unfold wtD;rw[e]
theorem Sw.mono (h:Sw k d)(hk:k≤k'):Sw k' d:=let ⟨p,a,b,c,e⟩:=h;⟨p,a,b,Nat.le_trans c hk,e⟩
theorem sw_all:∀ {ds:List D},(∀ d∈ds,Sw k d)→∃ ps,toPyKL ds=some ps∧PyData.showableAll ps=true∧PyData.depthAll ps≤k∧PyData.leavesShortAll 13 ps=true∧PyData.weightAll ps=(ds.map wtD).sum+ds.length
 | [],_=>⟨[],rfl,rfl,Nat.zero_le _,rfl,rfl⟩
 | d::ds,h=>by
  obtain⟨ps,a1,a2,a3,a4,a5⟩:=sw_all fun x hx=>h x (List.mem_cons_of_mem _ hx)
  obtain⟨p,b1,b2,b3,b4⟩:=h d List.mem_cons_self
  have e:wtD d=p.weight:=by unfold wtD;rw[b1]
  refine⟨p::ps,by simp only[toPyKL,b1,a1];rfl,by simp[PyData.showableAll,b2,a2],by simp only[PyData.depthAll];omega,by simp[PyData.leavesShortAll,b4,a4],?_⟩
  simp only[PyData.weightAll,List.map_cons,List.sum_cons,List.length_cons]
  omega
theorem sw_lst (h:∀ d∈ds,Sw k d):Sw (k+1) (.lst ds)∧wtD (.lst ds)=(ds.map wtD).sum+ds.length:=by
 obtain⟨ps,a1,a2,a3,a4,a5⟩:=sw_all h
 have e:toPyK (.lst ds)=some (.list ps):=by simp only[toPyK,a1];rfl
 refine⟨⟨.list ps,e,by simpa [PyData.showable] using a2,by simp only[PyData.depth];omega,by simpa [PyData.leavesShort] using a4⟩,?_⟩
 rw[wt_of e];simpa only[PyData.weight] using a5
theorem sw_tup (h:∀ d∈ds,Sw k d):Sw (k+1) (.tup ds)∧wtD (.tup ds)=(ds.map wtD).sum+ds.length:=by
 obtain⟨ps,a1,a2,a3,a4,a5⟩:=sw_all h
 have e:toPyK (.tup ds)=some (.tuple ps):=by simp only[toPyK,a1];rfl
 refine⟨⟨.tuple ps,e,by simpa [PyData.showable] using a2,by simp only[PyData.depth];omega,by simpa [PyData.leavesShort] using a4⟩,?_⟩
 rw[wt_of e];simpa only[PyData.weight] using a5
end
inductive Ob (W:Nat):D→Prop
 | a {d:D}:KdO d=true→seqO d=none→Ob W d
 | s {d:D} {ds:List D}:KdO d=true→seqO d=some ds→(∀ x∈ds,Ob W x)→(∀ x∈ds,Sw 26 x∧wtD x≤W)→Ob W d
def It (W:Nat)(x:D):Prop:=Ob W x∧Sw 26 x∧wtD x≤W
section
variable {W W' S L S' L':Nat}{d:D}{ds:List D}
theorem Ob.k (h:Ob W d):KdO d=true:=by cases h <;> assumption
theorem Ob.it (h:Ob W d)(e:seqO d=some ds):∀ x∈ds,It W x:=by
 cases h with
 | a _ e2=>rw[e] at e2;cases e2
 | s _ e2 h3 h4=>rw[e] at e2;cases e2;exact fun x hx=>⟨h3 x hx,h4 x hx⟩
theorem Ob.its (h:Ob W d):∀ x∈itemsO d,It W x:=by
 unfold itemsO
 cases e:seqO d with
 | none=>intro x hx;cases hx
 | some ds=>exact h.it e
theorem Ob.mono (h:Ob W d)(hw:W≤W'):Ob W' d:=by
 induction h with
 | a h1 h2=>exact .a h1 h2
 | s h1 h2 _ h4 ih=>exact .s h1 h2 ih fun x hx=>⟨(h4 x hx).1,Nat.le_trans (h4 x hx).2 hw⟩
theorem It.mono (h:It W d)(hw:W≤W'):It W' d:=⟨h.1.mono hw,h.2.1,Nat.le_trans h.2.2 hw⟩
theorem Ob.o2 (h:Ob W d):O2 d:=⟨h.k,fun x hx=>(h.its x hx).1.k⟩
theorem Ob.o3 (h:Ob W d):O3 d:=⟨h.k,fun x hx=>(h.its x hx).1.o2⟩
theorem wt_seq (h:Ob W d)(e:seqO d=some ds):wtD d=(ds.map wtD).sum+ds.length∧Sw 27 d:=by
 have hi:=h.it e
 cases d <;> simp[seqO] at e
 ·subst e;obtain⟨a,b⟩:=sw_tup fun x hx=>(hi x hx).2.1;exact⟨b,a⟩
 ·subst e;obtain⟨a,b⟩:=sw_lst fun x hx=>(hi x hx).2.1;exact⟨b,a⟩
structure Th (W S L:Nat)(d:D):Prop where
 o:Ob W d
 f:Sw 28 d
 s:∀ ds,seqO d=some ds→(ds.map wtD).sum≤S∧ds.length≤L
 w:wtD d≤S+42*L
theorem Th.mono (h:Th W S L d)(hw:W≤W')(hs:S≤S')(hl:L≤L'):Th W' S' L' d :=
 ⟨h.o.mono hw,h.f,fun ds e=>⟨Nat.le_trans (h.s ds e).1 hs,Nat.le_trans (h.s ds e).2 hl⟩,by have:=h.w;omega⟩
theorem It.th (h:It W d):Th W W W d :=
 ⟨h.1,h.2.1.mono (by decide),fun ds e=>by have:=(wt_seq h.1 e).1;have:=h.2.2;omega,by have:=h.2.2;omega⟩
end
theorem sum_subW {es ds:List D}(h:es.Sublist ds):(es.map wtD).sum≤(ds.map wtD).sum:=by
 induction h with
 | slnil=>exact Nat.le_refl _
 | cons a _ ih=>rw[List.map_cons,List.sum_cons];omega
 | cons_cons a _ ih=>rw[List.map_cons,List.map_cons,List.sum_cons,List.sum_cons];omega
theorem sum_repW (n:Nat)(d:D):((List.replicate n d).map wtD).sum=n*wtD d:=by
 induction n with
 | zero=>simp
 | succ n ih=>rw[List.replicate_succ,List.map_cons,List.sum_cons,ih,Nat.succ_mul];omega
section assoc
variable {κ α:Type}[DecidableEq κ]
def getA (l:List (κ×α))(k:κ):Option α:=(l.find? fun p=>decide (p.1=k)).map (·.2)
def putA (l:List (κ×α))(k:κ)(v:α):List (κ×α) :=
 if(l.any fun p=>decide (p.1=k))=true then l.map (fun p=>if p.1=k then(p.1,v) else p) else l++[(k,v)]
def dropA (l:List (κ×α))(k:κ):List (κ×α):=l.filter fun p=>decide (p.1≠k)
variable {l:List (κ×α)}{k j:κ}{v:α}
theorem getA_nil:getA ([]:List (κ×α)) k=none:=rfl
theorem getA_cons {p:κ×α}:getA (p::l) k=if p.1=k then some p.2 else getA l k:=by
 unfold getA;rw[List.find?_cons]
 by_cases e:p.1=k
 ·simp[e]
 ·simp[e]
theorem getA_none:getA l k=none↔∀ p∈l,p.1≠k:=by
 induction l with
 | nil=>simp[getA_nil]
 | cons p l ih =>
  rw[getA_cons]
  by_cases e:p.1=k
  ·simp[e]
  ·simp[e,ih]
theorem getA_mem (h:getA l k=some v):(k,v)∈l:=by
 induction l with
 | nil=>cases h
 | cons p l ih =>
  rw[getA_cons] at h
  by_cases e:p.1=k
  ·rw[if_pos e] at h;obtain rfl:=Option.some.inj h;subst e;simp
  ·rw[if_neg e] at h;exact List.mem_cons_of_mem _ (ih h)
theorem getA_of (hn:(l.map (·.1)).Nodup)(h:(k,v)∈l):getA l k=some v:=by
 induction l with
 | nil=>cases h
 | cons p l ih =>
  rw[List.map_cons,List.nodup_cons] at hn
  rw[getA_cons]
  rcases List.mem_cons.mp h with e|e
  ·subst e;simp
  ·rw[if_neg (fun q=>hn.1 (by rw[q];exact List.mem_map.mpr ⟨_,e,rfl⟩))];exact ih hn.2 e
theorem getA_app {m:List (κ×α)}:getA (l++m) k=(getA l k).or (getA m k):=by
 induction l with
 | nil=>simp[getA_nil]
 | cons p l ih=>rw[List.cons_append,getA_cons,getA_cons];split <;> simp[ih]
theorem getA_put:getA (putA l k v) j=if k=j then some v else getA l j:=by
 unfold putA
 by_cases h:(l.any fun p=>decide (p.1=k))=true
 ·rw[if_pos h]
  induction l with
  | nil=>simp at h
  | cons p l ih =>
   rw[List.map_cons,getA_cons,getA_cons]
   by_cases e:p.1=k
   ·simp only[e,↓reduceIte]
    by_cases q:k=j
    ·simp[q]
    ·simp only[q,↓reduceIte]
     clear ih h
     induction l with
     | nil=>rfl
     | cons p' l ih2 =>
      rw[List.map_cons,getA_cons,getA_cons]
      by_cases e2:p'.1=k
      ·simp only[e2,↓reduceIte,q,↓reduceIte];exact ih2
      ·simp only[e2,↓reduceIte];rw[ih2]
   ·simp only[e,↓reduceIte]
    have h':(l.any fun p=>decide (p.1=k))=true:=by simpa [e] using h
    rw[ih h']
    by_cases q:k=j
    ·simp only[q,↓reduceIte];rw[if_neg (by rw[←q];exact e)]
    ·simp only[q,↓reduceIte]
 ·rw[if_neg h,getA_app,getA_cons,getA_nil]
  by_cases q:k=j
  ·subst q
   have:getA l k=none:=getA_none.mpr fun p hp e=>h (List.any_eq_true.mpr ⟨p,hp,by simp[e]⟩)
   simp[this]
  ·simp[q]
theorem getA_drop:getA (dropA l k) j=if k=j then none else getA l j:=by
 unfold dropA
 induction l with
 | nil=>simp[getA_nil]
 | cons p l ih =>
  rw[List.filter_cons,getA_cons]
  by_cases e:p.1=k
  ·simp only[e,ne_eq,not_true_eq_false,decide_false,Bool.false_eq_true,↓reduceIte]
   rw[ih]
   by_cases q:k=j
   ·simp[q]
   ·simp[q]
  ·simp only[e,ne_eq,not_false_eq_true,decide_true,↓reduceIte]
   rw[getA_cons,ih]
   by_cases q:k=j
   ·subst q;simp[e]
   ·simp[q]
theorem putA_len:(putA l k v).length≤l.length+1:=by
 unfold putA;split <;> simp
theorem dropA_len:(dropA l k).length≤l.length:=List.length_filter_le _ _
theorem putA_keys:(putA l k v).map (·.1)=l.map (·.1)∨((putA l k v).map (·.1)=l.map (·.1)++[k]∧k∉l.map (·.1)):=by
 unfold putA
 by_cases h:(l.any fun p=>decide (p.1=k))=true
 ·left;rw[if_pos h,List.map_map]
  refine List.map_congr_left fun p _=>?_
  simp only[Function.comp_apply];split <;> rfl
 ·right;rw[if_neg h,List.map_append]
  refine⟨rfl,fun q=>h ?_⟩
  obtain⟨p,hp,e⟩:=List.mem_map.mp q
  exact List.any_eq_true.mpr ⟨p,hp,by simp[e]⟩
theorem putA_nodup (h:(l.map (·.1)).Nodup):((putA l k v).map (·.1)).Nodup:=by
 rcases putA_keys (l:=l) (k:=k) (v:=v) with e|⟨e,q⟩
 ·rw[e];exact h
 ·rw[e,List.nodup_append]
  refine⟨h,by simp,fun a ha b hb=>?_⟩
  rw[List.mem_singleton] at hb;subst hb;intro e;exact q (e▸ha)
theorem dropA_nodup (h:(l.map (·.1)).Nodup):((dropA l k).map (·.1)).Nodup :=
 List.Nodup.sublist (List.Sublist.map _ List.filter_sublist) h
theorem foldA_nodup (ns:List κ)(h:(l.map (·.1)).Nodup):((ns.foldl dropA l).map (·.1)).Nodup:=by
 induction ns generalizing l with
 | nil=>exact h
 | cons n ns ih=>exact ih (dropA_nodup h)
theorem foldA_len (ns:List κ):(ns.foldl dropA l).length≤l.length:=by
 induction ns generalizing l with
 | nil=>exact Nat.le_refl _
 | cons n ns ih=>exact Nat.le_trans ih dropA_len
theorem foldA_get (ns:List κ):getA (ns.foldl dropA l) j=if j∈ns then none else getA l j:=by
 induction ns generalizing l with
 | nil=>simp
 | cons n ns ih =>
  rw[List.foldl_cons,ih,getA_drop]
  by_cases a:j∈ns
  ·simp[a]
  ·by_cases b:n=j
   ·simp[b]
   ·have:¬j=n:=fun e=>b e.symm
    simp[a,b,this]
end assoc
section enc
variable {κ α:Type}[DecidableEq κ]
variable {f:κ→Ky}{g:α→D}{l:List (κ×α)}{k:κ}{v:α}
end enc
structure Sg where
 reach:List (Str×Int)
 marks:List (Int×Int)
 nums:List (Int×Int)
 plain:List (Str×Option Int)
 made:Int
 writes:Int
 copies:Int
def holders (st:Sg)(c:Int):List Str:=(st.reach.filter fun p=>decide (p.2=c)).map (·.1)
def takenOut (st:Sg)(c:Int):Sg:={ st with marks:=dropA st.marks c,nums:=dropA st.nums c }
def wCut:Str:="cut"
def wLost:Str:="lost"
def wIdle:Str:="idle"
def wSpoils:Str:="spoils"
def touched (ms:List Mk)(st:Sg)(c:Int)(b:Bool):Sg×List Str :=
 match stepO ms (getA st.marks c) b with
 | some j=>({ st with marks:=putA st.marks c j },[])
 | none=>(takenOut { st with reach:=(holders st c).foldl dropA st.reach } c,if holders st c≠[] then [wCut] else [])
def left (st:Sg)(c:Int):Sg×List Str :=
 if getA st.marks c=none∨holders st c≠[] then(st,[]) else(takenOut st c,[wLost])
def unR (st:Sg)(n:Str):Sg:={ st with reach:=dropA st.reach n }
def letGo (ms:List Mk)(st:Sg)(n:Str):Sg×List Str:=match getA st.reach n with
 | none=>(st,[])
 | some c=>((left (touched ms (unR st n) c false).1 c).1,(touched ms (unR st n) c false).2++(left (touched ms (unR st n) c false).1 c).2)
def leftQ (st:Sg)(n:Str):Sg×List Str:=match getA st.reach n with
 | none=>(st,[])
 | some c=>left (unR st n) c
def begin' (st:Sg)(n:Str)(v:Int):Sg :=
 { st with reach:=putA st.reach n st.made,marks:=putA st.marks st.made 0,nums:=putA st.nums st.made v,made:=st.made+1 }
def upTo (ms:List Mk)(st:Sg)(m:Str)(q:Bool):Sg×List Str:=match getA st.reach m with
 | some c=>if q=true then touched ms st c true else(st,[])
 | none=>(st,[])
def join' (st:Sg)(n m:Str):Sg:=match getA st.reach m with
 | some c=>{ st with reach:=putA st.reach n c }
 | none=>st
def shared (ms:List Mk)(st:Sg)(n m:Str)(q:Bool):Sg×List Str :=
 (join' (letGo ms (upTo ms st m q).1 n).1 n m,(upTo ms st m q).2++(letGo ms (upTo ms st m q).1 n).2)
def pln (p:List (Str×Option Int))(n:Str):Option Int:=(getA p n).getD none
def putP (st:Sg)(n:Str)(v:Option Int):Sg:={ st with plain:=putA st.plain n v }
def wPl (p:List (Str×Option Int))(w:Int)(n:Str):List (Str×Option Int):=if(pln p n).isSome=true then putA p n (some w) else p
def wr1 (st:Sg)(n:Str):Sg:={ st with writes:=st.writes+1,plain:=wPl st.plain (st.writes+1) n }
def copyAt (ms:List Mk)(st:Sg)(c:Int):Bool:=match getA st.marks c with
 | some i=>match ms[i.toNat]? with
  | some m=>m.c
  | none=>false
 | none=>false
def setN (st:Sg)(n:Str):Sg:=match getA st.reach n with
 | some c=>{ st with nums:=putA st.nums c st.writes }
 | none=>st
def wr2 (ms:List Mk)(st:Sg)(n:Str)(c:Int):Sg×List Str :=
 if copyAt ms st c=true then(setN { begin' (letGo ms st n).1 n 0 with copies:=(letGo ms st n).1.copies+1 } n,(if(holders st c).length=1 then [wIdle] else [])++(letGo ms st n).2)
 else(setN st n,if(holders st c).length=1 then [] else [wSpoils])
def written (ms:List Mk)(st:Sg)(n:Str):Sg×List Str:=match getA (wr1 st n).reach n with
 | none=>(wr1 st n,[])
 | some c=>wr2 ms (wr1 st n) n c
def moreLess (ms:List Mk)(st:Sg)(n:Str)(b:Bool):Sg×List Str:=match getA st.reach n with
 | none=>(st,[])
 | some c=>touched ms st c b
def n0 (ns:List Str):Str:=ns.getD 0 ""
def n1 (ns:List Str):Str:=ns.getD 1 ""
def done (ms:List Mk)(st:Sg)(x:Sp1):Sg×List Str :=
 if x.1="share"∨x.1="hold" then shared ms (putP st (n0 x.2) (pln st.plain (n1 x.2))) (n0 x.2) (n1 x.2) (decide (x.1="share"))
 else if x.1="write" then written ms st (n0 x.2)
 else if x.1="leave" then leftQ (putP st (n0 x.2) none) (n0 x.2)
 else if x.1="more"∨x.1="less" then moreLess ms st (n0 x.2) (decide (x.1="more"))
 else if x.1="new" then(begin' (letGo ms (putP st (n0 x.2) (some 0)) (n0 x.2)).1 (n0 x.2) 0,(letGo ms (putP st (n0 x.2) (some 0)) (n0 x.2)).2)
 else if x.1="end" then letGo ms (putP st (n0 x.2) none) (n0 x.2)
 else letGo ms st (n0 x.2)
theorem w_ne1:wSpoils≠wCut:=by decide
theorem w_ne2:wCut≠wLost:=by decide
theorem w_ne3:wSpoils≠wLost:=by decide
variable {ms:List Mk}{st st' s1 s2:Sg}{c:Int}{b q:Bool}{n m:Str}{ws:List Str}{v:Option Int}
structure Wf (ms:List Mk)(st:Sg):Prop where
 nd:(st.reach.map (·.1)).Nodup
 ce:∀ n c,getA st.reach n=some c→(getA st.marks c).isSome=true∧c<st.made
 km:∀ c,(getA st.marks c).isSome=(getA st.nums c).isSome
 rg:∀ c i,getA st.marks c=some i→0≤i∧i<ms.length
structure Kp (a b:Sg):Prop where
 sub:∀ m c,getA b.reach m=some c→getA a.reach m=some c
 nums:∀ m c,getA b.reach m=some c→getA b.nums c=getA a.nums c
 pl:b.plain=a.plain
 wr:b.writes=a.writes
 md:b.made=a.made
theorem Kp.refl (a:Sg):Kp a a:=⟨fun _ _ h=>h,fun _ _ _=>rfl,rfl,rfl,rfl⟩
theorem Kp.trans {a b c:Sg}(h:Kp a b)(k:Kp b c):Kp a c :=
 ⟨fun m x e=>h.sub m x (k.sub m x e),fun m x e=>(k.nums m x e).trans (h.nums m x (k.sub m x e)),k.pl.trans h.pl,k.wr.trans h.wr,k.md.trans h.md⟩
theorem Kp.none {a b:Sg}(h:Kp a b)(e:getA a.reach m=none):getA b.reach m=none:=by
 cases q:getA b.reach m with
 | none=>rfl
 | some c=>rw[h.sub m c q] at e;cases e
theorem holders_mem (h:Wf ms st):n∈holders st c↔getA st.reach n=some c:=by
 unfold holders
 rw[List.mem_map]
 constructor
 ·rintro ⟨⟨k,d⟩,hp,rfl⟩
  rw[List.mem_filter] at hp
  have:=of_decide_eq_true hp.2
  simp only at this;subst this
  exact getA_of h.nd hp.1
 ·intro e
  exact⟨(n,c),List.mem_filter.mpr ⟨getA_mem e,by simp⟩,rfl⟩
theorem holders_nodup (h:Wf ms st):(holders st c).Nodup:=by
 unfold holders
 exact List.Nodup.sublist (List.Sublist.map _ List.filter_sublist) h.nd
theorem stepO_rg (hms:MsOk ms)(h:Wf ms st){j:Int}(e:stepO ms (getA st.marks c) b=some j):0≤j∧j<ms.length:=by
 have:InR ms.length (stepO ms (getA st.marks c) b):=step_in hms (fun i q=>h.rg c i q)
 exact this j e
theorem take_wf (h:Wf ms st)(hc:∀ n,getA st.reach n≠some c):Wf ms (takenOut st c):=by
 refine⟨h.nd,fun n d e=>?_,fun d=>?_,fun d i e=>?_⟩
 ·have:c≠d:=fun q=>hc n (by rw[q];exact e)
  refine⟨?_,(h.ce n d e).2⟩
  show(getA (dropA st.marks c) d).isSome=true
  rw[getA_drop,if_neg this];exact(h.ce n d e).1
 ·show(getA (dropA st.marks c) d).isSome=(getA (dropA st.nums c) d).isSome
  rw[getA_drop,getA_drop];split
  ·rfl
  ·exact h.km d
 ·have e:getA (dropA st.marks c) d=some i:=e
  rw[getA_drop] at e;split at e
  ·cases e
  ·exact h.rg d i e
theorem take_kp (hc:∀ n,getA st.reach n≠some c):Kp st (takenOut st c):=by
 refine⟨fun _ _ e=>e,fun m d e=>?_,rfl,rfl,rfl⟩
 show getA (dropA st.nums c) d=_
 rw[getA_drop,if_neg (fun q=>hc m (by rw[q];exact e))]
theorem fold_wf (ns:List Str)(h:Wf ms st):Wf ms { st with reach:=ns.foldl dropA st.reach }:=by
 refine⟨foldA_nodup ns h.nd,fun n d e=>?_,h.km,h.rg⟩
 have e:getA (ns.foldl dropA st.reach) n=some d:=e
 rw[foldA_get] at e;split at e
 ·cases e
 ·exact h.ce n d e
theorem fold_kp (ns:List Str):Kp st { st with reach:=ns.foldl dropA st.reach }:=by
 refine⟨fun m d e=>?_,fun _ _ _=>rfl,rfl,rfl,rfl⟩
 have e:getA (ns.foldl dropA st.reach) m=some d:=e
 rw[foldA_get] at e;split at e
 ·cases e
 ·exact e
theorem fold_no (h:Wf ms st)(n:Str):getA ((holders st c).foldl dropA st.reach) n≠some c:=by
 rw[foldA_get];split
 ·simp
 ·rename_i q;intro e;exact q ((holders_mem h).mpr e)
theorem unR_wf (h:Wf ms st):Wf ms (unR st n):=fold_wf [n] h
theorem unR_kp:Kp st (unR st n):=fold_kp [n]
theorem unR_n:getA (unR st n).reach n=none:=by show getA (dropA st.reach n) n=none;rw[getA_drop,if_pos rfl]
theorem unR_m (h:m≠n):getA (unR st n).reach m=getA st.reach m:=by
 show getA (dropA st.reach n) m=_;rw[getA_drop,if_neg (fun q=>h q.symm)]
theorem touched_wf (hms:MsOk ms)(h:Wf ms st)(hc:(getA st.marks c).isSome=true):Wf ms (touched ms st c b).1:=by
 unfold touched
 cases e:stepO ms (getA st.marks c) b with
 | none=>exact take_wf (fold_wf _ h) (fold_no h)
 | some j =>
  refine⟨h.nd,fun n d q=>⟨?_,(h.ce n d q).2⟩,fun d=>?_,fun d i q=>?_⟩
  ·show(getA (putA st.marks c j) d).isSome=true
   rw[getA_put];split
   ·rfl
   ·exact(h.ce n d q).1
  ·show(getA (putA st.marks c j) d).isSome=_
   rw[getA_put];split
   ·rename_i q;subst q;rw[←h.km,hc];rfl
   ·exact h.km d
  ·have q:getA (putA st.marks c j) d=some i:=q
   rw[getA_put] at q;split at q
   ·obtain rfl:=Option.some.inj q;exact stepO_rg hms h e
   ·exact h.rg d i q
theorem touched_kp (h:Wf ms st):Kp st (touched ms st c b).1:=by
 unfold touched
 cases e:stepO ms (getA st.marks c) b with
 | none=>exact(fold_kp _).trans (take_kp (fold_no h))
 | some j=>exact⟨fun _ _ q=>q,fun _ _ _=>rfl,rfl,rfl,rfl⟩
theorem touched_nc (h:Wf ms st)(hw:wCut∉(touched ms st c b).2)(m:Str):getA (touched ms st c b).1.reach m=getA st.reach m:=by
 unfold touched at hw ⊢
 cases e:stepO ms (getA st.marks c) b with
 | none =>
  rw[e] at hw;simp only at hw ⊢
  by_cases k:holders st c=[]
  ·show getA ((holders st c).foldl dropA st.reach) m=_
   rw[k];rfl
  ·rw[if_pos k] at hw;simp at hw
 | some j=>rfl
theorem touched_cut (h:Wf ms st)(hw:wCut∈(touched ms st c b).2):∃ m,getA st.reach m=some c∧getA (touched ms st c b).1.reach m=none:=by
 unfold touched at hw ⊢
 cases e:stepO ms (getA st.marks c) b with
 | none =>
  rw[e] at hw;simp only at hw ⊢
  by_cases k:holders st c=[]
  ·rw[if_neg (by simp[k])] at hw;cases hw
  ·obtain⟨m,hm⟩:=List.exists_mem_of_ne_nil _ k
   refine⟨m,(holders_mem h).mp hm,?_⟩
   show getA ((holders st c).foldl dropA st.reach) m=none
   rw[foldA_get,if_pos hm]
 | some j=>rw[e] at hw;cases hw
theorem touched_sp:wSpoils∉(touched ms st c b).2:=by
 unfold touched
 cases e:stepO ms (getA st.marks c) b with
 | none=>simp only;split <;> simp[w_ne1]
 | some j=>simp
theorem left_wf (h:Wf ms st):Wf ms (left st c).1:=by
 unfold left;split
 ·exact h
 ·rename_i q
  refine take_wf h fun n e=>q (Or.inr fun k=>?_)
  have:=(holders_mem h).mpr e
  rw[k] at this;cases this
theorem left_kp (h:Wf ms st):Kp st (left st c).1:=by
 unfold left;split
 ·exact Kp.refl _
 ·rename_i q
  refine take_kp fun n e=>q (Or.inr fun k=>?_)
  have:=(holders_mem h).mpr e
  rw[k] at this;cases this
theorem left_r:(left st c).1.reach=st.reach:=by unfold left;split <;> rfl
theorem left_w:wCut∉(left st c).2∧wSpoils∉(left st c).2:=by unfold left;split <;> simp[w_ne2,w_ne3]
theorem letGo_wf (hms:MsOk ms)(h:Wf ms st):Wf ms (letGo ms st n).1:=by
 unfold letGo
 cases e:getA st.reach n with
 | none=>exact h
 | some c=>exact left_wf (touched_wf hms (unR_wf h) (h.ce n c e).1)
theorem letGo_kp (hms:MsOk ms)(h:Wf ms st):Kp st (letGo ms st n).1:=by
 unfold letGo
 cases e:getA st.reach n with
 | none=>exact Kp.refl _
 | some c=>exact(unR_kp.trans (touched_kp (unR_wf h))).trans (left_kp (touched_wf hms (unR_wf h) (h.ce n c e).1))
theorem letGo_n (hms:MsOk ms)(h:Wf ms st):getA (letGo ms st n).1.reach n=none:=by
 unfold letGo
 cases e:getA st.reach n with
 | none=>exact e
 | some c=>simp only;rw[left_r];exact(touched_kp (unR_wf h)).none unR_n
theorem letGo_nc (h:Wf ms st)(hw:wCut∉(letGo ms st n).2)(hm:m≠n):getA (letGo ms st n).1.reach m=getA st.reach m:=by
 unfold letGo at hw ⊢
 cases e:getA st.reach n with
 | none=>rfl
 | some c =>
  rw[e] at hw;simp only at hw ⊢
  rw[left_r,touched_nc (unR_wf h) (fun q=>hw (List.mem_append_left _ q)),unR_m hm]
theorem letGo_cut (h:Wf ms st)(hw:wCut∈(letGo ms st n).2):∃ m,m≠n∧getA st.reach m≠none∧getA (letGo ms st n).1.reach m=none:=by
 unfold letGo at hw ⊢
 cases e:getA st.reach n with
 | none=>rw[e] at hw;cases hw
 | some c =>
  rw[e] at hw;simp only at hw ⊢
  rcases List.mem_append.mp hw with hw|hw
  ·obtain⟨m,e1,e2⟩:=touched_cut (unR_wf h) hw
   have hm:m≠n:=fun q=>by rw[q,unR_n] at e1;cases e1
   rw[unR_m hm] at e1
   exact⟨m,hm,by rw[e1];simp,by rw[left_r];exact e2⟩
  ·exact absurd hw left_w.1
theorem letGo_sp:wSpoils∉(letGo ms st n).2:=by
 unfold letGo
 cases e:getA st.reach n with
 | none=>simp
 | some c=>simp only;intro q;exact(List.mem_append.mp q).elim touched_sp left_w.2
theorem leftQ_wf (h:Wf ms st):Wf ms (leftQ st n).1:=by
 unfold leftQ
 cases e:getA st.reach n with
 | none=>exact h
 | some c=>exact left_wf (unR_wf h)
theorem leftQ_kp (h:Wf ms st):Kp st (leftQ st n).1:=by
 unfold leftQ
 cases e:getA st.reach n with
 | none=>exact Kp.refl _
 | some c=>exact unR_kp.trans (left_kp (unR_wf h))
theorem leftQ_n:getA (leftQ st n).1.reach n=none:=by
 unfold leftQ
 cases e:getA st.reach n with
 | none=>exact e
 | some c=>simp only;rw[left_r];exact unR_n
theorem leftQ_m (hm:m≠n):getA (leftQ st n).1.reach m=getA st.reach m:=by
 unfold leftQ
 cases e:getA st.reach n with
 | none=>rfl
 | some c=>simp only;rw[left_r];exact unR_m hm
theorem leftQ_w:wCut∉(leftQ st n).2∧wSpoils∉(leftQ st n).2:=by
 unfold leftQ
 cases e:getA st.reach n with
 | none=>simp
 | some c=>exact left_w
theorem begin_wf (hms:MsOk ms)(h:Wf ms st){z:Int}:Wf ms (begin' st n z):=by
 refine⟨putA_nodup h.nd,fun m d e=>?_,fun d=>?_,fun d i e=>?_⟩
 ·have e:getA (putA st.reach n st.made) m=some d:=e
  show(getA (putA st.marks st.made 0) d).isSome=true∧d<st.made+1
  rw[getA_put] at e ⊢
  split at e
  ·obtain rfl:=Option.some.inj e;simp;omega
  ·have:=h.ce m d e
   refine⟨?_,by omega⟩
   split
   ·rfl
   ·exact this.1
 ·show(getA (putA st.marks st.made 0) d).isSome=(getA (putA st.nums st.made z) d).isSome
  rw[getA_put,getA_put];split
  ·rfl
  ·exact h.km d
 ·have e:getA (putA st.marks st.made 0) d=some i:=e
  rw[getA_put] at e;split at e
  ·obtain rfl:=Option.some.inj e
   have:=hms.h1
   exact⟨by omega,by omega⟩
  ·exact h.rg d i e
theorem begin_n {z:Int}:getA (begin' st n z).reach n=some st.made∧getA (begin' st n z).nums st.made=some z:=by
 refine⟨?_,?_⟩
 ·show getA (putA st.reach n st.made) n=_;rw[getA_put,if_pos rfl]
 ·show getA (putA st.nums st.made z) st.made=_;rw[getA_put,if_pos rfl]
theorem begin_m {z:Int}(hm:m≠n):getA (begin' st n z).reach m=getA st.reach m:=by
 show getA (putA st.reach n st.made) m=_;rw[getA_put,if_neg (fun q=>hm q.symm)]
theorem begin_num (h:Wf ms st){z:Int}(e:getA st.reach m=some c):getA (begin' st n z).nums c=getA st.nums c:=by
 show getA (putA st.nums st.made z) c=_
 rw[getA_put,if_neg]
 have:=(h.ce m c e).2;omega
theorem setN_wf (h:Wf ms st):Wf ms (setN st n):=by
 unfold setN
 cases e:getA st.reach n with
 | none=>exact h
 | some c =>
  show Wf ms { st with nums:=putA st.nums c st.writes }
  refine⟨h.nd,h.ce,fun d=>?_,h.rg⟩
  show _=(getA (putA st.nums c st.writes) d).isSome
  rw[getA_put];split
  ·rename_i q;subst q;exact(h.ce n c e).1
  ·exact h.km d
theorem setN_r:(setN st n).reach=st.reach∧(setN st n).plain=st.plain∧(setN st n).writes=st.writes∧(setN st n).made=st.made:=by
 unfold setN;split <;> exact⟨rfl,rfl,rfl,rfl⟩
theorem setN_n (e:getA st.reach n=some c){d:Int}:getA (setN st n).nums d=if c=d then some st.writes else getA st.nums d:=by
 unfold setN;rw[e];simp only;exact getA_put
def val (st:Sg)(n:Str):Option Int:=(getA st.reach n).bind (getA st.nums)
theorem pln_put {p:List (Str×Option Int)}:pln (putA p n v) m=if n=m then v else pln p m:=by
 unfold pln;rw[getA_put];split <;> rfl
theorem pln_wPl {p:List (Str×Option Int)}{w:Int}:pln (wPl p w n) m=if n=m∧(pln p n).isSome=true then some w else pln p m:=by
 unfold wPl
 by_cases h:(pln p n).isSome=true
 ·rw[if_pos h,pln_put];simp[h]
 ·rw[if_neg h,if_neg (fun q=>h q.2)]
structure Inv (ms:List Mk)(st:Sg):Prop where
 wf:Wf ms st
 rp:∀ n,getA st.reach n≠none→(pln st.plain n).isSome=true
 pl:∀ n v,pln st.plain n=some v→v≤st.writes
 w0:0≤st.writes
def G (st:Sg):Prop:=∀ n,val st n=pln st.plain n
def BadW (ws:List Str):Prop:=wSpoils∈ws∨wCut∈ws
structure StG (ms:List Mk)(st st':Sg)(ws:List Str):Prop where
 inv:Inv ms st'
 g:G st→¬BadW ws→G st'
 s:BadW ws→∃ m,getA st.reach m≠none∧val st' m≠pln st'.plain m
structure Els (st st':Sg)(n:Str)(ws:List Str):Prop where
 sub:∀ m,m≠n→∀ c,getA st'.reach m=some c→getA st.reach m=some c
 nums:∀ m,m≠n→∀ c,getA st'.reach m=some c→getA st'.nums c=getA st.nums c
 pl:∀ m,m≠n→pln st'.plain m=pln st.plain m
 nc:wCut∉ws→∀ m,m≠n→getA st'.reach m=getA st.reach m
 ct:wCut∈ws→∃ m,m≠n∧getA st.reach m≠none∧getA st'.reach m=none
 sp:wSpoils∉ws
theorem Els.good (h:Els st st' n ws)(hi:Inv ms st)(hw:Wf ms st')(hr:getA st'.reach n≠none→(pln st'.plain n).isSome=true)(hp:∀ v,pln st'.plain n=some v→v≤st'.writes)(hl:st.writes≤st'.writes)
  (hg:G st→wCut∉ws→val st' n=pln st'.plain n):StG ms st st' ws:=by
 refine⟨⟨hw,fun m e=>?_,fun m v e=>?_,?_⟩,fun g nb m=>?_,fun hb=>?_⟩
 ·by_cases hm:m=n
  ·subst hm;exact hr e
  ·rw[h.pl m hm]
   refine hi.rp m fun q=>e ?_
   cases k:getA st'.reach m with
   | none=>rfl
   | some c=>rw[h.sub m hm c k] at q;cases q
 ·by_cases hm:m=n
  ·subst hm;exact hp v e
  ·rw[h.pl m hm] at e
   exact Int.le_trans (hi.pl m v e) hl
 ·exact Int.le_trans hi.w0 hl
 ·by_cases hm:m=n
  ·subst hm;exact hg g fun q=>nb (Or.inr q)
  ·rw[h.pl m hm,←g m]
   have e:=h.nc (fun q=>nb (Or.inr q)) m hm
   unfold val
   cases k:getA st.reach m with
   | none=>rw[k] at e;rw[e];rfl
   | some c=>rw[k] at e;rw[e];exact h.nums m hm c e
 ·rcases hb with hb|hb
  ·exact absurd hb h.sp
  ·obtain⟨m,hm,e1,e2⟩:=h.ct hb
   refine⟨m,e1,?_⟩
   rw[h.pl m hm]
   have:=hi.rp m e1
   unfold val;rw[e2]
   intro q
   have q:(none:Option Int)=pln st.plain m:=q
   rw[←q] at this;cases this
theorem putP_wf (h:Wf ms st):Wf ms (putP st n v):=⟨h.nd,h.ce,h.km,h.rg⟩
theorem letGo_els (hms:MsOk ms)(h:Wf ms st):Els st (letGo ms (putP st n v) n).1 n (letGo ms (putP st n v) n).2:=by
 have hw:=putP_wf (n:=n) (v:=v) h
 have k:=letGo_kp (n:=n) hms hw
 refine⟨fun m _ c e=>k.sub m c e,fun m _ c e=>k.nums m c e,fun m hm=>?_,fun q m hm=>letGo_nc hw q hm,fun q=>letGo_cut hw q,letGo_sp⟩
 rw[k.pl]
 show pln (putA st.plain n v) m=_
 rw[pln_put,if_neg (fun q=>hm q.symm)]
theorem end_good (hms:MsOk ms)(h:Inv ms st):StG ms st (letGo ms (putP st n none) n).1 (letGo ms (putP st n none) n).2:=by
 have hw:=putP_wf (n:=n) (v:=none) h.wf
 have k:=letGo_kp (n:=n) hms hw
 have en:=letGo_n (n:=n) hms hw
 have ep:pln (letGo ms (putP st n none) n).1.plain n=none:=by rw[k.pl];show pln (putA st.plain n none) n=_;rw[pln_put,if_pos rfl]
 refine(letGo_els hms h.wf).good h (letGo_wf hms hw) (fun q=>absurd en q) (fun v e=>?_) (Int.le_of_eq k.wr.symm) fun _ _=>?_
 ·rw[ep] at e;cases e
 ·unfold val;rw[en,ep];rfl
theorem leave_good (h:Inv ms st):StG ms st (leftQ (putP st n none) n).1 (leftQ (putP st n none) n).2:=by
 have hw:=putP_wf (n:=n) (v:=none) h.wf
 have k:=leftQ_kp (n:=n) hw
 have en:getA (leftQ (putP st n none) n).1.reach n=none:=leftQ_n
 have ep:pln (leftQ (putP st n none) n).1.plain n=none:=by rw[k.pl];show pln (putA st.plain n none) n=_;rw[pln_put,if_pos rfl]
 have el:Els st (leftQ (putP st n none) n).1 n (leftQ (putP st n none) n).2:=by
  refine⟨fun m _ c e=>k.sub m c e,fun m _ c e=>k.nums m c e,fun m hm=>?_,fun q m hm=>leftQ_m hm,fun q=>absurd q leftQ_w.1,leftQ_w.2⟩
  rw[k.pl]
  show pln (putA st.plain n none) m=_
  rw[pln_put,if_neg (fun q=>hm q.symm)]
 refine el.good h (leftQ_wf hw) (fun q=>absurd en q) (fun v e=>?_) (Int.le_of_eq k.wr.symm) fun _ _=>?_
 ·rw[ep] at e;cases e
 ·unfold val;rw[en,ep];rfl
theorem new_good (hms:MsOk ms)(h:Inv ms st):StG ms st (begin' (letGo ms (putP st n (some 0)) n).1 n 0) (letGo ms (putP st n (some 0)) n).2:=by
 have hw:=putP_wf (n:=n) (v:=some 0) h.wf
 have k:=letGo_kp (n:=n) hms hw
 have hw2:=letGo_wf (n:=n) hms hw
 have el:=letGo_els (n:=n) (v:=some 0) hms h.wf
 have ep:pln (letGo ms (putP st n (some 0)) n).1.plain n=some 0:=by rw[k.pl];show pln (putA st.plain n (some 0)) n=_;rw[pln_put,if_pos rfl]
 generalize letGo ms (putP st n (some 0)) n=z at *
 obtain⟨s2,ws⟩:=z
 simp only at *
 have el2:Els st (begin' s2 n 0) n ws:=by
  refine⟨fun m hm c e=>?_,fun m hm c e=>?_,el.pl,fun q m hm=>?_,fun q=>?_,el.sp⟩
  ·rw[begin_m hm] at e;exact el.sub m hm c e
  ·rw[begin_m hm] at e;rw[begin_num hw2 e];exact el.nums m hm c e
  ·rw[begin_m hm];exact el.nc q m hm
  ·obtain⟨m,hm,e1,e2⟩:=el.ct q
   exact⟨m,hm,e1,by rw[begin_m hm];exact e2⟩
 refine el2.good h (begin_wf hms hw2) (fun q=>?_) (fun v e=>?_) (Int.le_of_eq k.wr.symm) fun _ _=>?_
 ·show(pln s2.plain n).isSome=true
  rw[ep];rfl
 ·have e:pln s2.plain n=some v:=e
  rw[ep] at e;obtain rfl:=Option.some.inj e
  show(0:Int)≤s2.writes
  have:=h.w0;rw[k.wr];exact this
 ·unfold val;rw[begin_n.1]
  show getA (begin' s2 n 0).nums s2.made=pln s2.plain n
  rw[begin_n.2,ep]
theorem more_good (hms:MsOk ms)(h:Inv ms st):StG ms st (moreLess ms st n b).1 (moreLess ms st n b).2:=by
 unfold moreLess
 cases e:getA st.reach n with
 | none=>exact⟨h,fun g _=>g,fun hb=>by rcases hb with hb|hb <;> cases hb⟩
 | some c =>
  simp only
  have k:=touched_kp (c:=c) (b:=b) h.wf
  refine⟨⟨touched_wf hms h.wf (h.wf.ce n c e).1,fun m q=>?_,fun m v q=>?_,by rw[k.wr];exact h.w0⟩,fun g nb m=>?_,fun hb=>?_⟩
  ·rw[k.pl];exact h.rp m fun z=>q (k.none z)
  ·rw[k.pl] at q;rw[k.wr];exact h.pl m v q
  ·rw[k.pl,←g m]
   have e:=touched_nc h.wf (fun q=>nb (Or.inr q)) m
   unfold val
   cases z:getA st.reach m with
   | none=>rw[z] at e;rw[e];rfl
   | some d=>rw[z] at e;rw[e];exact k.nums m d e
  ·rcases hb with hb|hb
   ·exact absurd hb touched_sp
   ·obtain⟨m,e1,e2⟩:=touched_cut h.wf hb
    refine⟨m,by rw[e1];simp,?_⟩
    have:=h.rp m (by rw[e1];simp)
    rw[k.pl];unfold val;rw[e2]
    intro q
    have q:(none:Option Int)=pln st.plain m:=q
    rw[←q] at this;cases this
theorem upTo_wf (hms:MsOk ms)(h:Wf ms st):Wf ms (upTo ms st m q).1:=by
 unfold upTo
 cases e:getA st.reach m with
 | none=>exact h
 | some c =>
  simp only;split
  ·exact touched_wf hms h (h.ce m c e).1
  ·exact h
theorem upTo_kp (h:Wf ms st):Kp st (upTo ms st m q).1:=by
 unfold upTo
 cases e:getA st.reach m with
 | none=>exact Kp.refl _
 | some c =>
  simp only;split
  ·exact touched_kp h
  ·exact Kp.refl _
theorem upTo_nc (h:Wf ms st){x:Str}(hw:wCut∉(upTo ms st m q).2):getA (upTo ms st m q).1.reach x=getA st.reach x:=by
 unfold upTo at hw ⊢
 cases e:getA st.reach m with
 | none=>rfl
 | some c =>
  rw[e] at hw;simp only at hw ⊢;split
  ·rename_i k;rw[if_pos k] at hw;exact touched_nc h hw x
  ·rfl
theorem touched_more (hms:MsOk ms)(h:Wf ms st)(hc:(getA st.marks c).isSome=true):(touched ms st c true).2=[]:=by
 unfold touched
 obtain⟨i,e⟩:=Option.isSome_iff_exists.mp hc
 have:=h.rg c i e
 have hl:i.toNat<ms.length:=by omega
 rw[e]
 simp only[stepO,List.getElem?_eq_getElem hl,stepM,↓reduceIte]
theorem upTo_w (hms:MsOk ms)(h:Wf ms st):(upTo ms st m q).2=[]:=by
 unfold upTo
 cases e:getA st.reach m with
 | none=>rfl
 | some c =>
  simp only;split
  ·exact touched_more hms h (h.ce m c e).1
  ·rfl
theorem join_wf (h:Wf ms st):Wf ms (join' st n m):=by
 unfold join'
 cases e:getA st.reach m with
 | none=>exact h
 | some c =>
  refine⟨putA_nodup h.nd,fun x d q=>?_,h.km,h.rg⟩
  have q:getA (putA st.reach n c) x=some d:=q
  rw[getA_put] at q;split at q
  ·obtain rfl:=Option.some.inj q;exact h.ce m c e
  ·exact h.ce x d q
theorem join_s:(join' st n m).nums=st.nums∧(join' st n m).plain=st.plain∧(join' st n m).writes=st.writes:=by
 unfold join';split <;> exact⟨rfl,rfl,rfl⟩
theorem join_x {x:Str}(hx:x≠n):getA (join' st n m).reach x=getA st.reach x:=by
 unfold join'
 cases e:getA st.reach m with
 | none=>rfl
 | some c=>show getA (putA st.reach n c) x=_;rw[getA_put,if_neg (fun q=>hx q.symm)]
theorem join_n (h:getA st.reach n=none):getA (join' st n m).reach n=getA st.reach m:=by
 unfold join'
 cases e:getA st.reach m with
 | none=>exact h
 | some c=>show getA (putA st.reach n c) n=_;rw[getA_put,if_pos rfl]
theorem share_good (hms:MsOk ms)(h:Inv ms st)(hnm:m≠n):StG ms st (shared ms (putP st n (pln st.plain m)) n m q).1 (shared ms (putP st n (pln st.plain m)) n m q).2:=by
 have hw:=putP_wf (n:=n) (v:=pln st.plain m) h.wf
 have k1:=upTo_kp (m:=m) (q:=q) hw
 have hw1:=upTo_wf (m:=m) (q:=q) hms hw
 have nc1:=fun x=>upTo_nc (x:=x) hw (by rw[upTo_w (m:=m) (q:=q) hms hw];simp)
 have k2:=letGo_kp (n:=n) hms hw1
 have hw2:=letGo_wf (n:=n) hms hw1
 have en:=letGo_n (n:=n) hms hw1
 have nc2:=fun x (hx:x≠n) z=>letGo_nc (m:=x) hw1 z hx
 have ct2:=fun z=>letGo_cut (n:=n) hw1 z
 have sp2:wSpoils∉(letGo ms (upTo ms (putP st n (pln st.plain m)) m q).1 n).2:=letGo_sp
 have k:=k1.trans k2
 unfold shared
 rw[upTo_w hms hw,List.nil_append]
 generalize upTo ms (putP st n (pln st.plain m)) m q=z1 at *
 generalize letGo ms z1.1 n=z2 at *
 obtain⟨s2,ws⟩:=z2
 simp only at *
 have el:Els st (join' s2 n m) n ws:=by
  refine⟨fun x hx c e=>?_,fun x hx c e=>?_,fun x hx=>?_,fun w x hx=>?_,fun w=>?_,sp2⟩
  ·rw[join_x hx] at e;exact k.sub x c e
  ·rw[join_x hx] at e;rw[join_s.1];exact k.nums x c e
  ·rw[join_s.2.1,k.pl];show pln (putA st.plain n _) x=_;rw[pln_put,if_neg (fun q=>hx q.symm)]
  ·rw[join_x hx,nc2 x hx w];exact nc1 x
  ·obtain⟨x,hx,e1,e2⟩:=ct2 w
   refine⟨x,hx,?_,by rw[join_x hx];exact e2⟩
   rw[nc1 x] at e1;exact e1
 have ep:pln (join' s2 n m).plain n=pln st.plain m:=by
  rw[join_s.2.1,k.pl];show pln (putA st.plain n _) n=_;rw[pln_put,if_pos rfl]
 refine el.good h (join_wf hw2) (fun z=>?_) (fun v e=>?_) (by rw[join_s.2.2,k.wr];exact Int.le_refl _) fun g w=>?_
 ·rw[ep];rw[join_n en] at z
  refine h.rp m fun e=>z ?_
  exact k.none (a:=putP st n (pln st.plain m)) e
 ·rw[ep] at e;rw[join_s.2.2,k.wr];exact h.pl m v e
 ·rw[ep,←g m]
  have e1:getA s2.reach m=getA st.reach m:=(nc2 m hnm w).trans (nc1 m)
  unfold val;rw[join_n en,join_s.1,e1]
  cases e:getA st.reach m with
  | none=>rfl
  | some c=>exact k.nums m c (e1.trans e)
theorem wr1_wf (h:Wf ms st):Wf ms (wr1 st n):=⟨h.nd,h.ce,h.km,h.rg⟩
theorem write_good (hms:MsOk ms)(h:Inv ms st):StG ms st (written ms st n).1 (written ms st n).2:=by
 have hw:=wr1_wf (n:=n) h.wf
 have pm:∀ x,x≠n→pln (wr1 st n).plain x=pln st.plain x:=fun x hx=>by
  show pln (wPl st.plain (st.writes+1) n) x=_
  rw[pln_wPl,if_neg (fun q=>hx q.1.symm)]
 have hle:∀ x v,pln (wr1 st n).plain x=some v→v≤st.writes+1:=fun x v e=>by
  have e:pln (wPl st.plain (st.writes+1) n) x=some v:=e
  rw[pln_wPl] at e;split at e
  ·obtain rfl:=Option.some.inj e;exact Int.le_refl _
  ·have:=h.pl x v e;omega
 have hsm:∀ x,(pln st.plain x).isSome=true→(pln (wr1 st n).plain x).isSome=true:=fun x e=>by
  show(pln (wPl st.plain (st.writes+1) n) x).isSome=true
  rw[pln_wPl];split
  ·rfl
  ·exact e
 have hw0:=h.w0
 have er:(wr1 st n).reach=st.reach:=rfl
 unfold written
 cases e:getA (wr1 st n).reach n with
 | none =>
  refine⟨⟨hw,fun x z=>hsm x (h.rp x z),hle,by show(0:Int)≤st.writes+1;omega⟩,fun g _ x=>?_,fun hb=>by rcases hb with hb|hb <;> cases hb⟩
  by_cases hx:x=n
  ·subst hx
   have e2:getA st.reach x=none:=e
   have:=g x
   unfold val at this ⊢
   rw[e2] at this
   rw[e]
   show none=pln (wPl st.plain (st.writes+1) x) x
   rw[pln_wPl,if_neg (fun q=>by have q2:=q.2;rw[←this] at q2;cases q2)]
   exact this
  ·rw[pm x hx,←g x];rfl
 | some c =>
  have ec:getA st.reach n=some c:=e
  have pn:pln (wr1 st n).plain n=some (st.writes+1):=by
   show pln (wPl st.plain (st.writes+1) n) n=_
   rw[pln_wPl,if_pos ⟨rfl,h.rp n (by rw[ec];simp)⟩]
  simp only;unfold wr2
  split
  ·have k:=letGo_kp (n:=n) hms hw
   have hw2:=letGo_wf (n:=n) hms hw
   have en:=letGo_n (n:=n) hms hw
   have nc2:=fun x (hx:x≠n) z=>letGo_nc (m:=x) hw z hx
   have ct2:=fun z=>letGo_cut (n:=n) hw z
   have sp2:wSpoils∉(letGo ms (wr1 st n) n).2:=letGo_sp
   generalize letGo ms (wr1 st n) n=z2 at *
   obtain⟨s2,ws⟩:=z2
   simp only at *
   have hb:=begin_wf (n:=n) (z:=0) hms hw2
   have b1:getA ({ begin' s2 n 0 with copies:=s2.copies+1 }:Sg).reach n=some s2.made:=(begin_n (z:=0)).1
   have hb2:Wf ms { begin' s2 n 0 with copies:=s2.copies+1 }:=⟨hb.nd,hb.ce,hb.km,hb.rg⟩
   have hid:∀ z:List Str,(∀ x∈z,x=wIdle)→(wCut∈z++ws↔wCut∈ws)∧(wSpoils∈z++ws↔wSpoils∈ws):=fun z hz=>by
    refine⟨⟨fun q=>?_,fun q=>List.mem_append_right _ q⟩,fun q=>?_,fun q=>List.mem_append_right _ q⟩
    ·rcases List.mem_append.mp q with q|q
     ·exact absurd (hz _ q) (by decide)
     ·exact q
    ·rcases List.mem_append.mp q with q|q
     ·exact absurd (hz _ q) (by decide)
     ·exact q
   have hi:=hid (if(holders (wr1 st n) c).length=1 then [wIdle] else []) (fun x hx=>by split at hx <;> simp at hx;exact hx)
   have el:Els st (setN { begin' s2 n 0 with copies:=s2.copies+1 } n) n ((if(holders (wr1 st n) c).length=1 then [wIdle] else [])++ws):=by
    refine⟨fun x hx d q=>?_,fun x hx d q=>?_,fun x hx=>?_,fun w x hx=>?_,fun w=>?_,fun w=>sp2 (hi.2.mp w)⟩
    ·rw[setN_r.1] at q
     have q:getA (begin' s2 n 0).reach x=some d:=q
     rw[begin_m hx] at q;exact k.sub x d q
    ·rw[setN_r.1] at q
     have q:getA (begin' s2 n 0).reach x=some d:=q
     rw[begin_m hx] at q
     rw[setN_n b1,if_neg (by have:=(hw2.ce x d q).2;omega)]
     show getA (begin' s2 n 0).nums d=_
     rw[begin_num hw2 q];exact k.nums x d q
    ·rw[setN_r.2.1]
     show pln s2.plain x=_
     rw[k.pl];exact pm x hx
    ·rw[setN_r.1]
     show getA (begin' s2 n 0).reach x=_
     rw[begin_m hx,nc2 x hx (fun q=>w (hi.1.mpr q))];rfl
    ·obtain⟨x,hx,e1,e2⟩:=ct2 (hi.1.mp w)
     refine⟨x,hx,e1,?_⟩
     rw[setN_r.1]
     show getA (begin' s2 n 0).reach x=_
     rw[begin_m hx];exact e2
   have ep:pln (setN { begin' s2 n 0 with copies:=s2.copies+1 } n).plain n=some (st.writes+1):=by
    rw[setN_r.2.1]
    show pln s2.plain n=_
    rw[k.pl];exact pn
   have ew:(setN { begin' s2 n 0 with copies:=s2.copies+1 } n).writes=st.writes+1:=by
    rw[setN_r.2.2.1]
    show s2.writes=_
    rw[k.wr];rfl
   refine el.good h (setN_wf hb2) (fun _=>by rw[ep];rfl) (fun v q=>?_) (by rw[ew];omega) fun g w=>?_
   ·rw[ep] at q;obtain rfl:=Option.some.inj q;rw[ew];exact Int.le_refl _
   ·rw[ep];unfold val;rw[setN_r.1,b1]
    show getA (setN _ n).nums s2.made=_
    rw[setN_n b1,if_pos rfl]
    show some s2.writes=_
    rw[k.wr];rfl
  ·have ev:∀ x,val (setN (wr1 st n) n) x=if getA st.reach x=some c then some (st.writes+1) else val st x:=fun x=>by
    unfold val;rw[setN_r.1]
    show(getA st.reach x).bind _=_
    cases z:getA st.reach x with
    | none=>simp
    | some d =>
     show getA (setN (wr1 st n) n).nums d=_
     rw[setN_n e]
     by_cases q:c=d
     ·subst q;simp;rfl
     ·have:¬d=c:=fun w=>q w.symm
      simp[q,this];rfl
   have hinv:Inv ms (setN (wr1 st n) n):=by
    refine⟨setN_wf hw,fun x z=>?_,fun x v z=>?_,?_⟩
    ·rw[setN_r.1] at z;rw[setN_r.2.1];exact hsm x (h.rp x z)
    ·rw[setN_r.2.1] at z;rw[setN_r.2.2.1];exact hle x v z
    ·rw[setN_r.2.2.1];show(0:Int)≤st.writes+1;omega
   by_cases al:(holders (wr1 st n) c).length=1
   ·rw[if_pos al]
    refine⟨hinv,fun g _ x=>?_,fun hb=>by rcases hb with hb|hb <;> cases hb⟩
    rw[ev,setN_r.2.1]
    obtain⟨y,ey⟩:=List.length_eq_one_iff.mp al
    have hn:n∈holders (wr1 st n) c:=(holders_mem hw).mpr e
    rw[ey,List.mem_singleton] at hn;subst hn
    by_cases hx:x=n
    ·subst hx;rw[if_pos ec,pn]
    ·rw[pm x hx,if_neg]
     ·exact g x
     ·intro q
      have:x∈holders (wr1 st n) c:=(holders_mem hw).mpr q
      rw[ey,List.mem_singleton] at this;exact hx this
   ·rw[if_neg al]
    refine⟨hinv,fun _ nb=>absurd (Or.inl (by simp)) nb,fun _=>?_⟩
    have hn:n∈holders (wr1 st n) c:=(holders_mem hw).mpr e
    have nd:=holders_nodup (c:=c) hw
    have:∃ x∈holders (wr1 st n) c,x≠n:=by
     cases z:holders (wr1 st n) c with
     | nil=>rw[z] at hn;cases hn
     | cons a l =>
      cases l with
      | nil=>rw[z] at al;simp at al
      | cons a2 l =>
       rw[z] at nd
       by_cases q:a=n
       ·refine⟨a2,by simp,fun w=>?_⟩
        rw[List.nodup_cons] at nd
        exact nd.1 (by rw[q,←w];simp)
       ·exact⟨a,by simp,q⟩
    obtain⟨x,hx,hne⟩:=this
    have ex:getA st.reach x=some c:=(holders_mem hw).mp hx
    refine⟨x,by rw[ex];simp,?_⟩
    rw[ev,if_pos ex,setN_r.2.1,pm x hne]
    intro q
    have:=h.pl x _ q.symm
    omega
end DL
namespace DL
open PySem PySem.Spec PyProof.Rows L2
abbrev Td:=List (Str×Str)
def tget (td:Td)(n:Str):Option Str:=(td.find? fun p=>decide (p.1=n)).map (·.2)
section
variable {td td':Td}{n m:Str}{QR:R→Mem→Prop}{E:Xc→Mem→Prop}{μ:Mem}
theorem tget_none:tget td n=none↔∀ p∈td,p.1≠n:=by
 unfold tget;rw[Option.map_eq_none_iff,List.find?_eq_none];simp
theorem tget_mem (h:tget td n=some m):(n,m)∈td:=by
 unfold tget at h
 obtain⟨p,h1,h2⟩:=Option.map_eq_some_iff.mp h
 have a:=List.mem_of_find?_eq_some h1
 have b:=List.find?_some h1
 simp at b
 subst b;subst h2;exact a
theorem tget_of (nd:(td.map (·.1)).Nodup)(h:(n,m)∈td):tget td n=some m:=by
 induction td with
 | nil=>cases h
 | cons p td ih =>
  rw[List.map_cons,List.nodup_cons] at nd
  unfold tget
  rcases List.mem_cons.mp h with rfl|h2
  ·rw[List.find?_cons_of_pos (by simp)];rfl
  ·have:¬p.1=n:=fun e=>nd.1 (e▸List.mem_map.mpr ⟨(n,m),h2,rfl⟩)
   rw[List.find?_cons_of_neg (by simpa using this)]
   exact ih nd.2 h2
def rn (td:Td)(s:Str):Str:=(tget td s).getD ""
def rnS (f:Str→Str)(x:Sp1):Sp1:=(x.1,x.2.map f)
theorem rn_some (h:n∈td.map (·.1)):tget td n=some (rn td n):=by
 unfold rn
 cases e:tget td n with
 | none =>
  obtain⟨p,hp,rfl⟩:=List.mem_map.mp h
  exact absurd rfl (tget_none.mp e p hp)
 | some m=>rfl
def back (td:Td):Td:=td.map fun p=>(p.2,p.1)
def namesL (as:List Str)(xs:List Sp1):List Str:=as++xs.flatMap (·.2)
def namesU (as:List Str)(xs:List Sp1):List Str:=sortU (namesL as xs)
end
variable {ms:List Mk}{st st' s1 s2:Sg}{c:Int}{b q:Bool}{n m:Str}{ws ss:List Str}{v:Option Int}{x:Sp1}{xs:List Sp1}{os:List Str}{t j:Nat}
def isDone (x:Sp1):Prop:=(two x.1=true→∃ a c,x.2=[a,c]∧a≠c)∧(two x.1=false→∃ a,x.2=[a])
theorem StOk.isDone (h:StOk b ss x):isDone x:=⟨fun q=>by obtain⟨a,c,e,n,_⟩:=h.sh q;exact⟨a,c,e,n⟩,fun q=>by obtain⟨a,e,_⟩:=h.ot q;exact⟨a,e⟩⟩
theorem two_iff (w:Str):two w=true↔w="share"∨w="hold":=by unfold two;simp
theorem done_good (hms:MsOk ms)(h:Inv ms st)(hx:isDone x)(hw:x.1∈louds++quiets):StG ms st (done ms st x).1 (done ms st x).2:=by
 unfold done
 by_cases c1:x.1="share"∨x.1="hold"
 ·rw[if_pos c1]
  obtain⟨a,c,e,hn⟩:=hx.1 ((two_iff _).mpr c1)
  rw[e]
  exact share_good hms h (fun q=>hn q.symm)
 rw[if_neg c1]
 by_cases c2:x.1="write"
 ·rw[if_pos c2];exact write_good hms h
 rw[if_neg c2]
 by_cases c3:x.1="leave"
 ·rw[if_pos c3];exact leave_good h
 rw[if_neg c3]
 by_cases c4:x.1="more"∨x.1="less"
 ·rw[if_pos c4];exact more_good hms h
 rw[if_neg c4]
 by_cases c5:x.1="new"
 ·rw[if_pos c5];exact new_good hms h
 rw[if_neg c5]
 by_cases c6:x.1="end"
 ·rw[if_pos c6];exact end_good hms h
 ·exfalso
  simp[louds,quiets] at hw
  simp only[not_or] at c1 c4
  grind
theorem Kp.some' {a b:Sg}(h:Kp a b)(e:getA b.reach m≠Option.none):getA a.reach m≠Option.none:=fun q=>e (h.none q)
theorem done_sub (hms:MsOk ms)(h:Wf ms st)(hm:m≠n0 x.2)(e:getA (done ms st x).1.reach m≠none):getA st.reach m≠none:=by
 unfold done at e
 split at e
 ·have hw:=putP_wf (n:=n0 x.2) (v:=pln st.plain (n1 x.2)) h
  unfold shared at e
  simp only at e
  rw[join_x hm] at e
  exact((upTo_kp hw).trans (letGo_kp hms (upTo_wf hms hw))).some' e
 split at e
 ·have hw:=wr1_wf (n:=n0 x.2) h
  unfold written at e
  split at e
  ·exact e
  ·unfold wr2 at e
   split at e
   ·simp only at e
    rw[setN_r.1] at e
    have e:getA (begin' (letGo ms (wr1 st (n0 x.2)) (n0 x.2)).1 (n0 x.2) 0).reach m≠none:=e
    rw[begin_m hm] at e
    exact(letGo_kp hms hw).some' e
   ·simp only at e
    rw[setN_r.1] at e;exact e
 split at e
 ·exact(leftQ_kp (putP_wf h)).some' e
 split at e
 ·unfold moreLess at e
  split at e
  ·exact e
  ·exact(touched_kp h).some' e
 split at e
 ·simp only at e
  rw[begin_m hm] at e
  exact(letGo_kp hms (putP_wf h)).some' e
 split at e
 ·exact(letGo_kp hms (putP_wf h)).some' e
 ·exact(letGo_kp hms h).some' e
structure Sz (t:Nat)(st:Sg):Prop where
 r:st.reach.length≤t
 m:st.marks.length≤t
 n:st.nums.length≤t
 p:st.plain.length≤t
theorem Sz.mono {t u:Nat}(h:Sz t st)(k:t≤u):Sz u st:=⟨Nat.le_trans h.r k,Nat.le_trans h.m k,Nat.le_trans h.n k,Nat.le_trans h.p k⟩
theorem putA_len' {κ α:Type}[DecidableEq κ]{l:List (κ×α)}{k:κ}{v:α}(h:(getA l k).isSome=true):(putA l k v).length=l.length:=by
 unfold putA
 rw[if_pos,List.length_map]
 cases e:l.any fun p=>decide (p.1=k) with
 | true=>rfl
 | false =>
  have:getA l k=none:=getA_none.mpr fun p hp q=>by
   have:=List.any_eq_false.mp e p hp
   simp[q] at this
  rw[this] at h;cases h
theorem touched_sz (hc:(getA st.marks c).isSome=true)(h:Sz t st):Sz t (touched ms st c b).1:=by
 unfold touched
 cases e:stepO ms (getA st.marks c) b with
 | none=>exact⟨Nat.le_trans (foldA_len _) h.r,Nat.le_trans dropA_len h.m,Nat.le_trans dropA_len h.n,h.p⟩
 | some j=>exact⟨h.r,by show(putA st.marks c j).length≤t;rw[putA_len' hc];exact h.m,h.n,h.p⟩
theorem left_sz (h:Sz t st):Sz t (left st c).1:=by
 unfold left;split
 ·exact h
 ·exact⟨h.r,Nat.le_trans dropA_len h.m,Nat.le_trans dropA_len h.n,h.p⟩
theorem unR_sz (h:Sz t st):Sz t (unR st n):=⟨Nat.le_trans dropA_len h.r,h.m,h.n,h.p⟩
theorem letGo_sz (hw:Wf ms st)(h:Sz t st):Sz t (letGo ms st n).1:=by
 unfold letGo
 cases e:getA st.reach n with
 | none=>exact h
 | some c=>exact left_sz (touched_sz (hw.ce n c e).1 (unR_sz h))
theorem upTo_sz (hw:Wf ms st)(h:Sz t st):Sz t (upTo ms st m q).1:=by
 unfold upTo
 cases e:getA st.reach m with
 | none=>exact h
 | some c =>
  simp only;split
  ·exact touched_sz (hw.ce m c e).1 h
  ·exact h
structure Sz1 (t:Nat)(st:Sg):Prop where
 r:st.reach.length≤t
 m:st.marks.length≤t
 n:st.nums.length≤t
theorem putP_sz (h:Sz t st):Sz (t+1) (putP st n v):=⟨by have:=h.r;show st.reach.length≤_;omega,by have:=h.m;show st.marks.length≤_;omega,by have:=h.n;show st.nums.length≤_;omega,Nat.le_trans putA_len (by have:=h.p;omega)⟩
theorem begin_sz {z:Int}(h:Sz t st):Sz (t+1) (begin' st n z):=⟨Nat.le_trans putA_len (by have:=h.r;omega),Nat.le_trans putA_len (by have:=h.m;omega),Nat.le_trans putA_len (by have:=h.n;omega),by have:=h.p;show st.plain.length≤_;omega⟩
theorem join_sz (h:Sz t st):Sz (t+1) (join' st n m):=by
 unfold join'
 cases e:getA st.reach m with
 | none=>exact h.mono (by omega)
 | some c=>exact⟨Nat.le_trans putA_len (by have:=h.r;omega),by have:=h.m;show st.marks.length≤_;omega,by have:=h.n;show st.nums.length≤_;omega,by have:=h.p;show st.plain.length≤_;omega⟩
theorem setN_sz (hw:Wf ms st)(h:Sz t st):Sz t (setN st n):=by
 unfold setN
 cases e:getA st.reach n with
 | none=>exact h
 | some c=>exact⟨h.r,h.m,by show(putA st.nums c st.writes).length≤t;rw[putA_len' (by rw[←hw.km];exact(hw.ce n c e).1)];exact h.n,h.p⟩
theorem wr1_sz (h:Sz t st):Sz (t+1) (wr1 st n):=by
 refine⟨by have:=h.r;show st.reach.length≤_;omega,by have:=h.m;show st.marks.length≤_;omega,by have:=h.n;show st.nums.length≤_;omega,?_⟩
 show(wPl st.plain (st.writes+1) n).length≤_
 have:=h.p
 unfold wPl;split
 ·exact Nat.le_trans putA_len (by omega)
 ·omega
theorem leftQ_sz (h:Sz t st):Sz t (leftQ st n).1:=by
 unfold leftQ
 cases e:getA st.reach n with
 | none=>exact h
 | some c=>exact left_sz (unR_sz h)
theorem done_sz (hms:MsOk ms)(hw:Wf ms st)(h:Sz t st):Sz (t+2) (done ms st x).1:=by
 unfold done
 split
 ·have hw':=putP_wf (n:=n0 x.2) (v:=pln st.plain (n1 x.2)) hw
  exact join_sz (letGo_sz (upTo_wf hms hw') (upTo_sz hw' (putP_sz h)))
 split
 ·have hw':=wr1_wf (n:=n0 x.2) hw
  unfold written
  split
  ·exact(wr1_sz h).mono (by omega)
  ·unfold wr2
   split
   ·have hb:=begin_wf (n:=n0 x.2) (z:=0) hms (letGo_wf (n:=n0 x.2) hms hw')
    have hs:=begin_sz (n:=n0 x.2) (z:=0) (letGo_sz (n:=n0 x.2) hw' (wr1_sz h))
    exact setN_sz (ms:=ms) ⟨hb.nd,hb.ce,hb.km,hb.rg⟩ ⟨hs.r,hs.m,hs.n,hs.p⟩
   ·exact setN_sz hw' ((wr1_sz h).mono (by omega))
 split
 ·exact leftQ_sz ((putP_sz h).mono (by omega))
 split
 ·unfold moreLess
  split
  ·exact h.mono (by omega)
  ·rename_i c e
   exact touched_sz (hw.ce _ c e).1 (h.mono (by omega))
 split
 ·exact begin_sz (letGo_sz (putP_wf hw) (putP_sz h))
 split
 ·exact letGo_sz (putP_wf hw) ((putP_sz h).mono (by omega))
 ·exact letGo_sz hw (h.mono (by omega))
def runN (ms:List Mk)(st:Sg)(xs:List Sp1):Nat→Sg×List (Int×Str)
 | 0=>(st,[])
 | j+1=>match xs[j]? with
  | some x=>((done ms (runN ms st xs j).1 x).1,(runN ms st xs j).2++(done ms (runN ms st xs j).1 x).2.map fun w=>((j:Int),w))
  | none=>runN ms st xs j
def offP (st:Sg)(n:Str):Sg:={ st with plain:=dropA st.plain n }
def ownN (ms:List Mk)(k:Int)(z:Sg×List (Int×Str))(os:List Str):Nat→Sg×List (Int×Str)
 | 0=>z
 | j+1=>match os[j]? with
  | some n=>(offP (letGo ms (ownN ms k z os j).1 n).1 n,(ownN ms k z os j).2++(letGo ms (ownN ms k z os j).1 n).2.map fun w=>(k,w))
  | none=>ownN ms k z os j
def callS (ms:List Mk)(st:Sg)(xs:List Sp1)(os:List Str):Sg×List (Int×Str):=ownN ms xs.length (runN ms st xs xs.length) os os.length
theorem pln_drop {p:List (Str×Option Int)}:pln (dropA p n) m=if n=m then none else pln p m:=by
 unfold pln;rw[getA_drop];split <;> rfl
theorem off_good (hms:MsOk ms)(h:Inv ms st):StG ms st (offP (letGo ms st n).1 n) (letGo ms st n).2:=by
 have k:=letGo_kp (n:=n) hms h.wf
 have en:=letGo_n (n:=n) hms h.wf
 have hw:=letGo_wf (n:=n) hms h.wf
 have ep:pln (offP (letGo ms st n).1 n).plain n=none:=by show pln (dropA _ n) n=_;rw[pln_drop,if_pos rfl]
 have el:Els st (offP (letGo ms st n).1 n) n (letGo ms st n).2:=by
  refine⟨fun m _ c e=>k.sub m c e,fun m _ c e=>k.nums m c e,fun m hm=>?_,fun q m hm=>letGo_nc h.wf q hm,fun q=>letGo_cut h.wf q,letGo_sp⟩
  show pln (dropA (letGo ms st n).1.plain n) m=_
  rw[pln_drop,if_neg (fun q=>hm q.symm),k.pl]
 refine el.good h ⟨hw.nd,hw.ce,hw.km,hw.rg⟩ (fun q=>absurd en q) (fun v e=>?_) (Int.le_of_eq k.wr.symm) fun _ _=>?_
 ·rw[ep] at e;cases e
 ·rw[ep]
  show(getA (letGo ms st n).1.reach n).bind _=none
  rw[en];rfl
theorem off_sz (hw:Wf ms st)(h:Sz t st):Sz t (offP (letGo ms st n).1 n):=by
 have:=letGo_sz (n:=n) hw h
 exact⟨this.r,this.m,this.n,Nat.le_trans dropA_len this.p⟩
def NoBad (fs:List (Int×Str)):Prop:=¬BadW (fs.map (·.2))
theorem noBad_app {fs gs:List (Int×Str)}:NoBad (fs++gs)↔NoBad fs∧NoBad gs:=by
 unfold NoBad BadW;rw[List.map_append];simp only[List.mem_append];grind
theorem noBad_map {k:Int}:NoBad (ws.map fun w=>(k,w))↔¬BadW ws:=by
 unfold NoBad;rw[List.map_map]
 have:(Prod.snd∘fun w:Str=>(k,w))=id:=rfl
 rw[this,List.map_id]
structure XsOk (xs:List Sp1):Prop where
 d:∀ x∈xs,isDone x∧x.1∈louds++quiets
structure RunOk (ms:List Mk)(st:Sg)(z:Sg×List (Int×Str))(t:Nat)(A:Str→Prop):Prop where
 inv:Inv ms z.1
 g:G st→NoBad z.2→G z.1
 sz:Sz t z.1
 rs:∀ m,getA z.1.reach m≠none→getA st.reach m≠none∨A m
theorem run_ok (hms:MsOk ms)(h:Inv ms st)(hz:Sz t st)(hx:XsOk xs):∀ j,RunOk ms st (runN ms st xs j) (t+2*j) fun m=>∃ x∈xs,m=n0 x.2
 | 0=>⟨h,fun g _=>g,hz,fun m q=>Or.inl q⟩
 | j+1=>by
  have ih:=run_ok hms h hz hx j
  unfold runN
  cases e:xs[j]? with
  | none=>exact⟨ih.inv,ih.g,ih.sz.mono (by omega),ih.rs⟩
  | some x =>
   have hm:=List.mem_of_getElem? e
   have k:=done_good hms ih.inv (hx.d x hm).1 (hx.d x hm).2
   refine⟨k.inv,fun g nb=>?_,(done_sz hms ih.inv.wf ih.sz).mono (by omega),fun m q=>?_⟩
   ·obtain⟨n1,n2⟩:=noBad_app.mp nb
    exact k.g (ih.g g n1) (noBad_map.mp n2)
   ·by_cases hn:m=n0 x.2
    ·exact Or.inr ⟨x,hm,hn⟩
    ·exact ih.rs m (done_sub hms ih.inv.wf hn q)
theorem own_ok (hms:MsOk ms){k:Int}{z:Sg×List (Int×Str)}{A:Str→Prop}(h:RunOk ms st z t A):∀ j,j≤os.length→RunOk ms st (ownN ms k z os j) t (fun m=>A m)∧∀ n∈os.take j,getA (ownN ms k z os j).1.reach n=none
 | 0,_=>⟨h,fun n q=>by simp at q⟩
 | j+1,hj=>by
  obtain⟨ih,ih2⟩:=own_ok hms (k:=k) h j (by omega)
  unfold ownN
  have e:os[j]?=some os[j]:=List.getElem?_eq_getElem (by omega)
  rw[e]
  have kp:=letGo_kp (n:=os[j]) hms ih.inv.wf
  have og:=off_good (n:=os[j]) hms ih.inv
  refine⟨⟨og.inv,fun g nb=>?_,off_sz ih.inv.wf ih.sz,fun m q=>ih.rs m (kp.some' q)⟩,fun n q=>?_⟩
  ·obtain⟨n1,n2⟩:=noBad_app.mp nb
   exact og.g (ih.g g n1) (noBad_map.mp n2)
  ·rw[List.take_add_one,e] at q
   rcases List.mem_append.mp q with q|q
   ·exact kp.none (ih2 n q)
   ·simp at q;subst q;exact letGo_n hms ih.inv.wf
theorem call_ok (hms:MsOk ms)(h:Inv ms st)(hz:Sz t st)(hx:XsOk xs):RunOk ms st (callS ms st xs os) (t+2*xs.length) (fun m=>(∃ x∈xs,m=n0 x.2)∧m∉os):=by
 unfold callS
 obtain⟨a,b⟩:=own_ok hms (k:=xs.length) (os:=os) (run_ok hms h hz hx xs.length) os.length (Nat.le_refl _)
 refine⟨a.inv,a.g,a.sz,fun m q=>?_⟩
 rw[List.take_length] at b
 rcases a.rs m q with w|w
 ·exact Or.inl w
 ·exact Or.inr ⟨w,fun k=>q (b m k)⟩
end DL
set_option maxHeartbeats 1000000
namespace DL
open PySem PySem.Spec PyProof.Rows L2
section
variable {c:D}{ν τ σ:Mem}{st:Sg}{nms:List Str}{Q:DV→Prop}{Qp:Prop}{QR:R→Mem→Prop}{E:Xc→Mem→Prop}{m n:Str}{i j:Int}
variable {μ:Mem}
end
def FitN (s:Str):Prop:=PyData.strOk s=true∧s.cps.size≤20
structure Ok (ms:List Mk)(t:Nat)(st:Sg):Prop where
 wf:Wf ms st
 nm:∀ n,getA st.reach n≠none→FitN n
 sz:Sz t st
section
variable {ms:List Mk}{st:Sg}{t:Nat}{c:Int}{b q:Bool}{n m:Str}{v:Option Int}
theorem Ok.mono {u:Nat}(h:Ok ms t st)(k:t≤u):Ok ms u st:=⟨h.wf,h.nm,h.sz.mono k⟩
end
variable {as ns os people:List Str}{xs:List Sp1}{x:Sp1}{a c o s:Str}{td te:Td}{ms:List Mk}{st:Sg}{t:Nat}
def ownP (s:Str):Str:="own "++s
def calT (as ns os:List Str):Td:=as.zip ns++os.map fun o=>(o,ownP o)
theorem zip_keys (h:as.length=ns.length):(as.zip ns).map (·.1)=as:=by
 rw[←List.unzip_fst,List.unzip_zip (by omega)]
theorem cal_keys (h:as.length=ns.length):(calT as ns os).map (·.1)=as++os:=by
 unfold calT;rw[List.map_append,zip_keys h,List.map_map]
 congr 1
 exact List.map_id _
abbrev calF (as ns os:List Str):Str→Str:=rn (calT as ns os)
structure CalOk (as ns os:List Str):Prop where
 l:as.length=ns.length
 nd:(as++os).Nodup
 nn:ns.Nodup
 nb:∀ s∈ns,nameB s=true∧PyData.strOk s=true∧s.cps.size≤16
 ob:∀ s∈os,PyData.strOk s=true∧s.cps.size≤16
theorem cal_get (h:CalOk as ns os)(hs:s∈as++os):tget (calT as ns os) s=some (calF as ns os s):=rn_some (by rw[cal_keys h.l];exact hs)
theorem cal_nd (h:CalOk as ns os):((calT as ns os).map (·.1)).Nodup:=by rw[cal_keys h.l];exact h.nd
theorem cal_arg (h:CalOk as ns os)(hs:s∈as):(s,calF as ns os s)∈as.zip ns:=by
 have hm:=tget_mem (cal_get h (s:=s) (List.mem_append_left _ hs))
 unfold calT at hm
 rcases List.mem_append.mp hm with q|q
 ·exact q
 ·obtain⟨o,ho,e⟩:=List.mem_map.mp q
  obtain⟨e1,_⟩:=Prod.mk.inj e
  exact absurd rfl ((List.nodup_append.mp h.nd).2.2 s hs s (e1▸ho))
theorem cal_argn (h:CalOk as ns os)(hs:s∈as):calF as ns os s∈ns:=(List.of_mem_zip (cal_arg h hs)).2
theorem cal_own (h:CalOk as ns os)(hs:s∈os):calF as ns os s=ownP s:=by
 have e:=cal_get h (s:=s) (List.mem_append_right _ hs)
 have:=tget_of (cal_nd h) (n:=s) (m:=ownP s) (by unfold calT;exact List.mem_append_right _ (List.mem_map.mpr ⟨s,hs,rfl⟩))
 rw[this] at e
 exact(Option.some.inj e).symm
theorem own_list (s:Str):(ownP s).cps.toList=("own ":Str).cps.toList++s.cps.toList:=by
 show(("own ":Str)++s).cps.toList=_
 exact Array.toList_append
theorem own_nb (s:Str):nameB (ownP s)=false:=by
 unfold nameB
 rw[own_list,List.all_append]
 have:(("own ":Str).cps.toList.all fun c=>decide (c∈letters.cps.toList))=false:=by decide +kernel
 rw[this];simp
theorem own_inj (h:ownP a=ownP c):a=c:=by
 have:=congrArg (fun s:Str=>s.cps.toList) h
 simp only[own_list,List.append_cancel_left_eq] at this
 cases a;cases c
 simp only at this
 rw[Array.ext' this]
theorem own_fit (h:PyData.strOk s=true∧s.cps.size≤16):FitN (ownP s):=by
 constructor
 ·have h1:=h.1
  unfold PyData.strOk at h1 ⊢
  rw[←Array.all_toList] at h1 ⊢
  rw[own_list,List.all_append,h1]
  decide +kernel
 ·have:(ownP s).cps.size=4+s.cps.size:=by
   rw[←Array.length_toList,own_list,List.length_append];rfl
  rw[this];omega
theorem cal_fit (h:CalOk as ns os)(hs:s∈as++os):FitN (calF as ns os s):=by
 rcases List.mem_append.mp hs with q|q
 ·have:=h.nb _ (cal_argn h q);exact⟨this.2.1,by omega⟩
 ·rw[cal_own h q];exact own_fit (h.ob s q)
theorem zip_inj {as ns:List Str}(hn:ns.Nodup){v:Str}(h1:(a,v)∈as.zip ns)(h2:(c,v)∈as.zip ns):a=c:=by
 induction as generalizing ns with
 | nil=>cases h1
 | cons x as ih =>
  cases ns with
  | nil=>cases h1
  | cons n ns =>
   rw[List.zip_cons_cons] at h1 h2
   rw[List.nodup_cons] at hn
   rcases List.mem_cons.mp h1 with e1|e1 <;> rcases List.mem_cons.mp h2 with e2|e2
   ·obtain⟨rfl,rfl⟩:=Prod.mk.inj e1;exact(Prod.mk.inj e2).1.symm
   ·obtain⟨rfl,rfl⟩:=Prod.mk.inj e1;exact absurd (List.of_mem_zip e2).2 hn.1
   ·obtain⟨rfl,rfl⟩:=Prod.mk.inj e2;exact absurd (List.of_mem_zip e1).2 hn.1
   ·exact ih hn.2 e1 e2
theorem cal_inj (h:CalOk as ns os)(ha:a∈as++os)(hc:c∈as++os)(e:calF as ns os a=calF as ns os c):a=c:=by
 rcases List.mem_append.mp ha with qa|qa <;> rcases List.mem_append.mp hc with qc|qc
 ·have h1:=cal_arg h qa
  have h2:=cal_arg h qc
  rw[e] at h1
  exact zip_inj h.nn h1 h2
 ·have:=(h.nb _ (cal_argn h qa)).1
  rw[e,cal_own h qc,own_nb] at this;cases this
 ·have:=(h.nb _ (cal_argn h qc)).1
  rw[←e,cal_own h qa,own_nb] at this;cases this
 ·rw[cal_own h qa,cal_own h qc] at e;exact own_inj e
theorem stok_calls (h:CalOk as ns os)(hx:StOk false (as++os) x):isDone (rnS (calF as ns os) x)∧x.1∈louds++quiets∧(∀ s∈(rnS (calF as ns os) x).2,FitN s)∧n0 (rnS (calF as ns os) x).2∈(as++os).map (calF as ns os):=by
 refine⟨⟨fun q=>?_,fun q=>?_⟩,by simpa using hx.w,fun s hs=>?_,?_⟩
 ·obtain⟨a,c,e,hn,ha,hc⟩:=hx.sh q
  exact⟨_,_,by unfold rnS;rw[e];rfl,fun z=>hn (cal_inj h ha hc z)⟩
 ·obtain⟨a,e,ha⟩:=hx.ot q
  exact⟨_,by unfold rnS;rw[e];rfl⟩
 ·cases w:two x.1 with
  | true =>
   obtain⟨a,c,e,hn,ha,hc⟩:=hx.sh w
   unfold rnS at hs;rw[e] at hs
   simp at hs
   rcases hs with rfl|rfl
   ·exact cal_fit h ha
   ·exact cal_fit h hc
  | false =>
   obtain⟨a,e,ha⟩:=hx.ot w
   unfold rnS at hs;rw[e] at hs
   simp at hs
   subst hs;exact cal_fit h ha
 ·cases w:two x.1 with
  | true =>
   obtain⟨a,c,e,hn,ha,hc⟩:=hx.sh w
   unfold rnS;rw[e]
   exact List.mem_map.mpr ⟨a,ha,rfl⟩
  | false =>
   obtain⟨a,e,ha⟩:=hx.ot w
   unfold rnS;rw[e]
   exact List.mem_map.mpr ⟨a,ha,rfl⟩
def calX (as ns os:List Str)(xs:List Sp1):List Sp1:=xs.map (rnS (calF as ns os))
def calO (as ns os:List Str):List Str:=os.map (calF as ns os)
structure DdC (as ns os:List Str)(xs:List Sp1):Prop where
 c:CalOk as ns os
 st:∀ x∈xs,StOk false (as++os) x
 x8:xs.length≤8
theorem DdC.xok (h:DdC as ns os xs):XsOk (calX as ns os xs):=⟨fun x hx=>by
 obtain⟨y,hy,rfl⟩:=List.mem_map.mp hx
 have:=stok_calls h.c (h.st y hy)
 exact⟨this.1,this.2.1⟩⟩
structure MI (ms:List Mk)(people:List Str)(k:Nat)(st:Sg):Prop where
 inv:Inv ms st
 sz:Sz (16*k) st
 rs:∀ m,getA st.reach m≠none→m∈people
theorem MI.call (hms:MsOk ms){k:Nat}(h:MI ms people k st)(hd:DdC as ns os xs)(hp:∀ s∈ns,s∈people):MI ms people (k+1) (callS ms st (calX as ns os xs) (calO as ns os)).1:=by
 have r:=call_ok (os:=calO as ns os) hms h.inv h.sz hd.xok
 refine⟨r.inv,r.sz.mono ?_,fun m e=>?_⟩
 ·unfold calX;rw[List.length_map];have:=hd.x8;omega
 ·rcases r.rs m e with q|⟨⟨x,hx,rfl⟩,q⟩
  ·exact h.rs m q
  ·obtain⟨y,hy,rfl⟩:=List.mem_map.mp hx
   obtain⟨s,hs,e⟩:=List.mem_map.mp (stok_calls hd.c (hd.st y hy)).2.2.2
   rw[←e]
   rcases List.mem_append.mp hs with w|w
   ·exact hp _ (cal_argn hd.c w)
   ·exact absurd (List.mem_map.mpr ⟨s,w,e⟩) q
end DL
set_option maxHeartbeats 1000000
namespace DL
open PySem PySem.Spec PyProof.Rows L2
structure Mc where
 calls:List D
 stands:List D
 faults:List D
section
variable {sk c:D}{ν τ σ:Mem}{mc:Mc}{nms:List Str}{Q:DV→Prop}{Qp:Prop}{QR:R→Mem→Prop}{E:Xc→Mem→Prop}{m:Str}{d:D}{δ:List (Option DV)}{N:Nat}{st:Sg}{P:PO}
end
variable {ms:List Mk}{st:Sg}{c k:Int}{b q:Bool}{n m:Str}{x:Sp1}{as ns os people:List Str}{xs:List Sp1}{t j:Nat}{z:Sg×List (Int×Str)}{A:Str→Prop}
end DL
namespace DL
open PySem PySem.Spec PyProof.Rows L2
def KP {α:Type}(P:Str→Prop)(l:List (Str×α)):Prop:=∀ p∈l,P p.1
def InjP (f:Str→Str)(P:Str→Prop):Prop:=∀ a b,P a→P b→f a=f b→a=b
section
variable {α:Type}{f:Str→Str}{P:Str→Prop}{l:List (Str×α)}{k:Str}{v:α}
theorem KP.put (hl:KP P l)(hk:P k):KP P (putA l k v):=by
 unfold putA
 split
 ·intro p hp
  obtain⟨q,hq,rfl⟩:=List.mem_map.mp hp
  split
  ·exact hl q hq
  ·exact hl q hq
 ·intro p hp
  rcases List.mem_append.mp hp with q|q
  ·exact hl p q
  ·rw[List.mem_singleton.mp q];exact hk
theorem KP.drop (hl:KP P l):KP P (dropA l k):=fun p hp=>hl p (List.mem_filter.mp hp).1
end
structure SP (P:Str→Prop)(st:Sg):Prop where
 r:KP P st.reach
 p:KP P st.plain
section
variable {ms:List Mk}{st:Sg}{c:Int}{b q:Bool}{n m:Str}{v:Option Int}{x:Sp1}{f:Str→Str}{P:Str→Prop}
end
def MonoP (f:Str→Str)(P:Str→Prop):Prop:=∀ a b,P a→P b→ltS (f a) (f b)=ltS a b
section
variable {f:Str→Str}{P:Str→Prop}{xs ys:List Str}{x:Str}
theorem MonoP.inj (h:MonoP f P):InjP f P:=fun a b ha hb e=>by
 have h1:=h a b ha hb
 have h2:=h b a hb ha
 rw[e,ltS_irrefl] at h1
 rw[e,ltS_irrefl] at h2
 exact ltS_total h1.symm h2.symm
def sg1 (i:Nat):Str:=match letters.cps.toList[i]? with
 | some c=>⟨#[c]⟩
 | none=>""
def othS (k:Nat):Str:=(("n":Str)++sg1 k)++repS "n" (k % 3)
def dictTo (ls:List Str):Td:=(sortS ls).zip ((List.range ls.length).map othS)
variable {ls:List Str}{s t:Str}
variable {L W:Str→Str}{as ns os people:List Str}{ys:List Sp1}{y:Sp1}{o:Str}{ms:List Mk}{st:Sg}{k:Nat}
structure RnC (L W:Str→Str)(people as os:List Str):Prop where
 li:InjP L (·∈people)
 lb:∀ s∈people,nameB s=true∧nameB (L s)=true
 wi:InjP W (·∈as++os)
end
variable {sd:Sd}{n:Str}{l:List Str}{QR:R→Mem→Prop}{E:Xc→Mem→Prop}{μ:Mem}
end DL
namespace DL
open PySem PySem.Spec PyProof.Rows L2
variable {as os ns people:List Str}{xs:List Sp1}{x:Sp1}{sd:Sd}{n s:Str}{d:Dd}
end DL
namespace DL
open PySem PySem.Spec PyProof.Rows L2
variable {as os ns people:List Str}{xs:List Sp1}{x:Sp1}{sd:Sd}{n s:Str}{d:Dd}{L W:Str→Str}{ms:List Mk}{st:Sg}{k:Nat}
abbrev wd (d:Dd):Str→Str:=rn (dictTo (namesU d.1 d.2))
structure PpOk (ss:List Str):Prop where
 n5:ss.length≤20
 nd:ss.Nodup
 nm:∀ s∈ss,nameB s=true∧PyData.strOk s=true∧s.cps.size≤16
abbrev lb (ss:List Str):Str→Str:=rn (dictTo ss)
end DL
namespace DL
open PySem PySem.Spec PyProof.Rows L2
section
variable {ms:List Mk}{st:Sg}{c:Int}{b q:Bool}{n m:Str}{x:Sp1}{k:Int}{xs:List Sp1}{os:List Str}{z:Sg×List (Int×Str)}
end
def Sh (k:Nat)(d:D):Prop:=∃ p,toPy d=some p∧p.canLay0=true∧p.depth≤k
section
variable {k k':Nat}{d:D}{QR:R→Mem→Prop}{E:Xc→Mem→Prop}{μ:Mem}{x y:DV}
theorem Sh.mono (h:Sh k d)(hk:k≤k'):Sh k' d:=by obtain⟨p,a,b,c⟩:=h;exact⟨p,a,b,Nat.le_trans c hk⟩
end
structure FitG (k w:Nat)(p:PyData):Prop where
 lay:p.canLay0=true
 dep:p.depth≤k
 wt:p.weight≤w
 sh:p.showable=true
 is:p.intsShort 40=true
theorem FitG.mono {k k' w w':Nat}{p:PyData}(h:FitG k w p)(hk:k≤k')(hw:w≤w'):FitG k' w' p:=⟨h.lay,Nat.le_trans h.dep hk,Nat.le_trans h.wt hw,h.sh,h.is⟩
theorem fitG_int {i:Int}(h:i.natAbs<10^36):FitG 0 120 (.int i):=by
 refine⟨rfl,Nat.zero_le _,?_,?_,?_⟩
 ·simp only[PyData.weight]
  split
  ·exact Nat.zero_le _
  ·rename_i h0
   have h1:i.natAbs≠0:=by simpa using h0
   have:=(Nat.log2_lt h1 (k:=120)).mpr (Nat.lt_of_lt_of_le h (by decide))
   omega
 ·simp only[PyData.showable,decide_eq_true_eq]
  by_cases h1:i.natAbs=0
  ·rw[h1];decide
  ·have:=(Nat.log2_lt h1 (k:=120)).mpr (Nat.lt_of_lt_of_le h (by decide))
   omega
 ·simp only[PyData.intsShort,decide_eq_true_eq]
  have e:=int_text_length_le10 (k:=36) (by decide) h
  show(Str.ofString (toString i)).length≤40
  rw[PySem.ofString_length];omega
theorem FitG.shaped {k w:Nat}{p:PyData}(h:FitG k w p)(hk:k≤64):SeqAt.shaped p=true:=by
 unfold SeqAt.shaped;rw[h.lay,decide_eq_true (Nat.le_trans h.dep hk)];rfl
theorem FitG.shown {k w:Nat}{p:PyData}(h:FitG k w p)(hw:w≤200000):p.shown.length≤sizeLine:=by
 have:=PyData.shown_le 40 (by decide) p (PyData.leavesShort_of_canLay0 40 p h.lay h.is)
 have h2:=h.wt
 have h3:(40+2)*p.weight≤42*200000:=Nat.mul_le_mul_left _ (Nat.le_trans h2 hw)
 exact Nat.le_trans this (Nat.le_trans (Nat.add_le_add_right h3 40) (by decide))
def FitDG (k w:Nat)(d:D):Prop:=∃ p,toPy d=some p∧FitG k w p
section
variable {QR:R→Mem→Prop}{E:Xc→Mem→Prop}{μ:Mem}{x y:DV}{d:D}{k w:Nat}
theorem FitDG.mono {k' w':Nat}(h:FitDG k w d)(hk:k≤k')(hw:w≤w'):FitDG k' w' d:=by
 obtain⟨p,e,f⟩:=h
 exact⟨p,e,f.mono hk hw⟩
end
section
variable {α:Type}[DecidableEq α]
abbrev WG (α:Type):=List (α×List Bool)
variable (st:α→Bool→Option α)(s0:α)
variable {st s0}
structure GGd (ok:α→Prop)(s0:α)(s:WG α×List α):Prop where
 nd:(s.1.map (·.1)).Nodup
 lt:∀ p∈s.1,ok p.1
 q:∀ x∈s.2,x∈s.1.map (·.1)
 ln:∀ p∈s.1,p.2.length+1≤s.1.length
 z:∃ r,s.1=(s0,([]:List Bool))::r
structure SOk (st:α→Bool→Option α)(s0:α)(ok:α→Prop)(n:Nat):Prop where
 cl:∀ x b y,ok x→st x b=some y→ok y
 s0:ok s0
 bd:∀ l:List α,l.Nodup→(∀ x∈l,ok x)→l.length≤n
variable {ok:α→Prop}{n:Nat}
variable (st)
variable {st}
end
abbrev Pr:=Int×Int
variable {ms ns:List Mk}{W:WG Pr}
end DL
namespace DL
open PySem PySem.Spec PyProof.Rows L2
section
variable (ms ns:List Mk)
end
variable {ms ns:List Mk}{W:WG Pr}
end DL
namespace DL
open PySem PySem.Spec PyProof.Rows L2
def KdN:D→Bool
 | .non=>true
 | .bl _=>true
 | .int _=>true
 | .str _=>true
 | .tup _=>true
 | .lst _=>true
 | .dct _=>true
 | _=>false
def tupO:D→Option (List D)
 | .tup ds=>some ds
 | _=>none
def lstO:D→Option (List D)
 | .lst ds=>some ds
 | _=>none
structure Itm (d:D):Prop where
 k:KdN d=true
 i:∀ ds,tupO d=some ds→∀ x∈ds,KdN x=true
 f:FitD 3 200 d
section
variable {QR:R→Mem→Prop}{E:Xc→Mem→Prop}{μ:Mem}{ds:List D}{p:Pr}{neg:Bool}
end
variable {ms ns:List Mk}{p:Pr}{ds:List D}
end DL
namespace DL
open PySem PySem.Spec PyProof.Rows L2
section
variable {QR:R→Mem→Prop}{E:Xc→Mem→Prop}{μ ν:Mem}{B:Bg}{d:D}{ds:List D}{k:Nat}
end
structure Tg (x:D):Prop where
 k:KdN x=true
 f:Fk 8 1000000 x
 i:∀ ds,lstO x=some ds→(∀ d∈ds,Itm d)∧ds.length≤4000
theorem x_rev {QR:R→Mem→Prop}{E:Xc→Mem→Prop}{μ:Mem}{δ:Env}{f g:EM}(h:Sat (frzV f δ μ) (fun x μ1=>Sat (frzV g δ μ1) (fun y μ2=>∃ ds,asI y=some (-1)∧asT x=some ds∧QR (.dat (.tup ds.reverse)) μ2) E) E):Sat (eRv f g δ μ) QR E:=by
 unfold eRv
 refine sat_bind (h.mono (fun x μ1 h1=>sat_bind (h1.mono (fun y μ2 h2=>?_) fun _ _ z=>z)) fun _ _ z=>z)
 obtain⟨ds,e1,e2,q⟩:=h2
 simp only[e1,e2]
 rw[if_pos trivial];exact q
def Sx (k:Nat)(d:D):Prop:=∃ p,toPyK d=some p∧p.showable=true∧p.depth≤k∧p.leavesShort 40=true
section
variable {k k':Nat}{d:D}{ds:List D}
theorem Sx.mono (h:Sx k d)(hk:k≤k'):Sx k' d:=let ⟨p,a,b,c,e⟩:=h;⟨p,a,b,Nat.le_trans c hk,e⟩
theorem sx_int {i:Int}(h:i.natAbs<10^36):Sx 0 (.int i)∧wtD (.int i)≤120:=by
 have f:=fitG_int h
 exact⟨⟨.int i,rfl,f.sh,Nat.le_refl _,PyData.leavesShort_of_canLay0 40 (.int i) f.lay f.is⟩,f.wt⟩
theorem sx_intS {i:Int}(h:i.natAbs<10^12):Sx 0 (.int i)∧wtD (.int i)≤40:=⟨(sx_int (Nat.lt_of_lt_of_le h (by decide))).1,(fit_int h).wt⟩
theorem sx_0:Sx 0 (.int 0)∧wtD (.int 0)=0:=⟨(sx_int (by decide)).1,rfl⟩
theorem sx_non:Sx 0 .non∧wtD .non=0:=⟨⟨.none,rfl,rfl,Nat.le_refl _,rfl⟩,rfl⟩
theorem sx_bl (b:Bool):Sx 0 (.bl b)∧wtD (.bl b)=0:=⟨⟨.bool b,rfl,rfl,Nat.le_refl _,rfl⟩,rfl⟩
theorem sx_str {s:Str}(h:PyData.strOk s=true):Sx 0 (.str s)∧wtD (.str s)=s.cps.size:=⟨⟨.str s,rfl,rfl,Nat.le_refl _,PyData.leavesShort_of_canLay0 40 (.str s) h rfl⟩,rfl⟩
theorem sx_all:∀ {ds:List D},(∀ d∈ds,Sx k d)→∃ ps,toPyKL ds=some ps∧PyData.showableAll ps=true∧PyData.depthAll ps≤k∧PyData.leavesShortAll 40 ps=true∧PyData.weightAll ps=(ds.map wtD).sum+ds.length
 | [],_=>⟨[],rfl,rfl,Nat.zero_le _,rfl,rfl⟩
 | d::ds,h=>by
  obtain⟨ps,a1,a2,a3,a4,a5⟩:=sx_all fun x hx=>h x (List.mem_cons_of_mem _ hx)
  obtain⟨p,b1,b2,b3,b4⟩:=h d List.mem_cons_self
  have e:wtD d=p.weight:=by unfold wtD;rw[b1]
  refine⟨p::ps,by simp only[toPyKL,b1,a1];rfl,by simp[PyData.showableAll,b2,a2],by simp only[PyData.depthAll];omega,by simp[PyData.leavesShortAll,b4,a4],?_⟩
  simp only[PyData.weightAll,List.map_cons,List.sum_cons,List.length_cons]
  omega
theorem sx_lst (h:∀ d∈ds,Sx k d):Sx (k+1) (.lst ds)∧wtD (.lst ds)=(ds.map wtD).sum+ds.length:=by
 obtain⟨ps,a1,a2,a3,a4,a5⟩:=sx_all h
 have e:toPyK (.lst ds)=some (.list ps):=by simp only[toPyK,a1];rfl
 refine⟨⟨.list ps,e,by simpa [PyData.showable] using a2,by simp only[PyData.depth];omega,by simpa [PyData.leavesShort] using a4⟩,?_⟩
 rw[wt_of e];simpa only[PyData.weight] using a5
theorem sx_tup (h:∀ d∈ds,Sx k d):Sx (k+1) (.tup ds)∧wtD (.tup ds)=(ds.map wtD).sum+ds.length:=by
 obtain⟨ps,a1,a2,a3,a4,a5⟩:=sx_all h
 have e:toPyK (.tup ds)=some (.tuple ps):=by simp only[toPyK,a1];rfl
 refine⟨⟨.tuple ps,e,by simpa [PyData.showable] using a2,by simp only[PyData.depth];omega,by simpa [PyData.leavesShort] using a4⟩,?_⟩
 rw[wt_of e];simpa only[PyData.weight] using a5
theorem sx_dct0:Sx 1 (.dct [])∧wtD (.dct [])=0:=⟨⟨.dict [],rfl,rfl,by decide,rfl⟩,rfl⟩
theorem sxL_inv {k:Nat}:∀ {ds:List D} {ps:List PyData},toPyKL ds=some ps→PyData.showableAll ps=true→PyData.depthAll ps≤k→PyData.leavesShortAll 40 ps=true→∀ x∈ds,Sx k x
 | [],_,_,_,_,_=>fun x hx=>by cases hx
 | d::ds,ps,e,h1,h2,h3=>by
  simp only[toPyKL] at e
  cases e1:toPyK d with
  | none=>rw[e1] at e;cases e
  | some p =>
   rw[e1] at e
   cases e2:toPyKL ds with
   | none=>rw[e2] at e;cases e
   | some qs =>
    rw[e2] at e;cases e
    simp only[PyData.showableAll,Bool.and_eq_true] at h1
    simp only[PyData.depthAll] at h2
    simp only[PyData.leavesShortAll,Bool.and_eq_true] at h3
    intro x hx
    rcases List.mem_cons.mp hx with rfl|hx
    ·exact⟨p,e1,h1.1,by omega,h3.1⟩
    ·exact sxL_inv e2 h1.2 (by omega) h3.2 x hx
theorem sx_inv {k:Nat}(h:Sx (k+1) (.tup ds)):∀ x∈ds,Sx k x:=by
 obtain⟨p,e,h1,h2,h3⟩:=h
 simp only[toPyK] at e
 cases e1:toPyKL ds with
 | none=>rw[e1] at e;cases e
 | some ps =>
  rw[e1] at e;cases e
  simp only[PyData.depth] at h2
  exact sxL_inv e1 (by simpa [PyData.showable] using h1) (by omega) (by simpa [PyData.leavesShort] using h3)
end
inductive Knj:D→Prop
 | a {d:D}:KdN d=true→seqO d=none→Knj d
 | s {d:D} {ds:List D}:KdN d=true→seqO d=some ds→(∀ x∈ds,Knj x)→Knj d
theorem Knj.k {d:D}(h:Knj d):KdN d=true:=by cases h <;> assumption
theorem Knj.it {d:D}{ds:List D}(h:Knj d)(e:seqO d=some ds):∀ x∈ds,Knj x:=by
 cases h with
 | a _ e2=>rw[e] at e2;cases e2
 | s _ e2 h3=>rw[e] at e2;cases e2;exact h3
structure Tj (k w:Nat)(d:D):Prop where
 kn:Knj d
 s:Sx k d
 w:wtD d≤w
section
variable {k k' w w':Nat}{d:D}{ds es:List D}
theorem Tj.mono (h:Tj k w d)(hk:k≤k')(hw:w≤w'):Tj k' w' d:=⟨h.kn,h.s.mono hk,Nat.le_trans h.w hw⟩
def Itj (k w:Nat)(ds:List D):Prop:=(∀ x∈ds,Knj x∧Sx k x)∧(ds.map wtD).sum+ds.length≤w
theorem Itj.mono (h:Itj k w ds)(hk:k≤k')(hw:w≤w'):Itj k' w' ds:=⟨fun x hx=>⟨(h.1 x hx).1,(h.1 x hx).2.mono hk⟩,Nat.le_trans h.2 hw⟩
theorem Itj.tup (h:Itj k w ds):Tj (k+1) w (.tup ds):=by
 obtain⟨a,b⟩:=sx_tup fun x hx=>(h.1 x hx).2
 exact⟨.s rfl rfl fun x hx=>(h.1 x hx).1,a,by rw[b];exact h.2⟩
theorem Itj.lst (h:Itj k w ds):Tj (k+1) w (.lst ds):=by
 obtain⟨a,b⟩:=sx_lst fun x hx=>(h.1 x hx).2
 exact⟨.s rfl rfl fun x hx=>(h.1 x hx).1,a,by rw[b];exact h.2⟩
theorem Tj.its (h:Tj (k+1) w (.tup ds)):Itj k w ds:=by
 have hs:=sx_inv h.s
 refine⟨fun x hx=>⟨h.kn.it rfl x hx,hs x hx⟩,?_⟩
 have:=(sx_tup hs).2
 have:=h.w
 omega
theorem Itj.at (h:Itj k w ds){i:Nat}(e:ds[i]?=some d):Tj k w d:=by
 obtain⟨a,b⟩:=h.1 d (List.mem_of_getElem? e)
 refine⟨a,b,?_⟩
 have:wtD d≤(ds.map wtD).sum:=by
  have:=sum_subW (List.singleton_sublist.mpr (List.mem_of_getElem? e))
  simpa using this
 have:=h.2
 omega
theorem Itj.app (h:Itj k w ds)(h':Itj k w' es):Itj k (w+w') (ds++es):=by
 refine⟨fun x hx=>?_,?_⟩
 ·rcases List.mem_append.mp hx with q|q
  ·exact h.1 x q
  ·exact h'.1 x q
 ·have:=h.2
  have:=h'.2
  rw[List.map_append,List.sum_append,List.length_append];omega
theorem Itj.sub (h:Itj k w ds)(e:es.Sublist ds):Itj k w es:=by
 refine⟨fun x hx=>h.1 x (e.subset hx),?_⟩
 have:=h.2
 have:=sum_subW e
 have:=e.length_le
 omega
theorem Itj.one (h:Tj k w d):Itj k (w+1) [d]:=⟨fun x hx=>by rw[List.mem_singleton.mp hx];exact⟨h.kn,h.s⟩,by have:=h.w;simp;omega⟩
theorem Itj.nil:Itj k 0 []:=⟨(fun x hx=>by cases hx),Nat.le_refl _⟩
theorem Itj.rev (h:Itj k w ds):Itj k w ds.reverse:=⟨fun x hx=>h.1 x (List.mem_reverse.mp hx),by rw[List.map_reverse,List.sum_reverse,List.length_reverse];exact h.2⟩
theorem Itj.put (h:Itj k w ds)(i j:Nat)(e:Tj k w' d)(hij:i≤j):Itj k (w+(w'+1)) (ds.take i++[d]++ds.drop j):=by
 have h1:(ds.take i++ds.drop j).Sublist ds:=by
  have:ds=ds.take i++ds.drop i:=(List.take_append_drop i ds).symm
  have h2:(ds.drop j).Sublist (ds.drop i):=by
   have e:ds.drop j=(ds.drop i).drop (j-i):=by rw[List.drop_drop];congr 1;omega
   rw[e];exact List.drop_sublist _ _
  have h3:=List.Sublist.append (List.Sublist.refl (ds.take i)) h2
  rwa [List.take_append_drop] at h3
 have h2:=h.sub h1
 obtain⟨b1,b2⟩:=h2
 refine⟨fun x hx=>?_,?_⟩
 ·simp only[List.mem_append,List.mem_singleton] at hx
  rcases hx with (q|q)|q
  ·exact b1 x (List.mem_append_left _ q)
  ·rw[q];exact⟨e.kn,e.s⟩
  ·exact b1 x (List.mem_append_right _ q)
 ·have:=e.w
  simp only[List.map_append,List.sum_append,List.length_append,List.map_cons,List.map_nil,List.sum_cons,List.sum_nil,List.length_cons,List.length_nil] at b2 ⊢
  omega
theorem tj_non:Tj k w .non:=⟨.a rfl rfl,sx_non.1.mono (Nat.zero_le _),by rw[sx_non.2];exact Nat.zero_le _⟩
theorem tj_bl (b:Bool):Tj k w (.bl b):=⟨.a rfl rfl,(sx_bl b).1.mono (Nat.zero_le _),by rw[(sx_bl b).2];exact Nat.zero_le _⟩
theorem tj_int {i:Int}(h:i.natAbs<10^36)(hw:120≤w):Tj k w (.int i):=⟨.a rfl rfl,(sx_int h).1.mono (Nat.zero_le _),Nat.le_trans (sx_int h).2 hw⟩
theorem tj_intS {i:Int}(h:i.natAbs<10^12)(hw:40≤w):Tj k w (.int i):=⟨.a rfl rfl,(sx_intS h).1.mono (Nat.zero_le _),Nat.le_trans (sx_intS h).2 hw⟩
theorem tj_str {s:Str}(h:PyData.strOk s=true)(hw:s.cps.size≤w):Tj k w (.str s):=⟨.a rfl rfl,(sx_str h).1.mono (Nat.zero_le _),by rw[(sx_str h).2];exact hw⟩
theorem tj_dct (hk:1≤k):Tj k w (.dct []):=⟨.a rfl rfl,sx_dct0.1.mono hk,by rw[sx_dct0.2];exact Nat.zero_le _⟩
theorem itj_rep (n:Nat):Itj k n (List.replicate n (.int 0)):=by
 refine⟨fun x hx=>?_,?_⟩
 ·rw[(List.mem_replicate.mp hx).2];exact⟨.a rfl rfl,sx_0.1.mono (Nat.zero_le _)⟩
 ·rw[sum_repW,sx_0.2,List.length_replicate];omega
def shD (d:D):Str:=match toPyK d with
 | some p=>p.shown
 | none=>""
theorem l_shD {QR:R→Mem→Prop}{E:Xc→Mem→Prop}{μ:Mem}(h:Tj 64 24000 d)(q:QR (.dat (.str (shD d))) μ):Sat (dReprA [.dat d] μ) QR E:=by
 obtain⟨p,e,h1,h2,h3⟩:=h.s
 have hw:=h.w
 rw[wt_of e] at hw
 have:=PyData.shown_le 40 (by decide) p h3
 unfold shD at q
 rw[e] at q
 exact reprA_ok pk_dat e h1 h2 (by omega) q
end
end DL
namespace DL
section
variable {α:Type}[DecidableEq α]{st:α→Bool→Option α}{s0 x y:α}{t u ts:List Bool}{W:WG α}{b:Bool}{A q:List α}{s:WG α×List α}
def ledA (st:α→Bool→Option α)(o:Option α)(ts:List Bool):Option α:=ts.foldl (fun o b=>o.bind fun x=>st x b) o
structure BfI (st:α→Bool→Option α)(s0:α)(A:List α)(s:WG α×List α):Prop where
 nd:(s.1.map (·.1)).Nodup
 ks:s.1.map (·.1)=A++s.2
 pa:∀ p∈s.1,ledA st (some s0) p.2=some p.1
 so:s.1.Pairwise (fun p q=>p.2.length≤q.2.length)
 ma:∀ x q,s.2=x::q→∀ t,(x,t)∈s.1→∀ p∈s.1,p.2.length≤t.length+1
 cl:∀ x∈A,∀ t,(x,t)∈s.1→∀ b y,st x b=some y→∃ u,(y,u)∈s.1∧u.length≤t.length+1
structure BfM (st:α→Bool→Option α)(s0:α)(A:List α)(x:α)(t:List Bool)(s:WG α×List α):Prop where
 nd:(s.1.map (·.1)).Nodup
 ks:s.1.map (·.1)=A++x::s.2
 pa:∀ p∈s.1,ledA st (some s0) p.2=some p.1
 so:s.1.Pairwise (fun p q=>p.2.length≤q.2.length)
 xt:(x,t)∈s.1
 ma:∀ p∈s.1,p.2.length≤t.length+1
 cl:∀ x∈A,∀ t,(x,t)∈s.1→∀ b y,st x b=some y→∃ u,(y,u)∈s.1∧u.length≤t.length+1
end
end DL
namespace DL
open PySem PySem.Spec PyProof.Rows L2
variable {ms ns:List Mk}{ts w u:List Bool}{b:Bool}{k:Nat}{m j:Int}{o:Option Int}{W:WG Pr}{p q:Pr}
end DL
namespace DL
open PySem PySem.Spec PyProof.Rows L2
variable {ms:List Mk}{ts:List Bool}{b:Bool}{k:Nat}{m j:Int}{o:Option Int}{st:Sg}{x:Sp1}
end DL
namespace DL
open PySem PySem.Spec PyProof.Rows L2
section
variable {k:Nat}{d e:D}{QR:R→Mem→Prop}{E:Xc→Mem→Prop}{μ:Mem}{x y:DV}
def d3 (r:Int×Int×Str):D:=.tup [.int r.1,.int r.2.1,.str r.2.2]
def t3 (r:Int×Int×Str):PySem.W.T3 Int Int Str:=⟨r.1,r.2.1,r.2.2⟩
end
section
variable {k:Nat}{d e:D}{QR:R→Mem→Prop}{E:Xc→Mem→Prop}{μ:Mem}{x y:DV}
theorem l_eqG {p q:PyData}(hx:peek μ x=some d)(hy:peek μ y=some e)(ep:toPy d=some p)(eq:toPy e=some q)(f:p.canLay0=true)(g:p.depth≤64)(f':q.canLay0=true)(g':q.depth≤64)(h:QR (.dat (.bl (PyData.eqv p q))) μ):Sat (dEqA x y μ) QR E:=by
 have hs:SeqAt.shaped p=true:=by unfold SeqAt.shaped;rw[f,decide_eq_true g];rfl
 have hs':SeqAt.shaped q=true:=by unfold SeqAt.shaped;rw[f',decide_eq_true g'];rfl
 have hpx:=peekPy_of hx ep
 have hpy:=peekPy_of hy eq
 have hB:dEqB true x y μ=.ok (.dat (.bl (PyData.eqv p q==true))) μ:=by
  unfold dEqB;rw[hpx];simp only;rw[hpy];simp only;rw[if_pos ⟨hs,hs'⟩]
 have hS:dEqS true x y μ=.ok (.dat (.bl (PyData.eqv p q==true))) μ:=by
  unfold dEqS
  cases e1:asStr x with
  | none=>exact hB
  | some s =>
   cases e2:asStr y with
   | none=>exact hB
   | some t =>
    rw[asStr_dat e1] at hpx
    rw[asStr_dat e2] at hpy
    have hx':some (PyData.str s)=some p:=by rw[←hpx];unfold peekPy peek;cases s;rfl
    have hy':some (PyData.str t)=some q:=by rw[←hpy];unfold peekPy peek;cases t;rfl
    cases hx';cases hy'
    simp only[PyData.eqv,str_beq]
 refine sat_alt ?_
 rw[show dEq x y μ=dEqS true x y μ from rfl,hS]
 have:(PyData.eqv p q==true)=PyData.eqv p q:=by cases PyData.eqv p q <;> rfl
 rw[this];exact h
end
section
variable {QR:R→Mem→Prop}{E:Xc→Mem→Prop}{μ:Mem}
theorem eq_intsJ {a b:List Int}(h:QR (.dat (.bl (decide (a=b)))) μ):Sat (dEqA (.dat (.lst (a.map D.int))) (.dat (.lst (b.map D.int))) μ) QR E:=by
 have hp:∀ l:List Int,toPy (.lst (l.map D.int))=some (.list (l.map PyData.int)):=fun l=>by
  have:toPyL (l.map D.int)=some (l.map PyData.int):=by
   induction l with
   | nil=>rfl
   | cons x l ih=>rw[List.map_cons,List.map_cons,toPyL,ih];rfl
  show(toPyL (l.map D.int)).map PyData.list=_
  rw[this];rfl
 have hc:∀ l:List Int,(PyData.list (l.map PyData.int)).canLay0=true∧(PyData.list (l.map PyData.int)).depth≤64:=fun l=>by
  have h1:PyData.canLayAll0 (l.map PyData.int)=true:=by
   induction l with
   | nil=>rfl
   | cons x l ih=>rw[List.map_cons,PyData.canLayAll0,ih];rfl
  have h2:PyData.depthAll (l.map PyData.int)≤1:=by
   induction l with
   | nil=>exact Nat.zero_le _
   | cons x l ih =>
    rw[List.map_cons,PyData.depthAll]
    exact Nat.max_le.mpr ⟨Nat.zero_le _,ih (by
     rw[List.map_cons,PyData.canLayAll0,Bool.and_eq_true] at h1
     exact h1.2)⟩
  exact⟨by rw[PyData.canLay0];exact h1,by rw[PyData.depth];omega⟩
 refine l_eqG rfl rfl (hp a) (hp b) (hc a).1 (hc a).2 (hc b).1 (hc b).2 ?_
 have e:PyData.eqv (.list (a.map PyData.int)) (.list (b.map PyData.int))=decide (a=b):=by
  have:=PySem.W.Datum.eqv (α:=List Int) a b
  exact this
 rw[e];exact h
end
def intsJ:List D→Option (List Int)
 | []=>some []
 | d::ds=>match isIntO d with
  | none=>none
  | some i=>(intsJ ds).map (i::·)
theorem isIntO_is {d:D}{i:Int}(h:isIntO d=some i):d=.int i:=by cases d <;> simp[isIntO] at h;rw[h]
theorem intsJ_is:∀ {ds:List D} {ns:List Int},intsJ ds=some ns→ds=ns.map D.int
 | [],_,e=>by cases e;rfl
 | d::ds,ns,e=>by
  simp only[intsJ] at e
  cases q:isIntO d with
  | none=>rw[q] at e;cases e
  | some i =>
   rw[q] at e
   cases q2:intsJ ds with
   | none=>rw[q2] at e;cases e
   | some ms=>rw[q2] at e;cases e;rw[List.map_cons,isIntO_is q,intsJ_is q2]
theorem intsJ_none:∀ {ds:List D},intsJ ds=none→∃ d∈ds,isIntO d=none
 | [],e=>by cases e
 | d::ds,e=>by
  simp only[intsJ] at e
  cases q:isIntO d with
  | none=>exact⟨d,List.mem_cons_self,q⟩
  | some i =>
   rw[q] at e
   cases q2:intsJ ds with
   | none=>obtain⟨x,hx,h⟩:=intsJ_none q2;exact⟨x,List.mem_cons_of_mem _ hx,h⟩
   | some ms=>rw[q2] at e;cases e
def inR (i:Int):Bool:=decide (1≤i∧i≤1000)
def risB (ns:List Int):Bool:=(List.range (ns.length-1)).all fun i=>decide (ns.getD i 0<ns.getD (i+1) 0)
def numsL (ns:List Int):Bool:=decide (ns=sortN ns)&&ns.all inR
theorem risB_two (a b:Int)(r:List Int):risB (a::b::r)=(decide (a<b)&&risB (b::r)):=by
 unfold risB
 simp only[List.length_cons,Nat.add_sub_cancel]
 rw[List.range_succ_eq_map,List.all_cons,List.all_map]
 rfl
theorem risB_iff:∀ ns:List Int,risB ns=true↔ns.Pairwise (· < ·)
 | []=>⟨fun _=>.nil,fun _=>rfl⟩
 | [a]=>⟨fun _=>List.pairwise_singleton _ _,fun _=>rfl⟩
 | a::b::r=>by
  have e:(a::b::r).Pairwise (· < ·)↔(∀ x∈b::r,a<x)∧(b::r).Pairwise (· < ·):=List.pairwise_cons
  rw[risB_two,Bool.and_eq_true,risB_iff (b::r),decide_eq_true_eq,e]
  constructor
  ·rintro ⟨h1,h2⟩
   refine⟨fun x hx=>?_,h2⟩
   rcases List.mem_cons.mp hx with rfl|hx
   ·exact h1
   ·exact Int.lt_trans h1 ((List.pairwise_cons.mp h2).1 x hx)
  ·rintro ⟨h1,h2⟩
   exact⟨h1 b List.mem_cons_self,h2⟩
theorem sortN_eq (ns:List Int):ns=sortN ns↔ns.Pairwise (· < ·) :=
 ⟨fun h=>by rw[h];exact sortN_rises ns,fun h=>risesN_one h (sortN_rises ns) fun z=>(sortN_mem z ns).symm⟩
theorem numsL_ris (ns:List Int):(ns.all inR&&risB ns)=numsL ns:=by
 unfold numsL
 rw[Bool.and_comm]
 congr 1
 rw[Bool.eq_iff_iff,risB_iff,decide_eq_true_eq,sortN_eq]
def numsD (d:D):Bool:=match tupO d with
 | some ds=>match intsJ ds with
  | some ns=>numsL ns
  | none=>false
 | none=>false
def stepB (d:D)(b:D):Bool:=match isIntO d with
 | some i=>decide (0≤i∧i≤200)&&(decide (i=0)==((tupO b).getD []).isEmpty)
 | none=>false
def formD (d:D):Bool:=match tupO d with
 | some [a,b,c]=>numsD a&&numsD b&&stepB c b
 | _=>false
def fmD (ss fs:List Int)(st:Int):D:=.tup [.tup (ss.map D.int),.tup (fs.map D.int),.int st]
structure FmJ (ss fs:List Int)(st:Int):Prop where
 s:∀ i∈ss,1≤i∧i≤1000
 f:∀ i∈fs,1≤i∧i≤1000
 sl:ss.length≤4
 fl:fs.length≤4
 t:0≤st∧st≤200
 z:fs≠[]→1≤st
def tellJ (ss fs:List Int)(st n:Int):Bool:=decide (n∈ss)||fs.any fun a=>decide (a≤n)&&decide ((n-a) % st=0)
def fndJ (ss fs:List Int)(st top:Int):List Int:=ss.filter (fun i=>decide (i≤top))++fs.flatMap fun a=>rgC a st (rgN a (top+1) st)
theorem rgC_mem {a b k n:Int}(hk:1≤k):n∈rgC a k (rgN a b k)↔(a≤n∧n<b)∧(n-a) % k=0:=by
 unfold rgC rgN
 rw[List.mem_map]
 constructor
 ·rintro ⟨m,hm,rfl⟩
  rw[List.mem_range] at hm
  split at hm
  ·rename_i hab
   have h0:0≤(b-a-1) / k:=Int.ediv_nonneg (by omega) (by omega)
   have h1:(m:Int)≤(b-a-1) / k:=by omega
   have h2:(m:Int)*k≤b-a-1:=(Int.le_ediv_iff_mul_le (by omega)).mp h1
   have h3:0≤(m:Int)*k:=Int.mul_nonneg (by omega) (by omega)
   refine⟨by omega,?_⟩
   rw[show a+(m:Int)*k-a=(m:Int)*k by omega]
   exact Int.mul_emod_left _ _
  ·omega
 ·rintro ⟨⟨h1,h2⟩,h3⟩
  have hd:(n-a) / k*k=n-a:=Int.ediv_mul_cancel (Int.dvd_of_emod_eq_zero h3)
  have h0:0≤(n-a) / k:=Int.ediv_nonneg (by omega) (by omega)
  refine⟨((n-a) / k).toNat,?_,?_⟩
  ·rw[List.mem_range,if_pos (by omega)]
   have h4:(n-a) / k≤(b-a-1) / k:=Int.ediv_le_ediv (by omega) (by omega)
   omega
  ·rw[Int.toNat_of_nonneg h0,hd];omega
theorem fndJ_mem {ss fs:List Int}{st top n:Int}(h:FmJ ss fs st):n∈fndJ ss fs st top↔(1≤n∧n≤top)∧tellJ ss fs st n=true:=by
 unfold fndJ tellJ
 rw[List.mem_append,List.mem_filter,List.mem_flatMap,Bool.or_eq_true,decide_eq_true_eq,decide_eq_true_eq,List.any_eq_true]
 constructor
 ·rintro (⟨h1,h2⟩|⟨a,ha,h1⟩)
  ·exact⟨⟨(h.s n h1).1,h2⟩,.inl h1⟩
  ·have hst:=h.z (List.ne_nil_of_mem ha)
   obtain⟨h2,h3⟩:=(rgC_mem hst).mp h1
   have:=h.f a ha
   exact⟨⟨by omega,by omega⟩,.inr ⟨a,ha,by rw[decide_eq_true h2.1,decide_eq_true h3];rfl⟩⟩
 ·rintro ⟨⟨h1,h2⟩,h3|⟨a,ha,h3⟩⟩
  ·exact .inl ⟨h3,h2⟩
  ·have hst:=h.z (List.ne_nil_of_mem ha)
   rw[Bool.and_eq_true,decide_eq_true_eq,decide_eq_true_eq] at h3
   exact .inr ⟨a,ha,(rgC_mem hst).mpr ⟨⟨h3.1,by omega⟩,h3.2⟩⟩
theorem oneTo_rises (n:Nat):((List.range n).map fun i:Nat=>(1:Int)+i).Pairwise (· < ·):=by
 rw[List.pairwise_map]
 exact List.Pairwise.imp (fun h=>by omega) List.pairwise_lt_range
theorem upto_eq {ss fs:List Int}{st:Int}{top:Nat}(h:FmJ ss fs st):sortN (fndJ ss fs st top)=((List.range top).map fun i:Nat=>(1:Int)+i).filter fun n=>tellJ ss fs st n:=by
 refine risesN_one (sortN_rises _) (List.Pairwise.filter _ (oneTo_rises top)) fun z=>?_
 rw[sortN_mem,fndJ_mem h,List.mem_filter,List.mem_map]
 constructor
 ·rintro ⟨⟨h1,h2⟩,h3⟩
  exact⟨⟨(z-1).toNat,List.mem_range.mpr (by omega),by omega⟩,h3⟩
 ·rintro ⟨⟨i,hi,rfl⟩,h3⟩
  have:=List.mem_range.mp hi
  exact⟨⟨by omega,by omega⟩,h3⟩
theorem rgN_len {a st:Int}{top:Nat}(hs:1≤st)(ha:1≤a):(rgC a st (rgN a ((top:Int)+1) st)).length≤top:=by
 unfold rgC rgN
 rw[List.length_map,List.length_range]
 split
 ·have:((top:Int)+1-a-1) / st≤(top:Int)+1-a-1:=Int.ediv_le_self _ (by omega)
  omega
 ·omega
end DL
namespace K54
open PySem PySem.Spec PyProof.Rows L2 DL
noncomputable section
def topS (i:Nat):Stmt:=PySem.Challenge.pw_smallcount_k54_forms_known.main.body.getD i (.Pass ⟨0,0,0,0⟩)
abbrev s__law_alike:Stmt:=topS 12
abbrev N__law_alike:List Str:=["_law_found","_law_due"]
theorem sc__law_alike:FnScope N__law_alike ["_law_found","_law_due"] (defScope s__law_alike):=⟨rfl,rfl,rfl,by decide +kernel,rfl,by decide +kernel,by decide +kernel⟩
abbrev s__law_bag:Stmt:=topS 10
abbrev N__law_bag:List Str:=["_law_script","_law_cell"]
theorem sc__law_bag:FnScope N__law_bag ["_law_script"] (defScope s__law_bag):=⟨rfl,rfl,rfl,by decide +kernel,rfl,by decide +kernel,by decide +kernel⟩
abbrev s__law_take:Stmt:=topS 11
abbrev N__law_take:List Str:=["_law_bag_here","_law_many","_law_cell","_law_mixed","_law_drawn","_law_early","_law_second"]
theorem sc__law_take:FnScope N__law_take ["_law_bag_here","_law_many"] (defScope s__law_take):=⟨rfl,rfl,rfl,by decide +kernel,rfl,by decide +kernel,by decide +kernel⟩
abbrev s__law_one:Stmt:=topS 13
abbrev N__law_one:List Str:=["_law_bag_here","_law_things"]
theorem sc__law_one:FnScope N__law_one ["_law_bag_here","_law_things"] (defScope s__law_one):=⟨rfl,rfl,rfl,by decide +kernel,rfl,by decide +kernel,by decide +kernel⟩
abbrev s__law_odd_value:Stmt:=topS 19
abbrev N__law_odd_value:List Str:=["_law_bag_here","_law_odd"]
theorem sc__law_odd_value:FnScope N__law_odd_value ["_law_bag_here"] (defScope s__law_odd_value):=⟨rfl,rfl,rfl,by decide +kernel,rfl,by decide +kernel,by decide +kernel⟩
abbrev s__law_bent:Stmt:=topS 20
abbrev N__law_bent:List Str:=["_law_bag_here","_law_thing","_law_at","_law_way","_law_part","_law_spot"]
theorem sc__law_bent:FnScope N__law_bent ["_law_bag_here","_law_thing"] (defScope s__law_bent):=⟨rfl,rfl,rfl,by decide +kernel,rfl,by decide +kernel,by decide +kernel⟩
abbrev s__law_form:Stmt:=topS 15
abbrev N__law_form:List Str:=["_law_bag_here","_law_step","_law_singles","_law_firsts","_law_k"]
theorem sc__law_form:FnScope N__law_form ["_law_bag_here"] (defScope s__law_form):=⟨rfl,rfl,rfl,by decide +kernel,rfl,by decide +kernel,by decide +kernel⟩
abbrev s__law_great_form:Stmt:=topS 21
abbrev N__law_great_form:List Str:=["_law_bag_here","_law_singles","_law_firsts","_law_k"]
theorem sc__law_great_form:FnScope N__law_great_form ["_law_bag_here"] (defScope s__law_great_form):=⟨rfl,rfl,rfl,by decide +kernel,rfl,by decide +kernel,by decide +kernel⟩
abbrev s__law_is_whole:Stmt:=topS 14
abbrev N__law_is_whole:List Str:=["_law_thing"]
theorem sc__law_is_whole:FnScope N__law_is_whole ["_law_thing"] (defScope s__law_is_whole):=⟨rfl,rfl,rfl,by decide +kernel,rfl,by decide +kernel,by decide +kernel⟩
abbrev s__law_are_numbers:Stmt:=topS 17
abbrev N__law_are_numbers:List Str:=["_law_thing","_law_one_here"]
theorem sc__law_are_numbers:FnScope N__law_are_numbers ["_law_thing"] (defScope s__law_are_numbers):=⟨rfl,rfl,rfl,by decide +kernel,rfl,by decide +kernel,by decide +kernel⟩
abbrev s__law_is_form:Stmt:=topS 18
abbrev N__law_is_form:List Str:=["_law_thing"]
theorem sc__law_is_form:FnScope N__law_is_form ["_law_thing"] (defScope s__law_is_form):=⟨rfl,rfl,rfl,by decide +kernel,rfl,by decide +kernel,by decide +kernel⟩
abbrev s__law_tells:Stmt:=topS 16
abbrev N__law_tells:List Str:=["_law_form_here","_law_number","_law_singles","_law_firsts","_law_step","_law_one_here"]
theorem sc__law_tells:FnScope N__law_tells ["_law_form_here","_law_number"] (defScope s__law_tells):=⟨rfl,rfl,rfl,by decide +kernel,rfl,by decide +kernel,by decide +kernel⟩
abbrev s_has:Stmt:=topS 7
abbrev N_has:List Str:=["form","number","singles","firsts","step","first"]
theorem sc_has:FnScope N_has ["form","number"] (defScope s_has):=⟨rfl,rfl,rfl,by decide +kernel,rfl,by decide +kernel,by decide +kernel⟩
abbrev s_is_integer:Stmt:=topS 1
abbrev N_is_integer:List Str:=["thing"]
theorem sc_is_integer:FnScope N_is_integer ["thing"] (defScope s_is_integer):=⟨rfl,rfl,rfl,by decide +kernel,rfl,by decide +kernel,by decide +kernel⟩
abbrev s_are_numbers:Stmt:=topS 5
abbrev N_are_numbers:List Str:=["thing","at","one"]
theorem sc_are_numbers:FnScope N_are_numbers ["thing"] (defScope s_are_numbers):=⟨rfl,rfl,rfl,by decide +kernel,rfl,by decide +kernel,by decide +kernel⟩
abbrev s_is_form:Stmt:=topS 6
abbrev N_is_form:List Str:=["thing"]
theorem sc_is_form:FnScope N_is_form ["thing"] (defScope s_is_form):=⟨rfl,rfl,rfl,by decide +kernel,rfl,by decide +kernel,by decide +kernel⟩
abbrev s_upto:Stmt:=topS 8
abbrev N_upto:List Str:=["form","top","singles","firsts","step","found","first","number"]
theorem sc_upto:FnScope N_upto ["form","top"] (defScope s_upto):=⟨rfl,rfl,rfl,by decide +kernel,rfl,by decide +kernel,by decide +kernel⟩
abbrev s_law:Stmt:=topS 22
abbrev N_law:List Str:=["_law_script","_law_bag_here","_law_k","_law_form_here","_law_thing","_law_again","_law_shown","_law_due","_law_top","_law_told","_law_number","_law_n"]
theorem sc_law:FnScope N_law ["_law_script"] (defScope s_law):=⟨rfl,rfl,rfl,by decide +kernel,rfl,by decide +kernel,by decide +kernel⟩
@[irreducible] def g__law_alike:SM :=
  (gRet (eAnd (eOp dEqA (eVar 0) (eVar 1)) (eOp dEqA (eCB dReprA (aCons (eVar 0) aNil)) (eCB dReprA (aCons (eVar 1) aNil)))))
def F__law_alike:List DV→Mem→Res R:=callD g__law_alike 2 0
theorem e__law_alike:F__law_alike=callD gAlikeA 2 0:=by unfold F__law_alike g__law_alike gAlikeA;try rfl
@[irreducible] def g__law_bag:SM :=
  (gRet (eLst (aCons (eD (.int 0)) (aCons (eD (.int 1234567891)) (aCons (eD (.int 0)) (aCons (eLc (imSeq (eSl (eVar 0) oNone (oSome (eD (.int 63))))) (tgName 1) tmYes (eCB (d1 dAbs) (aCons (eVar 1) aNil)) [1]) aNil))))))
def F__law_bag:List DV→Mem→Res R:=callD g__law_bag 1 1
theorem e__law_bag:F__law_bag=callD gBag 1 1:=by unfold F__law_bag g__law_bag gBag;try rfl
@[irreducible] def g__law_take:SM :=
  (gSeq (gIf (tmB (eOp dEq (eOp dIx (eVar 0) (eD (.int 0))) (eD (.int 0)))) (gSeq (gAsg 2 (eD (.int 0)))
  (gSeq (gIf (tmB (eOp dLt (eOp dIx (eVar 0) (eD (.int 2))) (eCB (d1 dLen) (aCons (eOp dIx (eVar 0) (eD (.int 3))) aNil)))) (gAsg 2 (eOp dIx (eOp dIx (eVar 0) (eD (.int 3))) (eOp dIx (eVar 0) (eD (.int 2))))) gNext)
  (gSeq (gAugS (fun i j=>i+j) (eVar 0) (eD (.int 2)) (eD (.int 1)))
  (gSeq (gIf (tmB (eOp dGe (eVar 2) (eD (.int 1000000000000000000)))) (gSet (eVar 0) (eD (.int 0)) (eVar 2)) gNext)
  (gSeq (gAsg 3 (eOp dAdd (eOp dAdd (eOp dMul (eOp dIx (eVar 0) (eD (.int 1))) (eD (.int 48271))) (eOp dMod (eCB (d1 dInt) (aCons (eVar 2) aNil)) (eD (.int 2147483647)))) (eOp dMul (eD (.int 7919)) (eOp dIx (eVar 0) (eD (.int 2))))))
  (gSet (eVar 0) (eD (.int 1)) (eOp dMod (eCB (d1 dInt) (aCons (eVar 3) aNil)) (eD (.int 2147483647))))))))) gNext)
  (gSeq (gIf (tmB (eOp dGt (eOp dIx (eVar 0) (eD (.int 0))) (eD (.int 0)))) (gSeq (gAsg 4 (eOp dMod (eCB (d1 dInt) (aCons (eOp dIx (eVar 0) (eD (.int 0))) aNil)) (eVar 1)))
  (gSeq (gSet (eVar 0) (eD (.int 0)) (eOp dDivW (eCB (d1 dInt) (aCons (eOp dIx (eVar 0) (eD (.int 0))) aNil)) (eVar 1)))
  (gRet (eVar 4)))) gNext)
  (gSeq (gAsg 5 (eOp dMod (eCB (d1 dInt) (aCons (eOp dMul (eOp dAdd (eOp dIx (eVar 0) (eD (.int 1))) (eD (.int 1))) (eD (.int 39373))) aNil)) (eD (.int 1000000007))))
  (gSeq (gAsg 6 (eOp dMod (eCB (d1 dInt) (aCons (eOp dMul (eOp dMod (eCB (d1 dInt) (aCons (eOp dMul (eVar 5) (eVar 5)) aNil)) (eD (.int 998244353))) (eD (.int 30011))) aNil)) (eD (.int 998244353))))
  (gRet (eOp dMod (eCB (d1 dInt) (aCons (eOp dDivW (eVar 6) (eD (.int 7))) aNil)) (eVar 1)))))))
def F__law_take:List DV→Mem→Res R:=callD g__law_take 2 5
theorem e__law_take:F__law_take=callD gTakeW 2 5:=by unfold F__law_take g__law_take gTakeW;try rfl
@[irreducible] def g__law_one:SM :=
  (gRet (eOp dIx (eVar 1) (eCB F__law_take (aCons (eVar 0) (aCons (eCB (d1 dLen) (aCons (eVar 1) aNil)) aNil)))))
def F__law_one:List DV→Mem→Res R:=callD g__law_one 2 0
theorem w__law_one {a0 a1:DV}{μ:Mem}{Q:R→Mem→Prop}{E:Xc→Mem→Prop}(h:SatS (g__law_one μ.length [some a0,some a1] μ) (endP μ.length Q E)):Sat (F__law_one [a0,a1] μ) Q E:=x_call rfl h
@[irreducible] def g__law_odd_value:SM :=
  (gSeq (gAsg 1 (eLst (aCons (eD .non) (aCons (eD (.bl true)) (aCons (eD (.bl false)) (aCons (eUn dNeg (eD (.int 1))) (aCons (eD (.int 0)) (aCons (eD (.int 1)) (aCons (eD (.int 1000)) (aCons (eD (.int 1001)) (aCons (eD (.int 200)) (aCons (eD (.int 201)) (aCons (eOp dPow (eD (.int 10)) (eD (.int 30))) (aCons (eD (.str "")) (aCons (eD (.str "1")) (aCons (eTup aNil) (aCons (eLst aNil) (aCons (eLk eDNew) (aCons (eTup (aCons (eD (.int 1)) aNil)) (aCons (eTup (aCons (eD (.int 2)) (aCons (eD (.int 1)) aNil))) (aCons (eTup (aCons (eD (.int 1)) (aCons (eD (.int 1)) aNil))) aNil)))))))))))))))))))))
  (gRet (eCB F__law_one (aCons (eVar 0) (aCons (eOp dAdd (eVar 1) (eLst (aCons (eTup (aCons (eTup aNil) aNil)) (aCons (eLst (aCons (eLst (aCons (eLst (aCons (eLst (aCons (eLst (aCons (eLst (aCons (eLst aNil) aNil)) aNil)) aNil)) aNil)) aNil)) aNil)) (aCons (eOp dMulX (eLst (aCons (eD (.int 0)) aNil)) (eD (.int 4000))) (aCons (eTup (aCons (eD (.int 0)) aNil)) (aCons (eTup (aCons (eD (.int 1000)) aNil)) (aCons (eTup (aCons (eD (.int 1001)) aNil)) (aCons (eTup (aCons (eD .non) aNil)) (aCons (eTup (aCons (eD (.bl true)) aNil)) aNil)))))))))) aNil)))))
def F__law_odd_value:List DV→Mem→Res R:=callD g__law_odd_value 1 1
theorem w__law_odd_value {a0:DV}{μ:Mem}{Q:R→Mem→Prop}{E:Xc→Mem→Prop}(h:SatS (g__law_odd_value μ.length [some a0,none] μ) (endP μ.length Q E)):Sat (F__law_odd_value [a0] μ) Q E:=x_call rfl h
@[irreducible] def g__law_bent:SM :=
  (gSeq (gPar 2 3 (aCons (eCB F__law_take (aCons (eVar 0) (aCons (eD (.int 3)) aNil))) (aCons (eCB F__law_take (aCons (eVar 0) (aCons (eD (.int 6)) aNil))) aNil)))
  (gSeq (gIf (tmOr (tmNot (tmB (eUn (dIsi (tabT "tuple" [])) (eVar 1)))) (tmOr (tmB (eOp dNe (eCB dLenA (aCons (eVar 1) aNil)) (eD (.int 3)))) (tmB (eOp dEqA (eVar 3) (eD (.int 0)))))) (gRet (eCB F__law_odd_value (aCons (eVar 0) aNil))) gNext)
  (gSeq (gIf (tmB (eOp dEqA (eVar 3) (eD (.int 1)))) (gRet (eOp dIxA (eLst (aCons (eCB dListA (aCons (eVar 1) aNil)) (aCons (eSl (eVar 1) oNone (oSome (eD (.int 2)))) (aCons (eOp dAdd (eVar 1) (eTup (aCons (eD (.int 0)) aNil))) (aCons (eRv (eVar 1) (eUn dNeg (eD (.int 1)))) aNil))))) (eCB F__law_take (aCons (eVar 0) (aCons (eD (.int 4)) aNil))))) gNext)
  (gSeq (gAsg 4 (eOp dIxA (eVar 1) (eVar 2)))
  (gSeq (gIf (tmOr (tmB (eOp dLt (eVar 3) (eD (.int 4)))) (tmOr (tmNot (tmB (eUn (dIsi (tabT "tuple" [])) (eVar 4)))) (tmB (eOp (dNil true) (eVar 4) (eTup aNil))))) (gRet (eOp dAdd (eOp dAdd (eSl (eVar 1) oNone (oSome (eVar 2))) (eTup (aCons (eCB F__law_odd_value (aCons (eVar 0) aNil)) aNil))) (eSl (eVar 1) (oSome (eOp dAdd (eVar 2) (eD (.int 1)))) oNone))) gNext)
  (gSeq (gAsg 5 (eCB F__law_take (aCons (eVar 0) (aCons (eCB dLenA (aCons (eVar 4) aNil)) aNil))))
  (gSeq (gAsg 4 (eOp dIxA (eLst (aCons (eOp dAdd (eOp dAdd (eSl (eVar 4) oNone (oSome (eVar 5))) (eTup (aCons (eCB F__law_odd_value (aCons (eVar 0) aNil)) aNil))) (eSl (eVar 4) (oSome (eOp dAdd (eVar 5) (eD (.int 1)))) oNone)) (aCons (eOp dAdd (eVar 4) (eSl (eVar 4) oNone (oSome (eD (.int 1))))) (aCons (eCB dListA (aCons (eVar 4) aNil)) aNil)))) (eCB F__law_take (aCons (eVar 0) (aCons (eD (.int 3)) aNil)))))
  (gRet (eOp dAdd (eOp dAdd (eSl (eVar 1) oNone (oSome (eVar 2))) (eTup (aCons (eVar 4) aNil))) (eSl (eVar 1) (oSome (eOp dAdd (eVar 2) (eD (.int 1)))) oNone))))))))))
def F__law_bent:List DV→Mem→Res R:=callD g__law_bent 2 4
theorem w__law_bent {a0 a1:DV}{μ:Mem}{Q:R→Mem→Prop}{E:Xc→Mem→Prop}(h:SatS (g__law_bent μ.length [some a0,some a1,none,none,none,none] μ) (endP μ.length Q E)):Sat (F__law_bent [a0,a1] μ) Q E:=x_call rfl h
@[irreducible] def g__law_form:SM :=
  (gSeq (gAsg 1 (eOp dIxA (eLst (aCons (eD (.int 0)) (aCons (eD (.int 1)) (aCons (eD (.int 2)) (aCons (eD (.int 3)) (aCons (eD (.int 4)) (aCons (eD (.int 6)) (aCons (eD (.int 12)) aNil)))))))) (eCB F__law_take (aCons (eVar 0) (aCons (eD (.int 7)) aNil)))))
  (gSeq (gAsg 2 (eSortSetN (eLc (imRng (aCons (eCB F__law_take (aCons (eVar 0) (aCons (eD (.int 5)) aNil))) aNil)) (tgName 4) tmYes (eOp dAdd (eD (.int 1)) (eCB F__law_take (aCons (eVar 0) (aCons (eD (.int 20)) aNil)))) [4])))
  (gSeq (gAsg 3 (eSortSetN (eLc (imRng (aCons (eOp dMul (eCB (d1 dInt) (aCons (eOp dGt (eVar 1) (eD (.int 0))) aNil)) (eOp dAdd (eD (.int 1)) (eCB F__law_take (aCons (eVar 0) (aCons (eD (.int 4)) aNil))))) aNil)) (tgName 4) tmYes (eOp dAdd (eD (.int 1)) (eCB F__law_take (aCons (eVar 0) (aCons (eD (.int 20)) aNil)))) [4])))
  (gRet (eTup (aCons (eCB (d1 dTuple) (aCons (eVar 2) aNil)) (aCons (eCB (d1 dTuple) (aCons (eVar 3) aNil)) (aCons (eVar 1) aNil))))))))
def F__law_form:List DV→Mem→Res R:=callD g__law_form 1 4
theorem w__law_form {a0:DV}{μ:Mem}{Q:R→Mem→Prop}{E:Xc→Mem→Prop}(h:SatS (g__law_form μ.length [some a0,none,none,none,none] μ) (endP μ.length Q E)):Sat (F__law_form [a0] μ) Q E:=x_call rfl h
@[irreducible] def g__law_great_form:SM :=
  (gSeq (gAsg 1 (eSortSetN (eLc (imRng (aCons (eCB F__law_take (aCons (eVar 0) (aCons (eD (.int 4)) aNil))) aNil)) (tgName 3) tmYes (eOp dAdd (eD (.int 1)) (eCB F__law_take (aCons (eVar 0) (aCons (eD (.int 1000)) aNil)))) [3])))
  (gSeq (gAsg 2 (eSortSetN (eLc (imRng (aCons (eOp dAdd (eD (.int 1)) (eCB F__law_take (aCons (eVar 0) (aCons (eD (.int 3)) aNil)))) aNil)) (tgName 3) tmYes (eOp dAdd (eD (.int 1)) (eCB F__law_take (aCons (eVar 0) (aCons (eD (.int 1000)) aNil)))) [3])))
  (gRet (eTup (aCons (eCB (d1 dTuple) (aCons (eVar 1) aNil)) (aCons (eCB (d1 dTuple) (aCons (eVar 2) aNil)) (aCons (eOp dAdd (eD (.int 1)) (eCB F__law_take (aCons (eVar 0) (aCons (eD (.int 200)) aNil)))) aNil)))))))
def F__law_great_form:List DV→Mem→Res R:=callD g__law_great_form 1 3
theorem w__law_great_form {a0:DV}{μ:Mem}{Q:R→Mem→Prop}{E:Xc→Mem→Prop}(h:SatS (g__law_great_form μ.length [some a0,none,none,none] μ) (endP μ.length Q E)):Sat (F__law_great_form [a0] μ) Q E:=x_call rfl h
@[irreducible] def g__law_is_whole:SM :=
  (gRet (eAnd (eUn (dIsi (tabT "int" [])) (eVar 0)) (eNot (eUn (dIsi (tabT "bool" [])) (eVar 0)))))
def F__law_is_whole:List DV→Mem→Res R:=callD g__law_is_whole 1 0
theorem w__law_is_whole {a0:DV}{μ:Mem}{Q:R→Mem→Prop}{E:Xc→Mem→Prop}(h:SatS (g__law_is_whole μ.length [some a0] μ) (endP μ.length Q E)):Sat (F__law_is_whole [a0] μ) Q E:=x_call rfl h
@[irreducible] def g__law_are_numbers:SM :=
  (gSeq (gIf (tmOr (tmNot (tmB (eUn (dIsi (tabT "tuple" [])) (eVar 0)))) (tmB (eOp (dNil false) (eLc (imSeq (eVar 0)) (tgName 1) (tmNot (tmB (eCB F__law_is_whole (aCons (eVar 1) aNil)))) (eVar 1) [1]) (eLst aNil)))) (gRet (eD (.bl false))) gNext)
  (gRet (eAnd (eOp dEqA (eCB dListA (aCons (eVar 0) aNil)) (eSortSetN (eVar 0))) (eOp (dNil true) (eLc (imSeq (eVar 0)) (tgName 1) (tmNot (tmB (eChain dLe dLe (eD (.int 1)) (eVar 1) (eD (.int 1000))))) (eVar 1) [1]) (eLst aNil)))))
def F__law_are_numbers:List DV→Mem→Res R:=callD g__law_are_numbers 1 1
theorem w__law_are_numbers {a0:DV}{μ:Mem}{Q:R→Mem→Prop}{E:Xc→Mem→Prop}(h:SatS (g__law_are_numbers μ.length [some a0,none] μ) (endP μ.length Q E)):Sat (F__law_are_numbers [a0] μ) Q E:=x_call rfl h
@[irreducible] def g__law_is_form:SM :=
  (gSeq (gIf (tmOr (tmNot (tmB (eUn (dIsi (tabT "tuple" [])) (eVar 0)))) (tmOr (tmB (eOp dNe (eCB dLenA (aCons (eVar 0) aNil)) (eD (.int 3)))) (tmNot (tmB (eCB F__law_are_numbers (aCons (eOp dIxA (eVar 0) (eD (.int 0))) aNil)))))) (gRet (eD (.bl false))) gNext)
  (gSeq (gIf (tmOr (tmNot (tmB (eCB F__law_are_numbers (aCons (eOp dIxA (eVar 0) (eD (.int 1))) aNil)))) (tmOr (tmNot (tmB (eCB F__law_is_whole (aCons (eOp dIxA (eVar 0) (eD (.int 2))) aNil)))) (tmNot (tmB (eChain dLe dLe (eD (.int 0)) (eOp dIxA (eVar 0) (eD (.int 2))) (eD (.int 200))))))) (gRet (eD (.bl false))) gNext)
  (gRet (eOp dEqA (eOp dEqA (eOp dIxA (eVar 0) (eD (.int 2))) (eD (.int 0))) (eOp dEqA (eCB dLenA (aCons (eOp dIxA (eVar 0) (eD (.int 1))) aNil)) (eD (.int 0)))))))
def F__law_is_form:List DV→Mem→Res R:=callD g__law_is_form 1 0
theorem w__law_is_form {a0:DV}{μ:Mem}{Q:R→Mem→Prop}{E:Xc→Mem→Prop}(h:SatS (g__law_is_form μ.length [some a0] μ) (endP μ.length Q E)):Sat (F__law_is_form [a0] μ) Q E:=x_call rfl h
@[irreducible] def g__law_tells:SM :=
  (gSeq (gTgt (tgTup 3 (tgCons (tgName 2) (tgCons (tgName 3) (tgCons (tgName 4) tgNil)))) (eVar 0))
  (gSeq (gIf (tmB (eOp (dInA false) (eVar 1) (eVar 2))) (gRet (eD (.bl true))) gNext)
  (gRet (eOp (dNil false) (eLc (imSeq (eVar 3)) (tgName 5) (tmAnd (tmB (eOp dGe (eVar 1) (eVar 5))) (tmB (eOp dEqA (eOp dMod (eCB (d1 dInt) (aCons (eOp dSub (eVar 1) (eVar 5)) aNil)) (eVar 4)) (eD (.int 0))))) (eVar 5) [5]) (eLst aNil)))))
def F__law_tells:List DV→Mem→Res R:=callD g__law_tells 2 4
theorem w__law_tells {a0 a1:DV}{μ:Mem}{Q:R→Mem→Prop}{E:Xc→Mem→Prop}(h:SatS (g__law_tells μ.length [some a0,some a1,none,none,none,none] μ) (endP μ.length Q E)):Sat (F__law_tells [a0,a1] μ) Q E:=x_call rfl h
@[irreducible] def g_has:SM :=
  (gSeq (gTgt (tgTup 3 (tgCons (tgName 2) (tgCons (tgName 3) (tgCons (tgName 4) tgNil)))) (eVar 0))
  (gRet (eOr (eOp (dInA false) (eVar 1) (eVar 2)) (eCB (d1 (dAll fun bs=>bs.any id)) (aCons (eLc (imSeq (eVar 3)) (tgName 5) tmYes (eAnd (eOp dGe (eVar 1) (eVar 5)) (eOp dEqA (eOp dMod (eOp dSub (eVar 1) (eVar 5)) (eVar 4)) (eD (.int 0)))) [5]) aNil)))))
def F_has:List DV→Mem→Res R:=callD g_has 2 4
theorem w_has {a0 a1:DV}{μ:Mem}{Q:R→Mem→Prop}{E:Xc→Mem→Prop}(h:SatS (g_has μ.length [some a0,some a1,none,none,none,none] μ) (endP μ.length Q E)):Sat (F_has [a0,a1] μ) Q E:=x_call rfl h
@[irreducible] def g_is_integer:SM :=
  (gRet (eAnd (eUn (dIsi (tabT "int" [])) (eVar 0)) (eNot (eUn (dIsi (tabT "bool" [])) (eVar 0)))))
def F_is_integer:List DV→Mem→Res R:=callD g_is_integer 1 0
theorem w_is_integer {a0:DV}{μ:Mem}{Q:R→Mem→Prop}{E:Xc→Mem→Prop}(h:SatS (g_is_integer μ.length [some a0] μ) (endP μ.length Q E)):Sat (F_is_integer [a0] μ) Q E:=x_call rfl h
@[irreducible] def g_are_numbers:SM :=
  (gSeq (gIf (tmOr (tmNot (tmB (eUn (dIsi (tabT "tuple" [])) (eVar 0)))) (tmNot (tmB (eCB (d1 (dAll fun bs=>bs.all id)) (aCons (eLc (imSeq (eVar 0)) (tgName 2) tmYes (eAnd (eCB F_is_integer (aCons (eVar 2) aNil)) (eChain dLe dLe (eD (.int 1)) (eVar 2) (eD (.int 1000)))) [2]) aNil))))) (gRet (eD (.bl false))) gNext)
  (gRet (eCB (d1 (dAll fun bs=>bs.all id)) (aCons (eLc (imRng (aCons (eOp dSub (eCB dLenA (aCons (eVar 0) aNil)) (eD (.int 1))) aNil)) (tgName 1) tmYes (eOp dLt (eOp dIxA (eVar 0) (eVar 1)) (eOp dIxA (eVar 0) (eOp dAdd (eVar 1) (eD (.int 1))))) [1]) aNil))))
def F_are_numbers:List DV→Mem→Res R:=callD g_are_numbers 1 2
theorem w_are_numbers {a0:DV}{μ:Mem}{Q:R→Mem→Prop}{E:Xc→Mem→Prop}(h:SatS (g_are_numbers μ.length [some a0,none,none] μ) (endP μ.length Q E)):Sat (F_are_numbers [a0] μ) Q E:=x_call rfl h
@[irreducible] def g_is_form:SM :=
  (gSeq (gIf (tmOr (tmNot (tmB (eUn (dIsi (tabT "tuple" [])) (eVar 0)))) (tmOr (tmB (eOp dNe (eCB dLenA (aCons (eVar 0) aNil)) (eD (.int 3)))) (tmOr (tmNot (tmB (eCB F_are_numbers (aCons (eOp dIxA (eVar 0) (eD (.int 0))) aNil)))) (tmNot (tmB (eCB F_are_numbers (aCons (eOp dIxA (eVar 0) (eD (.int 1))) aNil))))))) (gRet (eD (.bl false))) gNext)
  (gSeq (gIf (tmOr (tmNot (tmB (eCB F_is_integer (aCons (eOp dIxA (eVar 0) (eD (.int 2))) aNil)))) (tmNot (tmB (eChain dLe dLe (eD (.int 0)) (eOp dIxA (eVar 0) (eD (.int 2))) (eD (.int 200)))))) (gRet (eD (.bl false))) gNext)
  (gRet (eOp dEqA (eOp dEqA (eOp dIxA (eVar 0) (eD (.int 2))) (eD (.int 0))) (eOp (dNil true) (eOp dIxA (eVar 0) (eD (.int 1))) (eTup aNil))))))
def F_is_form:List DV→Mem→Res R:=callD g_is_form 1 0
theorem w_is_form {a0:DV}{μ:Mem}{Q:R→Mem→Prop}{E:Xc→Mem→Prop}(h:SatS (g_is_form μ.length [some a0] μ) (endP μ.length Q E)):Sat (F_is_form [a0] μ) Q E:=x_call rfl h
@[irreducible] def b_upto_1:SM :=
  (gDrop (eBM tyL dExtend (eVar 5) (aCons (eListRg3 (aCons (eVar 6) (aCons (eOp dAdd (eVar 1) (eD (.int 1))) (aCons (eVar 4) aNil)))) aNil)))
@[irreducible] def g_upto:SM :=
  (gSeq (gTgt (tgTup 3 (tgCons (tgName 2) (tgCons (tgName 3) (tgCons (tgName 4) tgNil)))) (eVar 0))
  (gSeq (gNew 5 (eLc (imSeq (eVar 2)) (tgName 7) (tmB (eOp dLe (eVar 7) (eVar 1))) (eVar 7) [7]))
  (gSeq (gFor [true,true,true,true,true,true,false,false] (imSeq (eVar 3)) (tgName 6) b_upto_1)
  (gRet (eSortSetN (eVar 5))))))
def F_upto:List DV→Mem→Res R:=callD g_upto 2 6
theorem w_upto {a0 a1:DV}{μ:Mem}{Q:R→Mem→Prop}{E:Xc→Mem→Prop}(h:SatS (g_upto μ.length [some a0,some a1,none,none,none,none,none,none] μ) (endP μ.length Q E)):Sat (F_upto [a0,a1] μ) Q E:=x_call rfl h
@[irreducible] def b_law_1:SM :=
  (gAsg 4 (eCB F__law_bent (aCons (eVar 1) (aCons (eVar 4) aNil))))
@[irreducible] def b_law_2:SM :=
  (gIf (tmOr (tmNot (tmB (eCB F__law_alike (aCons (eCB F_is_form (aCons (eVar 4) aNil)) (aCons (eVar 7) aNil))))) (tmB (eOp dNe (eCB dReprA (aCons (eVar 4) aNil)) (eVar 6)))) (gRet (eD (.bl false))) gNext)
@[irreducible] def b_law_3:SM :=
  (gIf (tmNot (tmB (eCB F__law_alike (aCons (eCB F_has (aCons (eVar 3) (aCons (eVar 10) aNil))) (aCons (eAnd (eOp dGt (eVar 10) (eD (.int 0))) (eCB F__law_tells (aCons (eVar 3) (aCons (eVar 10) aNil)))) aNil))))) (gRet (eD (.bl false))) gNext)
@[irreducible] def b_law_4:SM :=
  (gSeq (gAsg 3 (eIf (tmB (eOp dGt (eCB F__law_take (aCons (eVar 1) (aCons (eD (.int 3)) aNil))) (eD (.int 0)))) (eCB F__law_form (aCons (eVar 1) aNil)) (eCB F__law_great_form (aCons (eVar 1) aNil))))
  (gSeq (gAsg 4 (eVar 3))
  (gSeq (gFor [true,true,true,true,true,false,false,false,false,false,false,false] (imRng (aCons (eCB F__law_take (aCons (eVar 1) (aCons (eD (.int 3)) aNil))) aNil)) (tgName 5) b_law_1)
  (gSeq (gPar 6 7 (aCons (eCB dReprA (aCons (eVar 4) aNil)) (aCons (eCB F__law_is_form (aCons (eVar 4) aNil)) aNil)))
  (gSeq (gFor [true,true,true,true,true,false,true,true,false,false,false,false] (imRng (aCons (eD (.int 2)) aNil)) (tgName 5) b_law_2)
  (gSeq (gAsg 8 (eOp dIxA (eLst (aCons (eD (.int 0)) (aCons (eD (.int 1)) (aCons (eCB F__law_take (aCons (eVar 1) (aCons (eD (.int 60)) aNil))) (aCons (eD (.int 20)) (aCons (eOp dAdd (eD (.int 900)) (eCB F__law_take (aCons (eVar 1) (aCons (eD (.int 200)) aNil)))) aNil)))))) (eCB F__law_take (aCons (eVar 1) (aCons (eD (.int 5)) aNil)))))
  (gSeq (gAsg 9 (eCB F_upto (aCons (eVar 3) (aCons (eVar 8) aNil))))
  (gSeq (gIf (tmNot (tmB (eCB F__law_alike (aCons (eVar 9) (aCons (eLc (imRng2 (aCons (eD (.int 1)) (aCons (eOp dAdd (eVar 8) (eD (.int 1))) aNil))) (tgName 11) (tmB (eCB F__law_tells (aCons (eVar 3) (aCons (eVar 11) aNil)))) (eVar 11) [11]) aNil))))) (gRet (eD (.bl false))) gNext)
  (gFor [true,true,true,true,true,false,true,true,true,true,false,false] (imSeq (eLst (aCons (eD (.int 0)) (aCons (eUn dNeg (eD (.int 5))) (aCons (eD (.int 1)) (aCons (eCB F__law_take (aCons (eVar 1) (aCons (eD (.int 60)) aNil))) (aCons (eCB F__law_take (aCons (eVar 1) (aCons (eD (.int 1400)) aNil))) (aCons (eCB F__law_take (aCons (eVar 1) (aCons (eOp dPow (eD (.int 10)) (eD (.int 30))) aNil))) aNil)))))))) (tgName 10) b_law_3)))))))))
@[irreducible] def g_law:SM :=
  (gSeq (gNew 1 (eCB F__law_bag (aCons (eVar 0) aNil)))
  (gSeq (gFor [true,true,false,false,false,false,false,false,false,false,false,false] (imRng (aCons (eD (.int 30)) aNil)) (tgName 2) b_law_4)
  (gSeq (gTgt (tgTup 2 (tgCons (tgName 3) (tgCons (tgName 8) tgNil))) (eTup (aCons (eCB F__law_form (aCons (eVar 1) aNil)) (aCons (eOp dAdd (eD (.int 1000)) (eCB F__law_take (aCons (eVar 1) (aCons (eD (.int 1001)) aNil)))) aNil))))
  (gRet (eCB F__law_alike (aCons (eCB F_upto (aCons (eVar 3) (aCons (eVar 8) aNil))) (aCons (eLc (imRng2 (aCons (eD (.int 1)) (aCons (eOp dAdd (eVar 8) (eD (.int 1))) aNil))) (tgName 11) (tmB (eCB F__law_tells (aCons (eVar 3) (aCons (eVar 11) aNil)))) (eVar 11) [11]) aNil)))))))
def F_law:List DV→Mem→Res R:=callD g_law 1 11
theorem w_law {a0:DV}{μ:Mem}{Q:R→Mem→Prop}{E:Xc→Mem→Prop}(h:SatS (g_law μ.length [some a0,none,none,none,none,none,none,none,none,none,none,none] μ) (endP μ.length Q E)):Sat (F_law [a0] μ) Q E:=x_call rfl h
structure Tx (P:Program)(w:World)(K:PySem.W.Frag)(mg:Str→Option Value) :Prop where
 m_abs:mg "abs"=none
 m_all:mg "all"=none
 m_any:mg "any"=none
 m_bool:mg "bool"=none
 m_int:mg "int"=none
 m_isinstance:mg "isinstance"=none
 m_len:mg "len"=none
 m_list:mg "list"=none
 m_range:mg "range"=none
 m_repr:mg "repr"=none
 m_set:mg "set"=none
 m_sorted:mg "sorted"=none
 m_tuple:mg "tuple"=none
 g_MOST_NUMBER:∃ t,mg "MOST_NUMBER"=some (.int 1000 t)
 g_MOST_STEP:∃ t,mg "MOST_STEP"=some (.int 200 t)
 iT_bool:TabOk K (tabT "bool" []) fun t b=>PySem.W.kitOne K t (.type "bool")=some b
 iT_int:TabOk K (tabT "int" []) fun t b=>PySem.W.kitOne K t (.type "int")=some b
 iT_tuple:TabOk K (tabT "tuple" []) fun t b=>PySem.W.kitOne K t (.type "tuple")=some b
section
variable {P:Program}{w:World}{K:PySem.W.Frag}{mg:Str→Option Value}{base:Heap}
set_option maxHeartbeats 4000000 in
theorem ok__law_alike {f:Addr} {fd:FuncData} (F:Fun K "_law_alike" "_law_alike" s__law_alike f fd) (hm:mg "_law_alike"=some (.ref f)) (T:Tx P w K mg ) :FnD P w K mg base CX0 1 "_law_alike" 2 F__law_alike:=by
 refine fn_ok F sc__law_alike hm rfl rfl (fun _ _ _ _ _ _ us hl=>match us,hl with | [_,_],_=>rfl) fun cdv A out s H E hr hgd=>?_
 have nd:=(sc__law_alike).nd
 unfold g__law_alike
 exact Exists.intro _ (ss_one (sm_ret (pm_and (pm_cmpK (op_eqA K hr.units) (od_eqA (K:=K)) (pm_var 0) (pm_var 1) (nomark _)) (pm_one (pm_cmpK (op_eqA K hr.units) (od_eqA (K:=K)) (pm_cbK (cr_reprA K hr hgd) (cd_reprA (K:=K)) (by rfl) T.m_repr (by decide +kernel) (pma_cons (pm_var 0) pma_nil)) (pm_cbK (cr_reprA K hr hgd) (cd_reprA (K:=K)) (by rfl) T.m_repr (by decide +kernel) (pma_cons (pm_var 1) pma_nil)) (nomark _))))))
set_option maxHeartbeats 4000000 in
theorem ok__law_bag {f:Addr} {fd:FuncData} (F:Fun K "_law_bag" "_law_bag" s__law_bag f fd) (hm:mg "_law_bag"=some (.ref f)) (T:Tx P w K mg ) :FnD P w K mg base CX0 1 "_law_bag" 1 F__law_bag:=by
 refine fn_ok F sc__law_bag hm rfl rfl (fun _ _ _ _ _ _ us hl=>match us,hl with | [_],_=>rfl) fun cdv A out s H E hr hgd=>?_
 have nd:=(sc__law_bag).nd
 unfold g__law_bag
 exact Exists.intro _ (ss_one (sm_ret (pm_lst (pma_cons pm_int (pma_cons pm_int (pma_cons pm_int (pma_cons (pm_lc (own:=[("_law_cell",1)]) rfl nd (mi_seqK K (pm_slK K (pm_var 0) mo_none (mo_some pm_int))) (blkOk_by (N:=N__law_bag) (sc:=defScope s__law_bag) (by decide +kernel)) (fun _ _ _ _ _=>(pg_nm 1 nd)) (by decide) (fun _ _ _ _ _=>ts_nil) (fun _ _ _ _ _=>(pm_cbK call_abs (cd_abs (K:=K)) (by rfl) T.m_abs (by decide +kernel) (pma_cons (pm_var 1) pma_nil)))) pma_nil)))))))
set_option maxHeartbeats 4000000 in
theorem ok__law_take {f:Addr} {fd:FuncData} (F:Fun K "_law_take" "_law_take" s__law_take f fd) (hm:mg "_law_take"=some (.ref f)) (T:Tx P w K mg ) :FnD P w K mg base CX0 1 "_law_take" 2 F__law_take:=by
 refine fn_ok F sc__law_take hm rfl rfl (fun _ _ _ _ _ _ us hl=>match us,hl with | [_,_],_=>rfl) fun cdv A out s H E hr hgd=>?_
 have nd:=(sc__law_take).nd
 unfold g__law_take
 exact Exists.intro _ (ss_cons (sm_if (pt_cmpK (op_eqK K hr.units) (od_eq (K:=K)) (pm_idxK K (pm_var 0) pm_int (fun _ _=>rfl)) pm_int (nomark _)) (ss_cons (sm_asg 2 nd pm_int)
   (ss_cons (sm_if (pt_cmpK op_lt (od_lt (K:=K)) (pm_idxK K (pm_var 0) pm_int (fun _ _=>rfl)) (pm_cbK (call_lenK K) (cd_len (K:=K)) (by rfl) T.m_len PySem.boot_len (pma_cons (pm_idxK K (pm_var 0) pm_int (fun _ _=>rfl)) pma_nil)) (nomark _)) (ss_one (sm_asg 2 nd (pm_idxK K (pm_idxK K (pm_var 0) pm_int (fun _ _=>rfl)) (pm_idxK K (pm_var 0) pm_int (fun _ _=>rfl)) (fun _ _=>rfl)))) ss_nil)
   (ss_cons (sm_augSK K (pm_var 0) pm_int pm_int)
   (ss_cons (sm_if (pt_cmpK op_ge (od_ge (K:=K)) (pm_var 2) pm_int (nomark _)) (ss_one (sm_set (pm_var 0) pm_int (pm_var 2))) ss_nil)
   (ss_cons (sm_asg 3 nd (pm_addK K (pm_addK K (pm_mul (pm_idxK K (pm_var 0) pm_int (fun _ _=>rfl)) pm_int) (pm_mod (pm_ctK call_int1 (cd_int (K:=K)) (by rfl) T.m_int (by decide +kernel) (pma_cons (pm_var 2) pma_nil)) pm_int)) (pm_mul pm_int (pm_idxK K (pm_var 0) pm_int (fun _ _=>rfl)))))
   (ss_one (sm_set (pm_var 0) pm_int (pm_mod (pm_ctK call_int1 (cd_int (K:=K)) (by rfl) T.m_int (by decide +kernel) (pma_cons (pm_var 3) pma_nil)) pm_int)))))))) ss_nil)
   (ss_cons (sm_if (pt_cmpK op_gt (od_gt (K:=K)) (pm_idxK K (pm_var 0) pm_int (fun _ _=>rfl)) pm_int (nomark _)) (ss_cons (sm_asg 4 nd (pm_mod (pm_ctK call_int1 (cd_int (K:=K)) (by rfl) T.m_int (by decide +kernel) (pma_cons (pm_idxK K (pm_var 0) pm_int (fun _ _=>rfl)) pma_nil)) (pm_var 1)))
   (ss_cons (sm_set (pm_var 0) pm_int (pm_divW (pm_ctK call_int1 (cd_int (K:=K)) (by rfl) T.m_int (by decide +kernel) (pma_cons (pm_idxK K (pm_var 0) pm_int (fun _ _=>rfl)) pma_nil)) (pm_var 1)))
   (ss_one (sm_ret (pm_var 4))))) ss_nil)
   (ss_cons (sm_asg 5 nd (pm_mod (pm_ctK call_int1 (cd_int (K:=K)) (by rfl) T.m_int (by decide +kernel) (pma_cons (pm_mul (pm_addK K (pm_idxK K (pm_var 0) pm_int (fun _ _=>rfl)) pm_int) pm_int) pma_nil)) pm_int))
   (ss_cons (sm_asg 6 nd (pm_mod (pm_ctK call_int1 (cd_int (K:=K)) (by rfl) T.m_int (by decide +kernel) (pma_cons (pm_mul (pm_mod (pm_ctK call_int1 (cd_int (K:=K)) (by rfl) T.m_int (by decide +kernel) (pma_cons (pm_mul (pm_var 5) (pm_var 5)) pma_nil)) pm_int) pm_int) pma_nil)) pm_int))
   (ss_one (sm_ret (pm_mod (pm_ctK call_int1 (cd_int (K:=K)) (by rfl) T.m_int (by decide +kernel) (pma_cons (pm_divW (pm_var 6) pm_int) pma_nil)) (pm_var 1))))))))
set_option maxHeartbeats 4000000 in
theorem ok__law_one {f:Addr} {fd:FuncData} (F:Fun K "_law_one" "_law_one" s__law_one f fd) (hm:mg "_law_one"=some (.ref f)) (T:Tx P w K mg ) (C__law_take:FnD P w K mg base CX0 1 "_law_take" 2 F__law_take):FnD P w K mg base CX0 2 "_law_one" 2 F__law_one:=by
 refine fn_ok F sc__law_one hm rfl rfl (fun _ _ _ _ _ _ us hl=>match us,hl with | [_,_],_=>rfl) fun cdv A out s H E hr hgd=>?_
 have nd:=(sc__law_one).nd
 unfold g__law_one
 exact Exists.intro _ (ss_one (sm_ret (pm_idxK K (pm_var 1) (pm_callK C__law_take (hr.mono (by decide)) hgd rfl pass_0 (pma_cons (pm_var 0) (pma_cons (pm_cbK (call_lenK K) (cd_len (K:=K)) (by rfl) T.m_len PySem.boot_len (pma_cons (pm_var 1) pma_nil)) pma_nil))) (fun _ _=>rfl))))
set_option maxHeartbeats 4000000 in
theorem ok__law_odd_value {f:Addr} {fd:FuncData} (F:Fun K "_law_odd_value" "_law_odd_value" s__law_odd_value f fd) (hm:mg "_law_odd_value"=some (.ref f)) (T:Tx P w K mg ) (C__law_one:FnD P w K mg base CX0 2 "_law_one" 2 F__law_one):FnD P w K mg base CX0 3 "_law_odd_value" 1 F__law_odd_value:=by
 refine fn_ok F sc__law_odd_value hm rfl rfl (fun _ _ _ _ _ _ us hl=>match us,hl with | [_],_=>rfl) fun cdv A out s H E hr hgd=>?_
 have nd:=(sc__law_odd_value).nd
 unfold g__law_odd_value
 exact Exists.intro _ (ss_cons (sm_asg 1 nd (pm_lst (pma_cons pm_non (pma_cons pm_bl (pma_cons pm_bl (pma_cons (pm_neg pm_int) (pma_cons pm_int (pma_cons pm_int (pma_cons pm_int (pma_cons pm_int (pma_cons pm_int (pma_cons pm_int (pma_cons (pm_op op_pow (od_pow (K:=K)) pm_int pm_int) (pma_cons pm_str (pma_cons pm_str (pma_cons (pm_tup pma_nil) (pma_cons (pm_lst pma_nil) (pma_cons (pm_lk pm_dnew) (pma_cons (pm_tup (pma_cons pm_int pma_nil)) (pma_cons (pm_tup (pma_cons pm_int (pma_cons pm_int pma_nil))) (pma_cons (pm_tup (pma_cons pm_int (pma_cons pm_int pma_nil))) pma_nil)))))))))))))))))))))
   (ss_one (sm_ret (pm_callK C__law_one (hr.mono (by decide)) hgd rfl pass_0 (pma_cons (pm_var 0) (pma_cons (pm_addK K (pm_var 1) (pm_lst (pma_cons (pm_tup (pma_cons (pm_tup pma_nil) pma_nil)) (pma_cons (pm_lst (pma_cons (pm_lst (pma_cons (pm_lst (pma_cons (pm_lst (pma_cons (pm_lst (pma_cons (pm_lst (pma_cons (pm_lst pma_nil) pma_nil)) pma_nil)) pma_nil)) pma_nil)) pma_nil)) pma_nil)) (pma_cons (pm_mulX (pm_lst (pma_cons pm_int pma_nil)) pm_int) (pma_cons (pm_tup (pma_cons pm_int pma_nil)) (pma_cons (pm_tup (pma_cons pm_int pma_nil)) (pma_cons (pm_tup (pma_cons pm_int pma_nil)) (pma_cons (pm_tup (pma_cons pm_non pma_nil)) (pma_cons (pm_tup (pma_cons pm_bl pma_nil)) pma_nil)))))))))) pma_nil))))))
set_option maxHeartbeats 4000000 in
theorem ok__law_bent {f:Addr} {fd:FuncData} (F:Fun K "_law_bent" "_law_bent" s__law_bent f fd) (hm:mg "_law_bent"=some (.ref f)) (T:Tx P w K mg ) (C__law_odd_value:FnD P w K mg base CX0 3 "_law_odd_value" 1 F__law_odd_value) (C__law_take:FnD P w K mg base CX0 1 "_law_take" 2 F__law_take):FnD P w K mg base CX0 4 "_law_bent" 2 F__law_bent:=by
 refine fn_ok F sc__law_bent hm rfl rfl (fun _ _ _ _ _ _ us hl=>match us,hl with | [_,_],_=>rfl) fun cdv A out s H E hr hgd=>?_
 have nd:=(sc__law_bent).nd
 unfold g__law_bent
 exact Exists.intro _ (ss_cons (sm_par 2 3 rfl nd (pma_cons (pm_callK C__law_take (hr.mono (by decide)) hgd rfl pass_0 (pma_cons (pm_var 0) (pma_cons pm_int pma_nil))) (pma_cons (pm_callK C__law_take (hr.mono (by decide)) hgd rfl pass_0 (pma_cons (pm_var 0) (pma_cons pm_int pma_nil))) pma_nil)))
   (ss_cons (sm_if (PMW.t (w_or (pt_no (pt_of (pm_isi K rfl T.m_isinstance (.ty "tuple") T.iT_tuple (pm_var 1) (pe_tyN rfl T.m_tuple (by decide +kernel))))) (w_or (pt_cmpK (op_neK K hr.units) (od_ne (K:=K)) (pm_cbK (call_lenA K) (cd_lenA (K:=K)) (by rfl) T.m_len PySem.boot_len (pma_cons (pm_var 1) pma_nil)) pm_int (nomark _)) (w_or1 (pt_cmpK (op_eqA K hr.units) (od_eqA (K:=K)) (pm_var 3) pm_int (nomark _)))))) (ss_one (sm_ret (pm_callK C__law_odd_value (hr.mono (by decide)) hgd rfl pass_0 (pma_cons (pm_var 0) pma_nil)))) ss_nil)
   (ss_cons (sm_if (pt_cmpK (op_eqA K hr.units) (od_eqA (K:=K)) (pm_var 3) pm_int (nomark _)) (ss_one (sm_ret (pm_idxA K hr.units (pm_lst (pma_cons (pm_ctK (call_listA K rfl) (cd_listA (K:=K)) (by rfl) T.m_list (by decide +kernel) (pma_cons (pm_var 1) pma_nil)) (pma_cons (pm_slK K (pm_var 1) mo_none (mo_some pm_int)) (pma_cons (pm_addK K (pm_var 1) (pm_tup (pma_cons pm_int pma_nil))) (pma_cons (pm_rev K (pm_var 1) (pm_neg pm_int)) pma_nil))))) (pm_callK C__law_take (hr.mono (by decide)) hgd rfl pass_0 (pma_cons (pm_var 0) (pma_cons pm_int pma_nil))) (fun _ _=>rfl)))) ss_nil)
   (ss_cons (sm_asg 4 nd (pm_idxA K hr.units (pm_var 1) (pm_var 2) (fun _ _=>rfl)))
   (ss_cons (sm_if (PMW.t (w_or (pt_cmpK op_lt (od_lt (K:=K)) (pm_var 3) pm_int (nomark _)) (w_or (pt_no (pt_of (pm_isi K rfl T.m_isinstance (.ty "tuple") T.iT_tuple (pm_var 4) (pe_tyN rfl T.m_tuple (by decide +kernel))))) (w_or1 (pt_cmpK (op_eqNl K hr.units) (od_nil (K:=K) true) (pm_var 4) (pm_tup pma_nil) (nomark _)))))) (ss_one (sm_ret (pm_addK K (pm_addK K (pm_slK K (pm_var 1) mo_none (mo_some (pm_var 2))) (pm_tup (pma_cons (pm_callK C__law_odd_value (hr.mono (by decide)) hgd rfl pass_0 (pma_cons (pm_var 0) pma_nil)) pma_nil))) (pm_slK K (pm_var 1) (mo_some (pm_addK K (pm_var 2) pm_int)) mo_none)))) ss_nil)
   (ss_cons (sm_asg 5 nd (pm_callK C__law_take (hr.mono (by decide)) hgd rfl pass_0 (pma_cons (pm_var 0) (pma_cons (pm_cbK (call_lenA K) (cd_lenA (K:=K)) (by rfl) T.m_len PySem.boot_len (pma_cons (pm_var 4) pma_nil)) pma_nil))))
   (ss_cons (sm_asg 4 nd (pm_idxA K hr.units (pm_lst (pma_cons (pm_addK K (pm_addK K (pm_slK K (pm_var 4) mo_none (mo_some (pm_var 5))) (pm_tup (pma_cons (pm_callK C__law_odd_value (hr.mono (by decide)) hgd rfl pass_0 (pma_cons (pm_var 0) pma_nil)) pma_nil))) (pm_slK K (pm_var 4) (mo_some (pm_addK K (pm_var 5) pm_int)) mo_none)) (pma_cons (pm_addK K (pm_var 4) (pm_slK K (pm_var 4) mo_none (mo_some pm_int))) (pma_cons (pm_ctK (call_listA K rfl) (cd_listA (K:=K)) (by rfl) T.m_list (by decide +kernel) (pma_cons (pm_var 4) pma_nil)) pma_nil)))) (pm_callK C__law_take (hr.mono (by decide)) hgd rfl pass_0 (pma_cons (pm_var 0) (pma_cons pm_int pma_nil))) (fun _ _=>rfl)))
   (ss_one (sm_ret (pm_addK K (pm_addK K (pm_slK K (pm_var 1) mo_none (mo_some (pm_var 2))) (pm_tup (pma_cons (pm_var 4) pma_nil))) (pm_slK K (pm_var 1) (mo_some (pm_addK K (pm_var 2) pm_int)) mo_none)))))))))))
set_option maxHeartbeats 4000000 in
theorem ok__law_form {f:Addr} {fd:FuncData} (F:Fun K "_law_form" "_law_form" s__law_form f fd) (hm:mg "_law_form"=some (.ref f)) (T:Tx P w K mg ) (C__law_take:FnD P w K mg base CX0 1 "_law_take" 2 F__law_take):FnD P w K mg base CX0 2 "_law_form" 1 F__law_form:=by
 refine fn_ok F sc__law_form hm rfl rfl (fun _ _ _ _ _ _ us hl=>match us,hl with | [_],_=>rfl) fun cdv A out s H E hr hgd=>?_
 have nd:=(sc__law_form).nd
 unfold g__law_form
 exact Exists.intro _ (ss_cons (sm_asg 1 nd (pm_idxA K hr.units (pm_lst (pma_cons pm_int (pma_cons pm_int (pma_cons pm_int (pma_cons pm_int (pma_cons pm_int (pma_cons pm_int (pma_cons pm_int pma_nil)))))))) (pm_callK C__law_take (hr.mono (by decide)) hgd rfl pass_0 (pma_cons (pm_var 0) (pma_cons pm_int pma_nil))) (fun _ _=>rfl)))
   (ss_cons (sm_asg 2 nd (pm_sortsetNK K w rfl rfl T.m_sorted rfl T.m_set (pm_lc (own:=[("_law_k",4)]) rfl nd (mi_rng1 rfl T.m_range (pma_cons (pm_callK C__law_take (hr.mono (by decide)) hgd rfl pass_0 (pma_cons (pm_var 0) (pma_cons pm_int pma_nil))) pma_nil)) (blkOk_by (N:=N__law_form) (sc:=defScope s__law_form) (by decide +kernel)) (fun _ _ _ _ _=>(pg_nm 4 nd)) (by decide) (fun _ _ _ _ _=>ts_nil) (fun _ _ _ _ _=>(pm_addK K pm_int (pm_callK C__law_take (hr.mono (by decide)) hgd rfl pass_0 (pma_cons (pm_var 0) (pma_cons pm_int pma_nil))))))))
   (ss_cons (sm_asg 3 nd (pm_sortsetNK K w rfl rfl T.m_sorted rfl T.m_set (pm_lc (own:=[("_law_k",4)]) rfl nd (mi_rng1 rfl T.m_range (pma_cons (pm_mul (pm_ctK call_int1 (cd_int (K:=K)) (by rfl) T.m_int (by decide +kernel) (pma_cons (pm_cmpK op_gt (od_gt (K:=K)) (pm_var 1) pm_int (nomark _)) pma_nil)) (pm_addK K pm_int (pm_callK C__law_take (hr.mono (by decide)) hgd rfl pass_0 (pma_cons (pm_var 0) (pma_cons pm_int pma_nil))))) pma_nil)) (blkOk_by (N:=N__law_form) (sc:=defScope s__law_form) (by decide +kernel)) (fun _ _ _ _ _=>(pg_nm 4 nd)) (by decide) (fun _ _ _ _ _=>ts_nil) (fun _ _ _ _ _=>(pm_addK K pm_int (pm_callK C__law_take (hr.mono (by decide)) hgd rfl pass_0 (pma_cons (pm_var 0) (pma_cons pm_int pma_nil))))))))
   (ss_one (sm_ret (pm_tup (pma_cons (pm_ctK (call_tuple_ofK K) (cd_tuple (K:=K)) (by rfl) T.m_tuple (by decide +kernel) (pma_cons (pm_var 2) pma_nil)) (pma_cons (pm_ctK (call_tuple_ofK K) (cd_tuple (K:=K)) (by rfl) T.m_tuple (by decide +kernel) (pma_cons (pm_var 3) pma_nil)) (pma_cons (pm_var 1) pma_nil)))))))))
set_option maxHeartbeats 4000000 in
theorem ok__law_great_form {f:Addr} {fd:FuncData} (F:Fun K "_law_great_form" "_law_great_form" s__law_great_form f fd) (hm:mg "_law_great_form"=some (.ref f)) (T:Tx P w K mg ) (C__law_take:FnD P w K mg base CX0 1 "_law_take" 2 F__law_take):FnD P w K mg base CX0 2 "_law_great_form" 1 F__law_great_form:=by
 refine fn_ok F sc__law_great_form hm rfl rfl (fun _ _ _ _ _ _ us hl=>match us,hl with | [_],_=>rfl) fun cdv A out s H E hr hgd=>?_
 have nd:=(sc__law_great_form).nd
 unfold g__law_great_form
 exact Exists.intro _ (ss_cons (sm_asg 1 nd (pm_sortsetNK K w rfl rfl T.m_sorted rfl T.m_set (pm_lc (own:=[("_law_k",3)]) rfl nd (mi_rng1 rfl T.m_range (pma_cons (pm_callK C__law_take (hr.mono (by decide)) hgd rfl pass_0 (pma_cons (pm_var 0) (pma_cons pm_int pma_nil))) pma_nil)) (blkOk_by (N:=N__law_great_form) (sc:=defScope s__law_great_form) (by decide +kernel)) (fun _ _ _ _ _=>(pg_nm 3 nd)) (by decide) (fun _ _ _ _ _=>ts_nil) (fun _ _ _ _ _=>(pm_addK K pm_int (pm_callK C__law_take (hr.mono (by decide)) hgd rfl pass_0 (pma_cons (pm_var 0) (pma_cons pm_int pma_nil))))))))
   (ss_cons (sm_asg 2 nd (pm_sortsetNK K w rfl rfl T.m_sorted rfl T.m_set (pm_lc (own:=[("_law_k",3)]) rfl nd (mi_rng1 rfl T.m_range (pma_cons (pm_addK K pm_int (pm_callK C__law_take (hr.mono (by decide)) hgd rfl pass_0 (pma_cons (pm_var 0) (pma_cons pm_int pma_nil)))) pma_nil)) (blkOk_by (N:=N__law_great_form) (sc:=defScope s__law_great_form) (by decide +kernel)) (fun _ _ _ _ _=>(pg_nm 3 nd)) (by decide) (fun _ _ _ _ _=>ts_nil) (fun _ _ _ _ _=>(pm_addK K pm_int (pm_callK C__law_take (hr.mono (by decide)) hgd rfl pass_0 (pma_cons (pm_var 0) (pma_cons pm_int pma_nil))))))))
   (ss_one (sm_ret (pm_tup (pma_cons (pm_ctK (call_tuple_ofK K) (cd_tuple (K:=K)) (by rfl) T.m_tuple (by decide +kernel) (pma_cons (pm_var 1) pma_nil)) (pma_cons (pm_ctK (call_tuple_ofK K) (cd_tuple (K:=K)) (by rfl) T.m_tuple (by decide +kernel) (pma_cons (pm_var 2) pma_nil)) (pma_cons (pm_addK K pm_int (pm_callK C__law_take (hr.mono (by decide)) hgd rfl pass_0 (pma_cons (pm_var 0) (pma_cons pm_int pma_nil)))) pma_nil))))))))
set_option maxHeartbeats 4000000 in
theorem ok__law_is_whole {f:Addr} {fd:FuncData} (F:Fun K "_law_is_whole" "_law_is_whole" s__law_is_whole f fd) (hm:mg "_law_is_whole"=some (.ref f)) (T:Tx P w K mg ) :FnD P w K mg base CX0 1 "_law_is_whole" 1 F__law_is_whole:=by
 refine fn_ok F sc__law_is_whole hm rfl rfl (fun _ _ _ _ _ _ us hl=>match us,hl with | [_],_=>rfl) fun cdv A out s H E hr hgd=>?_
 have nd:=(sc__law_is_whole).nd
 unfold g__law_is_whole
 exact Exists.intro _ (ss_one (sm_ret (pm_and (pm_isi K rfl T.m_isinstance (.ty "int") T.iT_int (pm_var 0) (pe_tyN rfl T.m_int (by decide +kernel))) (pm_one (pm_not (pm_isi K rfl T.m_isinstance (.ty "bool") T.iT_bool (pm_var 0) (pe_tyN rfl T.m_bool (by decide +kernel))))))))
set_option maxHeartbeats 4000000 in
theorem ok__law_are_numbers {f:Addr} {fd:FuncData} (F:Fun K "_law_are_numbers" "_law_are_numbers" s__law_are_numbers f fd) (hm:mg "_law_are_numbers"=some (.ref f)) (T:Tx P w K mg ) (C__law_is_whole:FnD P w K mg base CX0 1 "_law_is_whole" 1 F__law_is_whole):FnD P w K mg base CX0 2 "_law_are_numbers" 1 F__law_are_numbers:=by
 refine fn_ok F sc__law_are_numbers hm rfl rfl (fun _ _ _ _ _ _ us hl=>match us,hl with | [_],_=>rfl) fun cdv A out s H E hr hgd=>?_
 have nd:=(sc__law_are_numbers).nd
 unfold g__law_are_numbers
 exact Exists.intro _ (ss_cons (sm_if (PMW.t (w_or (pt_no (pt_of (pm_isi K rfl T.m_isinstance (.ty "tuple") T.iT_tuple (pm_var 0) (pe_tyN rfl T.m_tuple (by decide +kernel))))) (w_or1 (pt_cmpK (op_neNl K hr.units) (od_nil (K:=K) false) (pm_lc (own:=[("_law_one_here",1)]) rfl nd (mi_seqK K (pm_var 0)) (blkOk_by (N:=N__law_are_numbers) (sc:=defScope s__law_are_numbers) (by decide +kernel)) (fun _ _ _ _ _=>(pg_nm 1 nd)) (by decide) (fun _ _ _ _ _=>(ts_one (pt_no (pt_of (pm_callK C__law_is_whole (hr.mono (by decide)) hgd rfl pass_0 (pma_cons (pm_var 1) pma_nil)))))) (fun _ _ _ _ _=>(pm_var 1))) (pm_lst pma_nil) (nomark _))))) (ss_one (sm_ret pm_bl)) ss_nil)
   (ss_one (sm_ret (pm_and (pm_cmpK (op_eqA K hr.units) (od_eqA (K:=K)) (pm_ctK (call_listA K rfl) (cd_listA (K:=K)) (by rfl) T.m_list (by decide +kernel) (pma_cons (pm_var 0) pma_nil)) (pm_sortsetNK K w rfl rfl T.m_sorted rfl T.m_set (pm_var 0)) (nomark _)) (pm_one (pm_cmpK (op_eqNl K hr.units) (od_nil (K:=K) true) (pm_lc (own:=[("_law_one_here",1)]) rfl nd (mi_seqK K (pm_var 0)) (blkOk_by (N:=N__law_are_numbers) (sc:=defScope s__law_are_numbers) (by decide +kernel)) (fun _ _ _ _ _=>(pg_nm 1 nd)) (by decide) (fun _ _ _ _ _=>(ts_one (pt_no (pt_chain op_le (od_le (K:=K)) op_le (od_le (K:=K)) pm_int (pm_var 1) pm_int)))) (fun _ _ _ _ _=>(pm_var 1))) (pm_lst pma_nil) (nomark _)))))))
set_option maxHeartbeats 4000000 in
theorem ok__law_is_form {f:Addr} {fd:FuncData} (F:Fun K "_law_is_form" "_law_is_form" s__law_is_form f fd) (hm:mg "_law_is_form"=some (.ref f)) (T:Tx P w K mg ) (C__law_are_numbers:FnD P w K mg base CX0 2 "_law_are_numbers" 1 F__law_are_numbers) (C__law_is_whole:FnD P w K mg base CX0 1 "_law_is_whole" 1 F__law_is_whole):FnD P w K mg base CX0 3 "_law_is_form" 1 F__law_is_form:=by
 refine fn_ok F sc__law_is_form hm rfl rfl (fun _ _ _ _ _ _ us hl=>match us,hl with | [_],_=>rfl) fun cdv A out s H E hr hgd=>?_
 have nd:=(sc__law_is_form).nd
 unfold g__law_is_form
 exact Exists.intro _ (ss_cons (sm_if (PMW.t (w_or (pt_no (pt_of (pm_isi K rfl T.m_isinstance (.ty "tuple") T.iT_tuple (pm_var 0) (pe_tyN rfl T.m_tuple (by decide +kernel))))) (w_or (pt_cmpK (op_neK K hr.units) (od_ne (K:=K)) (pm_cbK (call_lenA K) (cd_lenA (K:=K)) (by rfl) T.m_len PySem.boot_len (pma_cons (pm_var 0) pma_nil)) pm_int (nomark _)) (w_or1 (pt_no (pt_of (pm_callK C__law_are_numbers (hr.mono (by decide)) hgd rfl pass_0 (pma_cons (pm_idxA K hr.units (pm_var 0) pm_int (fun _ _=>rfl)) pma_nil)))))))) (ss_one (sm_ret pm_bl)) ss_nil)
   (ss_cons (sm_if (PMW.t (w_or (pt_no (pt_of (pm_callK C__law_are_numbers (hr.mono (by decide)) hgd rfl pass_0 (pma_cons (pm_idxA K hr.units (pm_var 0) pm_int (fun _ _=>rfl)) pma_nil)))) (w_or (pt_no (pt_of (pm_callK C__law_is_whole (hr.mono (by decide)) hgd rfl pass_0 (pma_cons (pm_idxA K hr.units (pm_var 0) pm_int (fun _ _=>rfl)) pma_nil)))) (w_or1 (pt_no (pt_chain op_le (od_le (K:=K)) op_le (od_le (K:=K)) pm_int (pm_idxA K hr.units (pm_var 0) pm_int (fun _ _=>rfl)) pm_int)))))) (ss_one (sm_ret pm_bl)) ss_nil)
   (ss_one (sm_ret (pm_cmpK (op_eqA K hr.units) (od_eqA (K:=K)) (pm_cmpK (op_eqA K hr.units) (od_eqA (K:=K)) (pm_idxA K hr.units (pm_var 0) pm_int (fun _ _=>rfl)) pm_int (nomark _)) (pm_cmpK (op_eqA K hr.units) (od_eqA (K:=K)) (pm_cbK (call_lenA K) (cd_lenA (K:=K)) (by rfl) T.m_len PySem.boot_len (pma_cons (pm_idxA K hr.units (pm_var 0) pm_int (fun _ _=>rfl)) pma_nil)) pm_int (nomark _)) (nomark _))))))
set_option maxHeartbeats 4000000 in
theorem ok__law_tells {f:Addr} {fd:FuncData} (F:Fun K "_law_tells" "_law_tells" s__law_tells f fd) (hm:mg "_law_tells"=some (.ref f)) (T:Tx P w K mg ) :FnD P w K mg base CX0 1 "_law_tells" 2 F__law_tells:=by
 refine fn_ok F sc__law_tells hm rfl rfl (fun _ _ _ _ _ _ us hl=>match us,hl with | [_,_],_=>rfl) fun cdv A out s H E hr hgd=>?_
 have nd:=(sc__law_tells).nd
 unfold g__law_tells
 exact Exists.intro _ (ss_cons (sm_tgt (pg_tpK K rfl (gs_cons (pg_nm 2 nd) (gs_cons (pg_nm 3 nd) (gs_cons (pg_nm 4 nd) gs_nil)))) (pm_var 0))
   (ss_cons (sm_if (pt_cmpK (op_inA K hr.units) (od_inA (K:=K) false) (pm_var 1) (pm_var 2) (by rfl)) (ss_one (sm_ret pm_bl)) ss_nil)
   (ss_one (sm_ret (pm_cmpK (op_neNl K hr.units) (od_nil (K:=K) false) (pm_lc (own:=[("_law_one_here",5)]) rfl nd (mi_seqK K (pm_var 3)) (blkOk_by (N:=N__law_tells) (sc:=defScope s__law_tells) (by decide +kernel)) (fun _ _ _ _ _=>(pg_nm 5 nd)) (by decide) (fun _ _ _ _ _=>(ts_one (PMW.t (w_and (pt_cmpK op_ge (od_ge (K:=K)) (pm_var 1) (pm_var 5) (nomark _)) (w_and1 (pt_cmpK (op_eqA K hr.units) (od_eqA (K:=K)) (pm_mod (pm_ctK call_int1 (cd_int (K:=K)) (by rfl) T.m_int (by decide +kernel) (pma_cons (pm_sub (pm_var 1) (pm_var 5)) pma_nil)) (pm_var 4)) pm_int (nomark _))))))) (fun _ _ _ _ _=>(pm_var 5))) (pm_lst pma_nil) (nomark _))))))
set_option maxHeartbeats 4000000 in
theorem ok_has {f:Addr} {fd:FuncData} (F:Fun K "has" "has" s_has f fd) (hm:mg "has"=some (.ref f)) (T:Tx P w K mg ) :FnD P w K mg base CX0 1 "has" 2 F_has:=by
 refine fn_ok F sc_has hm rfl rfl (fun _ _ _ _ _ _ us hl=>match us,hl with | [_,_],_=>rfl) fun cdv A out s H E hr hgd=>?_
 have nd:=(sc_has).nd
 unfold g_has
 exact Exists.intro _ (ss_cons (sm_tgt (pg_tpK K rfl (gs_cons (pg_nm 2 nd) (gs_cons (pg_nm 3 nd) (gs_cons (pg_nm 4 nd) gs_nil)))) (pm_var 0))
   (ss_one (sm_ret (pm_or (pm_cmpK (op_inA K hr.units) (od_inA (K:=K) false) (pm_var 1) (pm_var 2) (by rfl)) (pm_one (pm_cbK (cr_anyK K rfl) (cd_all (K:=K) fun bs=>bs.any id) (by rfl) T.m_any (by decide +kernel) (pma_cons (pm_lc (own:=[("first",5)]) rfl nd (mi_seqK K (pm_var 3)) (blkOk_by (N:=N_has) (sc:=defScope s_has) (by decide +kernel)) (fun _ _ _ _ _=>(pg_nm 5 nd)) (by decide) (fun _ _ _ _ _=>ts_nil) (fun _ _ _ _ _=>(pm_and (pm_cmpK op_ge (od_ge (K:=K)) (pm_var 1) (pm_var 5) (nomark _)) (pm_one (pm_cmpK (op_eqA K hr.units) (od_eqA (K:=K)) (pm_mod (pm_sub (pm_var 1) (pm_var 5)) (pm_var 4)) pm_int (nomark _)))))) pma_nil)))))))
set_option maxHeartbeats 4000000 in
theorem ok_is_integer {f:Addr} {fd:FuncData} (F:Fun K "is_integer" "is_integer" s_is_integer f fd) (hm:mg "is_integer"=some (.ref f)) (T:Tx P w K mg ) :FnD P w K mg base CX0 1 "is_integer" 1 F_is_integer:=by
 refine fn_ok F sc_is_integer hm rfl rfl (fun _ _ _ _ _ _ us hl=>match us,hl with | [_],_=>rfl) fun cdv A out s H E hr hgd=>?_
 have nd:=(sc_is_integer).nd
 unfold g_is_integer
 exact Exists.intro _ (ss_one (sm_ret (pm_and (pm_isi K rfl T.m_isinstance (.ty "int") T.iT_int (pm_var 0) (pe_tyN rfl T.m_int (by decide +kernel))) (pm_one (pm_not (pm_isi K rfl T.m_isinstance (.ty "bool") T.iT_bool (pm_var 0) (pe_tyN rfl T.m_bool (by decide +kernel))))))))
set_option maxHeartbeats 4000000 in
theorem ok_are_numbers {f:Addr} {fd:FuncData} (F:Fun K "are_numbers" "are_numbers" s_are_numbers f fd) (hm:mg "are_numbers"=some (.ref f)) (T:Tx P w K mg ) (C_is_integer:FnD P w K mg base CX0 1 "is_integer" 1 F_is_integer):FnD P w K mg base CX0 2 "are_numbers" 1 F_are_numbers:=by
 obtain⟨t_MOST_NUMBER,gt_MOST_NUMBER⟩:=T.g_MOST_NUMBER
 refine fn_ok F sc_are_numbers hm rfl rfl (fun _ _ _ _ _ _ us hl=>match us,hl with | [_],_=>rfl) fun cdv A out s H E hr hgd=>?_
 have nd:=(sc_are_numbers).nd
 unfold g_are_numbers
 exact Exists.intro _ (ss_cons (sm_if (PMW.t (w_or (pt_no (pt_of (pm_isi K rfl T.m_isinstance (.ty "tuple") T.iT_tuple (pm_var 0) (pe_tyN rfl T.m_tuple (by decide +kernel))))) (w_or1 (pt_no (pt_of (pm_cbK (cr_allK K rfl) (cd_all (K:=K) fun bs=>bs.all id) (by rfl) T.m_all (by decide +kernel) (pma_cons (pm_lc (own:=[("one",2)]) rfl nd (mi_seqK K (pm_var 0)) (blkOk_by (N:=N_are_numbers) (sc:=defScope s_are_numbers) (by decide +kernel)) (fun _ _ _ _ _=>(pg_nm 2 nd)) (by decide) (fun _ _ _ _ _=>ts_nil) (fun _ _ _ _ _=>(pm_and (pm_callK C_is_integer (hr.mono (by decide)) hgd rfl pass_0 (pma_cons (pm_var 2) pma_nil)) (pm_one (pm_chain op_le (od_le (K:=K)) op_le (od_le (K:=K)) pm_int (pm_var 2) (pm_glob (v:=.int 1000) rfl gt_MOST_NUMBER ⟨_,rfl⟩ (fun _=>.int _))))))) pma_nil))))))) (ss_one (sm_ret pm_bl)) ss_nil)
   (ss_one (sm_ret (pm_cbK (cr_allK K rfl) (cd_all (K:=K) fun bs=>bs.all id) (by rfl) T.m_all (by decide +kernel) (pma_cons (pm_lc (own:=[("at",1)]) rfl nd (mi_rng1 rfl T.m_range (pma_cons (pm_sub (pm_cbK (call_lenA K) (cd_lenA (K:=K)) (by rfl) T.m_len PySem.boot_len (pma_cons (pm_var 0) pma_nil)) pm_int) pma_nil)) (blkOk_by (N:=N_are_numbers) (sc:=defScope s_are_numbers) (by decide +kernel)) (fun _ _ _ _ _=>(pg_nm 1 nd)) (by decide) (fun _ _ _ _ _=>ts_nil) (fun _ _ _ _ _=>(pm_cmpK op_lt (od_lt (K:=K)) (pm_idxA K hr.units (pm_var 0) (pm_var 1) (fun _ _=>rfl)) (pm_idxA K hr.units (pm_var 0) (pm_addK K (pm_var 1) pm_int) (fun _ _=>rfl)) (nomark _)))) pma_nil)))))
set_option maxHeartbeats 4000000 in
theorem ok_is_form {f:Addr} {fd:FuncData} (F:Fun K "is_form" "is_form" s_is_form f fd) (hm:mg "is_form"=some (.ref f)) (T:Tx P w K mg ) (C_are_numbers:FnD P w K mg base CX0 2 "are_numbers" 1 F_are_numbers) (C_is_integer:FnD P w K mg base CX0 1 "is_integer" 1 F_is_integer):FnD P w K mg base CX0 3 "is_form" 1 F_is_form:=by
 obtain⟨t_MOST_STEP,gt_MOST_STEP⟩:=T.g_MOST_STEP
 refine fn_ok F sc_is_form hm rfl rfl (fun _ _ _ _ _ _ us hl=>match us,hl with | [_],_=>rfl) fun cdv A out s H E hr hgd=>?_
 have nd:=(sc_is_form).nd
 unfold g_is_form
 exact Exists.intro _ (ss_cons (sm_if (PMW.t (w_or (pt_no (pt_of (pm_isi K rfl T.m_isinstance (.ty "tuple") T.iT_tuple (pm_var 0) (pe_tyN rfl T.m_tuple (by decide +kernel))))) (w_or (pt_cmpK (op_neK K hr.units) (od_ne (K:=K)) (pm_cbK (call_lenA K) (cd_lenA (K:=K)) (by rfl) T.m_len PySem.boot_len (pma_cons (pm_var 0) pma_nil)) pm_int (nomark _)) (w_or (pt_no (pt_of (pm_callK C_are_numbers (hr.mono (by decide)) hgd rfl pass_0 (pma_cons (pm_idxA K hr.units (pm_var 0) pm_int (fun _ _=>rfl)) pma_nil)))) (w_or1 (pt_no (pt_of (pm_callK C_are_numbers (hr.mono (by decide)) hgd rfl pass_0 (pma_cons (pm_idxA K hr.units (pm_var 0) pm_int (fun _ _=>rfl)) pma_nil))))))))) (ss_one (sm_ret pm_bl)) ss_nil)
   (ss_cons (sm_if (PMW.t (w_or (pt_no (pt_of (pm_callK C_is_integer (hr.mono (by decide)) hgd rfl pass_0 (pma_cons (pm_idxA K hr.units (pm_var 0) pm_int (fun _ _=>rfl)) pma_nil)))) (w_or1 (pt_no (pt_chain op_le (od_le (K:=K)) op_le (od_le (K:=K)) pm_int (pm_idxA K hr.units (pm_var 0) pm_int (fun _ _=>rfl)) (pm_glob (v:=.int 200) rfl gt_MOST_STEP ⟨_,rfl⟩ (fun _=>.int _))))))) (ss_one (sm_ret pm_bl)) ss_nil)
   (ss_one (sm_ret (pm_cmpK (op_eqA K hr.units) (od_eqA (K:=K)) (pm_cmpK (op_eqA K hr.units) (od_eqA (K:=K)) (pm_idxA K hr.units (pm_var 0) pm_int (fun _ _=>rfl)) pm_int (nomark _)) (pm_cmpK (op_eqNl K hr.units) (od_nil (K:=K) true) (pm_idxA K hr.units (pm_var 0) pm_int (fun _ _=>rfl)) (pm_tup pma_nil) (nomark _)) (nomark _))))))
set_option maxHeartbeats 4000000 in
theorem ok_upto {f:Addr} {fd:FuncData} (F:Fun K "upto" "upto" s_upto f fd) (hm:mg "upto"=some (.ref f)) (T:Tx P w K mg ) :FnD P w K mg base CX0 1 "upto" 2 F_upto:=by
 refine fn_ok F sc_upto hm rfl rfl (fun _ _ _ _ _ _ us hl=>match us,hl with | [_,_],_=>rfl) fun cdv A out s H E hr hgd=>?_
 have nd:=(sc_upto).nd
 unfold g_upto b_upto_1
 exact Exists.intro _ (ss_cons (sm_tgt (pg_tpK K rfl (gs_cons (pg_nm 2 nd) (gs_cons (pg_nm 3 nd) (gs_cons (pg_nm 4 nd) gs_nil)))) (pm_var 0))
   (ss_cons (sm_lc true (own:=[("number",7)]) (j:=5) rfl nd rfl rfl (sw_true rfl rfl rfl (by decide +kernel)) (mi_seqK K (pm_var 2)) (blkOk_by (N:=N_upto) (sc:=defScope s_upto) (by decide +kernel)) (fun _ _ _ _ _=>(pg_nm 7 nd)) (by decide) (fun _ _ _ _ _=>(ts_one (pt_cmpK op_le (od_le (K:=K)) (pm_var 7) (pm_var 1) (nomark _)))) (fun _ _ _ _ _=>(pm_var 7)))
   (ss_cons (sm_for [true,true,true,true,true,true,false,false] PassesOwn.never rfl (mi_seqK K (pm_var 3)) (pg_nm 6 nd) (ss_one (sm_expr (pm_bmK K PySem.F.plainAttrs_list PySem.F.slot_list_extend PySem.F.type_list_extend (mt_extK K) td_list md_ext (pm_var 5) (pma_cons (pm_listRg3 rfl rfl T.m_list rfl T.m_range (pma_cons (pm_var 6) (pma_cons (pm_addK K (pm_var 1) pm_int) (pma_cons (pm_var 4) pma_nil)))) pma_nil)))))
   (ss_one (sm_ret (pm_sortsetNK K w rfl rfl T.m_sorted rfl T.m_set (pm_var 5)))))))
set_option maxHeartbeats 4000000 in
theorem ok_law {f:Addr} {fd:FuncData} (F:Fun K "law" "law" s_law f fd) (T:Tx P w K mg ) (C__law_alike:FnD P w K mg base CX0 1 "_law_alike" 2 F__law_alike) (C__law_bag:FnD P w K mg base CX0 1 "_law_bag" 1 F__law_bag) (C__law_bent:FnD P w K mg base CX0 4 "_law_bent" 2 F__law_bent) (C__law_form:FnD P w K mg base CX0 2 "_law_form" 1 F__law_form) (C__law_great_form:FnD P w K mg base CX0 2 "_law_great_form" 1 F__law_great_form) (C__law_is_form:FnD P w K mg base CX0 3 "_law_is_form" 1 F__law_is_form) (C__law_take:FnD P w K mg base CX0 1 "_law_take" 2 F__law_take) (C__law_tells:FnD P w K mg base CX0 1 "_law_tells" 2 F__law_tells) (C_has:FnD P w K mg base CX0 1 "has" 2 F_has) (C_is_form:FnD P w K mg base CX0 3 "is_form" 1 F_is_form) (C_upto:FnD P w K mg base CX0 1 "upto" 2 F_upto):FnG P w K mg base CX0 5 f fd ["_law_script"] (spF K 1 F_law):=by
 refine fn_okG F sc_law rfl rfl fun cdv A out s H E hr hgd=>?_
 have nd:=(sc_law).nd
 unfold g_law b_law_4 b_law_3 b_law_2 b_law_1
 exact Exists.intro _ (ss_cons (sm_new 1 nd (pm_callK C__law_bag (hr.mono (by decide)) hgd rfl pass_0 (pma_cons (pm_var 0) pma_nil)))
   (ss_cons (sm_for [true,true,false,false,false,false,false,false,false,false,false,false] PassesOwn.never rfl (mi_rng1 rfl T.m_range (pma_cons pm_int pma_nil)) (pg_nm 2 nd) (ss_cons (sm_asg 3 nd (pm_if (pt_cmpK op_gt (od_gt (K:=K)) (pm_callK C__law_take (hr.mono (by decide)) hgd rfl pass_0 (pma_cons (pm_var 1) (pma_cons pm_int pma_nil))) pm_int (nomark _)) (pm_callK C__law_form (hr.mono (by decide)) hgd rfl pass_0 (pma_cons (pm_var 1) pma_nil)) (pm_callK C__law_great_form (hr.mono (by decide)) hgd rfl pass_0 (pma_cons (pm_var 1) pma_nil))))
   (ss_cons (sm_asg 4 nd (pm_var 3))
   (ss_cons (sm_for [true,true,true,true,true,false,false,false,false,false,false,false] PassesOwn.never rfl (mi_rng1 rfl T.m_range (pma_cons (pm_callK C__law_take (hr.mono (by decide)) hgd rfl pass_0 (pma_cons (pm_var 1) (pma_cons pm_int pma_nil))) pma_nil)) (pg_nm 5 nd) (ss_one (sm_asg 4 nd (pm_callK C__law_bent (hr.mono (by decide)) hgd rfl pass_0 (pma_cons (pm_var 1) (pma_cons (pm_var 4) pma_nil))))))
   (ss_cons (sm_par 6 7 rfl nd (pma_cons (pm_cbK (cr_reprA K hr hgd) (cd_reprA (K:=K)) (by rfl) T.m_repr (by decide +kernel) (pma_cons (pm_var 4) pma_nil)) (pma_cons (pm_callK C__law_is_form (hr.mono (by decide)) hgd rfl pass_0 (pma_cons (pm_var 4) pma_nil)) pma_nil)))
   (ss_cons (sm_for [true,true,true,true,true,false,true,true,false,false,false,false] PassesOwn.never rfl (mi_rng1 rfl T.m_range (pma_cons pm_int pma_nil)) (pg_nm 5 nd) (ss_one (sm_if (PMW.t (w_or (pt_no (pt_of (pm_callK C__law_alike (hr.mono (by decide)) hgd rfl pass_0 (pma_cons (pm_callK C_is_form (hr.mono (by decide)) hgd rfl pass_0 (pma_cons (pm_var 4) pma_nil)) (pma_cons (pm_var 7) pma_nil))))) (w_or1 (pt_cmpK (op_neK K hr.units) (od_ne (K:=K)) (pm_cbK (cr_reprA K hr hgd) (cd_reprA (K:=K)) (by rfl) T.m_repr (by decide +kernel) (pma_cons (pm_var 4) pma_nil)) (pm_var 6) (nomark _))))) (ss_one (sm_ret pm_bl)) ss_nil)))
   (ss_cons (sm_asg 8 nd (pm_idxA K hr.units (pm_lst (pma_cons pm_int (pma_cons pm_int (pma_cons (pm_callK C__law_take (hr.mono (by decide)) hgd rfl pass_0 (pma_cons (pm_var 1) (pma_cons pm_int pma_nil))) (pma_cons pm_int (pma_cons (pm_addK K pm_int (pm_callK C__law_take (hr.mono (by decide)) hgd rfl pass_0 (pma_cons (pm_var 1) (pma_cons pm_int pma_nil)))) pma_nil)))))) (pm_callK C__law_take (hr.mono (by decide)) hgd rfl pass_0 (pma_cons (pm_var 1) (pma_cons pm_int pma_nil))) (fun _ _=>rfl)))
   (ss_cons (sm_asg 9 nd (pm_callK C_upto (hr.mono (by decide)) hgd rfl pass_0 (pma_cons (pm_var 3) (pma_cons (pm_var 8) pma_nil))))
   (ss_cons (sm_if (pt_no (pt_of (pm_callK C__law_alike (hr.mono (by decide)) hgd rfl pass_0 (pma_cons (pm_var 9) (pma_cons (pm_lc (own:=[("_law_n",11)]) rfl nd (mi_rng2 rfl T.m_range (pma_cons pm_int (pma_cons (pm_addK K (pm_var 8) pm_int) pma_nil))) (blkOk_by (N:=N_law) (sc:=defScope s_law) (by decide +kernel)) (fun _ _ _ _ _=>(pg_nm 11 nd)) (by decide) (fun _ _ _ _ _=>(ts_one (pt_of (pm_callK C__law_tells (hr.mono (by decide)) hgd rfl pass_0 (pma_cons (pm_var 3) (pma_cons (pm_var 11) pma_nil)))))) (fun _ _ _ _ _=>(pm_var 11))) pma_nil))))) (ss_one (sm_ret pm_bl)) ss_nil)
   (ss_one (sm_for [true,true,true,true,true,false,true,true,true,true,false,false] PassesOwn.never rfl (mi_seqK K (pm_lst (pma_cons pm_int (pma_cons (pm_neg pm_int) (pma_cons pm_int (pma_cons (pm_callK C__law_take (hr.mono (by decide)) hgd rfl pass_0 (pma_cons (pm_var 1) (pma_cons pm_int pma_nil))) (pma_cons (pm_callK C__law_take (hr.mono (by decide)) hgd rfl pass_0 (pma_cons (pm_var 1) (pma_cons pm_int pma_nil))) (pma_cons (pm_callK C__law_take (hr.mono (by decide)) hgd rfl pass_0 (pma_cons (pm_var 1) (pma_cons (pm_op op_pow (od_pow (K:=K)) pm_int pm_int) pma_nil))) pma_nil)))))))) (pg_nm 10 nd) (ss_one (sm_if (pt_no (pt_of (pm_callK C__law_alike (hr.mono (by decide)) hgd rfl pass_0 (pma_cons (pm_callK C_has (hr.mono (by decide)) hgd rfl pass_0 (pma_cons (pm_var 3) (pma_cons (pm_var 10) pma_nil))) (pma_cons (pm_and (pm_cmpK op_gt (od_gt (K:=K)) (pm_var 10) pm_int (nomark _)) (pm_one (pm_callK C__law_tells (hr.mono (by decide)) hgd rfl pass_0 (pma_cons (pm_var 3) (pma_cons (pm_var 10) pma_nil))))) pma_nil))))) (ss_one (sm_ret pm_bl)) ss_nil)))))))))))))
   (ss_cons (sm_tgt (pg_tpK K rfl (gs_cons (pg_nm 3 nd) (gs_cons (pg_nm 8 nd) gs_nil))) (pm_tup (pma_cons (pm_callK C__law_form (hr.mono (by decide)) hgd rfl pass_0 (pma_cons (pm_var 1) pma_nil)) (pma_cons (pm_addK K pm_int (pm_callK C__law_take (hr.mono (by decide)) hgd rfl pass_0 (pma_cons (pm_var 1) (pma_cons pm_int pma_nil)))) pma_nil))))
   (ss_one (sm_ret (pm_callK C__law_alike (hr.mono (by decide)) hgd rfl pass_0 (pma_cons (pm_callK C_upto (hr.mono (by decide)) hgd rfl pass_0 (pma_cons (pm_var 3) (pma_cons (pm_var 8) pma_nil))) (pma_cons (pm_lc (own:=[("_law_n",11)]) rfl nd (mi_rng2 rfl T.m_range (pma_cons pm_int (pma_cons (pm_addK K (pm_var 8) pm_int) pma_nil))) (blkOk_by (N:=N_law) (sc:=defScope s_law) (by decide +kernel)) (fun _ _ _ _ _=>(pg_nm 11 nd)) (by decide) (fun _ _ _ _ _=>(ts_one (pt_of (pm_callK C__law_tells (hr.mono (by decide)) hgd rfl pass_0 (pma_cons (pm_var 3) (pma_cons (pm_var 11) pma_nil)))))) (fun _ _ _ _ _=>(pm_var 11))) pma_nil))))))))
end
end
end K54
set_option maxHeartbeats 8000000
noncomputable section
namespace K54
open PySem PySem.Spec PyProof.Rows L2 DL
local macro_rules | `(tactic| walk_at "isi") => `(tactic| first
 | (with_reducible refine is_non_int ?_)|(with_reducible refine is_non_bool ?_)|(with_reducible refine is_non_str ?_)|(with_reducible refine is_non_tuple ?_)|(with_reducible refine is_non_list ?_)|(with_reducible refine is_non_dict ?_)|(with_reducible refine is2_non_list_tuple ?_)|(with_reducible refine isC_non ?_)|(with_reducible refine is_bl_int ?_)|(with_reducible refine is_bl_bool ?_)|(with_reducible refine is_bl_str ?_)|(with_reducible refine is_bl_tuple ?_)|(with_reducible refine is_bl_list ?_)|(with_reducible refine is_bl_dict ?_)|(with_reducible refine is2_bl_list_tuple ?_)|(with_reducible refine isC_bl ?_)|(with_reducible refine is_int_int ?_)|(with_reducible refine is_int_bool ?_)|(with_reducible refine is_int_str ?_)|(with_reducible refine is_int_tuple ?_)|(with_reducible refine is_int_list ?_)|(with_reducible refine is_int_dict ?_)|(with_reducible refine is2_int_list_tuple ?_)|(with_reducible refine isC_int ?_)|(with_reducible refine is_str_int ?_)|(with_reducible refine is_str_bool ?_)|(with_reducible refine is_str_str ?_)|(with_reducible refine is_str_tuple ?_)|(with_reducible refine is_str_list ?_)|(with_reducible refine is_str_dict ?_)|(with_reducible refine is2_str_list_tuple ?_)|(with_reducible refine isC_str ?_)|(with_reducible refine is_tup_int ?_)|(with_reducible refine is_tup_bool ?_)|(with_reducible refine is_tup_str ?_)|(with_reducible refine is_tup_tuple ?_)|(with_reducible refine is_tup_list ?_)|(with_reducible refine is_tup_dict ?_)|(with_reducible refine is2_tup_list_tuple ?_)|(with_reducible refine isC_tup ?_)|(with_reducible refine is_lst_int ?_)|(with_reducible refine is_lst_bool ?_)|(with_reducible refine is_lst_str ?_)|(with_reducible refine is_lst_tuple ?_)|(with_reducible refine is_lst_list ?_)|(with_reducible refine is_lst_dict ?_)|(with_reducible refine is2_lst_list_tuple ?_)|(with_reducible refine isC_lst ?_)|(with_reducible refine is_fro_int ?_)|(with_reducible refine is_fro_bool ?_)|(with_reducible refine is_fro_str ?_)|(with_reducible refine is_fro_tuple ?_)|(with_reducible refine is_fro_list ?_)|(with_reducible refine is_fro_dict ?_)|(with_reducible refine is2_fro_list_tuple ?_)|(with_reducible refine isC_fro ?_)|(with_reducible refine is_dct_int ?_)|(with_reducible refine is_dct_bool ?_)|(with_reducible refine is_dct_str ?_)|(with_reducible refine is_dct_tuple ?_)|(with_reducible refine is_dct_list ?_)|(with_reducible refine is_dct_dict ?_)|(with_reducible refine is2_dct_list_tuple ?_)|(with_reducible refine isC_dct ?_)|(with_reducible refine isC_own ?_)
 | (with_reducible refine is2_ins (by simp) ?_)|(with_reducible refine is_ins_int (by simp) ?_)|(with_reducible refine is_ins_bool (by simp) ?_)|(with_reducible refine is_ins_str (by simp) ?_)|(with_reducible refine is_ins_tuple (by simp) ?_)|(with_reducible refine is_ins_list (by simp) ?_)|(with_reducible refine is_ins_dict (by simp) ?_)|fail "isi")
local macro_rules | `(tactic| walk_at "tk") => `(tactic| first | exact List.take_length | exact take_cons | exact take_consA | exact mem_take | exact take_len | fail "tk")
local macro_rules | `(tactic| walk_at "al") => `(tactic| first | exact allDat_mapf _ _ | exact allDat_map _ | (repeat (first | exact al_nil | apply al_cons)))
local macro_rules | `(tactic| walk_at "set") => `(tactic| (simp only [List.set_cons_succ, List.set_cons_zero]; exact rfl))
local macro_rules | `(tactic| walk_at "sxS") => `(tactic| first | (with_reducible refine set_now (by walk_at "set") ?_) | (with_reducible refine s_seq ?_) | (with_reducible refine s_asg ?_) | (with_reducible refine s_ret ?_) | (with_reducible refine s_if ?_) | (with_reducible refine s_drop ?_) | (with_reducible refine s_next ?_) | (with_reducible refine s_new ?_) | (with_reducible refine s_for ?_) | (with_reducible refine s_tgt ?_) | (with_reducible refine s_par ?_) | (with_reducible refine s_disp ?_) | (with_reducible refine s_wh ?_) | (with_reducible refine s_fld ?_) | (with_reducible refine s_set ?_) | (with_reducible refine s_aug rfl ?_) | (with_reducible refine s_par2 ?_) | (with_reducible refine s_raiseK ?_) | (with_reducible refine s_raise0 ?_) | (with_reducible refine s_tryE ?_) | (with_reducible refine s_try ?_) | (with_reducible refine s_dput ?_) | (with_reducible refine s_tput ?_) | (with_reducible refine s_par3 ?_) | (with_reducible refine s_swp ?_) | (with_reducible refine r_dat ?_) | (with_reducible refine r_loc ?_) | (with_reducible refine s_bld ?_) | (with_reducible refine s_bseq ?_) | (with_reducible refine s_pub ?_) | (with_reducible refine s_tgtM ?_) | (with_reducible refine s_daug ?_) | (with_reducible refine s_fldaug ?_) | fail "sxS")
local macro_rules | `(tactic| walk_at "sxV") => `(tactic| first | (with_reducible refine v_var rfl ?_) | (with_reducible refine v_D ?_) | (with_reducible refine x_fz ?_) | (with_reducible refine x_xof ?_) | (with_reducible refine x_xcall ?_) | (with_reducible refine x_xmeth ?_) | (with_reducible refine x_xmake ?_) | (with_reducible refine x_xix (k := 0) ?_) | (with_reducible refine x_xix (k := 1) ?_) | (with_reducible refine x_xtup ?_) | fail "sxV")
local macro_rules | `(tactic| walk_at "sxA") => `(tactic| first | (with_reducible refine a_consK ?_) | (with_reducible refine a_nilK ?_) | (with_reducible refine n_consK ?_) | (with_reducible refine n_nilK ?_) | (with_reducible refine a_starK ?_) | (with_reducible refine xa_nilK ?_) | (with_reducible refine xa_consK ?_) | fail "sxA")
local macro_rules | `(tactic| walk_at "sxT") => `(tactic| first | (with_reducible refine t_B ?_) | (with_reducible refine t_not ?_) | (with_reducible refine t_and ?_) | (with_reducible refine t_or ?_) | (with_reducible refine t_yes ?_) | fail "sxT")
local macro_rules | `(tactic| walk_at "sxO") => `(tactic| first | (with_reducible refine o_noneK ?_) | (with_reducible refine o_someK ?_) | fail "sxO")
local macro_rules | `(tactic| walk_at "sxP") => `(tactic| first | (with_reducible refine p_nilK ?_) | (with_reducible refine p_consK ?_) | fail "sxP")
local macro_rules | `(tactic| walk_at "sxI") => `(tactic| first | (with_reducible refine i_seq ?_) | (with_reducible refine i_keysT ?_) | (with_reducible refine i_itemsT ?_) | (with_reducible refine i_keysK ?_) | (with_reducible refine i_itemsK ?_) | (with_reducible refine i_vals ?_) | (with_reducible refine i_dwn ?_) | (with_reducible refine i_enum ?_) | (with_reducible refine i_enumL ?_) | (with_reducible refine i_rng ?_) | (with_reducible refine i_rng2 ?_) | (with_reducible refine i_keysL ?_) | (with_reducible refine i_itemsL ?_) | fail "sxI")
local macro_rules | `(tactic| walk_at "sxF") => `(tactic| first | (with_reducible refine z_dat ?_) | (with_reducible refine z_loc ?_) | (with_reducible refine z_ofD ?_) | (with_reducible refine z_nlm ?_) | (with_reducible refine z_nlf ?_) | (with_reducible refine z_nlc ?_) | (with_reducible refine z_nl (by walk_at "al") ?_) | fail "sxF")
local macro_rules | `(tactic| walk_at "sxC") => `(tactic| first | (with_reducible refine if_T ?_) | (with_reducible refine if_F ?_) | (with_reducible refine if_bT (by decide +kernel) ?_) | (with_reducible refine if_bF (by decide +kernel) ?_) | (with_reducible refine if_bT (by with_unfolding_all exact rfl) ?_) | (with_reducible refine if_bF (by with_unfolding_all exact rfl) ?_) | fail "sxC")
local macro_rules | `(tactic| walk_at "sxD") => `(tactic| first | (with_reducible refine l_addI ?_) | (with_reducible refine l_sub ?_) | (with_reducible refine l_neg ?_) | (with_reducible refine l_eqI ?_) | (with_reducible refine l_neI ?_) | (with_reducible refine l_eqS ?_) | (with_reducible refine l_neS ?_) | (with_reducible refine l_lt ?_) | (with_reducible refine l_le ?_) | (with_reducible refine l_gt ?_) | (with_reducible refine l_ge ?_) | (with_reducible refine l_ixT rfl ?_) | (with_reducible refine l_ixL rfl ?_) | (with_reducible refine l_slT ?_) | (with_reducible refine l_slL ?_) | (with_reducible refine l_lenT ?_) | (with_reducible refine l_lenL ?_) | (with_reducible refine l_int ?_) | (with_reducible refine l_intB ?_) | (with_reducible refine l_listT ?_) | (with_reducible refine l_listL ?_) | (with_reducible refine l_tupL ?_) | (with_reducible refine l_tupT ?_) | (with_reducible refine l_inT ?_) | (with_reducible refine l_ninT ?_) | (with_reducible refine l_inL ?_) | (with_reducible refine l_ninL ?_) | (with_reducible refine l_mm ?_) | (with_reducible refine w_ix ?_; first | (with_reducible refine l_ixT rfl ?_) | (with_reducible refine l_ixL rfl ?_) | (with_reducible refine l_ix0T ?_) | (with_reducible refine l_ix0L ?_)) | (with_reducible refine w_in ?_; first | (with_reducible refine l_inT ?_) | (with_reducible refine l_ninT ?_) | (with_reducible refine l_inL ?_) | (with_reducible refine l_ninL ?_)) | (with_reducible refine w_eq ?_; first | (with_reducible refine l_eqI ?_) | (with_reducible refine l_eqS ?_)) | (with_reducible refine w_eqC (w_eq ?_); first | (with_reducible refine l_eqI ?_) | (with_reducible refine l_eqS ?_)) | (with_reducible refine w_len ?_; first | (with_reducible refine l_lenT ?_) | (with_reducible refine l_lenL ?_)) | (with_reducible refine w_list ?_; first | (with_reducible refine l_listT ?_) | (with_reducible refine l_listL ?_)) | (walk_at "isi") | fail "sxD")
local macro_rules | `(tactic| walk_at "sxR") => `(tactic| first | (with_reducible refine x_op ?_) | (with_reducible refine x_cb ?_) | (with_reducible refine x_varD rfl ?_) | (with_reducible refine x_varL rfl ?_) | (with_reducible refine x_D ?_) | (with_reducible refine x_if ?_) | (with_reducible refine x_tup ?_) | (with_reducible refine x_lst ?_) | (with_reducible refine x_bm ?_) | (with_reducible refine x_bm0 ?_) | (with_reducible refine x_sl ?_) | (with_reducible refine x_and ?_) | (with_reducible refine x_or ?_) | (with_reducible refine x_not ?_) | (with_reducible refine x_un ?_) | (with_reducible refine x_isN ?_) | (with_reducible refine x_notN ?_) | (with_reducible refine x_chain ?_) | (with_reducible refine x_inK ?_) | (with_reducible refine x_lc ?_) | (with_reducible refine x_fldK ?_) | (with_reducible refine x_meth ?_) | (with_reducible refine x_make ?_) | (with_reducible refine x_lenO ?_) | (with_reducible refine x_eqO ?_) | (with_reducible refine x_inO ?_) | (with_reducible refine x_kget ?_) | (with_reducible refine x_lk ?_) | (with_reducible refine x_disK ?_) | (with_reducible refine x_dnew ?_) | (with_reducible refine x_dget1 ?_) | (with_reducible refine x_tget ?_) | (with_reducible refine x_tin ?_) | (with_reducible refine x_disT ?_) | (with_reducible refine x_dc ?_) | (with_reducible refine x_lc2 ?_) | (with_reducible refine x_disU ?_) | (with_reducible refine x_neO ?_) | (with_reducible refine x_cbT ?_) | (with_reducible refine x_listRng ?_) | (with_reducible refine x_isE rfl rfl ?_) | (with_reducible refine x_isE0 rfl rfl ?_) | (with_reducible refine l_eq1 ?_) | (with_reducible refine x_ymethA ?_) | (with_reducible refine x_yix (k := 0) ?_) | (with_reducible refine x_yix (k := 1) ?_) | (with_reducible refine x_ycall ?_) | (with_reducible refine l_sortF ?_) | (with_reducible refine x_xf rfl rfl ?_) | (walk_at "sxD") | (with_reducible refine x_dpop1 ?_) | (with_reducible refine x_dpop2 ?_) | (with_reducible refine x_dictZip ?_) | fail "sxR")
local macro_rules | `(tactic| walk_at "sxE") => `(tactic| first | (with_reducible refine e_dat (by walk_at "tk") ?_) | (with_reducible refine e_ofD (by walk_at "tk") ?_) | (with_reducible refine e_nlf (by walk_at "tk") ?_) | (with_reducible refine e_nlm (by walk_at "tk") ?_) | (with_reducible refine e_nl (by walk_at "tk") (by with_unfolding_all exact rfl) ?_) | fail "sxE")
local macro_rules | `(tactic| walk_at "sxX") => `(tactic| first | (with_reducible refine gBlK ?_; first | (with_reducible refine b_bl ?_) | (with_reducible refine b_ofD ?_)) | (with_reducible refine p_dat ?_) | (with_reducible refine p_loc ?_) | (with_reducible refine ik ?_) | (with_reducible refine stk ?_) | (with_reducible refine sk_l ?_) | (with_reducible refine sk_t ?_) | (with_reducible refine sk_f ?_) | (with_reducible refine pk ?_) | (with_reducible refine gTgt' ?_; with_reducible refine gk rfl ?_) | (with_reducible refine gTup ?_; with_reducible refine tk (by walk_at "al") (sz_lit rfl) ?_) | (with_reducible refine gFld' ?_; with_reducible refine fk1 (by simp) ?_) | (with_reducible refine gNxt ?_; with_reducible refine e_nx (by walk_at "tk") ?_) | (with_reducible refine dkk ?_)   | (with_reducible refine gAnd ?_; first | (with_reducible refine And.intro (sz_lit rfl) ?_) | (with_reducible refine And.intro (isDct_dat (by assumption)) ?_) | (with_reducible refine And.intro ty_l ?_) | (with_reducible refine And.intro ty_s ?_) | (with_reducible refine And.intro (isI_one (by decide)) ?_) | (with_reducible refine And.intro (tyL_loc mem_here) ?_))   | (with_reducible refine gBind ?_; first | (with_reducible refine bk_dat ?_) | (with_reducible refine bk_loc ?_) | (with_reducible refine bk_nlF (by walk_at "al") ?_)) | fail "sxX")
local macro_rules | `(tactic| walk_at "sxB") => `(tactic| first | (with_reducible refine b_seqK ?_) | (with_reducible refine b_nilK ?_) | (with_reducible refine b_fldK ?_) | (with_reducible refine b_fldVK ?_) | (with_reducible refine b_tup2K ?_) | fail "sxB")
local macro_rules | `(tactic| walk_at "sxH") => `(tactic| first | (with_reducible refine h_nilK ?_) | (with_reducible refine h_consK ?_) | (with_reducible refine h_nameK ?_) | (with_reducible refine h_fldK ?_) | (with_reducible refine h_dputK ?_) | fail "sxH")
local macro_rules | `(tactic| walk_at "sx1") => `(tactic| first | (with_reducible refine gS ?_; walk_at "sxS") | (with_reducible refine gV ?_; walk_at "sxV") | (with_reducible refine gR ?_; walk_at "sxR") | (with_reducible refine gA ?_; walk_at "sxA") | (with_reducible refine gT ?_; walk_at "sxT") | (with_reducible refine gF ?_; walk_at "sxF") | (with_reducible refine gC ?_; walk_at "sxC") | (with_reducible refine gRt ?_; walk_at "sxE") | (with_reducible refine gO ?_; walk_at "sxO") | (with_reducible refine gI ?_; walk_at "sxI") | (with_reducible refine gP ?_; walk_at "sxP") | (with_reducible refine gBb ?_; walk_at "sxB") | (with_reducible refine gHh ?_; walk_at "sxH") | (walk_at "sxX") | fail "sx")
local macro_rules | `(tactic| walk_at "sx") => `(tactic| repeat' (walk_at "sx1"))
local macro_rules | `(tactic| walk_at "sxs") => `(tactic| repeat' (first | (walk_at "sx1") | (with_reducible refine if_dec (fun _ => ?_) (fun _ => ?_)) | (with_reducible refine if_ndec (fun _ => ?_) (fun _ => ?_)) | fail "sxs"))
section
variable {QR:R→Mem→Prop}{E:Xc→Mem→Prop}{μ ν:Mem}{B:Bg}{i n:Int}{b:Bool}{ss fs:List Int}{st:Int}
theorem take_s {m:Int}(hB:B.ok)(hm:0<m)(hm':m.natAbs.log2<9000)(h:∀ (r:Nat) (B':Bg),B'.ok→(r:Int)<m→QR (.dat (.int r)) (B'.pl::ν)):Sat (F__law_take [.loc 0,.dat (.int m)] (B.pl::ν)) QR E:=by
 rw[e__law_take];exact d_takeW hB hm hm' h
theorem one_s {ds:List D}(hB:B.ok)(h0:0<ds.length)(hs:ds.length<1073741824)(h:∀ (d:D) (B':Bg),B'.ok→d∈ds→QR (.dat d) (B'.pl::ν)):Sat (F__law_one [.loc 0,.dat (.lst ds)] (B.pl::ν)) QR E:=by
 refine w__law_one ?_
 unfold g__law_one
 walk_at "sx"
 refine take_s hB (by omega) (by
  have h1:((ds.length:Nat):Int).natAbs=ds.length:=Int.natAbs_natCast _
  rw[h1]
  have:=(Nat.log2_lt (by omega) (k:=30)).mpr (Nat.lt_of_lt_of_le hs (by decide))
  omega) fun r B1 hB1 hr=>?_
 have hr':r<ds.length:=by omega
 walk_at "sx"
 have e:atI ds (r:Int)=some ds[r]:=DL.atI_nat (List.getElem?_eq_getElem hr')
 refine l_ixL e ?_
 exact e_dat (List.take_of_length_le (by simp)) (h _ B1 hB1 (List.getElem_mem _))
theorem drawn_s {QA:List DV→Mem→Prop}{M c j:Nat}{δ:DL.Env}(hB:B.ok)(hM:0<M)(hM':M≤1000)(hj:∀ d,∃ δ1,tgName j d δ=some δ1∧δ1[0]?=some (some (.loc 0)))
  (h:∀ (ns:List Int) (B':Bg),B'.ok→(∀ i∈ns,1≤i∧i≤(M:Int))→ns.length=c→QA ((ns.map D.int).map DV.dat) (B'.pl::ν)) :
  Sat (lcL (tgName j) tmYes (eOp dAdd (eD (.int 1)) (eCB F__law_take (aCons (eVar 0) (aCons (eD (.int (M:Int))) aNil)))) δ (rngD 0 c) (B.pl::ν)) QA E:=by
 refine lc_ix (fun k ys μ=>∃ (ns:List Int) (B':Bg),B'.ok∧μ=B'.pl::ν∧ns.length=k∧(∀ i∈ns,1≤i∧i≤(M:Int))∧ys=ns.map fun i=>.dat (.int i)) ⟨[],B,hB,rfl,rfl,(fun _ h=>by cases h),rfl⟩ (fun k d hd ys μ hI=>?_) fun ys μ hI=>?_
 ·obtain⟨ns,B',hB',rfl,hl,hr,rfl⟩:=hI
  obtain⟨δ1,e1,e2⟩:=hj d
  refine⟨δ1,e1,?_⟩
  show Sat (tmYes δ1 _) _ _
  refine t_yes ?_
  rw[if_pos rfl]
  refine x_fz (x_op (x_fz (x_D (z_dat (x_fz (x_cb (a_consK (v_var e2 (a_consK (x_fz (x_D (z_dat (a_nilK ?_)))))))))))))
  refine take_s hB' (by omega) (by
   have h1:((M:Nat):Int).natAbs=M:=Int.natAbs_natCast _
   rw[h1]
   have:=(Nat.log2_lt (by omega) (k:=30)).mpr (Nat.lt_of_le_of_lt hM' (by decide))
   omega) fun r B2 hB2 hr2=>?_
  refine z_dat (l_addI (z_dat ⟨ns++[1+(r:Int)],B2,hB2,rfl,by simp[hl],fun i hi=>?_,by simp⟩))
  rcases List.mem_append.mp hi with q|q
  ·exact hr i q
  ·rw[List.mem_singleton.mp q];omega
 ·obtain⟨ns,B',hB',rfl,hl,hr,rfl⟩:=hI
  have:=h ns B' hB' hr (by rw[hl];unfold rngD;simp)
  rwa [List.map_map] at this
theorem asJ (ns:List Int):asIntsN ((ns.map D.int).map DV.dat)=some ns:=by rw[List.map_map];exact asIntsN_map ns
theorem sortN_len (ns:List Int):(sortN ns).length≤ns.length:=sub_len (sortN_nodup ns) fun x hx=>(sortN_mem x ns).mp hx
theorem seven_s (hB:B.ok)(h:∀ (ss fs:List Int) (st:Int) (B':Bg),B'.ok→FmJ ss fs st→QR (.dat (fmD ss fs st)) (B'.pl::ν)):Sat (F__law_form [.loc 0] (B.pl::ν)) QR E:=by
 refine w__law_form ?_
 unfold g__law_form
 walk_at "sx"
 refine take_s hB (by decide) (by decide +kernel) fun r B1 hB1 hr=>?_
 walk_at "sx"
 have hz:∃ z:Nat,z≤12∧atI [D.int 0,D.int 1,D.int 2,D.int 3,D.int 4,D.int 6,D.int 12] (r:Int)=some (D.int (z:Int)):=by
  have h4:r=0∨r=1∨r=2∨r=3∨r=4∨r=5∨r=6:=by omega
  rcases h4 with rfl|rfl|rfl|rfl|rfl|rfl|rfl
  ·exact⟨0,by decide,rfl⟩
  ·exact⟨1,by decide,rfl⟩
  ·exact⟨2,by decide,rfl⟩
  ·exact⟨3,by decide,rfl⟩
  ·exact⟨4,by decide,rfl⟩
  ·exact⟨6,by decide,rfl⟩
  ·exact⟨12,by decide,rfl⟩
 obtain⟨z,hz1,hz2⟩:=hz
 refine w_ix (l_ixL hz2 ?_)
 walk_at "sx"
 refine x_sortsetN ?_
 walk_at "sx"
 refine take_s hB1 (by decide) (by decide +kernel) fun c B2 hB2 hc=>?_
 walk_at "sx"
 refine And.intro ⟨by omega,by omega⟩ ?_
 refine And.intro (sl_sz (by rw[rng_len];omega)) ?_
 refine drawn_s (M:=20) hB2 (by decide) (by decide) (fun d=>by exact⟨_,rfl,rfl⟩) fun xs B3 hB3 hxs hxl=>?_
 walk_at "sx"
 refine⟨_,xs,rfl,asJ xs,by have:=sortN_len xs;show _<4096;omega,?_⟩
 walk_at "sx"
 refine x_sortsetN ?_
 walk_at "sx"
 refine take_s hB3 (by decide) (by decide +kernel) fun c2 B4 hB4 hc2=>?_
 walk_at "sx"
 generalize hq:(if decide (0<(z:Int))=true then(1:Int) else 0)=q
 have hq2:0≤q∧q≤1∧(q=1→1≤(z:Int)):=by
  rw[←hq]
  by_cases h0:0<(z:Int)
  ·rw[if_pos (decide_eq_true h0)];omega
  ·rw[if_neg (by simpa using h0)];omega
 refine l_mul (cMul_l ⟨by omega,by omega⟩) ?_
 have hm:∃ c3:Nat,q*(1+(c2:Int))=(c3:Int)∧c3≤4∧(1≤c3→1≤(z:Int)):=by
  have h01:q=0∨q=1:=by omega
  rcases h01 with h0|h0
  ·exact⟨0,by rw[h0,Int.zero_mul];rfl,by decide,fun h=>absurd h (by decide)⟩
  ·exact⟨1+c2,by rw[h0,Int.one_mul];push_cast;rfl,by omega,fun _=>hq2.2.2 h0⟩
 obtain⟨c3,e3,h3,h4⟩:=hm
 rw[e3]
 walk_at "sx"
 refine And.intro ⟨by omega,by omega⟩ ?_
 refine And.intro (sl_sz (by rw[rng_len];omega)) ?_
 refine drawn_s (M:=20) hB4 (by decide) (by decide) (fun d=>by exact⟨_,rfl,rfl⟩) fun ys B5 hB5 hys hyl=>?_
 walk_at "sx"
 refine⟨_,ys,rfl,asJ ys,by have:=sortN_len ys;show _<4096;omega,?_⟩
 rw[show((sortN ys).map fun s=>DV.dat (.int s))=((sortN ys).map D.int).map DV.dat by rw[List.map_map];rfl]
 walk_at "sx"
 exact h (sortN xs) (sortN ys) z B5 hB5 ⟨fun i hi=>by have:=hxs i ((sortN_mem i xs).mp hi);omega,fun i hi=>by have:=hys i ((sortN_mem i ys).mp hi);omega,by have:=sortN_len xs;omega,by have:=sortN_len ys;omega,by omega,fun hn=>h4 (by
  cases ys with
  | nil=>exact absurd rfl hn
  | cons a r=>rw[List.length_cons] at hyl;omega)⟩
theorem great_s (hB:B.ok)(h:∀ (ss fs:List Int) (st:Int) (B':Bg),B'.ok→FmJ ss fs st→QR (.dat (fmD ss fs st)) (B'.pl::ν)):Sat (F__law_great_form [.loc 0] (B.pl::ν)) QR E:=by
 refine w__law_great_form ?_
 unfold g__law_great_form
 walk_at "sx"
 refine x_sortsetN ?_
 walk_at "sx"
 refine take_s hB (by decide) (by decide +kernel) fun c B2 hB2 hc=>?_
 walk_at "sx"
 refine And.intro ⟨by omega,by omega⟩ ?_
 refine And.intro (sl_sz (by rw[rng_len];omega)) ?_
 refine drawn_s (M:=1000) hB2 (by decide) (by decide) (fun d=>by exact⟨_,rfl,rfl⟩) fun xs B3 hB3 hxs hxl=>?_
 walk_at "sx"
 refine⟨_,xs,rfl,asJ xs,by have:=sortN_len xs;show _<4096;omega,?_⟩
 rw[show((sortN xs).map fun s=>DV.dat (.int s))=((sortN xs).map D.int).map DV.dat by rw[List.map_map];rfl]
 walk_at "sx"
 refine x_sortsetN ?_
 walk_at "sx"
 refine take_s hB3 (by decide) (by decide +kernel) fun c3 B4 hB4 hc3=>?_
 walk_at "sx"
 refine And.intro ⟨by omega,by omega⟩ ?_
 refine And.intro (sl_sz (by rw[rng_len];omega)) ?_
 refine drawn_s (M:=1000) hB4 (by decide) (by decide) (fun d=>by exact⟨_,rfl,rfl⟩) fun ys B5 hB5 hys hyl=>?_
 walk_at "sx"
 refine⟨_,ys,rfl,asJ ys,by have:=sortN_len ys;show _<4096;omega,?_⟩
 rw[show((sortN ys).map fun s=>DV.dat (.int s))=((sortN ys).map D.int).map DV.dat by rw[List.map_map];rfl]
 walk_at "sx"
 refine take_s hB5 (by decide) (by decide +kernel) fun r B6 hB6 hr=>?_
 walk_at "sx"
 exact h (sortN xs) (sortN ys) (1+(r:Int)) B6 hB6 ⟨fun i hi=>by have:=hxs i ((sortN_mem i xs).mp hi);omega,fun i hi=>by have:=hys i ((sortN_mem i ys).mp hi);omega,by have:=sortN_len xs;omega,by have:=sortN_len ys;omega,by omega,fun _=>by omega⟩
end
section
variable {QR:R→Mem→Prop}{E:Xc→Mem→Prop}{μ ν:Mem}{B:Bg}{i n:Int}{b:Bool}{ss fs:List Int}{st:Int}
theorem rep_flat {α:Type}(x:α):∀ n:Nat,(List.replicate n [x]).flatten=List.replicate n x
 | 0=>rfl
 | n+1=>by rw[List.replicate_succ,List.flatten_cons,rep_flat x n,List.replicate_succ];rfl
theorem long_s {QV:DV→Mem→Prop}{δ:DL.Env}(h:QV (.dat (.lst (List.replicate 4000 (.int 0)))) μ):Sat (eOp dMulX (eLst (aCons (eD (.int 0)) aNil)) (eD (.int 4000)) δ μ) (fun r μ'=>FzK r μ' QV) E:=by
 have e1:eOp dMulX (eLst (aCons (eD (.int 0)) aNil)) (eD (.int 4000)) δ μ=.ok (.nl ((List.replicate 4000 (D.int 0)).map DV.dat)) μ:=by
  refine ev_op (x:=.dat (.lst [.int 0])) (y:=.dat (.int 4000)) rfl rfl ?_
  show dMulX _ _ _=_
  unfold dMulX
  simp only[asI,asM]
  rw[if_pos (by decide)]
  rw[show((4000:Int).toNat)=4000 from rfl,List.map_replicate,←rep_flat]
  rfl
 rw[e1]
 show FzK (.nl ((List.replicate 4000 (D.int 0)).map DV.dat)) μ QV
 generalize List.replicate 4000 (D.int 0)=L at h ⊢
 unfold FzK
 simp only[frz,allDat_map]
 exact h
def tlenB (m:Nat)(d:D):Bool:=match d with
 | .tup ds=>decide (ds.length≤m)&&ds.all fun x=>match x with
  | .tup ps=>decide (ps.length≤m)
  | _=>true
 | _=>true
theorem tlen_iff {m:Nat}{d:D}:tlenB m d=true↔∀ ds,tupO d=some ds→ds.length≤m∧∀ x∈ds,∀ ps,tupO x=some ps→ps.length≤m:=by
 have key:∀ x:D,(match x with | .tup ps=>decide (ps.length≤m)|_=>true)=true↔∀ ps,tupO x=some ps→ps.length≤m:=fun x=>by
  cases x <;> simp[tupO]
 cases d with
 | tup ds =>
  unfold tlenB
  simp only[Bool.and_eq_true,decide_eq_true_eq,List.all_eq_true,key]
  constructor
  ·rintro ⟨h1,h2⟩ es e
   cases e
   exact⟨h1,h2⟩
  ·intro h
   exact h ds rfl
 | _=>exact⟨(fun _ ds e=>by cases e),fun _=>rfl⟩
theorem tlen_mono {m n:Nat}{d:D}(h:tlenB m d=true)(hm:m≤n):tlenB n d=true:=tlen_iff.mpr fun ds e=>⟨Nat.le_trans (tlen_iff.mp h ds e).1 hm,fun x hx ps q=>Nat.le_trans ((tlen_iff.mp h ds e).2 x hx ps q) hm⟩
theorem tlen_at {m:Nat}{d:D}(h:tlenB m d=true):∀ ps,tupO d=some ps→ps.length≤m:=fun ps e=>(tlen_iff.mp h ps e).1
theorem itj_cons {k w w':Nat}{d:D}{ds:List D}(h:Tj k w d)(h':Itj k w' ds):Itj k (w+1+w') (d::ds):=Itj.app (Itj.one h) h'
theorem tj_i {k:Nat}{i:Int}(h:i.natAbs<10^12):Tj k 40 (.int i):=tj_intS h (Nat.le_refl _)
def oddJ (L:List D):List D:=[.non,.bl true,.bl false,.int (-1),.int 0,.int 1,.int 1000,.int 1001,.int 200,.int 201,.int (10^Int.toNat 30),.str "",.str "1",.tup [],.lst [],.dct [],.tup [.int 1],.tup [.int 2,.int 1],.tup [.int 1,.int 1]] ++
 [.tup [.tup []],.lst [.lst [.lst [.lst [.lst [.lst [.lst []]]]]]],.lst L,.tup [.int 0],.tup [.int 1000],.tup [.int 1001],.tup [.non],.tup [.bl true]]
theorem odd_tj {L:List D}(hL:Itj 6 4000 L){d:D}(h:d∈oddJ L):Tj 7 4001 d∧tlenB 3 d=true:=by
 refine⟨?_,?_⟩
 case refine_2 =>
  unfold oddJ at h
  simp only[List.mem_append,List.mem_cons,List.not_mem_nil,or_false] at h
  rcases h with (rfl|rfl|rfl|rfl|rfl|rfl|rfl|rfl|rfl|rfl|rfl|rfl|rfl|rfl|rfl|rfl|rfl|rfl|rfl)|(rfl|rfl|rfl|rfl|rfl|rfl|rfl|rfl) <;> rfl
 unfold oddJ at h
 simp only[List.mem_append,List.mem_cons,List.not_mem_nil,or_false] at h
 rcases h with (rfl|rfl|rfl|rfl|rfl|rfl|rfl|rfl|rfl|rfl|rfl|rfl|rfl|rfl|rfl|rfl|rfl|rfl|rfl)|(rfl|rfl|rfl|rfl|rfl|rfl|rfl|rfl)
 ·exact tj_non
 ·exact tj_bl _
 ·exact tj_bl _
 ·exact tj_intS (by decide) (by decide)
 ·exact tj_intS (by decide) (by decide)
 ·exact tj_intS (by decide) (by decide)
 ·exact tj_intS (by decide) (by decide)
 ·exact tj_intS (by decide) (by decide)
 ·exact tj_intS (by decide) (by decide)
 ·exact tj_intS (by decide) (by decide)
 ·exact tj_int (by decide +kernel) (by decide)
 ·exact tj_str (by decide +kernel) (by decide +kernel)
 ·exact tj_str (by decide +kernel) (by decide +kernel)
 ·exact(Itj.nil (k:=6)).tup.mono (by decide) (by decide)
 ·exact(Itj.nil (k:=6)).lst.mono (by decide) (by decide)
 ·exact tj_dct (by decide)
 ·exact(itj_cons (k:=6) (tj_i (by decide)) Itj.nil).tup.mono (by decide) (by decide)
 ·exact(itj_cons (k:=6) (tj_i (by decide)) (itj_cons (tj_i (by decide)) Itj.nil)).tup.mono (by decide) (by decide)
 ·exact(itj_cons (k:=6) (tj_i (by decide)) (itj_cons (tj_i (by decide)) Itj.nil)).tup.mono (by decide) (by decide)
 ·exact(itj_cons (Itj.nil (k:=0)).tup Itj.nil).tup.mono (by decide) (by decide)
 ·exact(itj_cons (itj_cons (itj_cons (itj_cons (itj_cons (itj_cons (Itj.nil (k:=0)).lst Itj.nil).lst Itj.nil).lst Itj.nil).lst Itj.nil).lst Itj.nil).lst Itj.nil).lst.mono (by decide) (by decide)
 ·exact hL.lst.mono (by decide) (by decide)
 ·exact(itj_cons (k:=6) (tj_i (by decide)) Itj.nil).tup.mono (by decide) (by decide)
 ·exact(itj_cons (k:=6) (tj_i (by decide)) Itj.nil).tup.mono (by decide) (by decide)
 ·exact(itj_cons (k:=6) (tj_i (by decide)) Itj.nil).tup.mono (by decide) (by decide)
 ·exact(itj_cons (w:=0) (k:=6) tj_non Itj.nil).tup.mono (by decide) (by decide)
 ·exact(itj_cons (w:=0) (k:=6) (tj_bl _) Itj.nil).tup.mono (by decide) (by decide)
theorem odd_s (hB:B.ok)(h:∀ (d:D) (B':Bg),B'.ok→Tj 7 4001 d→tlenB 3 d=true→QR (.dat d) (B'.pl::ν)):Sat (F__law_odd_value [.loc 0] (B.pl::ν)) QR E:=by
 refine w__law_odd_value ?_
 unfold g__law_odd_value
 generalize hX:eOp dMulX (eLst (aCons (eD (.int 0)) aNil)) (eD (.int 4000))=fX
 walk_at "sx"
 refine And.intro (sl_sz (by simp only[List.length_cons,List.length_nil];decide)) ?_
 walk_at "sx"
 rw[←hX]
 refine long_s ?_
 generalize hL:List.replicate 4000 (D.int 0)=L
 walk_at "sx"
 refine l_addL (by simp only[List.length_cons,List.length_nil];decide) ?_
 walk_at "sx"
 refine one_s hB (by simp only[List.length_append,List.length_cons,List.length_nil];decide) (by simp only[List.length_append,List.length_cons,List.length_nil];decide) fun d B1 hB1 hd=>?_
 refine e_dat (List.take_of_length_le (by simp)) (h d B1 hB1 (odd_tj (L:=L) ?_ hd).1 (odd_tj (L:=L) ?_ hd).2)
 ·rw[←hL];exact itj_rep 4000
 ·rw[←hL];exact itj_rep 4000
theorem isT_tup {ds:List D} {QR:R→Mem→Prop} (h:QR (.dat (.bl true)) μ):Sat (dIsi (tabT "tuple" []) (.dat (.tup ds)) μ) QR E:=by
 walk_at "sx";exact h
theorem isT_no {d:D} {QR:R→Mem→Prop} (hd:KdN d=true) (hn:tupO d=none) (h:QR (.dat (.bl false)) μ):Sat (dIsi (tabT "tuple" []) (.dat d) μ) QR E:=by
 cases d <;> first|(cases hd;done)|(cases hn;done)|(walk_at "sx";exact h)
theorem isT_noB {d:D} {QB:Bool→Mem→Prop} (hd:KdN d=true) (hn:tupO d=none) (h:QB false μ):Sat (dIsi (tabT "tuple" []) (.dat d) μ) (fun r μ'=>BlK r μ' QB) E:=isT_no hd hn (b_bl h)
theorem put_len {ds:List D}{a m n:Nat}{d1:D}(c3:ds.length=3)(ha:a<3)(hm:3≤n)(hmn:m≤n)(ht:tlenB m (.tup ds)=true)(h:∀ ps,tupO d1=some ps→ps.length≤n):tlenB n (.tup (ds.take a++[d1]++ds.drop (a+1)))=true:=by
 obtain⟨h1,h2⟩:=tlen_iff.mp ht ds rfl
 refine tlen_iff.mpr fun es e=>?_
 cases e
 refine⟨?_,fun x hx ps q=>?_⟩
 ·simp only[List.length_append,List.length_take,List.length_drop,List.length_cons,List.length_nil];omega
 ·simp only[List.mem_append,List.mem_singleton] at hx
  rcases hx with (z|z)|z
  ·exact Nat.le_trans (h2 x (List.mem_of_mem_take z) ps q) hmn
  ·rw[z] at q;exact h ps q
  ·exact Nat.le_trans (h2 x (List.mem_of_mem_drop z) ps q) hmn
theorem oddput_s {P:PO}{ds:List D}{a y N w m:Nat}{x4 x5:Option DV}(hB:B.ok)(hi:Itj 8 w ds)(hm:3≤m)(ht:tlenB m (.tup ds)=true)(ha:a<3)(c3:ds.length=3)(h:∀ (d':D) (B':Bg),B'.ok→Tj 9 (3*w+4500) d'→tlenB (m+1) d'=true→P.rt (.dat d') (B'.pl::ν)) :
  SatS (gRet (eOp dAdd (eOp dAdd (eSl (eVar 1) oNone (oSome (eVar 2))) (eTup (aCons (eCB F__law_odd_value (aCons (eVar 0) aNil)) aNil))) (eSl (eVar 1) (oSome (eOp dAdd (eVar 2) (eD (.int 1)))) oNone)) N
   [some (.loc 0),some (.dat (.tup ds)),some (.dat (.int (a:Int))),some (.dat (.int (y:Int))),x4,x5] (B.pl::ν)) P:=by
 walk_at "sx"
 rw[cut_to]
 walk_at "sx"
 refine odd_s hB fun d1 B3 hB3 h1 t1=>?_
 walk_at "sx"
 refine l_addT (by rw[List.length_take,c3];simp only[List.length_cons,List.length_nil];exact Nat.le_trans (show _≤64 by omega) (by decide)) ?_
 walk_at "sx"
 rw[cut_from (k:=a+1) (hi:=by push_cast;rfl)]
 refine l_addT (by rw[List.length_append,List.length_take,List.length_drop,c3];simp only[List.length_cons,List.length_nil];exact Nat.le_trans (show _≤64 by omega) (by decide)) ?_
 walk_at "sx"
 exact h _ B3 hB3 ((hi.put a (a+1) (h1.mono (by decide) (Nat.le_refl _)) (by omega)).tup.mono (by decide) (by omega)) (put_len c3 ha (by omega) (by omega) ht fun ps q=>Nat.le_trans (tlen_at t1 ps q) (by omega))
theorem bent_s {d:D}{w:Nat}(hB:B.ok)(hd:Tj 9 w d)(hw:w≤24000){m:Nat}(hm:3≤m)(htl:tlenB m d=true)(h:∀ (d':D) (B':Bg),B'.ok→Tj 9 (3*w+4500) d'→tlenB (m+1) d'=true→QR (.dat d') (B'.pl::ν)):Sat (F__law_bent [.loc 0,.dat d] (B.pl::ν)) QR E:=by
 refine w__law_bent ?_
 unfold g__law_bent
 walk_at "sx"
 refine take_s hB (by decide) (by decide +kernel) fun a B1 hB1 ha=>?_
 walk_at "sx"
 refine take_s hB1 (by decide) (by decide +kernel) fun y B2 hB2 hy=>?_
 walk_at "sx"
 cases ht:tupO d with
 | none =>
  refine isT_no hd.kn.k ht ?_
  walk_at "sx"
  refine odd_s hB2 fun d1 B3 hB3 h1 t1=>?_
  exact e_dat (E:=E) (List.take_of_length_le (by simp)) (h d1 B3 hB3 (h1.mono (k':=9) (w':=3*w+4500) (by decide) (by omega)) (tlen_mono t1 (by omega)))
 | some ds =>
  obtain rfl:d=.tup ds:=by cases d <;> simp[tupO] at ht;rw[ht]
  have hi:=hd.its
  refine isT_tup ?_
  walk_at "sx"
  by_cases c3:ds.length=3
  case neg =>
   rw[if_pos (by simp;omega),if_pos rfl]
   walk_at "sx"
   refine odd_s hB2 fun d1 B3 hB3 h1 t1=>?_
   exact e_dat (E:=E) (List.take_of_length_le (by simp)) (h d1 B3 hB3 (h1.mono (k':=9) (w':=3*w+4500) (by decide) (by omega)) (tlen_mono t1 (by omega)))
  rw[if_neg (by simp[c3])]
  walk_at "sx"
  refine if_dec (fun y0=>?_) (fun y0=>?_)
  ·walk_at "sx"
   refine odd_s hB2 fun d1 B3 hB3 h1 t1=>?_
   exact e_dat (E:=E) (List.take_of_length_le (by simp)) (h d1 B3 hB3 (h1.mono (k':=9) (w':=3*w+4500) (by decide) (by omega)) (tlen_mono t1 (by omega)))
  walk_at "sx"
  refine if_dec (fun y1=>?_) (fun y1=>?_)
  ·walk_at "sx"
   refine l_addT ?_ ?_
   ·simp only[c3,List.length_cons,List.length_nil];decide
   walk_at "sx"
   refine x_rev ?_
   walk_at "sx"
   refine⟨ds,rfl,rfl,?_⟩
   walk_at "sx"
   refine take_s hB2 (by decide) (by decide +kernel) fun r B3 hB3 hr=>?_
   walk_at "sx"
   have hz:∃ d',atI [D.lst ds,D.tup (cutL ds none (some 2)),D.tup (ds++[D.int 0]),D.tup ds.reverse] (r:Int)=some d'∧Tj 9 (3*w+4500) d'∧tlenB (m+1) d'=true:=by
    obtain⟨l1,l2⟩:=tlen_iff.mp htl ds rfl
    have h4:r=0∨r=1∨r=2∨r=3:=by omega
    rcases h4 with rfl|rfl|rfl|rfl
    ·exact⟨_,rfl,hi.lst.mono (by decide) (by omega),rfl⟩
    ·refine⟨_,rfl,?_⟩
     rw[show((2:Int))=((2:Nat):Int) from rfl,cut_to]
     exact⟨(hi.sub (List.take_sublist _ _)).tup.mono (by decide) (by omega),tlen_iff.mpr fun es e=>by cases e;exact⟨by rw[List.length_take];omega,fun x hx ps q=>Nat.le_trans (l2 x (List.mem_of_mem_take hx) ps q) (by omega)⟩⟩
    ·refine⟨_,rfl,(hi.app (Itj.one (tj_i (i:=0) (by decide)))).tup.mono (by decide) (by omega),tlen_iff.mpr fun es e=>?_⟩
     cases e
     refine⟨by rw[List.length_append];simp only[List.length_cons,List.length_nil];omega,fun x hx ps q=>?_⟩
     rcases List.mem_append.mp hx with z|z
     ·exact Nat.le_trans (l2 x z ps q) (by omega)
     ·rw[List.mem_singleton.mp z] at q;cases q
    ·exact⟨_,rfl,hi.rev.tup.mono (by decide) (by omega),tlen_iff.mpr fun es e=>by cases e;exact⟨by rw[List.length_reverse];omega,fun x hx ps q=>Nat.le_trans (l2 x (List.mem_reverse.mp hx) ps q) (by omega)⟩⟩
   obtain⟨d',e1,e2,e3⟩:=hz
   refine w_ix (l_ixL e1 ?_)
   exact e_dat (E:=E) (List.take_of_length_le (by simp)) (h d' B3 hB3 e2 e3)
  walk_at "sx"
  have ha3:a<ds.length:=by omega
  have ea:atI ds (a:Int)=some ds[a]:=DL.atI_nat (List.getElem?_eq_getElem ha3)
  have hp:Tj 8 w ds[a]:=hi.at (List.getElem?_eq_getElem ha3)
  refine w_ix (l_ixT ea ?_)
  have hptl:∀ qs,tupO ds[a]=some qs→qs.length≤m:=(tlen_iff.mp htl ds rfl).2 _ (List.getElem_mem _)
  generalize ds[a]=pt at hp hptl
  have put:∀ {d1:D} {w1:Nat},Tj 8 w1 d1→Tj 9 (w+(w1+1)) (.tup (ds.take a++[d1]++ds.drop (a+1))):=fun {d1 w1} q=>(hi.put a (a+1) q (by omega)).tup
  walk_at "sx"
  refine if_dec (fun y4=>?_) (fun y4=>?_)
  ·rw[if_pos rfl]
   exact oddput_s hB2 hi hm htl (by omega) c3 fun d' B' hB' q t'=>e_dat (E:=E) (List.take_of_length_le (by simp)) (h d' B' hB' q t')
  walk_at "sx"
  cases hpt:tupO pt with
  | none =>
   refine isT_noB hp.kn.k hpt ?_
   rw[if_pos (by decide),if_pos rfl]
   refine oddput_s hB2 hi hm htl (by omega) c3 fun d' B' hB' q t'=>e_dat (E:=E) (List.take_of_length_le (by simp)) (h d' B' hB' q t')
  | some ps =>
   obtain rfl:pt=.tup ps:=by cases pt <;> simp[tupO] at hpt;rw[hpt]
   have hj:=hp.its
   refine isT_tup ?_
   walk_at "sx"
   refine l_nilT ?_
   walk_at "sx"
   cases hps:ps.isEmpty with
   | true =>
    rw[if_pos (by decide)]
    refine oddput_s hB2 hi hm htl (by omega) c3 fun d' B' hB' q t'=>e_dat (E:=E) (List.take_of_length_le (by simp)) (h d' B' hB' q t')
   | false =>
    rw[if_neg (by decide)]
    walk_at "sx"
    have hpm:ps.length≤m:=hptl ps rfl
    have hpl:ps.length≤w:=by have:=hj.2;omega
    have hp0:0<ps.length:=by
     cases ps with
     | nil=>cases hps
     | cons _ _=>exact Nat.succ_pos _
    refine take_s hB2 (by omega) (by
     have h1:((ps.length:Nat):Int).natAbs=ps.length:=Int.natAbs_natCast _
     rw[h1]
     have:=(Nat.log2_lt (by omega) (k:=30)).mpr (show ps.length<2^30 by omega)
     omega) fun sp B3 hB3 hsp=>?_
    walk_at "sx"
    rw[cut_to]
    walk_at "sx"
    refine odd_s hB3 fun d1 B4 hB4 h1 t1=>?_
    walk_at "sx"
    refine l_addT ?_ ?_
    ·rw[List.length_take];simp only[List.length_cons,List.length_nil];exact Nat.le_trans (show _≤25000 by omega) (by decide)
    walk_at "sx"
    rw[cut_from (k:=sp+1) (hi:=by push_cast;rfl)]
    refine l_addT ?_ ?_
    ·rw[List.length_append,List.length_take,List.length_drop];simp only[List.length_cons,List.length_nil];exact Nat.le_trans (show _≤50000 by omega) (by decide)
    walk_at "sx"
    rw[show cutL ps none (some (1:Int))=ps.take 1 from cut_to ps 1]
    refine l_addT ?_ ?_
    ·rw[List.length_take];exact Nat.le_trans (show _≤50000 by omega) (by decide)
    walk_at "sx"
    refine take_s hB4 (by decide) (by decide +kernel) fun r B5 hB5 hr=>?_
    walk_at "sx"
    have hz:∃ d',atI [D.tup (ps.take sp++[d1]++ps.drop (sp+1)),D.tup (ps++ps.take 1),D.lst ps] (r:Int)=some d'∧Tj 8 (w+4100+(if r=1 then w else 0)) d'∧∀ qs,tupO d'=some qs→qs.length≤m+1:=by
     have h4:r=0∨r=1∨r=2:=by omega
     rcases h4 with rfl|rfl|rfl
     ·exact⟨_,rfl,(hj.put sp (sp+1) h1 (by omega)).tup.mono (by decide) (by simp),fun qs e=>by cases e;simp only[List.length_append,List.length_take,List.length_drop,List.length_cons,List.length_nil];omega⟩
     ·exact⟨_,rfl,(hj.app (hj.sub (List.take_sublist 1 ps))).tup.mono (by decide) (by simp),fun qs e=>by cases e;simp only[List.length_append,List.length_take];omega⟩
     ·exact⟨_,rfl,hj.lst.mono (by decide) (by simp),fun qs e=>by cases e⟩
    obtain⟨d',e1,e2,e4⟩:=hz
    refine w_ix (l_ixL e1 ?_)
    walk_at "sx"
    rw[cut_to]
    walk_at "sx"
    refine l_addT (by rw[List.length_take,c3];simp only[List.length_cons,List.length_nil];exact Nat.le_trans (show _≤64 by omega) (by decide)) ?_
    walk_at "sx"
    rw[cut_from (k:=a+1) (hi:=by push_cast;rfl)]
    refine l_addT (by rw[List.length_append,List.length_take,List.length_drop,c3];simp only[List.length_cons,List.length_nil];exact Nat.le_trans (show _≤64 by omega) (by decide)) ?_
    walk_at "sx"
    have e3:=(put e2).mono (w':=3*w+4500) (Nat.le_refl _) (by split <;> omega)
    exact h _ B5 hB5 e3 (put_len c3 (by omega) (by omega) (by omega) htl e4)
end
section
variable {QR:R→Mem→Prop}{E:Xc→Mem→Prop}{μ ν:Mem}{B:Bg}{i n:Int}{b:Bool}{ss fs:List Int}{st:Int}{d:D}{ds:List D}{k w:Nat}
theorem lc_mapI {QA:List DV→Mem→Prop}{δ:DL.Env}{h:D→DL.Env→Option DL.Env}{fe:EM}(y:D→D)(hx:∀ x∈ds,∃ δ1,h x δ=some δ1∧Sat (frzV fe δ1 μ) (fun r μ'=>r=.dat (y x)∧μ'=μ) (fun _ _=>False))(hq:QA (ds.map fun x=>.dat (y x)) μ):Sat (lcL h tmYes fe δ ds μ) QA E:=by
 have:=lc_mapK (enc:=fun x:D=>x) (xs:=ds) (QA:=QA) (E:=E) y hx hq
 rw[List.map_id'] at this;exact this
theorem lc_filI {QA:List DV→Mem→Prop}{δ:DL.Env}{h:D→DL.Env→Option DL.Env}{ft:TM}{fe:EM}(c:D→Bool)(hx:∀ x∈ds,∃ δ1,h x δ=some δ1∧Sat (ft δ1 μ) (fun b μ'=>b=c x∧μ'=μ) (fun _ _=>False)∧(c x=true→Sat (frzV fe δ1 μ) (fun r μ'=>r=.dat x∧μ'=μ) (fun _ _=>False)))(hq:QA ((ds.filter c).map DV.dat) μ):Sat (lcL h ft fe δ ds μ) QA E:=by
 have:=lc_filK (enc:=fun x:D=>x) (xs:=ds) (QA:=QA) (E:=E) c (fun x=>x) hx hq
 rw[List.map_id'] at this;exact this
theorem kd_cases (hd:KdN d=true):(∃ x,d=x∧(x=.non∨(∃ b,x=.bl b)∨(∃ i,x=.int i)∨(∃ s,x=.str s)∨(∃ l,x=.tup l)∨(∃ l,x=.lst l)∨(∃ l,x=.dct l))):=by
 refine⟨d,rfl,?_⟩
 cases d with
 | non=>exact .inl rfl
 | bl b=>exact .inr (.inl ⟨b,rfl⟩)
 | int b=>exact .inr (.inr (.inl ⟨b,rfl⟩))
 | str b=>exact .inr (.inr (.inr (.inl ⟨b,rfl⟩)))
 | tup b=>exact .inr (.inr (.inr (.inr (.inl ⟨b,rfl⟩))))
 | lst b=>exact .inr (.inr (.inr (.inr (.inr (.inl ⟨b,rfl⟩)))))
 | dct b=>exact .inr (.inr (.inr (.inr (.inr (.inr ⟨b,rfl⟩)))))
 | ins=>cases hd
 | ty=>cases hd
 | ref=>cases hd
 | fro=>cases hd
 | err=>cases hd
theorem int_s (hd:KdN d=true)(h:QR (.dat (.bl (isIntO d).isSome)) μ):Sat (F_is_integer [.dat d] μ) QR E:=by
 refine w_is_integer ?_
 unfold g_is_integer
 obtain⟨x,rfl,q⟩:=kd_cases hd
 rcases q with rfl|⟨b,rfl⟩|⟨b,rfl⟩|⟨b,rfl⟩|⟨b,rfl⟩|⟨b,rfl⟩|⟨b,rfl⟩ <;> (walk_at "sx";exact h)
theorem whole_s (hd:KdN d=true)(h:QR (.dat (.bl (isIntO d).isSome)) μ):Sat (F__law_is_whole [.dat d] μ) QR E:=by
 refine w__law_is_whole ?_
 unfold g__law_is_whole
 obtain⟨x,rfl,q⟩:=kd_cases hd
 rcases q with rfl|⟨b,rfl⟩|⟨b,rfl⟩|⟨b,rfl⟩|⟨b,rfl⟩|⟨b,rfl⟩|⟨b,rfl⟩ <;> (walk_at "sx";exact h)
def okJ (d:D):Bool:=match isIntO d with
 | some i=>inR i
 | none=>false
theorem okJ_all:∀ {ds:List D},ds.all okJ=true→∃ ns,intsJ ds=some ns∧ns.all inR=true
 | [],_=>⟨[],rfl,rfl⟩
 | d::ds,h=>by
  rw[List.all_cons,Bool.and_eq_true] at h
  obtain⟨ns,e,q⟩:=okJ_all h.2
  have h1:=h.1
  unfold okJ at h1
  cases e1:isIntO d with
  | none=>rw[e1] at h1;cases h1
  | some i=>rw[e1] at h1;exact⟨i::ns,by simp only[intsJ,e1,e];rfl,by rw[List.all_cons,show inR i=true from h1,q];rfl⟩
theorem okJ_not:∀ {ds:List D} {ns:List Int},ds.all okJ=false→intsJ ds=some ns→ns.all inR=false
 | [],_,h,_=>by cases h
 | d::ds,ns,h,e=>by
  simp only[intsJ] at e
  cases e1:isIntO d with
  | none=>rw[e1] at e;cases e
  | some i =>
   rw[e1] at e
   cases e2:intsJ ds with
   | none=>rw[e2] at e;cases e
   | some ms =>
    rw[e2] at e;cases e
    rw[List.all_cons,Bool.and_eq_false_iff] at h ⊢
    rcases h with h|h
    ·left;unfold okJ at h;rw[e1] at h;exact h
    ·right;exact okJ_not h e2
theorem nums_s (hd:KdN d=true)(hk:∀ ds,tupO d=some ds→(∀ x∈ds,KdN x=true)∧ds.length≤30000)(h:QR (.dat (.bl (numsD d))) μ):Sat (F_are_numbers [.dat d] μ) QR E:=by
 refine w_are_numbers ?_
 unfold g_are_numbers
 walk_at "sx"
 cases ht:tupO d with
 | none =>
  refine isT_no hd ht ?_
  walk_at "sx"
  have e:numsD d=false:=by unfold numsD;rw[ht]
  rw[e] at h
  exact h
 | some ds =>
  obtain rfl:d=.tup ds:=by cases d <;> simp[tupO] at ht;rw[ht]
  obtain⟨k1,k2⟩:=hk ds rfl
  refine isT_tup ?_
  walk_at "sx"
  refine And.intro (Nat.le_trans k2 (by decide)) ?_
  refine lc_mapI (fun x=>.bl (okJ x)) (fun x hx=>⟨_,rfl,?_⟩) ?_
  ·walk_at "sx"
   refine int_s (k1 x hx) ?_
   cases e:isIntO x with
   | none =>
    walk_at "sx"
    exact⟨by unfold okJ;rw[e],rfl⟩
   | some i =>
    obtain rfl:=isIntO_is e
    walk_at "sx"
    refine if_dec (fun h1=>?_) (fun h1=>?_)
    ·walk_at "sx"
     exact⟨by rw[show okJ (.int i)=decide (1≤i∧i≤1000) from rfl];simp[h1],rfl⟩
    ·walk_at "sx"
     exact⟨by rw[show okJ (.int i)=decide (1≤i∧i≤1000) from rfl];simp[h1],rfl⟩
  walk_at "sx"
  refine l_all (f:=okJ) ?_
  rw[List.all_map,show(id∘okJ)=okJ from rfl]
  walk_at "sx"
  cases hk:ds.all okJ with
  | false =>
   rw[if_pos (by decide)]
   walk_at "sx"
   have e:numsD (.tup ds)=false:=by
    unfold numsD tupO
    simp only
    cases e2:intsJ ds with
    | none=>rfl
    | some ns=>simp only;rw[←numsL_ris,okJ_not hk e2];rfl
   rw[e] at h
   exact h
  | true =>
   rw[if_neg (by decide)]
   obtain⟨ns,e1,e2⟩:=okJ_all hk
   obtain rfl:=intsJ_is e1
   have e:numsD (.tup (ns.map D.int))=risB ns:=by
    unfold numsD tupO
    simp only
    rw[e1]
    simp only
    rw[←numsL_ris,e2];rfl
   rw[e] at h
   walk_at "sx"
   rw[List.length_map] at k2 ⊢
   refine And.intro ⟨by omega,by omega⟩ ?_
   have hn:((ns.length:Int)-1).toNat=ns.length-1:=by omega
   rw[hn]
   refine And.intro (by rw[rng_len];exact Nat.le_trans (show _≤30000 by omega) (by decide)) ?_
   unfold rngD
   refine lc_mapK (enc:=fun i:Nat=>D.int (0+(i:Int))) (fun i:Nat=>D.bl (decide (ns.getD i 0<ns.getD (i+1) 0))) (fun i hi=>⟨_,rfl,?_⟩) ?_
   ·have hi:=List.mem_range.mp hi
    have at_:∀ j:Nat,j<ns.length→atI (ns.map D.int) (j:Int)=some (.int (ns.getD j 0)):=fun j hj=>by
     refine DL.atI_nat ?_
     rw[List.getElem?_map,List.getElem?_eq_getElem hj,List.getD_eq_getElem?_getD,List.getElem?_eq_getElem hj];rfl
    walk_at "sx"
    refine w_ix (l_ixT (by rw[Int.zero_add];exact at_ i (by omega)) ?_)
    walk_at "sx"
    refine w_ix (l_ixT (by rw[show(0+(i:Int)+1)=((i+1:Nat):Int) by omega];exact at_ (i+1) (by omega)) ?_)
    walk_at "sx"
    exact⟨rfl,rfl⟩
   walk_at "sx"
   refine l_all (f:=fun x:Nat=>decide (ns.getD x 0<ns.getD (x+1) 0)) ?_
   rw[List.all_map]
   exact e_dat (E:=E) List.take_length h
theorem fil_some {c:D→Bool}{x:D}(hx:x∈ds)(hc:c x=true):(ds.filter c).isEmpty=false:=by
 cases e:ds.filter c with
 | nil=>have:x∈ds.filter c:=List.mem_filter.mpr ⟨hx,hc⟩;rw[e] at this;cases this
 | cons _ _=>rfl
theorem lnums_s (hd:KdN d=true)(hk:∀ ds,tupO d=some ds→(∀ x∈ds,KdN x=true)∧ds.length≤4000)(h:QR (.dat (.bl (numsD d))) μ):Sat (F__law_are_numbers [.dat d] μ) QR E:=by
 refine w__law_are_numbers ?_
 unfold g__law_are_numbers
 walk_at "sx"
 cases ht:tupO d with
 | none =>
  refine isT_no hd ht ?_
  walk_at "sx"
  have e:numsD d=false:=by unfold numsD;rw[ht]
  rw[e] at h
  exact h
 | some ds =>
  obtain rfl:d=.tup ds:=by cases d <;> simp[tupO] at ht;rw[ht]
  obtain⟨k1,k2⟩:=hk ds rfl
  refine isT_tup ?_
  walk_at "sx"
  refine And.intro (Nat.le_trans k2 (by decide)) ?_
  refine lc_filI (fun x=>!(isIntO x).isSome) (fun x hx=>⟨_,rfl,?_,fun _=>?_⟩) ?_
  ·walk_at "sx"
   refine whole_s (k1 x hx) ?_
   walk_at "sx"
   exact⟨rfl,rfl⟩
  ·walk_at "sx"
   exact⟨rfl,rfl⟩
  walk_at "sx"
  refine l_nilL ?_
  walk_at "sx"
  cases hi:intsJ ds with
  | none =>
   obtain⟨x,hx,hn⟩:=intsJ_none hi
   rw[fil_some hx (by rw[hn];rfl),if_pos (by decide)]
   walk_at "sx"
   have e:numsD (.tup ds)=false:=by unfold numsD tupO;simp only;rw[hi]
   rw[e] at h
   exact h
  | some ns =>
   obtain rfl:=intsJ_is hi
   rw[List.length_map] at k2
   have hemp:((ns.map D.int).filter fun x=>!(isIntO x).isSome).isEmpty=true:=by
    rw[List.isEmpty_iff,List.filter_eq_nil_iff]
    intro x hx
    obtain⟨i,_,rfl⟩:=List.mem_map.mp hx
    simp[isIntO]
   rw[hemp,if_neg (by decide)]
   have e:numsD (.tup (ns.map D.int))=numsL ns:=by
    unfold numsD tupO
    simp only
    rw[hi]
   rw[e] at h
   walk_at "sx"
   refine x_sortsetN ?_
   walk_at "sx"
   refine⟨_,ns,rfl,asJ ns,by have:=sortN_len ns;show _<4096;omega,?_⟩
   rw[show((sortN ns).map fun s=>DV.dat (.int s))=((sortN ns).map D.int).map DV.dat by rw[List.map_map];rfl]
   walk_at "sx"
   refine eq_intsJ ?_
   unfold numsL at h
   with_reducible refine b_bl ?_
   refine if_dec (fun h1=>?_) (fun h1=>?_)
   ·rw[decide_eq_true h1,Bool.true_and] at h
    walk_at "sx"
    rw[List.length_map]
    refine And.intro (Nat.le_trans k2 (by decide)) ?_
    refine lc_filK (enc:=D.int) (fun i:Int=>!inR i) (fun i:Int=>.int i) (fun i hi=>⟨_,rfl,?_,fun _=>?_⟩) ?_
    ·walk_at "sx"
     refine if_dec (fun q=>?_) (fun q=>?_)
     ·walk_at "sx"
      exact⟨by unfold DL.inR;simp[q],rfl⟩
     ·walk_at "sx"
      exact⟨by unfold DL.inR;simp[q],rfl⟩
    ·walk_at "sx"
     exact⟨rfl,rfl⟩
    walk_at "sx"
    refine l_nilL ?_
    refine e_dat (E:=E) List.take_length ?_
    rw[show(((ns.filter fun i=>!DL.inR i).map D.int).isEmpty==true)=ns.all DL.inR from ?_]
    ·exact h
    ·rw[Bool.eq_iff_iff]
     simp[List.isEmpty_iff,List.filter_eq_nil_iff]
   ·rw[decide_eq_false h1,Bool.false_and] at h
    exact e_dat (E:=E) List.take_length h
theorem eqB_J {a b:Bool}(h:QR (.dat (.bl (a==b))) μ):Sat (dEqA (.dat (.bl a)) (.dat (.bl b)) μ) QR E:=by
 refine l_eqG (p:=.bool a) (q:=.bool b) rfl rfl rfl rfl rfl (Nat.zero_le _) rfl (Nat.zero_le _) ?_
 rw[show PyData.eqv (.bool a) (.bool b)=(a==b) by cases a <;> cases b <;> rfl]
 exact h
theorem kd_items {x:D}{m:Nat}(h:Knj x)(hl:∀ ps,tupO x=some ps→ps.length≤m):∀ ps,tupO x=some ps→(∀ y∈ps,KdN y=true)∧ps.length≤m:=fun ps e=>by
 obtain rfl:x=.tup ps:=by cases x <;> simp[tupO] at e;rw[e]
 exact⟨fun y hy=>(h.it rfl y hy).k,hl ps rfl⟩
theorem form_s {w:Nat}(hd:Tj 9 w d)(htl:tlenB 9 d=true)(h:QR (.dat (.bl (formD d))) μ):Sat (F_is_form [.dat d] μ) QR E:=by
 refine w_is_form ?_
 unfold g_is_form
 walk_at "sx"
 cases ht:tupO d with
 | none =>
  refine isT_no hd.kn.k ht ?_
  walk_at "sx"
  have e:formD d=false:=by unfold formD;rw[ht]
  rw[e] at h
  exact h
 | some ds =>
  obtain rfl:d=.tup ds:=by cases d <;> simp[tupO] at ht;rw[ht]
  refine isT_tup ?_
  walk_at "sx"
  obtain⟨l1,l2⟩:=tlen_iff.mp htl ds rfl
  have kk:=hd.kn.it rfl
  match ds,h,l1,l2,kk with
  | [],h,_,_,_=>rw[if_pos (by decide),if_pos rfl];walk_at "sx";exact h
  | [_],h,_,_,_=>rw[if_pos (by simp),if_pos rfl];walk_at "sx";exact h
  | [_,_],h,_,_,_=>rw[if_pos (by simp),if_pos rfl];walk_at "sx";exact h
  | _::_::_::_::r,h,_,_,_=>rw[if_pos (by simp;omega),if_pos rfl];walk_at "sx";exact h
  | [a,b,c],h,_,l2,kk =>
   have ka:=kk a (by simp)
   have kb:=kk b (by simp)
   have kc:=kk c (by simp)
   have e:formD (.tup [a,b,c])=(numsD a&&numsD b&&stepB c b):=rfl
   rw[e] at h
   rw[if_neg (by simp)]
   walk_at "sx"
   refine nums_s ka.k (fun ps e=>⟨(kd_items ka (l2 a (by simp)) ps e).1,Nat.le_trans (kd_items ka (l2 a (by simp)) ps e).2 (by decide)⟩) ?_
   walk_at "sx"
   cases ea:numsD a with
   | false =>
    rw[if_pos (by decide),if_pos rfl]
    walk_at "sx"
    rw[ea] at h
    exact h
   | true =>
    rw[if_neg (by decide)]
    walk_at "sx"
    refine nums_s kb.k (fun ps e=>⟨(kd_items kb (l2 b (by simp)) ps e).1,Nat.le_trans (kd_items kb (l2 b (by simp)) ps e).2 (by decide)⟩) ?_
    walk_at "sx"
    rw[ea,Bool.true_and] at h
    cases eb:numsD b with
    | false =>
     rw[if_pos (by decide)]
     walk_at "sx"
     rw[eb] at h
     exact h
    | true =>
     rw[if_neg (by decide)]
     walk_at "sx"
     rw[eb,Bool.true_and] at h
     refine int_s kc.k ?_
     walk_at "sx"
     cases ec:isIntO c with
     | none =>
      unfold stepB at h
      rw[ec] at h
      rw[if_pos (by decide),if_pos rfl]
      walk_at "sx"
      exact h
     | some i =>
      obtain rfl:=isIntO_is ec
      rw[if_neg (by simp)]
      walk_at "sx"
      have es:stepB (.int i) b=(decide (0≤i∧i≤200)&&(decide (i=0)==((tupO b).getD []).isEmpty)):=rfl
      rw[es] at h
      refine if_dec (fun i0=>?_) (fun i0=>?_)
      ·walk_at "sx"
       by_cases i2:i≤200
       ·rw[decide_eq_true i2,if_neg (by decide)]
        walk_at "sx"
        rw[decide_eq_true (show 0≤i∧i≤200 from⟨i0,i2⟩),Bool.true_and] at h
        cases tb:tupO b with
        | none=>unfold numsD at eb;rw[tb] at eb;cases eb
        | some bs =>
         obtain rfl:b=.tup bs:=by cases b <;> simp[tupO] at tb;rw[tb]
         refine l_nilT ?_
         walk_at "sx"
         refine eqB_J ?_
         rw[show(bs.isEmpty==true)=bs.isEmpty by cases bs.isEmpty <;> rfl]
         exact e_dat (E:=E) List.take_length h
       ·rw[decide_eq_false i2,if_pos (by decide)]
        walk_at "sx"
        rw[decide_eq_false (fun q:0≤i∧i≤200=>i2 q.2),Bool.false_and] at h
        exact h
      ·walk_at "sx"
       rw[decide_eq_false (fun q:0≤i∧i≤200=>i0 q.1),Bool.false_and] at h
       exact h
end
section
variable {QR:R→Mem→Prop}{E:Xc→Mem→Prop}{μ ν:Mem}{B:Bg}{i n:Int}{b:Bool}{ss fs:List Int}{st:Int}{d:D}{ds:List D}{k w:Nat}
theorem lform_s {w:Nat}(hd:Tj 9 w d)(htl:tlenB 9 d=true)(h:QR (.dat (.bl (formD d))) μ):Sat (F__law_is_form [.dat d] μ) QR E:=by
 refine w__law_is_form ?_
 unfold g__law_is_form
 walk_at "sx"
 cases ht:tupO d with
 | none =>
  refine isT_no hd.kn.k ht ?_
  walk_at "sx"
  have e:formD d=false:=by unfold formD;rw[ht]
  rw[e] at h
  exact h
 | some ds =>
  obtain rfl:d=.tup ds:=by cases d <;> simp[tupO] at ht;rw[ht]
  refine isT_tup ?_
  walk_at "sx"
  obtain⟨l1,l2⟩:=tlen_iff.mp htl ds rfl
  have kk:=hd.kn.it rfl
  match ds,h,l1,l2,kk with
  | [],h,_,_,_=>rw[if_pos (by decide),if_pos rfl];walk_at "sx";exact h
  | [_],h,_,_,_=>rw[if_pos (by simp),if_pos rfl];walk_at "sx";exact h
  | [_,_],h,_,_,_=>rw[if_pos (by simp),if_pos rfl];walk_at "sx";exact h
  | _::_::_::_::r,h,_,_,_=>rw[if_pos (by simp;omega),if_pos rfl];walk_at "sx";exact h
  | [a,b,c],h,_,l2,kk =>
   have ka:=kk a (by simp)
   have kb:=kk b (by simp)
   have kc:=kk c (by simp)
   have e:formD (.tup [a,b,c])=(numsD a&&numsD b&&stepB c b):=rfl
   rw[e] at h
   rw[if_neg (by simp)]
   walk_at "sx"
   refine lnums_s ka.k (fun ps e=>⟨(kd_items ka (l2 a (by simp)) ps e).1,Nat.le_trans (kd_items ka (l2 a (by simp)) ps e).2 (by decide)⟩) ?_
   walk_at "sx"
   cases ea:numsD a with
   | false =>
    rw[if_pos (by decide)]
    walk_at "sx"
    rw[ea] at h
    exact h
   | true =>
    rw[if_neg (by decide)]
    walk_at "sx"
    refine lnums_s kb.k (fun ps e=>⟨(kd_items kb (l2 b (by simp)) ps e).1,Nat.le_trans (kd_items kb (l2 b (by simp)) ps e).2 (by decide)⟩) ?_
    walk_at "sx"
    rw[ea,Bool.true_and] at h
    cases eb:numsD b with
    | false =>
     rw[if_pos (by decide)]
     walk_at "sx"
     rw[eb] at h
     exact h
    | true =>
     rw[if_neg (by decide)]
     walk_at "sx"
     rw[eb,Bool.true_and] at h
     refine whole_s kc.k ?_
     walk_at "sx"
     cases ec:isIntO c with
     | none =>
      unfold stepB at h
      rw[ec] at h
      rw[if_pos (by decide),if_pos rfl]
      walk_at "sx"
      exact h
     | some i =>
      obtain rfl:=isIntO_is ec
      rw[if_neg (by simp)]
      walk_at "sx"
      have es:stepB (.int i) b=(decide (0≤i∧i≤200)&&(decide (i=0)==((tupO b).getD []).isEmpty)):=rfl
      rw[es] at h
      refine if_dec (fun i0=>?_) (fun i0=>?_)
      ·walk_at "sx"
       by_cases i2:i≤200
       ·rw[decide_eq_true i2,if_neg (by decide)]
        walk_at "sx"
        rw[decide_eq_true (show 0≤i∧i≤200 from⟨i0,i2⟩),Bool.true_and] at h
        cases tb:tupO b with
        | none=>unfold numsD at eb;rw[tb] at eb;cases eb
        | some bs =>
         obtain rfl:b=.tup bs:=by cases b <;> simp[tupO] at tb;rw[tb]
         refine w_len (l_lenT ?_)
         walk_at "sx"
         refine eqB_J ?_
         have eL:decide ((bs.length:Int)=0)=bs.isEmpty:=by
          cases bs with
          | nil=>rfl
          | cons x r=>simp;omega
         rw[eL]
         exact e_dat (E:=E) List.take_length h
       ·rw[decide_eq_false i2,if_pos (by decide)]
        walk_at "sx"
        rw[decide_eq_false (fun q:0≤i∧i≤200=>i2 q.2),Bool.false_and] at h
        exact h
      ·walk_at "sx"
       rw[decide_eq_false (fun q:0≤i∧i≤200=>i0 q.1),Bool.false_and] at h
       exact h
end
section
variable {QR:R→Mem→Prop}{E:Xc→Mem→Prop}{μ ν:Mem}{B:Bg}{i n:Int}{b:Bool}{ss fs:List Int}{st:Int}{d:D}{ds:List D}{k w:Nat}
theorem flats_intJ (ss:List Int):flats (ss.map fun s=>.dat (.int s))=some (ss.map V.int):=by
 induction ss with
 | nil=>rfl
 | cons s ss ih=>simp only[List.map_cons,flats,ih];rfl
theorem inV_intJ (s:Int)(ss:List Int):inV (.int s) (ss.map V.int)=decide (s∈ss):=by
 induction ss with
 | nil=>rfl
 | cons t ss ih =>
  unfold inV at ih ⊢
  rw[List.map_cons,List.any_cons,ih]
  have:eqV (V.int t) (V.int s)=decide (t=s):=by
   show(t==s)=_
   by_cases c:t=s
   ·subst c;simp
   ·rw[decide_eq_false c];exact beq_false_of_ne c
  rw[this]
  by_cases c:t=s
  ·subst c;rw[decide_eq_true (rfl:t=t),Bool.true_or,decide_eq_true List.mem_cons_self]
  ·rw[decide_eq_false c,Bool.false_or]
   by_cases h:s∈ss
   ·rw[decide_eq_true h,decide_eq_true (List.mem_cons_of_mem _ h)]
   ·rw[decide_eq_false h,decide_eq_false (by rw[List.mem_cons];rintro (z|z);exact c z.symm;exact h z)]
theorem in_intsT {l:List Int}{i:Int}(h:QR (.dat (.bl (decide (i∈l)))) μ):Sat (dInA false (.dat (.int i)) (.dat (.tup (l.map D.int))) μ) QR E:=by
 refine sat_alt ?_
 have e1:asS μ (.dat (.tup (l.map D.int)))=some (l.map fun s=>.dat (.int s)):=by unfold asS asL asT;simp
 unfold dIn
 rw[show flat (.dat (.int i))=some (.int i) from rfl]
 simp only[e1,flats_intJ,inV_intJ]
 exact h
theorem tells_s (hF:FmJ ss fs st)(h:QR (.dat (.bl (tellJ ss fs st n))) μ):Sat (F__law_tells [.dat (fmD ss fs st),.dat (.int n)] μ) QR E:=by
 refine w__law_tells ?_
 unfold g__law_tells
 unfold fmD
 walk_at "sx"
 refine in_intsT ?_
 walk_at "sx"
 unfold tellJ at h
 refine if_dec (fun h1=>?_) (fun h1=>?_)
 ·walk_at "sx"
  rw[decide_eq_true h1,Bool.true_or] at h
  exact h
 ·walk_at "sx"
  rw[decide_eq_false h1,Bool.false_or] at h
  rw[List.length_map]
  refine And.intro (sl_sz (by have:=hF.fl;omega)) ?_
  refine lc_filK (enc:=D.int) (fun a:Int=>decide (a≤n)&&decide ((n-a) % st=0)) (fun a:Int=>.int a) (fun a ha=>⟨_,rfl,?_,fun _=>?_⟩) ?_
  ·walk_at "sx"
   refine if_dec (fun h1=>?_) (fun h1=>?_)
   ·have hst:=hF.z (List.ne_nil_of_mem ha)
    walk_at "sx"
    refine l_mod (by omega) ?_
    walk_at "sx"
    exact⟨by rw[decide_eq_true h1,Bool.true_and],rfl⟩
   ·exact⟨by rw[decide_eq_false h1,Bool.false_and],rfl⟩
  ·walk_at "sx"
   exact⟨rfl,rfl⟩
  walk_at "sx"
  refine l_nilL ?_
  refine e_dat (E:=E) List.take_length ?_
  rw[show((((fs.filter fun a=>decide (a≤n)&&decide ((n-a) % st=0)).map D.int).isEmpty==false))=fs.any (fun a=>decide (a≤n)&&decide ((n-a) % st=0)) from ?_]
  ·exact h
  ·rw[Bool.eq_iff_iff]
   simp[List.isEmpty_iff,List.filter_eq_nil_iff]
theorem has_s (hF:FmJ ss fs st)(h:QR (.dat (.bl (tellJ ss fs st n))) μ):Sat (F_has [.dat (fmD ss fs st),.dat (.int n)] μ) QR E:=by
 refine w_has ?_
 unfold g_has
 unfold fmD
 walk_at "sx"
 refine in_intsT ?_
 walk_at "sx"
 unfold tellJ at h
 refine if_dec (fun h1=>?_) (fun h1=>?_)
 ·walk_at "sx"
  rw[decide_eq_true h1,Bool.true_or] at h
  exact h
 ·walk_at "sx"
  rw[decide_eq_false h1,Bool.false_or] at h
  rw[List.length_map]
  refine And.intro (sl_sz (by have:=hF.fl;omega)) ?_
  refine lc_mapK (enc:=D.int) (fun a:Int=>D.bl (decide (a≤n)&&decide ((n-a) % st=0))) (fun a ha=>⟨_,rfl,?_⟩) ?_
  ·walk_at "sx"
   refine if_dec (fun h1=>?_) (fun h1=>?_)
   ·have hst:=hF.z (List.ne_nil_of_mem ha)
    walk_at "sx"
    refine l_mod (by omega) ?_
    walk_at "sx"
    exact⟨by rw[decide_eq_true h1,Bool.true_and],rfl⟩
   ·walk_at "sx"
    exact⟨by rw[decide_eq_false h1,Bool.false_and],rfl⟩
  walk_at "sx"
  refine l_all (f:=fun a:Int=>decide (a≤n)&&decide ((n-a) % st=0)) ?_
  rw[List.any_map]
  exact e_dat (E:=E) List.take_length h
end
section
variable {QR:R→Mem→Prop}{E:Xc→Mem→Prop}{μ ν:Mem}{B:Bg}{i n:Int}{b:Bool}{ss fs:List Int}{st:Int}{d:D}{ds:List D}{k w:Nat}
theorem bup_s {P:PO}{N:Nat}{top:Nat}{a:Int}{zs:List Int}{x7:Option DV}(ht:top≤2000)(hst:1≤st∧st≤200)(ha:1≤a∧a≤1000)(hN:ν.length=k)(hz:zs.length≤100000)
  (h:P.nx [some (.dat (fmD ss fs st)),some (.dat (.int (top:Int))),some (.dat (.tup (ss.map D.int))),some (.dat (.tup (fs.map D.int))),some (.dat (.int st)),some (.loc k),some (.dat (.int a)),x7] (ν++[.lst (((zs++rgC a st (rgN a ((top:Int)+1) st)).map D.int).map DV.dat)])) :
  SatS (b_upto_1 N [some (.dat (fmD ss fs st)),some (.dat (.int (top:Int))),some (.dat (.tup (ss.map D.int))),some (.dat (.tup (fs.map D.int))),some (.dat (.int st)),some (.loc k),some (.dat (.int a)),x7] (ν++[.lst ((zs.map D.int).map DV.dat)])) P:=by
 unfold b_upto_1
 have hl:=rgN_len (top:=top) hst.1 ha.1
 have hat:(ν++[Pl.lst ((zs.map D.int).map DV.dat)])[k]?=some (.lst ((zs.map D.int).map DV.dat)):=by rw[←hN,List.getElem?_append_right (Nat.le_refl _),Nat.sub_self];rfl
 walk_at "sx"
 refine And.intro (by unfold tyL;rw[DL.asL_loc hat];rfl) ?_
 refine a_consK (x_fz (x_listRg3 ?_))
 walk_at "sx"
 refine⟨a,(top:Int)+1,st,rfl,⟨⟨hst.1,by omega⟩,⟨by omega,by omega⟩,by omega,by omega⟩,?_⟩
 rw[show((rgC a st (rgN a ((top:Int)+1) st)).map fun s=>DV.dat (.int s))=((rgC a st (rgN a ((top:Int)+1) st)).map D.int).map DV.dat by rw[List.map_map];rfl]
 walk_at "sx"
 refine l_extL hat (by rw[List.length_map,List.length_map,List.length_map];exact Nat.le_trans (show _≤102000 by omega) (by decide)) ?_
 rw[←hN,List.set_append_right _ _ (Nat.le_refl _),Nat.sub_self]
 rw[←List.map_append,←List.map_append]
 rw[←hN] at h
 exact h
theorem upto_s {top:Nat}(hF:FmJ ss fs st)(ht:top≤2000)(h:QR (.nl (((sortN (fndJ ss fs st top)).map D.int).map DV.dat)) μ):Sat (F_upto [.dat (fmD ss fs st),.dat (.int (top:Int))] μ) QR E:=by
 refine w_upto ?_
 unfold g_upto
 have hsl:=hF.sl
 have hfl:=hF.fl
 walk_at "sx"
 rw[show fmD ss fs st=.tup [.tup (ss.map D.int),.tup (fs.map D.int),.int st] from rfl]
 walk_at "sx"
 rw[List.length_map]
 refine And.intro (sl_sz (by omega)) ?_
 refine lc_filK (enc:=D.int) (fun i:Int=>decide (i≤(top:Int))) (fun i:Int=>.int i) (fun i hi=>⟨_,rfl,?_,fun _=>?_⟩) ?_
 ·walk_at "sx"
  exact⟨rfl,rfl⟩
 ·walk_at "sx"
  exact⟨rfl,rfl⟩
 walk_at "sx"
 rw[show((ss.filter fun i=>decide (i≤(top:Int))).map fun x=>DV.dat (D.int x))=((ss.filter fun i=>decide (i≤(top:Int))).map D.int).map DV.dat by rw[List.map_map];rfl]
 refine r_nl (Nat.le_refl _) ?_
 walk_at "sx"
 have hfil:(ss.filter fun i=>decide (i≤(top:Int))).length≤4:=Nat.le_trans (List.length_filter_le _ _) hsl
 have hlen:∀ l:List Int,(∀ a∈l,a∈fs)→l.length≤4→(l.flatMap fun a=>rgC a st (rgN a ((top:Int)+1) st)).length≤l.length*top:=fun l=>by
  induction l with
  | nil=>intro _ _;simp
  | cons a l ih =>
   intro h1 h2
   have h3:=ih (fun x hx=>h1 x (List.mem_cons_of_mem _ hx)) (by rw[List.length_cons] at h2;omega)
   have ha:=h1 a List.mem_cons_self
   have:=rgN_len (top:=top) (hF.z (List.ne_nil_of_mem ha)) (hF.f a ha).1
   rw[List.flatMap_cons,List.length_append,List.length_cons,Nat.succ_mul];omega
 refine for_inv (fun i δ μ'=>δ=[some (.dat (fmD ss fs st)),some (.dat (.int (top:Int))),some (.dat (.tup (ss.map D.int))),some (.dat (.tup (fs.map D.int))),some (.dat (.int st)),some (.loc μ.length),none,none] ∧
   μ'=μ++[.lst ((((ss.filter fun i=>decide (i≤(top:Int)))++(fs.take i).flatMap fun a=>rgC a st (rgN a ((top:Int)+1) st)).map D.int).map DV.dat)]) ⟨rfl,by simp⟩ (fun i d hd δ μ' hI=>?_) fun δ μ' hI=>?_
 ·obtain⟨rfl,rfl⟩:=hI
  rw[List.getElem?_map] at hd
  obtain⟨a,ha,rfl⟩:=Option.map_eq_some_iff.mp hd
  have hm:=List.mem_of_getElem? ha
  have hl2:=hlen (fs.take i) (fun x hx=>List.mem_of_mem_take hx) (by rw[List.length_take];omega)
  have hl3:(fs.take i).length*top≤4*2000:=Nat.mul_le_mul (by rw[List.length_take];omega) ht
  refine⟨_,rfl,bup_s ht ⟨hF.z (List.ne_nil_of_mem hm),hF.t.2⟩ (hF.f a hm) rfl (by rw[List.length_append];omega) ?_⟩
  refine⟨by simp[cut,DL.cutV],?_⟩
  rw[List.take_of_length_le (by simp),List.take_add_one,ha]
  simp
 ·obtain⟨rfl,rfl⟩:=hI
  rw[List.length_map,List.take_length]
  walk_at "sx"
  have hat:(μ++[Pl.lst (((fndJ ss fs st top).map D.int).map DV.dat)])[μ.length]?=some (.lst (((fndJ ss fs st top).map D.int).map DV.dat)):=by rw[List.getElem?_append_right (Nat.le_refl _),Nat.sub_self];rfl
  have hul:(sortN (fndJ ss fs st top)).length≤top:=by
   rw[upto_eq hF]
   refine Nat.le_trans (List.length_filter_le _ _) ?_
   rw[List.length_map,List.length_range];exact Nat.le_refl _
  refine x_sortsetN (v_var rfl ⟨((fndJ ss fs st top).map D.int).map DV.dat,fndJ ss fs st top,?_,asJ _,by show _<4096;omega,?_⟩)
  ·show asS (μ++[Pl.lst (((fndJ ss fs st top).map D.int).map DV.dat)]) (.loc μ.length)=_
   unfold asS
   rw[DL.asL_loc hat]
  ·rw[List.map_map] at h
   exact e_nlf (E:=E) (by simp) h
end
section
variable {QR:R→Mem→Prop}{E:Xc→Mem→Prop}{μ ν:Mem}{B:Bg}{i n:Int}{b:Bool}{P:PO}{ss fs:List Int}{st:Int}{d:D}{ds:List D}{k w:Nat}
theorem fm_tj (hF:FmJ ss fs st):Tj 9 500 (fmD ss fs st)∧tlenB 4 (fmD ss fs st)=true:=by
 have hi:∀ l:List Int,(∀ i∈l,1≤i∧i≤1000)→Itj 7 (l.length*41) (l.map D.int):=fun l=>by
  induction l with
  | nil=>intro _;exact Itj.nil
  | cons a l ih =>
   intro h
   have ha:=h a List.mem_cons_self
   have:=itj_cons (tj_i (k:=7) (i:=a) (by omega)) (ih fun x hx=>h x (List.mem_cons_of_mem _ hx))
   exact this.mono (Nat.le_refl _) (by rw[List.length_cons,Nat.succ_mul];omega)
 have h1:=(hi ss hF.s).tup.mono (w':=164) (Nat.le_refl _) (by have:=hF.sl;omega)
 have h2:=(hi fs hF.f).tup.mono (w':=164) (Nat.le_refl _) (by have:=hF.fl;omega)
 have h3:=tj_i (k:=8) (i:=st) (by have:=hF.t;omega)
 refine⟨(itj_cons h1 (itj_cons h2 (itj_cons h3 Itj.nil))).tup.mono (Nat.le_refl _) (by decide),tlen_iff.mpr fun ds e=>?_⟩
 cases e
 refine⟨by simp only[List.length_cons,List.length_nil];decide,fun x hx ps q=>?_⟩
 simp only[List.mem_cons,List.not_mem_nil,or_false] at hx
 rcases hx with rfl|rfl|rfl
 ·cases q;rw[List.length_map];exact hF.sl
 ·cases q;rw[List.length_map];exact hF.fl
 ·cases q
theorem tell_neg (hF:FmJ ss fs st)(h:¬0<n):tellJ ss fs st n=false:=by
 unfold tellJ
 rw[Bool.or_eq_false_iff,decide_eq_false_iff_not,List.any_eq_false]
 refine⟨fun q=>by have:=hF.s n q;omega,fun a ha=>?_⟩
 have:=hF.f a ha
 rw[decide_eq_false (by omega)];simp
def wq:Nat→Nat
 | 0=>500
 | i+1=>3*wq i+4500
theorem alike_k {d:D}{k w:Nat}(h:Fk k w d)(hk:k≤64)(hw:w≤2^20)(q:QR (.dat (.bl true)) μ):Sat (F__law_alike [.dat d,.dat d] μ) QR E:=by
 rw[e__law_alike];exact alikeA pk_dat pk_dat h hk hw q
theorem b1_s {d0 d2 f d:D}{w m:Nat}{x5:Option DV}{y6 y7 y8 y9 y10 y11:Option DV}(hB:B.ok)(hd:Tj 9 w d)(hw:w≤24000)(hm:3≤m)(ht:tlenB m d=true)
  (h:∀ (d':D) (B':Bg),B'.ok→Tj 9 (3*w+4500) d'→tlenB (m+1) d'=true→P.nx [some (.dat d0),some (.loc 0),some (.dat d2),some (.dat f),some (.dat d'),x5,y6,y7,y8,y9,y10,y11] (B'.pl::ν)) :
  SatS (b_law_1 0 [some (.dat d0),some (.loc 0),some (.dat d2),some (.dat f),some (.dat d),x5,y6,y7,y8,y9,y10,y11] (B.pl::ν)) P:=by
 unfold b_law_1
 walk_at "sx"
 refine bent_s hB hd hw hm ht fun d' B' hB' h1 h2=>?_
 walk_at "sx"
 exact h d' B' hB' h1 h2
theorem b2_s {d0 d2 f d:D}{w:Nat}{x5:Option DV}{y8 y9 y10 y11:Option DV}(hd:Tj 9 w d)(hw:w≤24000)(ht:tlenB 9 d=true)
  (h:P.nx [some (.dat d0),some (.loc 0),some (.dat d2),some (.dat f),some (.dat d),x5,some (.dat (.str (shD d))),some (.dat (.bl (formD d))),y8,y9,y10,y11] μ) :
  SatS (b_law_2 0 [some (.dat d0),some (.loc 0),some (.dat d2),some (.dat f),some (.dat d),x5,some (.dat (.str (shD d))),some (.dat (.bl (formD d))),y8,y9,y10,y11] μ) P:=by
 unfold b_law_2
 walk_at "sx"
 refine form_s hd ht ?_
 walk_at "sx"
 refine alike_k fk_bl (by decide) (by decide) ?_
 walk_at "sx"
 refine l_shD (hd.mono (by decide) hw) ?_
 walk_at "sx"
 rw[if_neg (by simp)]
 walk_at "sx"
 exact h
theorem b3_s {d0 d2:D}{x4 x5 x6 x7 x8 x9 x11:Option DV}(hF:FmJ ss fs st)
  (h:P.nx [some (.dat d0),some (.loc 0),some (.dat d2),some (.dat (fmD ss fs st)),x4,x5,x6,x7,x8,x9,some (.dat (.int n)),x11] μ) :
  SatS (b_law_3 0 [some (.dat d0),some (.loc 0),some (.dat d2),some (.dat (fmD ss fs st)),x4,x5,x6,x7,x8,x9,some (.dat (.int n)),x11] μ) P:=by
 unfold b_law_3
 walk_at "sx"
 refine has_s hF ?_
 walk_at "sx"
 refine if_dec (fun h1=>?_) (fun h1=>?_)
 ·walk_at "sx"
  refine tells_s hF ?_
  walk_at "sx"
  refine alike_k fk_bl (by decide) (by decide) ?_
  walk_at "sx"
  exact h
 ·walk_at "sx"
  rw[tell_neg hF h1]
  refine alike_k fk_bl (by decide) (by decide) ?_
  walk_at "sx"
  exact h
theorem rows_s {top:Nat}{QA:List DV→Mem→Prop}{δ:DL.Env}(hF:FmJ ss fs st)(h3:δ[3]?=some (some (.dat (fmD ss fs st))))(h11:11<δ.length)
  (hq:QA (((sortN (fndJ ss fs st top)).map D.int).map DV.dat) μ) :
  Sat (lcL (tgName 11) (tmB (eCB F__law_tells (aCons (eVar 3) (aCons (eVar 11) aNil)))) (eVar 11) δ (rngD 1 top) μ) QA E:=by
 rw[upto_eq hF] at hq
 unfold rngD
 refine lc_filK (enc:=fun i:Nat=>D.int (1+(i:Int))) (fun i:Nat=>tellJ ss fs st (1+(i:Int))) (fun i:Nat=>.int (1+(i:Int))) (fun i hi=>⟨δ.set 11 (some (.dat (.int (1+(i:Int))))),rfl,?_,fun _=>?_⟩) ?_
 ·have e3:(δ.set 11 (some (.dat (.int (1+(i:Int))))))[3]?=some (some (.dat (fmD ss fs st))):=by rw[List.getElem?_set_ne (by decide)];exact h3
  refine t_B (x_cb (a_consK (v_var e3 (a_consK (v_var (List.getElem?_set_self h11) (a_nilK ?_))))))
  refine tells_s hF ?_
  exact b_bl ⟨rfl,rfl⟩
 ·refine v_var (List.getElem?_set_self h11) ⟨rfl,rfl⟩
 ·rw[List.filter_map,List.map_map,List.map_map] at hq
  exact hq
theorem fk_told {top:Nat}(hF:FmJ ss fs st)(ht:top≤2000):Fk 1 (2000*15+3) (.lst ((sortN (fndJ ss fs st top)).map D.int)):=by
 refine fk_lst (k:=0) (w:=13) (fun d hd=>?_) ?_
 ·obtain⟨i,hi,rfl⟩:=List.mem_map.mp hd
  have:=(fndJ_mem hF).mp ((sortN_mem i _).mp hi)
  exact fk_int (by omega)
 ·rw[List.length_map,upto_eq hF]
  refine Nat.le_trans (List.length_filter_le _ _) ?_
  rw[List.length_map,List.length_range];exact ht
theorem anyform_s {a0 a2:Option DV}{δ:DL.Env}(hB:B.ok)(h:∀ (ss fs:List Int) (st:Int) (B':Bg),B'.ok→FmJ ss fs st→QR (.dat (fmD ss fs st)) (B'.pl::ν)) :
  Sat (eIf (tmB (eOp dGt (eCB F__law_take (aCons (eVar 1) (aCons (eD (.int 3)) aNil))) (eD (.int 0)))) (eCB F__law_form (aCons (eVar 1) aNil)) (eCB F__law_great_form (aCons (eVar 1) aNil)) (a0::some (.loc 0)::a2::δ) (B.pl::ν)) QR E:=by
 walk_at "sx"
 refine take_s hB (by decide) (by decide +kernel) fun r B1 hB1 hr=>?_
 walk_at "sx"
 refine if_dec (fun h1=>?_) (fun h1=>?_)
 ·walk_at "sx"
  exact seven_s hB1 h
 ·walk_at "sx"
  exact great_s hB1 h
theorem b4_s {d0 d2:D}(hB:B.ok)
  (h:∀ (B':Bg) (y3 y4 y5 y6 y7 y8 y9 y10 y11:Option DV),B'.ok→P.nx [some (.dat d0),some (.loc 0),some (.dat d2),y3,y4,y5,y6,y7,y8,y9,y10,y11] [B'.pl]) :
  SatS (b_law_4 0 [some (.dat d0),some (.loc 0),some (.dat d2),none,none,none,none,none,none,none,none,none] [B.pl]) P:=by
 unfold b_law_4
 generalize hX:eIf (tmB (eOp dGt (eCB F__law_take (aCons (eVar 1) (aCons (eD (.int 3)) aNil))) (eD (.int 0)))) (eCB F__law_form (aCons (eVar 1) aNil)) (eCB F__law_great_form (aCons (eVar 1) aNil))=fX
 walk_at "sx"
 rw[←hX]
 refine anyform_s (ν:=[]) hB fun ss fs st B1 hB1 hF=>?_
 clear hX
 obtain⟨f1,f2⟩:=fm_tj hF
 walk_at "sx"
 refine take_s (ν:=[]) hB1 (by decide) (by decide +kernel) fun r1 B2 hB2 hr1=>?_
 walk_at "sx"
 refine And.intro ⟨by omega,by omega⟩ ?_
 refine for_inv (fun i δ μ'=>∃ (B':Bg) (d:D),B'.ok∧Tj 9 (wq i) d∧tlenB (4+i) d=true∧δ=[some (.dat d0),some (.loc 0),some (.dat d2),some (.dat (fmD ss fs st)),some (.dat d),none,none,none,none,none,none,none]∧μ'=[B'.pl]) ⟨B2,_,hB2,f1,f2,rfl,rfl⟩ (fun i d hd δ μ' hI=>?_) fun δ μ' hI=>?_
 ·obtain⟨B',d',hB',t1,t2,rfl,rfl⟩:=hI
  have hi:i<r1∧d=.int i:=by
   have:=range_at (n:=((r1:Int)).toNat) hd
   simpa using this
  obtain⟨hi,rfl⟩:=hi
  have hw:wq i≤24000:=by
   have:i=0∨i=1:=by omega
   rcases this with rfl|rfl <;> decide
  refine⟨_,rfl,b1_s (ν:=[]) hB' t1 hw (by omega) t2 fun d1 B3 hB3 q1 q2=>?_⟩
  exact⟨B3,d1,hB3,q1,q2,by simp[cut,DL.cutV],rfl⟩
 obtain⟨B3,th,hB3,t1,t2,rfl,rfl⟩:=hI
 have hrl:(rngD 0 ((r1:Int)).toNat).length≤2:=by rw[rng_len];omega
 have t1:Tj 9 24000 th:=t1.mono (Nat.le_refl _) (by
  generalize (rngD 0 ((r1:Int)).toNat).length=k at hrl
  have:k=0∨k=1∨k=2:=by omega
  rcases this with rfl|rfl|rfl <;> decide)
 have t2:tlenB 9 th=true:=tlen_mono t2 (by omega)
 clear hrl
 walk_at "sx"
 refine l_shD (t1.mono (by decide) (Nat.le_refl _)) ?_
 walk_at "sx"
 refine lform_s t1 t2 ?_
 walk_at "sx"
 refine And.intro ⟨by decide,by decide⟩ ?_
 refine for_inv (fun i δ μ'=>δ=[some (.dat d0),some (.loc 0),some (.dat d2),some (.dat (fmD ss fs st)),some (.dat th),none,some (.dat (.str (shD th))),some (.dat (.bl (formD th))),none,none,none,none]∧μ'=[B3.pl]) ⟨rfl,rfl⟩ (fun i d hd δ μ' hI=>?_) fun δ μ' hI=>?_
 ·obtain⟨rfl,rfl⟩:=hI
  obtain⟨_,rfl⟩:=range_at (n:=2) hd
  refine⟨_,rfl,b2_s t1 (Nat.le_refl _) t2 ?_⟩
  exact⟨by simp[cut,DL.cutV],rfl⟩
 obtain⟨rfl,rfl⟩:=hI
 walk_at "sx"
 refine take_s (ν:=[]) hB3 (by decide) (by decide +kernel) fun r2 B4 hB4 hr2=>?_
 walk_at "sx"
 refine take_s (ν:=[]) hB4 (by decide) (by decide +kernel) fun r3 B5 hB5 hr3=>?_
 walk_at "sx"
 refine take_s (ν:=[]) hB5 (by decide) (by decide +kernel) fun r4 B6 hB6 hr4=>?_
 walk_at "sx"
 have hz:∃ top:Nat,top≤1100∧atI [D.int 0,D.int 1,D.int (r2:Int),D.int 20,D.int (900+(r3:Int))] (r4:Int)=some (D.int (top:Int)):=by
  have h4:r4=0∨r4=1∨r4=2∨r4=3∨r4=4:=by omega
  rcases h4 with rfl|rfl|rfl|rfl|rfl
  ·exact⟨0,by decide,rfl⟩
  ·exact⟨1,by decide,rfl⟩
  ·exact⟨r2,by omega,rfl⟩
  ·exact⟨20,by decide,rfl⟩
  ·exact⟨900+r3,by omega,by push_cast;rfl⟩
 obtain⟨top,ht,ez⟩:=hz
 refine w_ix (l_ixL ez ?_)
 walk_at "sx"
 refine upto_s hF (by omega) ?_
 walk_at "sx"
 refine And.intro ⟨by decide,by decide,by omega,by omega⟩ ?_
 rw[show((top:Int)+1-1).toNat=top by omega]
 refine And.intro (by rw[rng_len];exact Nat.le_trans (show _≤2000 by omega) (by decide)) ?_
 refine rows_s hF rfl (by show 11<12;decide) ?_
 walk_at "sx"
 refine alike_k (fk_told hF (by omega)) (by decide) (by decide) ?_
 walk_at "sx"
 refine take_s (ν:=[]) hB6 (by decide) (by decide +kernel) fun r5 B7 hB7 hr5=>?_
 walk_at "sx"
 refine take_s (ν:=[]) hB7 (by decide) (by decide +kernel) fun r6 B8 hB8 hr6=>?_
 walk_at "sx"
 have m1:(0:Int)<10^(30:Int).toNat:=by decide +kernel
 have m2:((10:Int)^(30:Int).toNat).natAbs.log2<9000:=by decide +kernel
 refine l_pow (by decide) ?_
 generalize (10:Int)^(30:Int).toNat=M at m1 m2 ⊢
 walk_at "sx"
 refine take_s (ν:=[]) hB8 m1 m2 fun r7 B9 hB9 hr7=>?_
 walk_at "sx"
 refine for_inv (fun i δ μ'=>δ=[some (.dat d0),some (.loc 0),some (.dat d2),some (.dat (fmD ss fs st)),some (.dat th),none,some (.dat (.str (shD th))),some (.dat (.bl (formD th))),some (.dat (.int (top:Int))),some (.dat (.lst ((sortN (fndJ ss fs st (top:Int))).map D.int))),none,none]∧μ'=[B9.pl]) ⟨rfl,rfl⟩ (fun i d hd δ μ' hI=>?_) fun δ μ' hI=>?_
 ·obtain⟨rfl,rfl⟩:=hI
  have hn:∃ n:Int,d=.int n:=by
   have hm:=List.mem_of_getElem? hd
   simp only[List.mem_cons,List.not_mem_nil,or_false] at hm
   rcases hm with rfl|rfl|rfl|rfl|rfl|rfl <;> exact⟨_,rfl⟩
  obtain⟨n,rfl⟩:=hn
  refine⟨_,rfl,b3_s hF ?_⟩
  exact⟨by simp[cut,DL.cutV],rfl⟩
 obtain⟨rfl,rfl⟩:=hI
 exact h B9 _ _ _ _ _ _ _ _ _ hB9
theorem bag_s {ns:List Int}(h:QR (.nl [.dat (.int (bag0 ns).a),.dat (.int (bag0 ns).b),.dat (.int (bag0 ns).c),.dat (.lst ((bag0 ns).cs.map D.int))]) μ):Sat (F__law_bag [.dat (.fro (ns.map D.int))] μ) QR E:=by
 rw[e__law_bag,bag_spec];exact h
theorem law_sat (ns:List Int):Sat (F_law [.dat (.fro (ns.map D.int))] []) (fun r _=>r=.dat (.bl true)) (fun _ _=>False):=by
 with_reducible refine w_law ?_
 unfold g_law
 walk_at "sx"
 with_reducible refine bag_s ?_
 with_reducible refine r_nl (Nat.zero_le _) ?_
 walk_at "sx"
 refine And.intro ⟨by decide,by decide⟩ ?_
 with_reducible refine for_inv (fun k δ μ'=>∃ B:Bg,B.ok∧δ=[some (.dat (.fro (ns.map D.int))),some (.loc 0),none,none,none,none,none,none,none,none,none,none]∧μ'=[B.pl]) ⟨bag0 ns,bag0_ok ns,rfl,rfl⟩ (fun k d hd δ μ' hI=>?_) fun δ μ' hI=>?_
 ·obtain⟨B,hB,rfl,rfl⟩:=hI
  obtain⟨_,rfl⟩:=range_at (n:=30) hd
  refine⟨_,rfl,b4_s hB fun B3 y3 y4 y5 y6 y7 y8 y9 y10 y11 hB3=>?_⟩
  exact⟨B3,hB3,by simp[cut,DL.cutV],rfl⟩
 ·obtain⟨B,hB,rfl,rfl⟩:=hI
  walk_at "sx"
  refine seven_s (ν:=[]) hB fun ss fs st B1 hB1 hF=>?_
  walk_at "sx"
  refine take_s (ν:=[]) hB1 (by decide) (by decide +kernel) fun r B2 hB2 hr=>?_
  walk_at "sx"
  rw[show(1000:Int)+(r:Int)=((1000+r:Nat):Int) by push_cast;rfl]
  have ht:1000+r≤2000:=by omega
  generalize 1000+r=top at ht ⊢
  refine upto_s hF ht ?_
  walk_at "sx"
  refine And.intro ⟨by decide,by decide,by omega,by omega⟩ ?_
  rw[show((top:Int)+1-1).toNat=top by omega]
  refine And.intro (by rw[rng_len];exact Nat.le_trans ht (by decide)) ?_
  refine rows_s hF rfl (by show 11<12;decide) ?_
  walk_at "sx"
  refine alike_k (fk_told hF ht) (by decide) (by decide) ?_
  exact e_dat rfl rfl
theorem law_true (ns:List Int):∃ μ',F_law [.dat (.fro (ns.map D.int))] []=.ok (.dat (.bl true)) μ':=by
 have h:=law_sat ns
 cases e:F_law [.dat (.fro (ns.map D.int))] [] with
 | ok r μ'=>rw[e] at h;exact⟨μ',by rw[show r=.dat (.bl true) from h]⟩
 | exc x μ'=>rw[e] at h;exact h.elim
 | bad=>rw[e] at h;exact h.elim
end
end K54
end
namespace K54
open PySem PySem.Spec PyProof.Rows L2 DL
theorem all_mk {l:PySem.W.OpenLaw} {w:World} {K:PySem.W.Frag} {h:Heap} {mg:Str→Option Value} {fa:Addr} (X:K.In h) (G:h.Ns mainGlobals mg) (hfa:mg "law"=some (.ref fa))
  {f0:Addr} {od0 an0:Option Addr} {sl0:Array (Option Value)} {oc0 kV0 dc0 pm0 cd0 ct0:Value}
  {f1:Addr} {od1 an1:Option Addr} {sl1:Array (Option Value)} {oc1 kV1 dc1 pm1 cd1 ct1:Value}
  {f2:Addr} {od2 an2:Option Addr} {sl2:Array (Option Value)} {oc2 kV2 dc2 pm2 cd2 ct2:Value}
  {f3:Addr} {od3 an3:Option Addr} {sl3:Array (Option Value)} {oc3 kV3 dc3 pm3 cd3 ct3:Value}
  {f4:Addr} {od4 an4:Option Addr} {sl4:Array (Option Value)} {oc4 kV4 dc4 pm4 cd4 ct4:Value}
  {f5:Addr} {od5 an5:Option Addr} {sl5:Array (Option Value)} {oc5 kV5 dc5 pm5 cd5 ct5:Value}
  {f6:Addr} {od6 an6:Option Addr} {sl6:Array (Option Value)} {oc6 kV6 dc6 pm6 cd6 ct6:Value}
  {f7:Addr} {od7 an7:Option Addr} {sl7:Array (Option Value)} {oc7 kV7 dc7 pm7 cd7 ct7:Value}
  {f8:Addr} {od8 an8:Option Addr} {sl8:Array (Option Value)} {oc8 kV8 dc8 pm8 cd8 ct8:Value}
  {f9:Addr} {od9 an9:Option Addr} {sl9:Array (Option Value)} {oc9 kV9 dc9 pm9 cd9 ct9:Value}
  {f10:Addr} {od10 an10:Option Addr} {sl10:Array (Option Value)} {oc10 kV10 dc10 pm10 cd10 ct10:Value}
  {f11:Addr} {od11 an11:Option Addr} {sl11:Array (Option Value)} {oc11 kV11 dc11 pm11 cd11 ct11:Value}
  {f12:Addr} {od12 an12:Option Addr} {sl12:Array (Option Value)} {oc12 kV12 dc12 pm12 cd12 ct12:Value}
  {f13:Addr} {od13 an13:Option Addr} {sl13:Array (Option Value)} {oc13 kV13 dc13 pm13 cd13 ct13:Value}
  {f14:Addr} {od14 an14:Option Addr} {sl14:Array (Option Value)} {oc14 kV14 dc14 pm14 cd14 ct14:Value}
  {f15:Addr} {od15 an15:Option Addr} {sl15:Array (Option Value)} {oc15 kV15 dc15 pm15 cd15 ct15:Value}
  {f16:Addr} {od16 an16:Option Addr} {sl16:Array (Option Value)} {oc16 kV16 dc16 pm16 cd16 ct16:Value}
  {f17:Addr} {od17 an17:Option Addr} {sl17:Array (Option Value)} {oc17 kV17 dc17 pm17 cd17 ct17:Value}
  (a0:PySem.W.nsIn K mainGlobals "_law_alike"=some (some (.ref f0)))
  (l0:K.lookup f0=some ⟨oc0,od0,.func (PySem.W.fnOf "_law_alike" "_law_alike" (defArgs s__law_alike) (defBody s__law_alike) (defScope s__law_alike) .none kV0 dc0 pm0 an0 cd0 ct0),sl0⟩) (c0:PySem.W.codeIn K cd0 "_law_alike"=true) (k0:PySem.W.keepIn K (.ref f0)=true)
  (a1:PySem.W.nsIn K mainGlobals "_law_bag"=some (some (.ref f1)))
  (l1:K.lookup f1=some ⟨oc1,od1,.func (PySem.W.fnOf "_law_bag" "_law_bag" (defArgs s__law_bag) (defBody s__law_bag) (defScope s__law_bag) .none kV1 dc1 pm1 an1 cd1 ct1),sl1⟩) (c1:PySem.W.codeIn K cd1 "_law_bag"=true) (k1:PySem.W.keepIn K (.ref f1)=true)
  (a2:PySem.W.nsIn K mainGlobals "_law_take"=some (some (.ref f2)))
  (l2:K.lookup f2=some ⟨oc2,od2,.func (PySem.W.fnOf "_law_take" "_law_take" (defArgs s__law_take) (defBody s__law_take) (defScope s__law_take) .none kV2 dc2 pm2 an2 cd2 ct2),sl2⟩) (c2:PySem.W.codeIn K cd2 "_law_take"=true) (k2:PySem.W.keepIn K (.ref f2)=true)
  (a3:PySem.W.nsIn K mainGlobals "_law_one"=some (some (.ref f3)))
  (l3:K.lookup f3=some ⟨oc3,od3,.func (PySem.W.fnOf "_law_one" "_law_one" (defArgs s__law_one) (defBody s__law_one) (defScope s__law_one) .none kV3 dc3 pm3 an3 cd3 ct3),sl3⟩) (c3:PySem.W.codeIn K cd3 "_law_one"=true) (k3:PySem.W.keepIn K (.ref f3)=true)
  (a4:PySem.W.nsIn K mainGlobals "_law_odd_value"=some (some (.ref f4)))
  (l4:K.lookup f4=some ⟨oc4,od4,.func (PySem.W.fnOf "_law_odd_value" "_law_odd_value" (defArgs s__law_odd_value) (defBody s__law_odd_value) (defScope s__law_odd_value) .none kV4 dc4 pm4 an4 cd4 ct4),sl4⟩) (c4:PySem.W.codeIn K cd4 "_law_odd_value"=true) (k4:PySem.W.keepIn K (.ref f4)=true)
  (a5:PySem.W.nsIn K mainGlobals "_law_bent"=some (some (.ref f5)))
  (l5:K.lookup f5=some ⟨oc5,od5,.func (PySem.W.fnOf "_law_bent" "_law_bent" (defArgs s__law_bent) (defBody s__law_bent) (defScope s__law_bent) .none kV5 dc5 pm5 an5 cd5 ct5),sl5⟩) (c5:PySem.W.codeIn K cd5 "_law_bent"=true) (k5:PySem.W.keepIn K (.ref f5)=true)
  (a6:PySem.W.nsIn K mainGlobals "_law_form"=some (some (.ref f6)))
  (l6:K.lookup f6=some ⟨oc6,od6,.func (PySem.W.fnOf "_law_form" "_law_form" (defArgs s__law_form) (defBody s__law_form) (defScope s__law_form) .none kV6 dc6 pm6 an6 cd6 ct6),sl6⟩) (c6:PySem.W.codeIn K cd6 "_law_form"=true) (k6:PySem.W.keepIn K (.ref f6)=true)
  (a7:PySem.W.nsIn K mainGlobals "_law_great_form"=some (some (.ref f7)))
  (l7:K.lookup f7=some ⟨oc7,od7,.func (PySem.W.fnOf "_law_great_form" "_law_great_form" (defArgs s__law_great_form) (defBody s__law_great_form) (defScope s__law_great_form) .none kV7 dc7 pm7 an7 cd7 ct7),sl7⟩) (c7:PySem.W.codeIn K cd7 "_law_great_form"=true) (k7:PySem.W.keepIn K (.ref f7)=true)
  (a8:PySem.W.nsIn K mainGlobals "_law_is_whole"=some (some (.ref f8)))
  (l8:K.lookup f8=some ⟨oc8,od8,.func (PySem.W.fnOf "_law_is_whole" "_law_is_whole" (defArgs s__law_is_whole) (defBody s__law_is_whole) (defScope s__law_is_whole) .none kV8 dc8 pm8 an8 cd8 ct8),sl8⟩) (c8:PySem.W.codeIn K cd8 "_law_is_whole"=true) (k8:PySem.W.keepIn K (.ref f8)=true)
  (a9:PySem.W.nsIn K mainGlobals "_law_are_numbers"=some (some (.ref f9)))
  (l9:K.lookup f9=some ⟨oc9,od9,.func (PySem.W.fnOf "_law_are_numbers" "_law_are_numbers" (defArgs s__law_are_numbers) (defBody s__law_are_numbers) (defScope s__law_are_numbers) .none kV9 dc9 pm9 an9 cd9 ct9),sl9⟩) (c9:PySem.W.codeIn K cd9 "_law_are_numbers"=true) (k9:PySem.W.keepIn K (.ref f9)=true)
  (a10:PySem.W.nsIn K mainGlobals "_law_is_form"=some (some (.ref f10)))
  (l10:K.lookup f10=some ⟨oc10,od10,.func (PySem.W.fnOf "_law_is_form" "_law_is_form" (defArgs s__law_is_form) (defBody s__law_is_form) (defScope s__law_is_form) .none kV10 dc10 pm10 an10 cd10 ct10),sl10⟩) (c10:PySem.W.codeIn K cd10 "_law_is_form"=true) (k10:PySem.W.keepIn K (.ref f10)=true)
  (a11:PySem.W.nsIn K mainGlobals "_law_tells"=some (some (.ref f11)))
  (l11:K.lookup f11=some ⟨oc11,od11,.func (PySem.W.fnOf "_law_tells" "_law_tells" (defArgs s__law_tells) (defBody s__law_tells) (defScope s__law_tells) .none kV11 dc11 pm11 an11 cd11 ct11),sl11⟩) (c11:PySem.W.codeIn K cd11 "_law_tells"=true) (k11:PySem.W.keepIn K (.ref f11)=true)
  (a12:PySem.W.nsIn K mainGlobals "has"=some (some (.ref f12)))
  (l12:K.lookup f12=some ⟨oc12,od12,.func (PySem.W.fnOf "has" "has" (defArgs s_has) (defBody s_has) (defScope s_has) .none kV12 dc12 pm12 an12 cd12 ct12),sl12⟩) (c12:PySem.W.codeIn K cd12 "has"=true) (k12:PySem.W.keepIn K (.ref f12)=true)
  (a13:PySem.W.nsIn K mainGlobals "is_integer"=some (some (.ref f13)))
  (l13:K.lookup f13=some ⟨oc13,od13,.func (PySem.W.fnOf "is_integer" "is_integer" (defArgs s_is_integer) (defBody s_is_integer) (defScope s_is_integer) .none kV13 dc13 pm13 an13 cd13 ct13),sl13⟩) (c13:PySem.W.codeIn K cd13 "is_integer"=true) (k13:PySem.W.keepIn K (.ref f13)=true)
  (a14:PySem.W.nsIn K mainGlobals "are_numbers"=some (some (.ref f14)))
  (l14:K.lookup f14=some ⟨oc14,od14,.func (PySem.W.fnOf "are_numbers" "are_numbers" (defArgs s_are_numbers) (defBody s_are_numbers) (defScope s_are_numbers) .none kV14 dc14 pm14 an14 cd14 ct14),sl14⟩) (c14:PySem.W.codeIn K cd14 "are_numbers"=true) (k14:PySem.W.keepIn K (.ref f14)=true)
  (a15:PySem.W.nsIn K mainGlobals "is_form"=some (some (.ref f15)))
  (l15:K.lookup f15=some ⟨oc15,od15,.func (PySem.W.fnOf "is_form" "is_form" (defArgs s_is_form) (defBody s_is_form) (defScope s_is_form) .none kV15 dc15 pm15 an15 cd15 ct15),sl15⟩) (c15:PySem.W.codeIn K cd15 "is_form"=true) (k15:PySem.W.keepIn K (.ref f15)=true)
  (a16:PySem.W.nsIn K mainGlobals "upto"=some (some (.ref f16)))
  (l16:K.lookup f16=some ⟨oc16,od16,.func (PySem.W.fnOf "upto" "upto" (defArgs s_upto) (defBody s_upto) (defScope s_upto) .none kV16 dc16 pm16 an16 cd16 ct16),sl16⟩) (c16:PySem.W.codeIn K cd16 "upto"=true) (k16:PySem.W.keepIn K (.ref f16)=true)
  (a17:PySem.W.nsIn K mainGlobals "law"=some (some (.ref f17)))
  (l17:K.lookup f17=some ⟨oc17,od17,.func (PySem.W.fnOf "law" "law" (defArgs s_law) (defBody s_law) (defScope s_law) .none kV17 dc17 pm17 an17 cd17 ct17),sl17⟩) (c17:PySem.W.codeIn K cd17 "law"=true) (k17:PySem.W.keepIn K (.ref f17)=true)
  (z_abs:PySem.W.nsIn K mainGlobals "abs"=some none)
  (z_all:PySem.W.nsIn K mainGlobals "all"=some none)
  (z_any:PySem.W.nsIn K mainGlobals "any"=some none)
  (z_bool:PySem.W.nsIn K mainGlobals "bool"=some none)
  (z_int:PySem.W.nsIn K mainGlobals "int"=some none)
  (z_isinstance:PySem.W.nsIn K mainGlobals "isinstance"=some none)
  (z_len:PySem.W.nsIn K mainGlobals "len"=some none)
  (z_list:PySem.W.nsIn K mainGlobals "list"=some none)
  (z_range:PySem.W.nsIn K mainGlobals "range"=some none)
  (z_repr:PySem.W.nsIn K mainGlobals "repr"=some none)
  (z_set:PySem.W.nsIn K mainGlobals "set"=some none)
  (z_sorted:PySem.W.nsIn K mainGlobals "sorted"=some none)
  (z_tuple:PySem.W.nsIn K mainGlobals "tuple"=some none)
  {tk_MOST_NUMBER:Tok} (v_MOST_NUMBER:PySem.W.nsIn K mainGlobals "MOST_NUMBER"=some (some (.int 1000 tk_MOST_NUMBER)))
  {tk_MOST_STEP:Tok} (v_MOST_STEP:PySem.W.nsIn K mainGlobals "MOST_STEP"=some (some (.int 200 tk_MOST_STEP)))
  : ∃ fd:FuncData,(∀ (s:Shared) (v:Value),BindsTo s fd ⟨[v],[]⟩ [("_law_script",v)])∧∀ base:Heap,K.In base→base.Ns mainGlobals mg→FnG l.prog w K mg base CX0 5 fa fd ["_law_script"] (spF K 1 F_law):=by
 have e:=hfa.symm.trans (PySem.W.mg_of X G a17)
 cases e
 have t1:TabOk K (tabT "bool" []) (fun t b=>PySem.W.kitOne K t (.type "bool")=some b):=tabT_ok (fun _ h=>nomatch h)
 have t2:TabOk K (tabT "int" []) (fun t b=>PySem.W.kitOne K t (.type "int")=some b):=tabT_ok (fun _ h=>nomatch h)
 have t3:TabOk K (tabT "tuple" []) (fun t b=>PySem.W.kitOne K t (.type "tuple")=some b):=tabT_ok (fun _ h=>nomatch h)
 have T:Tx l.prog w K mg :=⟨PySem.W.mg_none_of X G z_abs,PySem.W.mg_none_of X G z_all,PySem.W.mg_none_of X G z_any,PySem.W.mg_none_of X G z_bool,PySem.W.mg_none_of X G z_int,PySem.W.mg_none_of X G z_isinstance,PySem.W.mg_none_of X G z_len,PySem.W.mg_none_of X G z_list,PySem.W.mg_none_of X G z_range,PySem.W.mg_none_of X G z_repr,PySem.W.mg_none_of X G z_set,PySem.W.mg_none_of X G z_sorted,PySem.W.mg_none_of X G z_tuple,⟨tk_MOST_NUMBER,PySem.W.mg_of X G v_MOST_NUMBER⟩,⟨tk_MOST_STEP,PySem.W.mg_of X G v_MOST_STEP⟩,t1,t2,t3⟩
 refine⟨PySem.W.fnOf "law" "law" (defArgs s_law) (defBody s_law) (defScope s_law) .none kV17 dc17 pm17 an17 cd17 ct17,fun s v=>.of_eq rfl,fun base _ _=>?_⟩
 have C__law_alike:=ok__law_alike (P:=l.prog) (w:=w) (base:=base) (fun_mk (st:=s__law_alike) l0 c0 k0) (PySem.W.mg_of X G a0) T
 have C__law_bag:=ok__law_bag (P:=l.prog) (w:=w) (base:=base) (fun_mk (st:=s__law_bag) l1 c1 k1) (PySem.W.mg_of X G a1) T
 have C__law_take:=ok__law_take (P:=l.prog) (w:=w) (base:=base) (fun_mk (st:=s__law_take) l2 c2 k2) (PySem.W.mg_of X G a2) T
 have C__law_one:=ok__law_one (P:=l.prog) (w:=w) (base:=base) (fun_mk (st:=s__law_one) l3 c3 k3) (PySem.W.mg_of X G a3) T C__law_take
 have C__law_odd_value:=ok__law_odd_value (P:=l.prog) (w:=w) (base:=base) (fun_mk (st:=s__law_odd_value) l4 c4 k4) (PySem.W.mg_of X G a4) T C__law_one
 have C__law_bent:=ok__law_bent (P:=l.prog) (w:=w) (base:=base) (fun_mk (st:=s__law_bent) l5 c5 k5) (PySem.W.mg_of X G a5) T C__law_odd_value C__law_take
 have C__law_form:=ok__law_form (P:=l.prog) (w:=w) (base:=base) (fun_mk (st:=s__law_form) l6 c6 k6) (PySem.W.mg_of X G a6) T C__law_take
 have C__law_great_form:=ok__law_great_form (P:=l.prog) (w:=w) (base:=base) (fun_mk (st:=s__law_great_form) l7 c7 k7) (PySem.W.mg_of X G a7) T C__law_take
 have C__law_is_whole:=ok__law_is_whole (P:=l.prog) (w:=w) (base:=base) (fun_mk (st:=s__law_is_whole) l8 c8 k8) (PySem.W.mg_of X G a8) T
 have C__law_are_numbers:=ok__law_are_numbers (P:=l.prog) (w:=w) (base:=base) (fun_mk (st:=s__law_are_numbers) l9 c9 k9) (PySem.W.mg_of X G a9) T C__law_is_whole
 have C__law_is_form:=ok__law_is_form (P:=l.prog) (w:=w) (base:=base) (fun_mk (st:=s__law_is_form) l10 c10 k10) (PySem.W.mg_of X G a10) T C__law_are_numbers C__law_is_whole
 have C__law_tells:=ok__law_tells (P:=l.prog) (w:=w) (base:=base) (fun_mk (st:=s__law_tells) l11 c11 k11) (PySem.W.mg_of X G a11) T
 have C_has:=ok_has (P:=l.prog) (w:=w) (base:=base) (fun_mk (st:=s_has) l12 c12 k12) (PySem.W.mg_of X G a12) T
 have C_is_integer:=ok_is_integer (P:=l.prog) (w:=w) (base:=base) (fun_mk (st:=s_is_integer) l13 c13 k13) (PySem.W.mg_of X G a13) T
 have C_are_numbers:=ok_are_numbers (P:=l.prog) (w:=w) (base:=base) (fun_mk (st:=s_are_numbers) l14 c14 k14) (PySem.W.mg_of X G a14) T C_is_integer
 have C_is_form:=ok_is_form (P:=l.prog) (w:=w) (base:=base) (fun_mk (st:=s_is_form) l15 c15 k15) (PySem.W.mg_of X G a15) T C_are_numbers C_is_integer
 have C_upto:=ok_upto (P:=l.prog) (w:=w) (base:=base) (fun_mk (st:=s_upto) l16 c16 k16) (PySem.W.mg_of X G a16) T
 exact ok_law (fun_mk (st:=s_law) l17 c17 k17) T C__law_alike C__law_bag C__law_bent C__law_form C__law_great_form C__law_is_form C__law_take C__law_tells C_has C_is_form C_upto
end K54
open PySem PySem.W PyProof.Rows
set_option maxHeartbeats 0 in
theorem PySem.Challenge.cw_smallcount_k54_forms_known_holds : PySem.Challenge.rw_smallcount_k54_forms_known.Holds := by
 refine K54HD.hd ?_
 k_fill
 refine DL.walk_ofG (l:=PySem.Challenge.rw_smallcount_k54_forms_known) (n:=63) (k:=5) (x:="_law_script") (cx:=fun _=>L2.CX0) (sp:=fun w=>DL.spF _ 1 K54.F_law) rfl (by decide) rfl ⟨rfl,by decide,by decide⟩ (fun w h Y=>PySem.W.kIn_of Y) ?F (fun _ _ a ns _ _ hS=>let ⟨_,h⟩:=K54.law_true ns;DL.law_sp hS h) (fun _ _ _ _ _ h=>h)
 case F =>
  intro w mg fa h KX G hmg
  refine' K54.all_mk KX G hmg ?a0 ?l0 ?c0 ?k0 ?a1 ?l1 ?c1 ?k1 ?a2 ?l2 ?c2 ?k2 ?a3 ?l3 ?c3 ?k3 ?a4 ?l4 ?c4 ?k4 ?a5 ?l5 ?c5 ?k5 ?a6 ?l6 ?c6 ?k6 ?a7 ?l7 ?c7 ?k7 ?a8 ?l8 ?c8 ?k8 ?a9 ?l9 ?c9 ?k9 ?a10 ?l10 ?c10 ?k10 ?a11 ?l11 ?c11 ?k11 ?a12 ?l12 ?c12 ?k12 ?a13 ?l13 ?c13 ?k13 ?a14 ?l14 ?c14 ?k14 ?a15 ?l15 ?c15 ?k15 ?a16 ?l16 ?c16 ?k16 ?a17 ?l17 ?c17 ?k17 ?z_abs ?z_all ?z_any ?z_bool ?z_int ?z_isinstance ?z_len ?z_list ?z_range ?z_repr ?z_set ?z_sorted ?z_tuple ?v_MOST_NUMBER ?v_MOST_STEP
  (case a0=>k_is)
  (case l0=>k_is)
  (case c0=>k_is)
  (case k0=>k_is)
  (case a1=>k_is)
  (case l1=>k_is)
  (case c1=>k_is)
  (case k1=>k_is)
  (case a2=>k_is)
  (case l2=>k_is)
  (case c2=>k_is)
  (case k2=>k_is)
  (case a3=>k_is)
  (case l3=>k_is)
  (case c3=>k_is)
  (case k3=>k_is)
  (case a4=>k_is)
  (case l4=>k_is)
  (case c4=>k_is)
  (case k4=>k_is)
  (case a5=>k_is)
  (case l5=>k_is)
  (case c5=>k_is)
  (case k5=>k_is)
  (case a6=>k_is)
  (case l6=>k_is)
  (case c6=>k_is)
  (case k6=>k_is)
  (case a7=>k_is)
  (case l7=>k_is)
  (case c7=>k_is)
  (case k7=>k_is)
  (case a8=>k_is)
  (case l8=>k_is)
  (case c8=>k_is)
  (case k8=>k_is)
  (case a9=>k_is)
  (case l9=>k_is)
  (case c9=>k_is)
  (case k9=>k_is)
  (case a10=>k_is)
  (case l10=>k_is)
  (case c10=>k_is)
  (case k10=>k_is)
  (case a11=>k_is)
  (case l11=>k_is)
  (case c11=>k_is)
  (case k11=>k_is)
  (case a12=>k_is)
  (case l12=>k_is)
  (case c12=>k_is)
  (case k12=>k_is)
  (case a13=>k_is)
  (case l13=>k_is)
  (case c13=>k_is)
  (case k13=>k_is)
  (case a14=>k_is)
  (case l14=>k_is)
  (case c14=>k_is)
  (case k14=>k_is)
  (case a15=>k_is)
  (case l15=>k_is)
  (case c15=>k_is)
  (case k15=>k_is)
  (case a16=>k_is)
  (case l16=>k_is)
  (case c16=>k_is)
  (case k16=>k_is)
  (case a17=>k_is)
  (case l17=>k_is)
  (case c17=>k_is)
  (case k17=>k_is)
  (case z_abs=>k_is)
  (case z_all=>k_is)
  (case z_any=>k_is)
  (case z_bool=>k_is)
  (case z_int=>k_is)
  (case z_isinstance=>k_is)
  (case z_len=>k_is)
  (case z_list=>k_is)
  (case z_range=>k_is)
  (case z_repr=>k_is)
  (case z_set=>k_is)
  (case z_sorted=>k_is)
  (case z_tuple=>k_is)
  (case v_MOST_NUMBER=>k_is)
  (case v_MOST_STEP=>k_is)
