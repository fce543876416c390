import PyProof.Rows.All
import KE.RegKSuper
import KE.OsRunLaw
import PySem.Challenge.RW_smallcount_k11_kinds_of_any_value
import HandS.ForMost
import HandS.Evl
import HandS.ForExc
import HandS.CallSlots
import HandS.Flow
import HandS.SetKeys
import HandS.More
import HandS.TupAny
import KE.GoesMore
import KE.GoesEnum
import HandS.IsInst
import KE.KExcIs
import HandS.Dict
import HandS.Iter
import HandS.WordsDict
import HandS.Zip
import PyProof.Rows.TupDisplay
import KE.KDictDisplayH
import KE.KDictWalk
import HandS.Exc
import HandS.ExcSuper
import KE.KExcSuper
import HandS.ExcField
import HandS.ExcIs
import PyProof.ReprRoads
import HandS.DictEq
import HandS.SortInts
import HandS.Conv
import KE.DatumOrd
import KE.SortData
import HandS.Style
import HandS.ListItems
import HandS.Codes
import PyProof.DictUpdate
import PyProof.InstNe
import HandS.Star
import HandS.Property
import HandS.Small
import PyProof.AssignAttr
import HandS.Set
import HandS.SetFor
import PyProof.Rows.SortShellAny
import HandS.SetBool
import HandS.DictComp
import KE.KDictZip
import PyProof.NeKinds
import PyProof.StrOps2
import HandS.Defaults
import HandS.ExcOwn
import OpenK.KOwn
import HandS.TupMul
import HandS.Text
import HandS.ExcValue
import HandS.Deep
import KE.KRevSl
set_option Elab.async false
set_option linter.all false
set_option autoImplicit false
set_option maxRecDepth 100000
namespace K11HD
open PySem PySem.W PySem.Calls PyProof.Rows
noncomputable def seenP:Program:=view PySem.Challenge.pw_smallcount_k11_kinds_of_any_value [46]
def rest0:List PySem.Str:=["LETTERS","MOST_LETTERS","ONE_NAME","TWO_NAMES","MOST_ARGUMENTS","MOST_OWN","MOST_STEPS","MOST_MARKS","WORDS","is_integer","is_name","are_names","is_step","is_deed","is_call","is_line","is_word","CountError","Wrong","_law_bag"]
def rest1:List PySem.Str:=["_law_take","_law_alike","_law_mixed","_law_one","_law_names","_law_step","_law_deed","_law_plain_deeds","_law_all_names","_law_own","_law_lower","_law_is_whole","_law_deep","_law_are_names","_law_is_step","_law_is_deed","_law_is_call","_law_is_line","_law_word","_law_odd_value"]
def rest2:List PySem.Str:=["_law_bent","_law_thing","_law_own_right"]
def restN:List PySem.Str:=rest0++rest1++rest2
set_option hygiene false in
local macro_rules | `(tactic| o_headL $H:term) => `(tactic| ((refine PySem.W.holds_open (q := seenP) (loose := restN) (Xt := fun s => PySem.W.xlAt seenP [] s && PySem.W.recOk [] s) (XP := PySem.W.XL seenP []) (Yf := PySem.W.Hook.obs $H) (Ya := PySem.W.Hook.val $H) (YP := PySem.W.Hook.says $H) (N := 40000) ?hl (PySem.W.Hook.of $H) (PySem.W.Hook.keeps $H) (fun s e => PySem.W.xl_of s (Bool.and_eq_true_iff.mp e).1) PySem.W.XL.keeps (by rfl) (by rfl) (by rfl) (fun s e => PySem.W.recFacts_of (Bool.and_eq_true_iff.mp e).2) (by rfl) (by first | assumption | decide +kernel) (by decide +kernel) ⟨rfl, rfl, rfl, rfl, rfl, by decide +kernel⟩ ?hw ?hc); (case hl => refine HeadRun.left_oneK (M := 40000) (by kernel_rfl) (by rfl) (fun s => by kernel_rfl) (by rfl) ?_; intro w os; kernel_rfl)))
local macro_rules | `(tactic| k_head) => `(tactic| k_headL)
set_option maxHeartbeats 0 in
open_top hd for PySem.Challenge.rw_smallcount_k11_kinds_of_any_value
end K11HD
namespace DL
open PySem PySem.Spec PyProof.Rows L2
structure FnG (P:Program)(w:World)(K:PySem.W.Frag)(mg:Str→Option Value)(base:Heap)(cx:CXT)
  (k:Nat) (f:Addr) (fd:FuncData) (ps:List Str) (sp:Sp):Prop where
 len:∀ vs H Q E,sp vs H Q E→vs.length=ps.length
 run:∀ (A:Around) (out:List Env) (s:Shared) (H:Hp) (args:Args) (us:List Value) (vs:List V) (Q:VK) (E:XK),
  Room k A→A.guards=some []→Env0 P w K mg base A out s H→BindsTo s fd args (ps.zip us)→Vals vs us →
  sp vs H Q E→codeAny (model P w) A (.call (.ref f) args) (CR cx out P w H s Q E) s
theorem FnG.mono {P:Program}{w:World}{K:PySem.W.Frag}{mg:Str→Option Value}{base:Heap}{cx:CXT}
  {j k:Nat} {f:Addr} {fd:FuncData} {ps:List Str} {sp:Sp} (F:FnG P w K mg base cx j f fd ps sp) (h:j≤k) :
  FnG P w K mg base cx k f fd ps sp :=
 ⟨F.len,fun A o s H a us vs Q E hr=>F.run A o s H a us vs Q E (hr.mono h)⟩
theorem fnG_of {cx:CXT}{P:Program}{w:World}{K:PySem.W.Frag}{mg:Str→Option Value}{base:Heap}{k:Nat}
  {f:Addr} {name qual:Str} {params:Arguments} {body:List Stmt} {sc:Scope} {dV kV doc pm cdv ct oc:Value}
  {an od:Option Addr} {osl:Array (Option Value)} {N ps:List Str} {sp:Sp}
  (lk:K.lookup f=some ⟨oc,od,.func (PySem.W.fnOf name qual params body sc dV kV doc pm an cdv ct),osl⟩)
  (hcd:PySem.W.codeIn K cdv qual=true) (S:FnScope N ps sc)
  (len:∀ vs H Q E,sp vs H Q E→vs.length=ps.length)
  (hb:∀ (A:Around) (out:List Env) (s:Shared) (H:Hp) (vs:List V) (Q:VK) (E:XK),
   Room k (A.deeper (envOfC qual sc s.heap.objs.size f cdv))→A.guards=some []→sp vs H Q E →
   ∃ t,PSs (cxOf cx P w K mg base N qual sc f cdv A out s H E) body t ∧
    t { nx:=fun _ H'=>Q .non H',rt:=Q } (start N vs) H) :
  FnG P w K mg base cx (k+1) f (PySem.W.fnOf name qual params body sc dV kV doc pm an cdv ct) ps sp:=by
 refine⟨len,fun A out s H args us vs Q E hr hg e0 bd r hsp=>?_⟩
 have hl:=len _ _ _ _ hsp
 have stay:∀ b o,base.get? b=some o→s.heap.get? b=some o:=fun b o e=>(e0.bs b o e).1
 have KX:K.In s.heap:=e0.mod.kin.keeps stay
 have kinds:∀ y∈ps.zip us,sc.names.lookup y.1=some .local ∨
   (sc.names.lookup y.1=some .cell∧((cellsFrom (s.heap.objs.size+1) sc.names []).lookup y.1).isSome=true):=by
  rintro ⟨n,v⟩ hy
  refine(S.par n (List.of_mem_zip hy).1).imp id fun q=>⟨q,?_⟩
  exact PySem.W.cellsFrom_some _ _ _ (.inl q)
 refine codeAny_call_function hr.depth (KX _ _ lk) rfl S.co S.gen rfl (PySem.W.codeRec_of KX hcd) (bd _ _ _ _ ?_)
 refine wpAny_newFunctionEnv_cells S.kind kinds fun env he s1 x=>?_
 subst he
 refine⟨(e0.mod.nolimit.keeps stay).keeps x.toInCall.keep,codeAny_func ?_⟩
 obtain⟨t,ht,hq⟩:=hb A out s H vs Q E (hr.deeper _) hg hsp
 have I:=inv_start (cd:=cdv) (qual:=qual) (f:=f) (CX:=cx) (E:=E) S hr.hd e0 hl r x
 refine wpAny_mono (ht.run [] s1 (start N vs) H _ I hq) (fun fl s' hs=>?_) fun e s' hs=>hs
 match fl,hs with
 | .ret u,⟨v,_,H',J,rv,q⟩=>exact⟨v,H',J.os,J.bare,J.base,J.hok,rv,q⟩
 | .next,⟨_,H',J,q⟩=>exact⟨V.non,H',J.os,J.bare,J.base,J.hok,rfl,q⟩
 | .brk,⟨_,_,_,q⟩=>exact False.elim q
 | .cont,⟨_,_,_,q⟩=>exact False.elim q
section
variable {X:Cx}{cx:CXT}{k:Nat}{f:Addr}{fd:FuncData}{ps:List Str}{sp:Sp}{dvs:List V}{ds:List Value}
 {E:L2.St→XK} {x:Str} {p pos:Pos} {e:Expr} {es:List Expr} {t:TA}
theorem run_fnG {pins:List (Addr×Obj)}{σ:L2.St}{H:Hp}{s:Shared}{Q:VK}{us:List Value}{vs:List V}
  (F:FnG X.prog X.w X.K X.mg X.base cx k f fd ps sp) (hr:Room k X.A) (hgd:X.A.guards=some [])
  (hb:Binds X.K fd ps ds) (hd:Vals dvs ds) (hx:PassesAt cx X σ (E σ)) (I:Inv X pins σ H s) (r:Vals vs us)
  (h:sp (vs++dvs) H Q (E σ)):wpAny (model X.prog X.w) X.A (call (.ref f) us) (EP X pins σ Q) X.xe s:=by
 have r2:Vals (vs++dvs) (us++ds):=r.append hd
 have hl:(us++ds).length=ps.length:=r2.length▸F.len _ _ _ _ h
 have run:=F.run X.A X.stack s H ⟨us,[]⟩ (us++ds) (vs++dvs) Q (E σ) hr hgd I.env0 (hb s us I.kIn hl) r2 h
 refine wpAny_call (codeAny_mono run fun z s' hq=>?_)
 match z,hq with
 | .error e,hq=>exact hx pins H s e s' I hq
 | .ok (.ret u),hq=>exact I.after hq
 | .ok .next,hq=>exact hq.elim
 | .ok .brk,hq=>exact hq.elim
 | .ok .cont,hq=>exact hq.elim
theorem pe_callG (F:FnG X.prog X.w X.K X.mg X.base cx k f fd ps sp)(hr:Room k X.A)(hgd:X.A.guards=some [])
  (hg:Gl X x) (hm:X.mg x=some (.ref f)) (hk:PySem.W.keepIn X.K (.ref f)=true) (hb:Binds X.K fd ps ds)
  (hd:Vals dvs ds) (hx:∀ σ,PassesAt cx X σ (E σ)) (ha:PA X (e::es) t)
  (hdb:(x==("__debug__":Str))=false:=by decide)
  (he:starEach (e::es) X.env=(false,eval e X.env)::starEach es X.env:=by rfl)
  (hpl:(backTo pos (starEach es X.env)).any (·.1)=false:=by rfl) :
  PE X (.Call (.Name x p) (e::es) [] pos) (tCallSD sp dvs E t):=by
 refine⟨fun pins s σ H Q I h=>wpAny_Call_Name_kw (ld_glob I hg hm ?_ hdb)⟩
 refine PySem.W.callWith_K (h₀:=X.base) I.ok.mod.kin hk (thn (ha.run pos pins s σ H _ I h) ?_) he hpl
 rintro us s1 ⟨vs,H1,I1,r,q⟩
 exact⟨I1.kIn,run_fnG F hr hgd hb hd (hx σ) I1 r q⟩
end
theorem law_callG {P:Program}{w:World}{K:PySem.W.Frag}{mg mb:Str→Option Value}{cx:CXT}{k:Nat}
  {fa a:Addr} {fd:FuncData} {x:Str} {sp:Sp} {s₁:Shared} {vs:List Value} {ns:List Int}
  (KX:K.In s₁.heap) (hns:s₁.heap.Ns mainGlobals mg) (hb:s₁.heap.Ns builtinsNs mb)
  (hbb:∀ x:Str,x≠"__name__"→mb x=bootBuiltins x) (hlim:s₁.heap.NoLimit) (hg:s₁.gens=#[])
  (ha:s₁.heap.get? a=some { cls:=.type "list",data:=.seq vs.toArray }) (hi:IntsAre vs ns)
  (hl:ns.length≤sizeLine) (hr:Room k callerA)
  (F:∀ base:Heap,K.In base→base.Ns mainGlobals mg→FnG P w K mg base cx k fa fd [x] sp)
  (hbind:∀ (s:Shared) (u:Value),BindsTo s fd ⟨[u],[]⟩ [(x,u)])
  (hsp:∀ H:Hp,Only H→SqL K H a (ns.map V.int)→sp [.ref a] H (fun v _=>v=.bl true) fun _ _ _=>False)
  (hcx:∀ H e s',cx [] H s₁ (fun _ _ _=>False) e s'→False) :
  codeAny (model P w) callerA (.call (.ref fa) ⟨[.ref a],[]⟩)
   (fun r s'=>r=.ok (.ret (.bool true))∧OldK s₁.heap s'.heap∧s'.os=s₁.os∧AllBare s'.gens) s₁:=by
 have rv:=vals_ints hi
 have main:∀ H:Hp,Only H→SqL K H a (ns.map V.int)→HOk P w H s₁.heap→(∀ b,H b≠none→b=a) →
   (H a≠none→K.lookup a=none)→codeAny (model P w) callerA (.call (.ref fa) ⟨[.ref a],[]⟩)
   (fun r s'=>r=.ok (.ret (.bool true))∧OldK s₁.heap s'.heap∧s'.os=s₁.os∧AllBare s'.gens) s₁:=by
  intro H hO hS hok hA hK
  have onlyA:∀ {b:Addr} {u:HO},H b=some u→b=a:=fun {b u} q=>hA b (by rw[q];exact fun z=>nomatch z)
  have dictFree:∀ {b:Addr} {o:Obj} {es:Array DictEntry} {ep:Nat},
    s₁.heap.get? b=some o→o.data=.dict es ep→H b=none:=by
   intro b o es ep e d
   match q:H b with
   | none=>rfl
   | some u =>
    obtain rfl:=onlyA q
    rw[ha] at e
    obtain rfl:=Option.some.inj e
    exact nomatch (show Data.seq vs.toArray _=Data.dict es ep from d)
  have ns':∀ {b:Addr} {m:Str→Option Value},s₁.heap.Ns b m→(hidT s₁.heap H).Ns b m :=
   fun⟨o,es,ep,e,d,r⟩=>⟨o,es,ep,hidT_get e (dictFree e d),d,r⟩
  have kb:K.In (hidT s₁.heap H):=fun b o e=>hidT_get (KX b o e) (by
   match q:H b with
   | none=>rfl
   | some u =>
    obtain rfl:=onlyA q
    rw[hK (by rw[q];exact fun z=>nomatch z)] at e
    exact nomatch e)
  have md:Mod K mg (hidT s₁.heap H):=⟨kb,ns' hns,⟨mb,ns' hb,hbb⟩,by
   obtain⟨mc,h1,h2⟩:=hlim
   exact⟨mc,ns' h1,h2⟩⟩
  have nofr:∀ b:Addr,b∉frs []:=fun b z=>nomatch (show b∈([]:List Addr) from z)
  have e0:Env0 P w K mg (hidT s₁.heap H) callerA [] s₁ H :=
   ⟨rfl,md,fun b o e=>of_hidT e,Nat.le_of_eq (hidT_size _ _),trivial,fun b hb=>absurd hb (nofr b),hok,.of_eq hg⟩
  have run:=(F _ kb (ns' hns)).run callerA [] s₁ H ⟨[.ref a],[]⟩ [.ref a] [.ref a] _ _ hr rfl e0
   (hbind s₁ (.ref a)) (.cons rfl .nil) (hsp H hO hS)
  refine codeAny_mono run fun r s' h=>?_
  match r,h with
  | .error e,h=>exact(hcx H e s' h).elim
  | .ok .next,h=>exact h.elim
  | .ok .brk,h=>exact h.elim
  | .ok .cont,h=>exact h.elim
  | .ok (.ret u),⟨v,H',os,bare,un,hok',r',q⟩ =>
   obtain rfl:v=.bl true:=q
   obtain rfl:u=Value.bool true:=r'
   refine⟨rfl,OldK.of_keep fun b o e=>?_,os,bare⟩
   match q:H b with
   | none=>exact un.keep b o e q (nofr b) (fun z=>nomatch z)
   | some u =>
    match hO b with
    | .inl z=>rw[q] at z;exact nomatch z
    | .inr ⟨ob,xs,z⟩ =>
     have e1:=(hok b _ z).1
     rw[e] at e1
     obtain rfl:=Option.some.inj e1
     exact(hok' b _ (un.frzs b _ _ z)).1
 match hk:K.lookup a with
 | some o =>
  have e:=KX a o hk
  rw[ha] at e
  obtain rfl:=Option.some.inj e
  have hz:vs.toArray.size≤sizeLine:=by rw[List.size_toArray,hi.length];exact hl
  refine main (fun _=>none) (fun _=>.inl rfl) (.inr ⟨_,vs.toArray,_,hk,rfl,rfl,rfl,hz,by simpa using rv⟩) ?_ ?_ ?_
  ·exact fun b u z=>nomatch (show(none:Option HO)=some u from z)
  ·exact fun b z=>absurd rfl z
  ·exact fun z=>absurd rfl z
 | none =>
  let so:Obj:={ cls:=.type "list",data:=.seq vs.toArray }
  refine main (fun b=>if b=a then some (.frz so (.lst (ns.map V.int))) else none) (fun b=>?_)
   (.inl (.inr ⟨so,if_pos rfl⟩)) (fun b u z=>?_) (fun b z=>Classical.byContradiction fun hb=>z (if_neg hb)) fun _=>hk
  ·by_cases hb:b=a
   ·exact .inr ⟨_,_,if_pos hb⟩
   ·exact .inl (if_neg hb)
  ·by_cases hb:b=a
   ·have z':=(if_pos hb).symm.trans z
    obtain rfl:=Option.some.inj z'
    subst hb
    exact⟨ha,by rw[List.length_map];exact hl,vs,_,rv,ha⟩
   ·exact nomatch (if_neg hb).symm.trans z
theorem walk_ofG {l:PySem.W.OpenLaw}{n k:Nat}{q:Program}{loose:List Str}{XP:(Str→Option Value)→Heap→Prop}
  {YP:World→Heap→Prop} {d:DefRec} {K:Params→PySem.W.Frag} {cx:World→CXT} {sp:World→Sp} {x:Str}
  (hn:l.most=some n) (hn2:n≤sizeLine) (hdf:d.params.defaults=[]) (hr:Room k callerA)
  (hY:∀ (w:World) (h:Heap),YP w h→(K w.params).In h)
  (F:∀ (w:World) (mg:Str→Option Value) (fa:Addr) (h:Heap),(K w.params).In h→h.Ns mainGlobals mg →
   mg d.name=some (.ref fa)→∃ fd:FuncData,(∀ (s:Shared) (u:Value),BindsTo s fd ⟨[u],[]⟩ [(x,u)]) ∧
    ∀ base:Heap,(K w.params).In base→base.Ns mainGlobals mg →
     FnG l.prog w (K w.params) mg base (cx w) k fa fd [x] (sp w))
  (hsp:∀ (w:World) (H:Hp) (a:Addr) (ns:List Int),ns.length≤n→Only H →
   SqL (K w.params) H a (ns.map V.int)→sp w [.ref a] H (fun v _=>v=.bl true) fun _ _ _=>False)
  (hcx:∀ (w:World) (H:Hp) (s:Shared) (e:Value) (s':Shared),cx w [] H s (fun _ _ _=>False) e s'→False) :
  PySem.W.WalkO q loose XP YP l.row.toRowW d [] (fun f vs=>PySem.call f vs):=by
 refine Att.attach_call hn hdf fun w s₀ s₁ mg mb fa o pm cd doc a vs ns G Y ho hd hcd hmg hobj hints hlen hg=>?_
 obtain⟨fd,hb,hF⟩:=F w mg fa _ (hY w _ Y) G.T.g hmg
 exact law_callG (hY w _ Y) G.T.g G.T.b G.T.builtins G.T.nolimit hg hobj hints (Nat.le_trans hlen hn2) hr hF hb
  (fun H hO hS=>hsp w H a ns hlen hO hS) fun H e s'=>hcx w H s₁ e s'
abbrev Slots:=L2.St
def Ex (H H':Hp):Prop:=∀ a o,H a=some o→H' a=some o
theorem Ex.refl (H:Hp):Ex H H:=fun _ _ h=>h
theorem Ex.trans {H H1 H2:Hp}(a:Ex H H1)(b:Ex H1 H2):Ex H H2:=fun x o h=>b x o (a x o h)
theorem Ex.new {H:Hp}{p:Addr}{o:HO}(h:H p=none):Ex H (upd H p o):=fun a u e=>by
 rw[upd_ne (ne_of_none e h)];exact e
theorem ex_l {K:PySem.W.Frag}{H H':Hp}{a:Addr}{xs:List V}(e:Ex H H')(h:SqL K H a xs):SqL K H' a xs:=by
 rcases h with (h|⟨o,h⟩)|h
 ·exact .inl (.inl (e _ _ h))
 ·exact .inl (.inr ⟨o,e _ _ h⟩)
 ·exact .inr h
theorem ex_t {K:PySem.W.Frag}{H H':Hp}{a:Addr}{xs:List V}(e:Ex H H')(h:SqT K H a xs):SqT K H' a xs:=by
 rcases h with (h|⟨o,h⟩)|h
 ·exact .inl (.inl (e _ _ h))
 ·exact .inl (.inr ⟨o,e _ _ h⟩)
 ·exact .inr h
inductive Ky where
 | k (x:Key)|t (xs:List Key)
deriving DecidableEq
def entI (x:List Int×Addr×Value):DictEntry:=⟨reduceHash (Builtin.Tuple.tupleHashOf (x.1.map hashInt)),.ref x.2.1,x.2.2⟩
def TX (a:Addr)(es:Array DictEntry):HO:=.ext fun h=>∃ o ep,h.get? a=some o∧o.ExactDict∧o.data=.dict es ep
def DctIs (K:PySem.W.Frag)(G:Hp)(a:Addr)(o:HO)(ks:List Ky)(vs:List V):Prop :=
 (∃ kvs:List (Key×V),o=.dK kvs∧ks=kvs.map (fun p=>Ky.k p.1)∧vs=kvs.map (·.2)) ∨
 ∃ (es:Array DictEntry) (xs:List (List Int×Addr×Value)),xs≠[]∧o=TX a es∧es.toList=xs.map entI∧(xs.map (·.1)).Nodup∧(a==sysModules)=false∧xs.length≤sizeLine ∧
  ks=xs.map (fun p=>Ky.t (p.1.map Sum.inl))∧Vals vs (xs.map (·.2.2))∧∀ x∈xs,SqT K G x.2.1 (x.1.map V.int)
theorem DctIs.map {K:PySem.W.Frag}{G G':Hp}{a:Addr}{o:HO}{ks:List Ky}{vs:List V}(e:∀ b xs,SqT K G b xs→SqT K G' b xs)(h:DctIs K G a o ks vs):DctIs K G' a o ks vs:=by
 rcases h with h|⟨es,xs,h0,h1,h2,h3,h4,h5,h6,h7,h8⟩
 ·exact .inl h
 ·exact .inr ⟨es,xs,h0,h1,h2,h3,h4,h5,h6,h7,fun x hx=>e _ _ (h8 x hx)⟩
theorem DctIs.mono {K:PySem.W.Frag}{G G':Hp}{a:Addr}{o:HO}{ks:List Ky}{vs:List V}(e:Ex G G')(h:DctIs K G a o ks vs):DctIs K G' a o ks vs:=by
 rcases h with h|⟨es,xs,h0,h1,h2,h3,h4,h5,h6,h7,h8⟩
 ·exact .inl h
 ·exact .inr ⟨es,xs,h0,h1,h2,h3,h4,h5,h6,h7,fun x hx=>ex_t e (h8 x hx)⟩
def LkIs (K:PySem.W.Frag)(G:Hp)(a:Addr)(o:HO)(ks:List Ky)(vs:List V):Prop:=∃ od u,o=.frz od u∧DctIs K G a u ks vs
theorem LkIs.map {K:PySem.W.Frag}{G G':Hp}{a:Addr}{o:HO}{ks:List Ky}{vs:List V}(e:∀ b xs,SqT K G b xs→SqT K G' b xs)(h:LkIs K G a o ks vs):LkIs K G' a o ks vs :=
 let ⟨od,u,h1,h2⟩:=h;⟨od,u,h1,h2.map e⟩
theorem LkIs.mono {K:PySem.W.Frag}{G G':Hp}{a:Addr}{o:HO}{ks:List Ky}{vs:List V}(e:Ex G G')(h:LkIs K G a o ks vs):LkIs K G' a o ks vs :=
 let ⟨od,u,h1,h2⟩:=h;⟨od,u,h1,h2.mono e⟩
def ClsAt (K:PySem.W.Frag)(nm:Str)(C:Addr):Prop:=PySem.W.nsIn K mainGlobals nm=some (some (.ref C))
inductive D where
 | non|bl (b:Bool)|int (i:Int)|str (s:Str)|ty (n:String)|ref (a:Addr)
 | tup (xs:List D)|lst (xs:List D)|fro (xs:List D)|dct (kvs:List (Ky×D))|ins (nm:Str) (fs:List (Str×D))|err (a C d:Addr) (nm:Str) (fs:List (Str×D))|eo (nm:Str)
inductive DV where
 | dat (d:D)|loc (n:Nat)
inductive Pl where
 | lst (xs:List DV)|dct (kvs:List (Ky×DV))|lkd (kvs:List (Ky×DV))|lkl (xs:List DV)|tp (xs:List DV)|own|ins (nm:Str) (fs:List (Str×DV))|gone
inductive R where
 | dat (d:D)|loc (n:Nat)|nl (xs:List DV)|nk (kvs:List (Ky×DV))
abbrev Mem:=List Pl
abbrev Env:=List (Option DV)
abbrev Pm:=Nat→Option Addr
structure Xc where
 nm:Str
 fs:List (Str×D)
inductive Res (α:Type) where
 | ok (a:α) (μ:Mem)|exc (x:Xc) (μ:Mem)|bad
def Res.bind {α β:Type}(r:Res α)(k:α→Mem→Res β):Res β:=match r with
 | .ok a μ=>k a μ
 | .exc x μ=>.exc x μ
 | .bad=>.bad
@[simp] theorem Res.bind_ok {α β:Type}(a:α)(μ:Mem)(k:α→Mem→Res β):(Res.ok a μ).bind k=k a μ:=rfl
@[simp] theorem Res.bind_exc {α β:Type}(x:Xc)(μ:Mem)(k:α→Mem→Res β):(Res.exc x μ).bind k=.exc x μ:=rfl
@[simp] theorem Res.bind_bad {α β:Type}(k:α→Mem→Res β):(Res.bad).bind k=.bad:=rfl
def EO (a C d:Addr):HO:=.ext fun h=>∃ ox,h.get? a=some ox∧ox.cls=.ref C∧ox.dict=some d∧∃ vs,ox.data=.fields vs
mutual
inductive Rp (K:PySem.W.Frag) (G:Hp):V→D→Prop
 | non:Rp K G .non .non
 | bl (b):Rp K G (.bl b) (.bl b)
 | int (i):Rp K G (.int i) (.int i)
 | str (s):Rp K G (.str s) (.str s)
 | ty (n):Rp K G (.ty n) (.ty n)
 | ref (a):Rp K G (.ref a) (.ref a)
 | tup {a vs ds}:SqT K G a vs→RpL K G vs ds→Rp K G (.ref a) (.tup ds)
 | lst {a vs ds}:G a=some (.lst vs)→RpL K G vs ds→Rp K G (.ref a) (.lst ds)
 | fro {a vs ds}:SqL K G a vs→RpL K G vs ds→Rp K G (.ref a) (.fro ds)
 | dct {a o u vs} {ds:List (Ky×D)}:G a=some (.frz o u)→DctIs K G a u (ds.map (·.1)) vs →
   RpL K G vs (ds.map (·.2))→Rp K G (.ref a) (.dct ds)
 | ins {a dx C nm} {vs:List (Str×V)} {ds:List (Str×D)}:ClsAt K nm C→G a=some (.ins C dx vs)→G dx=some (.own a) →
   vs.map (·.1)=ds.map (·.1)→RpL K G (vs.map (·.2)) (ds.map (·.2))→Rp K G (.ref a) (.ins nm ds)
 | er0 {a C d nm}:ClsAt K nm C→Rp K G (.ref a) (.err a C d nm [])
 | eo {a C d nm}:ClsAt K nm C→G a=some (EO a C d)→G d=some (.own a)→Rp K G (.ref a) (.eo nm)
 | err {a C d nm} {vs:List (Str×V)} {ds:List (Str×D)}:ClsAt K nm C→G d=some (.xd vs)→vs.map (·.1)=ds.map (·.1)→RpL K G (vs.map (·.2)) (ds.map (·.2))→Rp K G (.ref a) (.err a C d nm ds)
inductive RpL (K:PySem.W.Frag) (G:Hp):List V→List D→Prop
 | nil:RpL K G [] []
 | cons {v vs d ds}:Rp K G v d→RpL K G vs ds→RpL K G (v::vs) (d::ds)
end
section
variable {K:PySem.W.Frag}{G G' H H':Hp}{ρ ρ':Pm}
mutual
theorem Rp.mono (e:Ex G G'):∀ {v:V} {d:D},Rp K G v d→Rp K G' v d
 | _,_,.non=>.non
 | _,_,.bl b=>.bl b
 | _,_,.int i=>.int i
 | _,_,.str s=>.str s
 | _,_,.ty n=>.ty n
 | _,_,.ref a=>.ref a
 | _,_,.tup h r=>.tup (ex_t e h) (RpL.mono e r)
 | _,_,.lst h r=>.lst (e _ _ h) (RpL.mono e r)
 | _,_,.fro h r=>.fro (ex_l e h) (RpL.mono e r)
 | _,_,.dct h k r=>.dct (e _ _ h) (k.mono e) (RpL.mono e r)
 | _,_,.ins c h o k r=>.ins c (e _ _ h) (e _ _ o) k (RpL.mono e r)
 | _,_,.er0 c=>.er0 c
 | _,_,.eo c h o=>.eo c (e _ _ h) (e _ _ o)
 | _,_,.err c h k r=>.err c (e _ _ h) k (RpL.mono e r)
theorem RpL.mono (e:Ex G G'):∀ {vs:List V} {ds:List D},RpL K G vs ds→RpL K G' vs ds
 | _,_,.nil=>.nil
 | _,_,.cons a b=>.cons (Rp.mono e a) (RpL.mono e b)
end
theorem RpL.length:∀ {vs:List V} {ds:List D},RpL K G vs ds→vs.length=ds.length
 | _,_,.nil=>rfl
 | _,_,.cons _ b=>congrArg (·+1) (RpL.length b)
theorem RpL.get:∀ {vs:List V} {ds:List D} {i:Nat} {v:V},RpL K G vs ds→vs[i]?=some v→∃ d,ds[i]?=some d∧Rp K G v d
 | _,_,_,_,.nil,h=>by simp at h
 | _,_,0,_,.cons a _,h=>by cases h;exact⟨_,rfl,a⟩
 | _,_,i+1,v,.cons _ b,h=>RpL.get (i:=i) b h
theorem RpL.get':∀ {vs:List V} {ds:List D} {i:Nat} {d:D},RpL K G vs ds→ds[i]?=some d→∃ v,vs[i]?=some v∧Rp K G v d
 | _,_,_,_,.nil,h=>by simp at h
 | _,_,0,_,.cons a _,h=>by cases h;exact⟨_,rfl,a⟩
 | _,_,i+1,v,.cons _ b,h=>RpL.get' (i:=i) b h
theorem RpL.take:∀ {vs:List V} {ds:List D} (n:Nat),RpL K G vs ds→RpL K G (vs.take n) (ds.take n)
 | _,_,0,_=>.nil
 | _,_,_+1,.nil=>.nil
 | _,_,n+1,.cons a b=>.cons a (RpL.take n b)
theorem RpL.drop:∀ {vs:List V} {ds:List D} (n:Nat),RpL K G vs ds→RpL K G (vs.drop n) (ds.drop n)
 | _,_,0,r=>r
 | _,_,_+1,.nil=>.nil
 | _,_,n+1,.cons _ b=>RpL.drop n b
theorem RpL.append:∀ {vs ws:List V} {ds es:List D},RpL K G vs ds→RpL K G ws es→RpL K G (vs++ws) (ds++es)
 | _,_,_,_,.nil,r=>r
 | _,_,_,_,.cons a b,r=>.cons a (RpL.append b r)
def DvOk (K:PySem.W.Frag)(ρ:Pm)(G:Hp)(v:V):DV→Prop
 | .dat d=>Rp K G v d
 | .loc n=>∃ a,v=.ref a∧ρ n=some a
abbrev DvL (K:PySem.W.Frag)(ρ:Pm)(G:Hp):List V→List DV→Prop:=Paired (DvOk K ρ G)
def DV.below (n:Nat):DV→Prop
 | .dat _=>True
 | .loc m=>m<n
theorem DvOk.mono (e:Ex G G')(hρ:∀ n a,ρ n=some a→ρ' n=some a){v:V}:∀ {x:DV},DvOk K ρ G v x→DvOk K ρ' G' v x
 | .dat _,h=>Rp.mono e h
 | .loc _,⟨a,h,q⟩=>⟨a,h,hρ _ _ q⟩
theorem DvL.mono (e:Ex G G')(hρ:∀ n a,ρ n=some a→ρ' n=some a){vs:List V}{xs:List DV}(h:DvL K ρ G vs xs):DvL K ρ' G' vs xs :=
 Paired.mapP h fun _ _ q=>q.mono e hρ
def PlOk (K:PySem.W.Frag)(ρ:Pm)(G H:Hp)(n:Nat):Pl→Prop
 | .lst xs=>(∀ x∈xs,x.below n)∧∃ a vs,ρ n=some a∧H a=some (.lst vs)∧DvL K ρ G vs xs
 | .dct kvs=>(∀ p∈kvs,p.2.below n)∧∃ (a:Addr) (o:HO) (vs:List V),ρ n=some a∧H a=some o ∧
   DctIs K G a o (kvs.map (·.1)) vs∧DvL K ρ G vs (kvs.map (·.2))
 | .lkd kvs=>(∀ p∈kvs,p.2.below n)∧∃ (a:Addr) (o:HO) (vs:List V),ρ n=some a∧H a=some o ∧
   LkIs K G a o (kvs.map (·.1)) vs∧DvL K ρ G vs (kvs.map (·.2))
 | .lkl xs=>(∀ x∈xs,x.below n)∧∃ a od vs,ρ n=some a∧H a=some (.frz od (.lst vs))∧DvL K ρ G vs xs
 | .tp xs=>(∀ x∈xs,x.below n)∧∃ (a:Addr) (_:Unit) (vs:List V),ρ n=some a∧H a=some (.tup vs)∧DvL K ρ G vs xs
 | .own=>∃ a b,ρ n=some a∧H a=some (.own b)
 | .ins nm fs=>(∀ p∈fs,p.2.below n)∧∃ (a dx C:Addr) (vs:List (Str×V)) (m:Nat),(n=m+1∧ρ m=some dx)∧ρ n=some a∧H a=some (.ins C dx vs)∧ClsAt K nm C∧H dx=some (.own a) ∧
   vs.map (·.1)=fs.map (·.1)∧DvL K ρ G (vs.map (·.2)) (fs.map (·.2))
 | .gone=>ρ n=none
structure Rel (K:PySem.W.Frag)(ρ:Pm)(G H:Hp)(μ:Mem):Prop where
 ex:Ex G H
 inj:∀ m n a,ρ m=some a→ρ n=some a→m=n
 nG:∀ n a,ρ n=some a→G a=none
 lt:∀ n a,ρ n=some a→n<μ.length
 hs:∀ n a,ρ n=some a→H a≠none
 pl:∀ n p,μ[n]?=some p→PlOk K ρ G H n p
structure Tr (ρ:Pm)(G H G' H':Hp):Prop where
 exG:Ex G G'
 keep:∀ a o,(∀ n,ρ n≠some a)→H a=some o→H' a=some o
 th:∀ a,H' a=none→H a=none
 nG:∀ a,G' a≠none→G a≠none∨H a=none
 fz:∀ a od u,H a=some (.frz od u)→H' a=some (.frz od u)
theorem Tr.refl (ρ:Pm)(G H:Hp):Tr ρ G H G H:=⟨Ex.refl _,fun _ _ _ h=>h,fun _ h=>h,fun _ h=>.inl h,fun _ _ _ h=>h⟩
theorem Tr.trans {G1 H1 G2 H2:Hp}(a:Tr ρ G H G1 H1)(b:Tr ρ G1 H1 G2 H2):Tr ρ G H G2 H2 where
 exG:=a.exG.trans b.exG
 keep:=fun c o hc h=>b.keep c o hc (a.keep c o hc h)
 th:=fun c h=>a.th c (b.th c h)
 nG:=fun c h=>(b.nG c h).elim (a.nG c) fun q=>.inr (a.th c q)
 fz:=fun c od u h=>b.fz c od u (a.fz c od u h)
theorem Rel.pmono {G1:Hp}{μ:Mem}(r:Rel K ρ G H μ){n:Nat}{p:Pl}(h:PlOk K ρ G H n p)(e:Ex G G1):PlOk K ρ G1 H n p:=by
 cases p with
 | lst xs=>obtain⟨b,a,vs,h1,h2,h3⟩:=h;exact⟨b,a,vs,h1,h2,DvL.mono e (fun _ _ q=>q) h3⟩
 | dct kvs=>obtain⟨b,a,o,vs,h1,h2,h4,h3⟩:=h;exact⟨b,a,o,vs,h1,h2,h4.mono e,DvL.mono e (fun _ _ q=>q) h3⟩
 | lkd kvs=>obtain⟨b,a,o,vs,h1,h2,h4,h3⟩:=h;exact⟨b,a,o,vs,h1,h2,h4.mono e,DvL.mono e (fun _ _ q=>q) h3⟩
 | lkl xs=>obtain⟨b,a,o,vs,h1,h2,h3⟩:=h;exact⟨b,a,o,vs,h1,h2,DvL.mono e (fun _ _ q=>q) h3⟩
 | tp xs=>obtain⟨b,a,o,vs,h1,h2,h3⟩:=h;exact⟨b,a,o,vs,h1,h2,DvL.mono e (fun _ _ q=>q) h3⟩
 | own=>exact h
 | ins nm fs=>obtain⟨b,a,dx,C,vs,m,hm,h1,h2,c,h4,h5,h3⟩:=h;exact⟨b,a,dx,C,vs,m,hm,h1,h2,c,h4,h5,DvL.mono e (fun _ _ q=>q) h3⟩
 | gone=>exact h
theorem Rel.lay {μ:Mem}{p:Addr}{o:HO}(r:Rel K ρ G H μ)(hp:H p=none):Rel K ρ G (upd H p o) μ∧Tr ρ G H G (upd H p o):=by
 have nG:G p=none:=by
  cases q:G p with
  | none=>rfl
  | some u=>rw[r.ex _ _ q] at hp;cases hp
 have ne:∀ a u,H a=some u→a≠p:=fun a u h e=>by rw[e,hp] at h;cases h
 refine⟨⟨fun a u h=>?_,r.inj,r.nG,r.lt,fun n a h q=>?_,fun n q h=>?_⟩,⟨Ex.refl _,fun a u _ h=>?_,fun a h=>?_,fun a h=>.inl h,fun a od u h=>by rw[upd_ne (ne a _ h)];exact h⟩⟩
 ·rw[upd_ne (ne a u (r.ex a u h))];exact r.ex a u h
 ·have z:=r.hs n a h
  by_cases e:a=p
  ·rw[e] at z;exact z hp
  ·rw[upd_ne e] at q;exact z q
 ·have z:=r.pl n q h
  cases q with
  | lst xs=>obtain⟨b,a,vs,h1,h2,h3⟩:=z;exact⟨b,a,vs,h1,by rw[upd_ne (ne _ _ h2)];exact h2,h3⟩
  | dct kvs=>obtain⟨b,a,o,vs,h1,h2,h3⟩:=z;exact⟨b,a,o,vs,h1,by rw[upd_ne (ne _ _ h2)];exact h2,h3⟩
  | lkd kvs=>obtain⟨b,a,o,vs,h1,h2,h3⟩:=z;exact⟨b,a,o,vs,h1,by rw[upd_ne (ne _ _ h2)];exact h2,h3⟩
  | lkl xs=>obtain⟨b,a,o,vs,h1,h2,h3⟩:=z;exact⟨b,a,o,vs,h1,by rw[upd_ne (ne _ _ h2)];exact h2,h3⟩
  | tp xs=>obtain⟨b,a,o,vs,h1,h2,h3⟩:=z;exact⟨b,a,o,vs,h1,by rw[upd_ne (ne _ _ h2)];exact h2,h3⟩
  | own=>obtain⟨a,b,h1,h2⟩:=z;exact⟨a,b,h1,by rw[upd_ne (ne _ _ h2)];exact h2⟩
  | ins nm fs=>obtain⟨b,a,dx,C,vs,m,hm,h1,h2,c,h4,h3⟩:=z;exact⟨b,a,dx,C,vs,m,hm,h1,by rw[upd_ne (ne _ _ h2)];exact h2,c,by rw[upd_ne (ne _ _ h4)];exact h4,h3⟩
  | gone=>exact z
 ·rw[upd_ne (ne a u h)];exact h
 ·by_cases e:a=p
  ·rw[e];exact hp
  ·rw[upd_ne e] at h;exact h
theorem Rel.freeze {H0 G0:Hp}{μ:Mem}{p:Addr}{o:HO}(r:Rel K ρ G H μ)(t:Tr ρ G0 H0 G H)(h:H p=some o)(h0:H0 p=none)(hg:G p=none)(hn:∀ n,ρ n≠some p) :
  Rel K ρ (upd G p o) H μ∧Tr ρ G0 H0 (upd G p o) H∧Ex G (upd G p o):=by
 have ex:Ex G (upd G p o):=Ex.new hg
 refine⟨⟨fun a u q=>?_,r.inj,fun n a q=>?_,r.lt,r.hs,fun n q z=>r.pmono (r.pl n q z) ex⟩,⟨t.exG.trans ex,t.keep,t.th,fun a q=>?_,t.fz⟩,ex⟩
 ·by_cases e:a=p
  ·subst e;rw[upd_same] at q;cases q;exact h
  ·rw[upd_ne e] at q;exact r.ex a u q
 ·have e:a≠p:=fun e=>hn n (e▸q)
  rw[upd_ne e];exact r.nG n a q
 ·by_cases e:a=p
  ·subst e;exact .inr h0
  ·rw[upd_ne e] at q;exact t.nG a q
theorem Rel.layD {μ:Mem}{p:Addr}{o:HO}(r:Rel K ρ G H μ)(hp:H p=none):Rel K ρ (upd G p o) (upd H p o) μ∧Tr ρ G H (upd G p o) (upd H p o)∧Ex G (upd G p o):=by
 have nG:G p=none:=by
  cases q:G p with
  | none=>rfl
  | some u=>rw[r.ex _ _ q] at hp;cases hp
 obtain⟨r1,t1⟩:=r.lay (o:=o) hp
 exact r1.freeze t1 upd_same hp nG fun n q=>r.hs n p q hp
end
structure EnvOk (K:PySem.W.Frag)(ρ:Pm)(G:Hp)(σ:Slots)(δ:Env):Prop where
 len:σ.length=δ.length
 at_:∀ (i:Nat) (x:DV),δ[i]?=some (some x)→∃ v,σ[i]?=some (some v)∧DvOk K ρ G v x
def RpR (K:PySem.W.Frag)(ρ:Pm)(G H0 H:Hp)(v:V):R→Prop
 | .dat d=>Rp K G v d
 | .loc n=>∃ a,v=.ref a∧ρ n=some a
 | .nl xs=>∃ a vs,v=.ref a∧H a=some (.lst vs)∧DvL K ρ G vs xs∧G a=none∧(∀ n,ρ n≠some a)∧H0 a=none
 | .nk kvs=>∃ (a:Addr) (o:HO) (vs:List V),v=.ref a∧H a=some o∧DctIs K G a o (kvs.map (·.1)) vs ∧
   DvL K ρ G vs (kvs.map (·.2))∧G a=none∧(∀ n,ρ n≠some a)∧H0 a=none
def XcOk (K:PySem.W.Frag)(G H:Hp)(x:Xc)(cls:Value)(d:Option Addr):Prop :=
 (∃ C,ClsAt K x.nm C∧cls=.ref C)∧((x.fs=[]∧d=none)∨x.fs≠[]∧∃ (a:Addr) (vs:List (Str×V)),d=some a∧G a=some (.xd vs) ∧
  vs.map (·.1)=x.fs.map (·.1)∧RpL K G (vs.map (·.2)) (x.fs.map (·.2)))
def PostG {α β:Type}(K:PySem.W.Frag)(W:WX)(ρ:Pm)(G H:Hp)(σ:Slots)(rp:Hp→Hp→β→α→Prop)(Q:β→Hp→Prop):Res α→Prop
 | .ok r μ'=>∀ G' H' v,Tr ρ G H G' H'→Rel K ρ G' H' μ'→rp G' H' v r→Q v H'
 | .exc x μ'=>∀ G' H' cls d,Tr ρ G H G' H'→Rel K ρ G' H' μ'→XcOk K G' H' x cls d→W cls d σ H'
 | .bad=>False
def SndG {α β:Type}(K:PySem.W.Frag)(W:WX)(t:Slots→Hp→(β→Hp→Prop)→Prop)(f:Env→Mem→Res α)
  (rp:Pm→Hp→Hp→Hp→β→α→Prop):Prop :=
 ∀ (ρ:Pm) (G H:Hp) (σ:Slots) (δ:Env) (μ:Mem) (Q:β→Hp→Prop),Rel K ρ G H μ→EnvOk K ρ G σ δ →
  PostG K W ρ G H σ (fun G' H'=>rp ρ G' H H') Q (f δ μ)→t σ H Q
abbrev rpE (K:PySem.W.Frag):Pm→Hp→Hp→Hp→V→R→Prop:=fun ρ G' H H' v r=>RpR K ρ G' H H' v r
abbrev rpV (K:PySem.W.Frag):Pm→Hp→Hp→Hp→V→DV→Prop:=fun ρ G' _ _ v x=>DvOk K ρ G' v x
abbrev rpA (K:PySem.W.Frag):Pm→Hp→Hp→Hp→List V→List DV→Prop:=fun ρ G' _ _ v x=>DvL K ρ G' v x
abbrev rpT {α:Type}:Pm→Hp→Hp→Hp→α→α→Prop:=fun _ _ _ _ v x=>v=x
abbrev EM:=Env→Mem→Res R
abbrev VM:=Env→Mem→Res DV
abbrev AM:=Env→Mem→Res (List DV)
abbrev TM:=Env→Mem→Res Bool
abbrev SndE (K:PySem.W.Frag)(W:WX)(t:TE)(f:EM):Prop:=SndG K W t f (rpE K)
abbrev SndV (K:PySem.W.Frag)(W:WX)(t:TE)(f:VM):Prop:=SndG K W t f (rpV K)
abbrev SndA (K:PySem.W.Frag)(W:WX)(t:TA)(f:AM):Prop:=SndG K W t f (rpA K)
abbrev SndT (K:PySem.W.Frag)(W:WX)(t:TT)(f:TM):Prop:=SndG K W t f rpT
section
variable {K:PySem.W.Frag}{W:WX}{ρ:Pm}{G H G1 H1:Hp}{σ:Slots}{δ:Env}{μ:Mem}
theorem EnvOk.mono (e:EnvOk K ρ G σ δ)(x:Ex G G1):EnvOk K ρ G1 σ δ :=
 ⟨e.len,fun i d h=>let ⟨v,a,b⟩:=e.at_ i d h;⟨v,a,b.mono x fun _ _ q=>q⟩⟩
theorem RpR.back {G' H':Hp}{v:V}(h:∀ a,H1 a=none→H a=none):∀ {r:R},RpR K ρ G' H1 H' v r→RpR K ρ G' H H' v r
 | .dat _,q=>q
 | .loc _,q=>q
 | .nl _,⟨a,vs,h1,h2,h3,h4,h5,h6⟩=>⟨a,vs,h1,h2,h3,h4,h5,h a h6⟩
 | .nk _,⟨a,o,vs,h1,h2,h2',h3,h4,h5,h6⟩=>⟨a,o,vs,h1,h2,h2',h3,h4,h5,h a h6⟩
theorem PostG.shift {α β:Type}{rp rp1:Hp→Hp→β→α→Prop}{Q:β→Hp→Prop}{out:Res α}(t:Tr ρ G H G1 H1)
  (hr:∀ G' H' v r,rp1 G' H' v r→rp G' H' v r) (h:PostG K W ρ G H σ rp Q out):PostG K W ρ G1 H1 σ rp1 Q out:=by
 cases out with
 | ok r μ'=>exact fun G' H' v t' R' q=>h G' H' v (t.trans t') R' (hr _ _ _ _ q)
 | exc x μ'=>exact fun G' H' cls d t' R' q=>h G' H' cls d (t.trans t') R' q
 | bad=>exact h
theorem PostG.shiftE {Q:VK}{out:Res R}(t:Tr ρ G H G1 H1)(h:PostG K W ρ G H σ (fun G' H'=>rpE K ρ G' H H') Q out) :
  PostG K W ρ G1 H1 σ (fun G' H'=>rpE K ρ G' H1 H') Q out:=h.shift t fun _ _ _ _ q=>q.back t.th
theorem SndG.seq {α α' β β':Type}{t:Slots→Hp→(β→Hp→Prop)→Prop}{f:Env→Mem→Res α}{rp:Pm→Hp→Hp→Hp→β→α→Prop}
  (h:SndG K W t f rp) (R:Rel K ρ G H μ) (E:EnvOk K ρ G σ δ) {rp':Hp→Hp→β'→α'→Prop} {Q':β'→Hp→Prop} {k:α→Mem→Res α'}
  (hp:PostG K W ρ G H σ rp' Q' ((f δ μ).bind k)) {Q:β→Hp→Prop}
  (go:∀ r μ' G' H' v,Tr ρ G H G' H'→Rel K ρ G' H' μ'→EnvOk K ρ G' σ δ→rp ρ G' H H' v r→PostG K W ρ G H σ rp' Q' (k r μ')→Q v H'):t σ H Q:=by
 refine h ρ G H σ δ μ Q R E ?_
 cases e:f δ μ with
 | ok r μ'=>rw[e] at hp;exact fun G' H' v t' R' q=>go r μ' G' H' v t' R' (E.mono t'.exG) q hp
 | exc x μ'=>rw[e] at hp;exact hp
 | bad=>rw[e] at hp;exact hp
def allDat:List DV→Option (List D)
 | []=>some []
 | .dat d::xs=>(allDat xs).map (d::·)
 | .loc _::_=>none
def frz:R→Option DV
 | .dat d=>some (.dat d)
 | .loc n=>some (.loc n)
 | .nl xs=>(allDat xs).map fun ds=>.dat (.lst ds)
 | .nk _=>none
theorem allDat_map (ds:List D):allDat (ds.map DV.dat)=some ds:=by
 induction ds with
 | nil=>rfl
 | cons d r ih=>simp[allDat,ih]
theorem allDat_ok:∀ {xs:List DV} {ds:List D} {vs:List V},allDat xs=some ds→DvL K ρ G vs xs→RpL K G vs ds
 | [],_,_,h,r=>by cases h;cases r;exact .nil
 | .dat d::xs,ds,vs,h,r=>by
  cases r with
  | cons r1 r2 =>
   simp only[allDat] at h
   cases e:allDat xs with
   | none=>rw[e] at h;cases h
   | some es=>rw[e] at h;cases h;exact .cons r1 (allDat_ok e r2)
 | .loc _::_,_,_,h,_=>by cases h
def frzV (f:EM):VM:=fun δ μ=>(f δ μ).bind fun r μ'=>match frz r with
 | some x=>.ok x μ'
 | none=>.bad
theorem RpR.frz {G0 H0:Hp}{v:V}{r:R}{x:DV}(h:RpR K ρ G H0 H v r)(R:Rel K ρ G H μ)(t:Tr ρ G0 H0 G H)(e:frz r=some x) :
  ∃ G',Tr ρ G0 H0 G' H∧Rel K ρ G' H μ∧DvOk K ρ G' v x∧Ex G G':=by
 cases r with
 | dat d=>cases e;exact⟨G,t,R,h,Ex.refl _⟩
 | loc n=>cases e;exact⟨G,t,R,h,Ex.refl _⟩
 | nl xs =>
  obtain⟨a,vs,rfl,h2,h3,h4,h5,h6⟩:=h
  simp only[DL.frz] at e
  cases q:allDat xs with
  | none=>rw[q] at e;cases e
  | some ds =>
   rw[q] at e;cases e
   obtain⟨R',t',ex⟩:=R.freeze t h2 h6 h4 h5
   exact⟨_,t',R',Rp.lst upd_same (RpL.mono ex (allDat_ok q h3)),ex⟩
 | nk kvs=>cases e
theorem SndE.toV {t:TE}{f:EM}(h:SndE K W t f):SndV K W t (frzV f):=fun ρ G H σ δ μ Q R E hp=>by
 refine SndG.seq (t:=t) h R E hp fun r μ' G' H' v t' R' E' q hp'=>?_
 cases e:frz r with
 | none=>rw[e] at hp';exact hp'.elim
 | some x =>
  rw[e] at hp'
  obtain⟨G2,t2,R2,d2,_⟩:=RpR.frz q R' t' e
  exact hp' G2 H' v t2 R2 d2
def ofV (x:DV):R:=match x with
 | .dat d=>.dat d
 | .loc n=>.loc n
theorem RpR.ofV {H0:Hp}{v:V}{x:DV}(h:DvOk K ρ G v x):RpR K ρ G H0 H v (ofV x):=by
 cases x <;> exact h
end
structure PM (X:Cx)(W:WX)(e:Expr)(te:TE)(f:EM):Prop where
 pe:PE X e te
 sd:SndE X.K W te f
structure PMA (X:Cx)(W:WX)(es:List Expr)(ta:TA)(f:AM):Prop where
 pe:PA X es ta
 sd:SndA X.K W ta f
structure PMT (X:Cx)(W:WX)(e:Expr)(tt:TT)(f:TM):Prop where
 pe:PT X e tt
 sd:SndT X.K W tt f
section
variable {X:Cx}{W:WX}
def eVar (i:Nat):EM:=fun δ μ=>match δ[i]? with
 | some (some x)=>.ok (ofV x) μ
 | _=>.bad
def eD (d:D):EM:=fun _ μ=>.ok (.dat d) μ
theorem snd_var {K:PySem.W.Frag}(i:Nat):SndE K W (tVar i) (eVar i):=fun ρ G H σ δ μ Q R E hp=>by
 unfold eVar at hp
 match e:δ[i]? with
 | none=>rw[e] at hp;exact hp.elim
 | some none=>rw[e] at hp;exact hp.elim
 | some (some x) =>
  rw[e] at hp
  obtain⟨v,hv,d⟩:=E.at_ i x e
  exact⟨v,hv,hp G H v (Tr.refl _ _ _) R (RpR.ofV d)⟩
theorem snd_c {K:PySem.W.Frag}{v:V}{d:D}(h:∀ G,Rp K G v d):SndE K W (tC v) (eD d):=fun ρ G H σ δ μ Q R E hp =>
 hp G H v (Tr.refl _ _ _) R (h G)
theorem pm_var (i:Nat){x:Str}{pos:Pos}(hN:X.N[i]?=some x:=by rfl)(hv:Vis X.env.scope x:=by first|exact Or.inl rfl|exact Or.inr (Or.inl rfl)|exact Or.inr (Or.inr rfl))
  (hd:(x==("__debug__":Str))=false:=by decide) (hcd:(x==("__classdict__":Str))=false:=by decide):PM X W (.Name x pos) (tVar i) (eVar i):=⟨pe_var hN hv hd hcd,snd_var i⟩
theorem pm_int {i j pos}:PM X W (.Constant (.int i) j pos) (tC (.int i)) (eD (.int i)):=⟨pe_int,snd_c fun _=>.int i⟩
theorem pm_str {s j pos}:PM X W (.Constant (.str s) j pos) (tC (.str s)) (eD (.str s)):=⟨pe_str,snd_c fun _=>.str s⟩
theorem pm_bl {b j pos}:PM X W (.Constant (.bool b) j pos) (tC (.bl b)) (eD (.bl b)):=⟨pe_bl,snd_c fun _=>.bl b⟩
theorem pm_non {j pos}:PM X W (.Constant .none j pos) (tC .non) (eD .non):=⟨pe_non,snd_c fun _=>.non⟩
theorem pm_glob {x:Str} {v:V} {u:Value} {pos:Pos} {d:D} (hg:Gl X x) (hm:X.mg x=some u) (r:RelV v u) (h:∀ G,Rp X.K G v d) (hd:(x==("__debug__":Str))=false:=by decide):PM X W (.Name x pos) (tC v) (eD d):=⟨pe_glob hg hm r hd,snd_c h⟩
def aNil:AM:=fun _ μ=>.ok [] μ
def aCons (f:EM)(g:AM):AM:=fun δ μ=>(frzV f δ μ).bind fun x μ1=>(g δ μ1).bind fun xs μ2=>.ok (x::xs) μ2
theorem snd_nil {K:PySem.W.Frag}:SndA K W tNil aNil:=fun ρ G H σ δ μ Q R E hp=>hp G H [] (Tr.refl _ _ _) R .nil
theorem snd_cons {K:PySem.W.Frag}{t:TE}{ts:TA}{f:EM}{g:AM}(h:SndE K W t f)(hs:SndA K W ts g):SndA K W (tCons t ts) (aCons f g):=fun ρ G H σ δ μ Q R E hp=>by
 refine SndG.seq (t:=t) h.toV R E hp fun x μ1 G1 H1 v t1 R1 E1 d1 hp1=>?_
 refine SndG.seq (t:=ts) hs R1 E1 (hp1.shift t1 fun _ _ _ _ q=>q) fun xs μ2 G2 H2 vs t2 R2 E2 d2 hp2=>?_
 exact hp2 G2 H2 (v::vs) t2 R2 (.cons (d1.mono t2.exG fun _ _ q=>q) d2)
theorem pma_nil:PMA X W [] tNil aNil:=⟨pa_nil,snd_nil⟩
theorem pma_cons {e:Expr}{es:List Expr}{t:TE}{ts:TA}{f:EM}{g:AM}(h:PM X W e t f)(hs:PMA X W es ts g)(hst:starEach (e::es) X.env=(false,eval e X.env)::starEach es X.env:=by rfl):PMA X W (e::es) (tCons t ts) (aCons f g) :=
 ⟨pa_cons h.pe hs.pe hst,snd_cons h.sd hs.sd⟩
def eTup (g:AM):EM:=fun δ μ=>(g δ μ).bind fun xs μ1=>match allDat xs with
 | some ds=>if ds.length≤sizeLine then .ok (.dat (.tup ds)) μ1 else .bad
 | none=>.bad
def eLst (g:AM):EM:=fun δ μ=>(g δ μ).bind fun xs μ1=>if xs.length≤sizeLine then .ok (.nl xs) μ1 else .bad
theorem pm_tup {es:List Expr}{x1}{pos:Pos}{ts:TA}{g:AM}(h:PMA X W es ts g):PM X W (.Tuple es x1 pos) (tTup ts) (eTup g):=⟨pe_tup h.pe,fun ρ G H σ δ μ Q R E hp=>by
 refine SndG.seq (t:=ts) h.sd R E hp fun xs μ1 G1 H1 vs t1 R1 E1 d1 hp1=>?_
 match e:allDat xs with
 | none=>simp only[e] at hp1;exact hp1.elim
 | some ds =>
  simp only[e] at hp1
  have rl:=allDat_ok e d1
  by_cases hz:ds.length≤sizeLine
  ·rw[if_pos hz] at hp1
   refine⟨by rw[rl.length];exact hz,fun p hn=>?_⟩
   obtain⟨R2,t2,ex⟩:=R1.layD (o:=.tup vs) hn
   exact hp1 _ _ _ (t1.trans t2) R2 (Rp.tup (.inl (.inl upd_same)) (rl.mono ex))
  ·rw[if_neg hz] at hp1;exact hp1.elim⟩
theorem fresh_ne {K:PySem.W.Frag}{ρ:Pm}{G H:Hp}{μ:Mem}{p:Addr}(R:Rel K ρ G H μ)(hp:H p=none):G p=none∧∀ n,ρ n≠some p:=by
 refine⟨?_,fun n q=>R.hs n p q hp⟩
 cases q:G p with
 | none=>rfl
 | some u=>rw[R.ex _ _ q] at hp;cases hp
theorem paired_len {α β:Type}{P:α→β→Prop}:∀ {l:List α} {m:List β},Paired P l m→l.length=m.length
 | _,_,.nil=>rfl
 | _,_,.cons _ t=>congrArg (·+1) (paired_len t)
theorem new_list {K:PySem.W.Frag}{ρ:Pm}{G H G0 H0:Hp}{μ:Mem}{p:Addr}{vs:List V}{xs:List DV}{σ:Slots}{Q:VK}(R:Rel K ρ G H μ)(t:Tr ρ G0 H0 G H)(hn:H p=none)(d:DvL K ρ G vs xs)
  (hp:PostG K W ρ G0 H0 σ (fun G' H'=>rpE K ρ G' H0 H') Q (.ok (.nl xs) μ)):Q (.ref p) (upd H p (.lst vs)):=by
 obtain⟨R2,t2⟩:=R.lay (o:=.lst vs) hn
 obtain⟨n1,n2⟩:=fresh_ne R hn
 exact hp _ _ _ (t.trans t2) R2 ⟨p,vs,rfl,upd_same,d,n1,n2,t.th p hn⟩
theorem pm_lst {es:List Expr}{pos:Pos}{ts:TA}{g:AM}(h:PMA X W es ts g):PM X W (.List es pos) (tLst ts) (eLst g):=⟨pe_lst h.pe,fun ρ G H σ δ μ Q R E hp=>by
 refine SndG.seq (t:=ts) h.sd R E hp fun xs μ1 G1 H1 vs t1 R1 E1 d1 hp1=>?_
 by_cases hz:xs.length≤sizeLine
 ·rw[if_pos hz] at hp1
  exact⟨by rw[paired_len d1];exact hz,fun p hn=>new_list R1 t1 hn d1 hp1⟩
 ·rw[if_neg hz] at hp1;exact hp1.elim⟩
def OpD (K:PySem.W.Frag)(r:R2)(g:DV→DV→Mem→Res R):Prop:=∀ (W:WX) (ρ:Pm) (G H:Hp) (σ:Slots) (μ:Mem) (v w:V) (x y:DV) (Q:VK),Rel K ρ G H μ→DvOk K ρ G v x→DvOk K ρ G w y →
 PostG K W ρ G H σ (fun G' H'=>rpE K ρ G' H H') Q (g x y μ)→r v w H Q
def eOp (g:DV→DV→Mem→Res R)(fa fb:EM):EM:=fun δ μ=>(frzV fa δ μ).bind fun x μ1=>(frzV fb δ μ1).bind fun y μ2=>g x y μ2
theorem snd_op {K:PySem.W.Frag}{r:R2}{g:DV→DV→Mem→Res R}{ta tb:TE}{fa fb:EM}(ho:OpD K r g)(ha:SndE K W ta fa)(hb:SndE K W tb fb):SndE K W (tOp r ta tb) (eOp g fa fb):=fun ρ G H σ δ μ Q R E hp=>by
 refine SndG.seq (t:=ta) ha.toV R E hp fun x μ1 G1 H1 v t1 R1 E1 d1 hp1=>?_
 refine SndG.seq (t:=tb) hb.toV R1 E1 (hp1.shiftE t1) fun y μ2 G2 H2 w t2 R2 E2 d2 hp2=>?_
 exact ho W ρ G2 H2 σ μ2 v w x y Q R2 (d1.mono t2.exG fun _ _ q=>q) d2 (hp2.shiftE t2)
def CallD (K:PySem.W.Frag)(r:List V→Hp→VK→Prop)(g:List DV→Mem→Res R):Prop:=∀ (W:WX) (ρ:Pm) (G H:Hp) (σ:Slots) (μ:Mem) (vs:List V) (xs:List DV) (Q:VK),Rel K ρ G H μ→DvL K ρ G vs xs →
 PostG K W ρ G H σ (fun G' H'=>rpE K ρ G' H H') Q (g xs μ)→r vs H Q
def eCB (g:List DV→Mem→Res R)(fa:AM):EM:=fun δ μ=>(fa δ μ).bind fun xs μ1=>g xs μ1
theorem snd_cb {K:PySem.W.Frag}{r:List V→Hp→VK→Prop}{g:List DV→Mem→Res R}{ta:TA}{fa:AM}(ho:CallD K r g)(ha:SndA K W ta fa):SndE K W (tCB r ta) (eCB g fa):=fun ρ G H σ δ μ Q R E hp=>by
 refine SndG.seq (t:=ta) ha R E hp fun xs μ1 G1 H1 vs t1 R1 E1 d1 hp1=>?_
 exact ho W ρ G1 H1 σ μ1 vs xs Q R1 d1 (hp1.shiftE t1)
theorem pm_op {a b:Expr}{op:Operator}{r:R2}{g:DV→DV→Mem→Res R}{ta tb:TE}{fa fb:EM}{pos:Pos}(ho:OpR X (binaryOp op) r)(hd:OpD X.K r g)(ha:PM X W a ta fa)(hb:PM X W b tb fb):PM X W (.BinOp a op b pos) (tOp r ta tb) (eOp g fa fb) :=
 ⟨pe_op ho ha.pe hb.pe,snd_op hd ha.sd hb.sd⟩
theorem pm_cmp {a b:Expr}{op:CmpOp}{r:R2}{g:DV→DV→Mem→Res R}{ta tb:TE}{fa fb:EM}{pos:Pos}(ho:OpR X (compareOp op) r)(hd:OpD X.K r g)(ha:PM X W a ta fa)(hb:PM X W b tb fb)(hm:behindInMarks op b=false):PM X W (.Compare a [op] [b] pos) (tOp r ta tb) (eOp g fa fb) :=
 ⟨pe_cmpR ho ha.pe hb.pe hm,snd_op hd ha.sd hb.sd⟩
theorem pm_ix {a b:Expr}{r:R2}{g:DV→DV→Mem→Res R}{ta tb:TE}{fa fb:EM}{pos:Pos}(ho:IxR X r)(hd:OpD X.K r g)(ha:PM X W a ta fa)(hb:PM X W b tb fb)(hs:PlainIx b):PM X W (.Subscript a b pos) (tOp r ta tb) (eOp g fa fb) :=
 ⟨pe_ix ho ha.pe hb.pe hs,snd_op hd ha.sd hb.sd⟩
end
inductive Out where
 | next (δ:Env) (μ:Mem)|ret (r:R) (μ:Mem)|brk (δ:Env) (μ:Mem)|cnt (δ:Env) (μ:Mem)
 | exc (x:Xc) (δ:Env) (μ:Mem)|bad
abbrev SM:=Nat→Env→Mem→Out
structure TrS (N:Nat)(ρ:Pm)(G H:Hp)(ρ':Pm)(G' H':Hp):Prop where
 pre:∀ n,n<N→ρ' n=ρ n
 exG:Ex G G'
 keep:∀ a o,(∀ n,ρ n≠some a)→H a=some o→H' a=some o
 th:∀ a,H' a=none→H a=none
 nG:∀ a,G' a≠none→G a≠none∨H a=none∨∃ n,N≤n∧ρ n=some a
 nρ:∀ n a,ρ' n=some a→(ρ n=some a∨∃ m,N≤m∧ρ m=some a)∨H a=none
 fz:∀ a od u,H a=some (.frz od u)→H' a=some (.frz od u)
section
variable {K:PySem.W.Frag}{W:WX}{N:Nat}{ρ ρ1 ρ2:Pm}{G H G1 H1 G2 H2:Hp}{σ:Slots}{δ:Env}{μ:Mem}{D:Ends}
theorem TrS.refl (N:Nat)(ρ:Pm)(G H:Hp):TrS N ρ G H ρ G H:=⟨fun _ _=>rfl,Ex.refl _,fun _ _ _ h=>h,fun _ h=>h,fun _ h=>.inl h,fun _ _ h=>.inl (.inl h),fun _ _ _ h=>h⟩
theorem TrS.trans (a:TrS N ρ G H ρ1 G1 H1)(b:TrS N ρ1 G1 H1 ρ2 G2 H2):TrS N ρ G H ρ2 G2 H2 where
 pre:=fun n h=>(b.pre n h).trans (a.pre n h)
 exG:=a.exG.trans b.exG
 keep:=fun c o hc h=>b.keep c o (fun n q=>(a.nρ n c q).elim (fun z=>z.elim (hc n) fun⟨m,_,w⟩=>hc m w) fun z=>by rw[z] at h;cases h) (a.keep c o hc h)
 th:=fun c h=>a.th c (b.th c h)
 nG:=fun c h=>(b.nG c h).elim (a.nG c) fun q=>q.elim (fun q=>.inr (.inl (a.th c q))) fun⟨n,hn,q⟩=>(a.nρ n c q).elim (fun z=>.inr (.inr (z.elim (fun z=>⟨n,hn,z⟩) id))) fun z=>.inr (.inl z)
 nρ:=fun n c h=>(b.nρ n c h).elim (fun z=>z.elim (a.nρ n c) fun⟨m,hm,w⟩=>(a.nρ m c w).imp_left fun z=>.inr (z.elim (fun z=>⟨m,hm,z⟩) id)) fun q=>.inr (a.th c q)
 fz:=fun c od u h=>b.fz c od u (a.fz c od u h)
theorem Tr.toS (t:Tr ρ G H G1 H1):TrS N ρ G H ρ G1 H1 :=
 ⟨fun _ _=>rfl,t.exG,t.keep,t.th,fun a h=>(t.nG a h).elim .inl fun q=>.inr (.inl q),fun _ _ h=>.inl (.inl h),t.fz⟩
def PostS (K:PySem.W.Frag)(W:WX)(N:Nat)(ρ:Pm)(G H:Hp)(D:Ends):Out→Prop
 | .next δ' μ'=>∀ ρ' G' H' σ',TrS N ρ G H ρ' G' H'→Rel K ρ' G' H' μ'→EnvOk K ρ' G' σ' δ'→D.nx σ' H'
 | .ret r μ'=>∀ ρ' G' H' v,TrS N ρ G H ρ' G' H'→Rel K ρ' G' H' μ'→RpR K ρ' G' H H' v r→D.rt v H'
 | .brk δ' μ'=>∀ ρ' G' H' σ',TrS N ρ G H ρ' G' H'→Rel K ρ' G' H' μ'→EnvOk K ρ' G' σ' δ'→D.bk σ' H'
 | .cnt δ' μ'=>∀ ρ' G' H' σ',TrS N ρ G H ρ' G' H'→Rel K ρ' G' H' μ'→EnvOk K ρ' G' σ' δ'→D.ct σ' H'
 | .exc x δ' μ'=>∀ ρ' G' H' σ' cls d,TrS N ρ G H ρ' G' H'→Rel K ρ' G' H' μ'→EnvOk K ρ' G' σ' δ'→XcOk K G' H' x cls d→W cls d σ' H'
 | .bad=>False
def SndS (K:PySem.W.Frag)(W:WX)(t:TS)(g:SM):Prop :=
 ∀ (N:Nat) (ρ:Pm) (G H:Hp) (σ:Slots) (δ:Env) (μ:Mem) (D:Ends),Rel K ρ G H μ→EnvOk K ρ G σ δ →
  PostS K W N ρ G H D (g N δ μ)→t D σ H
theorem PostS.shift {out:Out}(t:TrS N ρ G H ρ1 G1 H1)(h:PostS K W N ρ G H D out):PostS K W N ρ1 G1 H1 D out:=by
 cases out with
 | next δ' μ'=>exact fun ρ' G' H' σ' t'=>h ρ' G' H' σ' (t.trans t')
 | ret r μ'=>exact fun ρ' G' H' v t' R' q=>h ρ' G' H' v (t.trans t') R' (q.back t.th)
 | brk δ' μ'=>exact fun ρ' G' H' σ' t'=>h ρ' G' H' σ' (t.trans t')
 | cnt δ' μ'=>exact fun ρ' G' H' σ' t'=>h ρ' G' H' σ' (t.trans t')
 | exc x δ' μ'=>exact fun ρ' G' H' σ' cls d t'=>h ρ' G' H' σ' cls d (t.trans t')
 | bad=>exact h
theorem SndG.stm {α β:Type}{t:Slots→Hp→(β→Hp→Prop)→Prop}{f:Env→Mem→Res α}{rp:Pm→Hp→Hp→Hp→β→α→Prop}
  (h:SndG K W t f rp) (R:Rel K ρ G H μ) (E:EnvOk K ρ G σ δ) {k:α→Mem→Out}
  (hp:PostS K W N ρ G H D (match f δ μ with | .ok r μ'=>k r μ' | .exc x μ'=>.exc x δ μ' | .bad=>.bad)) {Q:β→Hp→Prop}
  (go:∀ r μ' G' H' v,Tr ρ G H G' H'→Rel K ρ G' H' μ'→EnvOk K ρ G' σ δ→rp ρ G' H H' v r→PostS K W N ρ G H D (k r μ')→Q v H'):t σ H Q:=by
 refine h ρ G H σ δ μ Q R E ?_
 cases e:f δ μ with
 | ok r μ'=>rw[e] at hp;exact fun G' H' v t' R' q=>go r μ' G' H' v t' R' (E.mono t'.exG) q hp
 | exc x μ'=>rw[e] at hp;exact fun G' H' cls d t' R' q=>hp ρ G' H' σ cls d t'.toS R' (E.mono t'.exG) q
 | bad=>rw[e] at hp;exact hp
def lift {α:Type}(r:Res α)(δ:Env)(k:α→Mem→Out):Out:=match r with
 | .ok a μ=>k a μ
 | .exc x μ=>.exc x δ μ
 | .bad=>.bad
def gNext:SM:=fun _ δ μ=>.next δ μ
def gSeq (g h:SM):SM:=fun N δ μ=>match g N δ μ with
 | .next δ' μ'=>h N δ' μ'
 | .ret r μ'=>.ret r μ'
 | .brk δ' μ'=>.brk δ' μ'
 | .cnt δ' μ'=>.cnt δ' μ'
 | .exc x δ' μ'=>.exc x δ' μ'
 | .bad=>.bad
theorem snd_next:SndS K W tNext gNext:=fun N ρ G H σ δ μ D R E hp=>hp ρ G H σ (TrS.refl _ _ _ _) R E
theorem snd_seq {t u:TS}{g h:SM}(h1:SndS K W t g)(h2:SndS K W u h):SndS K W (tSeq t u) (gSeq g h):=fun N ρ G H σ δ μ D R E hp=>by
 refine h1 N ρ G H σ δ μ { D with nx:=u D } R E ?_
 unfold gSeq at hp
 cases e:g N δ μ with
 | next δ' μ'=>rw[e] at hp;exact fun ρ' G' H' σ' t' R' E'=>h2 N ρ' G' H' σ' δ' μ' D R' E' (hp.shift t')
 | ret r μ'=>rw[e] at hp;exact hp
 | brk δ' μ'=>rw[e] at hp;exact hp
 | cnt δ' μ'=>rw[e] at hp;exact hp
 | exc x δ' μ'=>rw[e] at hp;exact hp
 | bad=>rw[e] at hp;exact hp
theorem EnvOk.set {v:V}{x:DV}(i:Nat)(E:EnvOk K ρ G σ δ)(h:DvOk K ρ G v x):EnvOk K ρ G (σ.set i (some v)) (δ.set i (some x)):=by
 refine⟨by simp[E.len],fun j y hj=>?_⟩
 by_cases e:i=j
 ·subst e
  have hl:i<δ.length:=by
   by_cases hl:i<δ.length
   ·exact hl
   ·rw[List.getElem?_eq_none (by simp;omega)] at hj;cases hj
  rw[List.getElem?_set_self hl] at hj
  cases hj
  exact⟨v,List.getElem?_set_self (by rw[E.len];exact hl),h⟩
 ·rw[List.getElem?_set_ne e] at hj
  obtain⟨w,h1,h2⟩:=E.at_ j y hj
  exact⟨w,by rw[List.getElem?_set_ne e];exact h1,h2⟩
def gAsg (i:Nat)(f:EM):SM:=fun _ δ μ=>lift (frzV f δ μ) δ fun x μ'=>.next (δ.set i (some x)) μ'
theorem snd_asg {te:TE}{f:EM}(i:Nat)(h:SndE K W te f):SndS K W (tAsg te (gName i)) (gAsg i f):=fun N ρ G H σ δ μ D R E hp =>
 SndG.stm (t:=te) h.toV R E hp fun x μ' G' H' v t' R' E' d hp'=>hp' ρ G' H' _ t'.toS R' (E'.set i d)
def gDrop (f:EM):SM:=fun _ δ μ=>lift (f δ μ) δ fun _ μ'=>.next δ μ'
theorem snd_drop {te:TE}{f:EM}(h:SndE K W te f):SndS K W (tDrop te) (gDrop f):=fun N ρ G H σ δ μ D R E hp =>
 SndG.stm (t:=te) h R E hp fun x μ' G' H' v t' R' E' d hp'=>hp' ρ G' H' _ t'.toS R' E'
def gRet (f:EM):SM:=fun _ δ μ=>lift (f δ μ) δ fun r μ'=>.ret r μ'
theorem snd_ret {te:TE}{f:EM}(h:SndE K W te f):SndS K W (tRet te) (gRet f):=fun N ρ G H σ δ μ D R E hp =>
 SndG.stm (t:=te) h R E hp fun x μ' G' H' v t' R' E' d hp'=>hp' ρ G' H' _ t'.toS R' d
def gIf (f:TM)(g h:SM):SM:=fun N δ μ=>lift (f δ μ) δ fun b μ'=>if b=true then g N δ μ' else h N δ μ'
theorem snd_if {tc:TT}{t u:TS}{f:TM}{g h:SM}(hc:SndT K W tc f)(h1:SndS K W t g)(h2:SndS K W u h):SndS K W (tIfS tc t u) (gIf f g h):=fun N ρ G H σ δ μ D R E hp=>by
 refine SndG.stm (t:=tc) hc R E hp fun b μ' G' H' v t' R' E' d hp'=>?_
 subst d
 cases v with
 | true=>exact h1 N ρ G' H' σ δ μ' D R' E' (PostS.shift t'.toS hp')
 | false=>exact h2 N ρ G' H' σ δ μ' D R' E' (PostS.shift t'.toS hp')
theorem DvOk.below {v:V}{x:DV}(R:Rel K ρ G H μ)(h:DvOk K ρ G v x):x.below μ.length:=by
 cases x with
 | dat d=>trivial
 | loc n=>obtain⟨a,_,q⟩:=h;exact R.lt n a q
theorem DvL.below {vs:List V}{xs:List DV}(R:Rel K ρ G H μ)(h:DvL K ρ G vs xs):∀ x∈xs,x.below μ.length:=by
 intro x hx
 induction h with
 | nil=>cases hx
 | cons r _ ih =>
  rcases List.mem_cons.mp hx with e|e
  ·rw[e];exact DvOk.below R r
  ·exact ih e
def addP (ρ:Pm)(n:Nat)(a:Addr):Pm:=fun m=>if m=n then some a else ρ m
theorem Rel.alloc {ρ0:Pm}{G0 H0:Hp}{a:Addr}{p:Pl}(R:Rel K ρ G H μ)(hN:N≤μ.length)(t:TrS N ρ0 G0 H0 ρ G H)(hs:H a≠none)(hg:G a=none)(hn:∀ n,ρ n≠some a)(h0:H0 a=none)
  (hp:PlOk K (addP ρ μ.length a) G H μ.length p):Rel K (addP ρ μ.length a) G H (μ++[p])∧TrS N ρ0 G0 H0 (addP ρ μ.length a) G H∧(∀ n b,ρ n=some b→addP ρ μ.length a n=some b)∧addP ρ μ.length a μ.length=some a:=by
 have up:∀ n b,ρ n=some b→addP ρ μ.length a n=some b:=fun n b q=>by
  unfold addP;rw[if_neg (Nat.ne_of_lt (R.lt n b q))];exact q
 have dn:∀ n b,addP ρ μ.length a n=some b→(n=μ.length∧b=a)∨ρ n=some b:=fun n b q=>by
  unfold addP at q
  by_cases e:n=μ.length
  ·rw[if_pos e] at q;exact .inl ⟨e,(Option.some.inj q).symm⟩
  ·rw[if_neg e] at q;exact .inr q
 refine⟨⟨R.ex,fun m n b h1 h2=>?_,fun n b h=>?_,fun n b h=>?_,fun n b h=>?_,fun n q h=>?_⟩,⟨fun n h=>?_,t.exG,t.keep,t.th,t.nG,fun n b q=>?_,t.fz⟩,up,by unfold addP;rw[if_pos rfl]⟩
 ·rcases dn m b h1 with⟨e1,e2⟩|q1
  ·rcases dn n b h2 with⟨e3,_⟩|q2
   ·rw[e1,e3]
   ·exact absurd (e2▸q2) (hn n)
  ·rcases dn n b h2 with⟨_,e4⟩|q2
   ·exact absurd (e4▸q1) (hn m)
   ·exact R.inj m n b q1 q2
 ·rcases dn n b h with⟨_,e⟩|q
  ·rw[e];exact hg
  ·exact R.nG n b q
 ·rw[List.length_append,List.length_singleton]
  rcases dn n b h with⟨e,_⟩|q
  ·omega
  ·have:=R.lt n b q;omega
 ·rcases dn n b h with⟨_,e⟩|q
  ·rw[e];exact hs
  ·exact R.hs n b q
 ·by_cases e:n<μ.length
  ·rw[List.getElem?_append_left e] at h
   have z:=R.pl n q h
   cases q with
   | lst xs=>obtain⟨b,c,vs,h1,h2,h3⟩:=z;exact⟨b,c,vs,up _ _ h1,h2,DvL.mono (Ex.refl _) up h3⟩
   | dct xs=>obtain⟨b,c,o,vs,h1,h2,h4,h3⟩:=z;exact⟨b,c,o,vs,up _ _ h1,h2,h4,DvL.mono (Ex.refl _) up h3⟩
   | lkd xs=>obtain⟨b,c,o,vs,h1,h2,h4,h3⟩:=z;exact⟨b,c,o,vs,up _ _ h1,h2,h4,DvL.mono (Ex.refl _) up h3⟩
   | lkl xs=>obtain⟨b,c,o,vs,h1,h2,h3⟩:=z;exact⟨b,c,o,vs,up _ _ h1,h2,DvL.mono (Ex.refl _) up h3⟩
   | tp xs=>obtain⟨b,c,o,vs,h1,h2,h3⟩:=z;exact⟨b,c,o,vs,up _ _ h1,h2,DvL.mono (Ex.refl _) up h3⟩
   | own=>obtain⟨a,b,h1,h2⟩:=z;exact⟨a,b,up _ _ h1,h2⟩
   | ins nm fs=>obtain⟨b,c,dx,C,vs,m,hm,h1,h2,cl,h4,h5,h3⟩:=z;exact⟨b,c,dx,C,vs,m,⟨hm.1,up _ _ hm.2⟩,up _ _ h1,h2,cl,h4,h5,DvL.mono (Ex.refl _) up h3⟩
   | gone=>show addP ρ μ.length a n=none;unfold addP;rw[if_neg (by omega)];exact z
  ·rw[List.getElem?_append_right (by omega)] at h
   have e2:n=μ.length:=by
    cases k:n - μ.length with
    | zero=>omega
    | succ j=>rw[k] at h;simp at h
   subst e2
   rw[Nat.sub_self] at h
   cases h
   exact hp
 ·unfold addP;rw[if_neg (by omega)];exact t.pre n h
 ·rcases dn n b q with⟨_,e⟩|q
  ·rw[e];exact .inr h0
  ·exact t.nρ n b q
def bindR (N i:Nat)(r:R)(δ:Env)(μ:Mem):Out:=match r with
 | .dat d=>.next (δ.set i (some (.dat d))) μ
 | .loc n=>.next (δ.set i (some (.loc n))) μ
 | .nl xs=>if N≤μ.length then .next (δ.set i (some (.loc μ.length))) (μ++[.lst xs]) else .bad
 | .nk kvs=>if N≤μ.length then .next (δ.set i (some (.loc μ.length))) (μ++[.dct kvs]) else .bad
theorem EnvOk.up (E:EnvOk K ρ G σ δ)(x:Ex G G1)(up:∀ n b,ρ n=some b→ρ1 n=some b):EnvOk K ρ1 G1 σ δ :=
 ⟨E.len,fun i y h=>let ⟨v,a,b⟩:=E.at_ i y h;⟨v,a,b.mono x up⟩⟩
theorem snd_bindR {r:R}{v:V}{G0 H0:Hp}(i:Nat)(R':Rel K ρ G H μ)(E':EnvOk K ρ G σ δ)(t':TrS N ρ G0 H0 ρ G H)(d:RpR K ρ G H0 H v r)
  (hp:PostS K W N ρ G0 H0 D (bindR N i r δ μ)):D.nx (σ.set i (some v)) H:=by
 cases r with
 | dat d'=>exact hp ρ G H _ t' R' (E'.set i (x:=.dat d') d)
 | loc n=>exact hp ρ G H _ t' R' (E'.set i (x:=.loc n) d)
 | nl xs =>
  obtain⟨a,vs,rfl,h2,h3,h4,h5,h6⟩:=d
  have up:∀ n b,ρ n=some b→addP ρ μ.length a n=some b:=fun n b q=>by
   unfold addP;rw[if_neg (Nat.ne_of_lt (R'.lt n b q))];exact q
  unfold bindR at hp
  by_cases hN:N≤μ.length
  case neg=>simp only[if_neg hN] at hp;exact hp.elim
  simp only[if_pos hN] at hp
  obtain⟨R2,t2,up,at_⟩:=R'.alloc (p:=.lst xs) hN t' (by rw[h2];simp) h4 h5 h6 ⟨DvL.below R' h3,a,vs,by unfold addP;rw[if_pos rfl],h2,DvL.mono (Ex.refl _) up h3⟩
  exact hp _ G H _ t2 R2 ((E'.up (Ex.refl _) up).set i (x:=.loc μ.length) ⟨a,rfl,at_⟩)
 | nk kvs =>
  obtain⟨a,o,vs,rfl,h2,hk,h3,h4,h5,h6⟩:=d
  have up:∀ n b,ρ n=some b→addP ρ μ.length a n=some b:=fun n b q=>by
   unfold addP;rw[if_neg (Nat.ne_of_lt (R'.lt n b q))];exact q
  have bl:∀ p∈kvs,p.2.below μ.length:=fun p hp=>DvL.below R' h3 p.2 (List.mem_map.mpr ⟨p,hp,rfl⟩)
  unfold bindR at hp
  by_cases hN:N≤μ.length
  case neg=>simp only[if_neg hN] at hp;exact hp.elim
  simp only[if_pos hN] at hp
  obtain⟨R2,t2,up,at_⟩:=R'.alloc (p:=.dct kvs) hN t' (by rw[h2];simp) h4 h5 h6 ⟨bl,a,o,vs,by unfold addP;rw[if_pos rfl],h2,hk,DvL.mono (Ex.refl _) up h3⟩
  exact hp _ G H _ t2 R2 ((E'.up (Ex.refl _) up).set i (x:=.loc μ.length) ⟨a,rfl,at_⟩)
def gNew (i:Nat)(f:EM):SM:=fun N δ μ=>lift (f δ μ) δ fun r μ'=>bindR N i r δ μ'
theorem snd_new {te:TE}{f:EM}(i:Nat)(h:SndE K W te f):SndS K W (tAsg te (gName i)) (gNew i f):=fun N ρ G H σ δ μ D R E hp =>
 SndG.stm (t:=te) h R E hp fun x μ' G' H' v t' R' E' d hp'=>snd_bindR i R' E' t'.toS d hp'
end
def cutV (M:Nat):Option DV→Option DV
 | some (.loc n)=>if n<M then some (.loc n) else none
 | some (.dat d)=>some (.dat d)
 | none=>none
def cut (M:Nat):List Bool→Env→Env
 | _,[]=>[]
 | [],_::δ=>none::cut M [] δ
 | b::bs,x::δ=>(if b=true then cutV M x else none)::cut M bs δ
def resP (M:Nat)(ρ:Pm):Pm:=fun n=>if n<M then ρ n else none
theorem cut_len (M:Nat):∀ (bs:List Bool) (δ:Env),(cut M bs δ).length=δ.length
 | [],[]=>rfl
 | _::_,[]=>rfl
 | [],_::δ=>congrArg (·+1) (cut_len M [] δ)
 | _::bs,_::δ=>congrArg (·+1) (cut_len M bs δ)
theorem cutV_some {M:Nat}{o:Option DV}{x:DV}(h:cutV M o=some x):o=some x∧x.below M:=by
 match o,h with
 | some (.dat d),h=>cases h;exact⟨rfl,trivial⟩
 | some (.loc n),h =>
  simp only[cutV] at h
  by_cases e:n<M
  ·rw[if_pos e] at h;cases h;exact⟨rfl,e⟩
  ·rw[if_neg e] at h;cases h
theorem cut_at (M:Nat):∀ (bs:List Bool) (δ:Env) (i:Nat) (x:DV),(cut M bs δ)[i]?=some (some x)→δ[i]?=some (some x)∧x.below M
 | [],[],i,x,h=>by simp[cut] at h
 | _::_,[],i,x,h=>by simp[cut] at h
 | [],_::δ,0,x,h=>by simp[cut] at h
 | [],_::δ,i+1,x,h=>cut_at M [] δ i x (by simpa [cut] using h)
 | b::bs,y::δ,0,x,h=>by
  simp only[cut,List.getElem?_cons_zero,Option.some.injEq] at h
  by_cases hb:b=true
  ·rw[if_pos hb] at h
   obtain⟨e,q⟩:=cutV_some h
   exact⟨by rw[e];rfl,q⟩
  ·rw[if_neg hb] at h;cases h
 | b::bs,y::δ,i+1,x,h=>cut_at M bs δ i x (by simpa [cut] using h)
section
variable {K:PySem.W.Frag}{W:WX}{N M:Nat}{ρ ρ0 ρ1 ρ2:Pm}{G H G0 H0 G1 H1 G2 H2:Hp}{σ:Slots}{δ:Env}{μ:Mem}{Dn:Ends}
theorem resP_some {n:Nat}{a:Addr}(h:resP M ρ n=some a):n<M∧ρ n=some a:=by
 unfold resP at h
 by_cases e:n<M
 ·rw[if_pos e] at h;exact⟨e,h⟩
 ·rw[if_neg e] at h;cases h
theorem resP_of {n:Nat}{a:Addr}(e:n<M)(h:ρ n=some a):resP M ρ n=some a:=by unfold resP;rw[if_pos e];exact h
theorem DvOk.res {v:V}{x:DV}(h:DvOk K ρ G v x)(b:x.below M):DvOk K (resP M ρ) G v x:=by
 cases x with
 | dat d=>exact h
 | loc n=>obtain⟨a,e,q⟩:=h;exact⟨a,e,resP_of b q⟩
theorem DvL.res {vs:List V}{xs:List DV}(h:DvL K ρ G vs xs)(b:∀ x∈xs,x.below M):DvL K (resP M ρ) G vs xs:=by
 induction h with
 | nil=>exact .nil
 | cons r _ ih=>exact .cons (r.res (b _ List.mem_cons_self)) (ih fun x hx=>b x (List.mem_cons_of_mem _ hx))
theorem DV.below.mono {m n:Nat}{x:DV}(h:x.below m)(e:m≤n):x.below n:=by
 cases x with
 | dat d=>trivial
 | loc k=>exact Nat.lt_of_lt_of_le h e
theorem Rel.cut (R:Rel K ρ G H μ)(M:Nat):Rel K (resP M ρ) G H (μ.take M):=by
 refine⟨R.ex,fun m n a h1 h2=>R.inj m n a (resP_some h1).2 (resP_some h2).2,fun n a h=>R.nG n a (resP_some h).2,fun n a h=>?_,fun n a h=>R.hs n a (resP_some h).2,fun n p h=>?_⟩
 ·obtain⟨e,q⟩:=resP_some h
  have:=R.lt n a q
  rw[List.length_take];omega
 ·have hn:n<M:=by
   by_cases e:n<M
   ·exact e
   ·rw[List.getElem?_eq_none (by rw[List.length_take];omega)] at h;cases h
  rw[List.getElem?_take_of_lt hn] at h
  have z:=R.pl n p h
  cases p with
  | lst xs=>obtain⟨b,a,vs,h1,h2,h3⟩:=z;exact⟨b,a,vs,resP_of hn h1,h2,h3.res fun x hx=>(b x hx).mono (Nat.le_of_lt hn)⟩
  | dct kvs =>
   obtain⟨b,a,o,vs,h1,h2,h4,h3⟩:=z
   refine⟨b,a,o,vs,resP_of hn h1,h2,h4,h3.res fun x hx=>?_⟩
   obtain⟨p,hp,rfl⟩:=List.mem_map.mp hx
   exact(b p hp).mono (Nat.le_of_lt hn)
  | lkd kvs =>
   obtain⟨b,a,o,vs,h1,h2,h4,h3⟩:=z
   refine⟨b,a,o,vs,resP_of hn h1,h2,h4,h3.res fun x hx=>?_⟩
   obtain⟨p,hp,rfl⟩:=List.mem_map.mp hx
   exact(b p hp).mono (Nat.le_of_lt hn)
  | lkl xs =>
   obtain⟨b,a,o,vs,h1,h2,h3⟩:=z
   refine⟨b,a,o,vs,resP_of hn h1,h2,h3.res fun x hx=>?_⟩
   exact(b x hx).mono (Nat.le_of_lt hn)
  | tp xs =>
   obtain⟨b,a,o,vs,h1,h2,h3⟩:=z
   refine⟨b,a,o,vs,resP_of hn h1,h2,h3.res fun x hx=>?_⟩
   exact(b x hx).mono (Nat.le_of_lt hn)
  | ins nm fs =>
   obtain⟨b,a,dx,C,vs,m,hm,h1,h2,cl,h4,h5,h3⟩:=z
   refine⟨b,a,dx,C,vs,m,⟨hm.1,resP_of (by omega) hm.2⟩,resP_of hn h1,h2,cl,h4,h5,h3.res fun x hx=>?_⟩
   obtain⟨p,hp,rfl⟩:=List.mem_map.mp hx
   exact(b p hp).mono (Nat.le_of_lt hn)
  | own=>obtain⟨a,b,h1,h2⟩:=z;exact⟨a,b,resP_of hn h1,h2⟩
  | gone=>show resP M ρ n=none;unfold resP;rw[if_pos hn];exact z
theorem EnvOk.cut (E:EnvOk K ρ G σ δ)(M:Nat)(bs:List Bool):EnvOk K (resP M ρ) G σ (cut M bs δ) :=
 ⟨by rw[cut_len];exact E.len,fun i x h=>let ⟨h1,h2⟩:=cut_at M bs δ i x h;let ⟨v,a,b⟩:=E.at_ i x h1;⟨v,a,b.res h2⟩⟩
theorem TrS.cut (t:TrS N ρ0 G0 H0 ρ G H)(h:∀ n a,ρ0 n=some a→n<M):TrS N ρ0 G0 H0 (resP M ρ) G H where
 pre:=fun n hn=>by
  unfold resP
  by_cases e:n<M
  ·rw[if_pos e];exact t.pre n hn
  ·rw[if_neg e]
   cases q:ρ0 n with
   | none=>rfl
   | some a=>exact absurd (h n a q) e
 exG:=t.exG
 keep:=t.keep
 th:=t.th
 nG:=t.nG
 nρ:=fun n a q=>t.nρ n a (resP_some q).2
 fz:=t.fz
abbrev Fz (H H':Hp):Prop:=∀ a od u,H a=some (.frz od u)→H' a=some (.frz od u)
def ItOk (K:PySem.W.Frag)(G0 H0:Hp)(J:It)(xs:List D):Prop:=∀ (ρ:Pm) (G H:Hp) (μ:Mem),Rel K ρ G H μ→Ex G0 G→Fz H0 H →
 (∀ (i:Nat) (d:D),xs[i]?=some d→J.go i H∧∀ v H',J.yld i H v H'→∃ G',Tr ρ G H G' H'∧Rel K ρ G' H' μ∧Rp K G' v d)∧∀ i,xs.length≤i→J.stop i H
abbrev rpI (K:PySem.W.Frag):Pm→Hp→Hp→Hp→It→List D→Prop:=fun _ G' _ H' J xs=>ItOk K G' H' J xs
abbrev IM:=Env→Mem→Res (List D)
abbrev SndI (K:PySem.W.Frag)(W:WX)(t:TI)(f:IM):Prop:=SndG K W t f (rpI K)
theorem wipe_in {σ:Slots}{i:Nat}:∀ {vs:List Nat},i∈vs→i<σ.length→(wipe σ vs)[i]?=some none
 | v::vs,h,hl=>by
  show((wipe σ vs).set v none)[i]?=some none
  by_cases e:v=i
  ·subst e;exact List.getElem?_set_self (by rw[wipe_length];exact hl)
  ·rw[List.getElem?_set_ne e]
   exact wipe_in ((List.mem_cons.mp h).elim (fun q=>absurd q.symm e) id) hl
theorem wipe_ext {σ τ:Slots}{vs:List Nat}(hl:σ.length=τ.length)(h:∀ i,i∉vs→σ[i]?=τ[i]?):wipe σ vs=wipe τ vs:=by
 refine List.ext_getElem? fun i=>?_
 by_cases hi:i∈vs
 ·by_cases e:i<σ.length
  ·rw[wipe_in hi e,wipe_in hi (hl▸e)]
  ·rw[List.getElem?_eq_none (by rw[wipe_length];omega),List.getElem?_eq_none (by rw[wipe_length];omega)]
 ·rw[wipe_out hi,wipe_out hi];exact h i hi
def TgOk (K:PySem.W.Frag)(g:TG)(h:D→Env→Option Env)(ts:List Nat):Prop:=∀ (ρ:Pm) (G H:Hp) (μ:Mem) (σ:Slots) (δ δ':Env) (v:V) (d:D) (Q:Slots→Hp→Prop),Rel K ρ G H μ→EnvOk K ρ G σ δ→Rp K G v d→h d δ=some δ' →
 (∀ σ',EnvOk K ρ G σ' δ'→σ'.length=σ.length→(∀ i,i∉ts→σ'[i]?=σ[i]?)→Q σ' H)→g v σ H Q
def tgName (i:Nat):D→Env→Option Env:=fun d δ=>some (δ.set i (some (.dat d)))
theorem tg_name (i:Nat):TgOk K (gName i) (tgName i) [i]:=fun ρ G H μ σ δ δ' v d Q R E h e q=>by
 cases e;exact q _ (E.set i (x:=.dat d) h) List.length_set fun j hj=>List.getElem?_set_ne fun z=>hj (by simp[z])
def turnL (M:Nat)(ks:List Bool)(out:Out)(k:Env→Mem→Out):Out:=match out with
 | .next δ' μ'=>k (cut M ks δ') (μ'.take M)
 | .cnt δ' μ'=>k (cut M ks δ') (μ'.take M)
 | .brk δ' μ'=>.next (cut M ks δ') (μ'.take M)
 | .ret r μ'=>.ret r μ'
 | .exc x δ' μ'=>.exc x δ' μ'
 | .bad=>.bad
def forL (M:Nat)(ks:List Bool)(h:D→Env→Option Env)(gb:SM)(N:Nat):List D→Env→Mem→Out
 | [],δ,μ=>.next δ μ
 | d::ds,δ,μ=>match h d δ with
  | none=>.bad
  | some δ1=>turnL M ks (gb N δ1 μ) (forL M ks h gb N ds)
def gFor (ks:List Bool)(fi:IM)(h:D→Env→Option Env)(gb:SM):SM:=fun N δ μ=>lift (fi δ μ) δ fun xs μ'=>forL μ'.length ks h gb N xs δ μ'
theorem turn_ok {tb:TS}{gb:SM}{ks:List Bool}{k:Env→Mem→Out}{Nn:Slots→Hp→Prop}(hb:SndS K W tb gb)(t:TrS N ρ0 G0 H0 ρ G H)(R:Rel K ρ G H μ)(E:EnvOk K ρ G σ δ)(hM:∀ n a,ρ0 n=some a→n<M)(hM1:∀ n a,ρ n=some a→n<M)
  (hp:PostS K W N ρ0 G0 H0 Dn (turnL M ks (gb N δ μ) k))
  (go:∀ ρ' G' H' σ' δ' μ',TrS N ρ0 G0 H0 ρ' G' H'→Ex G G'→Rel K ρ' G' H' μ'→EnvOk K ρ' G' σ' δ'→(∀ n a,ρ' n=some a→n<M)→PostS K W N ρ0 G0 H0 Dn (k δ' μ')→Nn σ' H') :
  tb { nx:=Nn,rt:=Dn.rt,bk:=Dn.nx,ct:=Nn } σ H:=by
 refine hb N ρ G H σ δ μ _ R E ?_
 cases e:gb N δ μ with
 | next δ' μ' =>
  rw[e] at hp
  exact fun ρ' G' H' σ' t' R' E'=>go _ G' H' σ' _ _ ((t.trans t').cut hM) t'.exG (R'.cut M) (E'.cut M ks) (fun n a q=>(resP_some q).1) hp
 | cnt δ' μ' =>
  rw[e] at hp
  exact fun ρ' G' H' σ' t' R' E'=>go _ G' H' σ' _ _ ((t.trans t').cut hM) t'.exG (R'.cut M) (E'.cut M ks) (fun n a q=>(resP_some q).1) hp
 | brk δ' μ' =>
  rw[e] at hp
  exact fun ρ' G' H' σ' t' R' E'=>hp _ G' H' σ' ((t.trans t').cut hM) (R'.cut M) (E'.cut M ks)
 | ret r μ' =>
  rw[e] at hp
  exact fun ρ' G' H' v t' R' q=>hp ρ' G' H' v (t.trans t') R' (q.back t.th)
 | exc x δ' μ' =>
  rw[e] at hp
  exact fun ρ' G' H' σ' cls d t'=>hp ρ' G' H' σ' cls d (t.trans t')
 | bad=>rw[e] at hp;exact hp
theorem drop_cons {α:Type}{xs ds:List α}{i:Nat}{d:α}(h:xs.drop i=d::ds):xs[i]?=some d∧xs.drop (i+1)=ds∧i<xs.length:=by
 have hl:i<xs.length:=by
  by_cases e:i<xs.length
  ·exact e
  ·rw[List.drop_eq_nil_of_le (by omega)] at h;cases h
 rw[List.drop_eq_getElem_cons hl] at h
 injection h with h1 h2
 exact⟨by rw[List.getElem?_eq_getElem hl,h1],h2,hl⟩
theorem snd_for {wi:TI}{fi:IM}{g:TG}{h:D→Env→Option Env}{tb:TS}{gb:SM}(ks:List Bool){tv:List Nat}(hi:SndI K W wi fi)(hg:TgOk K g h tv)(hb:SndS K W tb gb):SndS K W (tFor wi g tb) (gFor ks fi h gb):=fun N ρ G H σ δ μ Dn R E hp=>by
 refine SndG.stm (t:=wi) hi R E hp fun xs μ0 G0 H0 J t0 R0 E0 it hp0=>?_
 have hp0:=PostS.shift (t0.toS (N:=N)) hp0
 refine⟨fun i m σ H=>∃ ρ1 G1 δ1 μ1,Ex G0 G1∧Fz H0 H∧Rel K ρ1 G1 H μ1∧EnvOk K ρ1 G1 σ δ1∧(∀ n a,ρ1 n=some a→n<μ0.length)∧m=xs.length-i∧i≤xs.length ∧
  PostS K W N ρ1 G1 H Dn (forL μ0.length ks h gb N (xs.drop i) δ1 μ1),⟨xs.length,ρ,G0,δ,μ0,Ex.refl _,fun _ _ _ h=>h,R0,E0,R0.lt,by omega,by omega,hp0⟩,fun i m σ H hW=>?_⟩
 obtain⟨ρ1,G1,δ1,μ1,x1,f1,R1,E1,hM1,em,hi',hp1⟩:=hW
 obtain⟨go,stop⟩:=it ρ1 G1 H μ1 R1 x1 f1
 cases e:xs.drop i with
 | nil =>
  rw[e] at hp1
  have hl:xs.length≤i:=by
   have:=congrArg List.length e
   rw[List.length_drop] at this
   simp at this;omega
  exact .inl ⟨stop i hl,hp1 ρ1 G1 H σ (TrS.refl _ _ _ _) R1 E1⟩
 | cons d ds =>
  rw[e] at hp1
  obtain⟨hd,hds,hlt⟩:=drop_cons e
  obtain⟨g1,g2⟩:=go i d hd
  refine .inr ⟨g1,fun σ' H'=>∃ m',m'<m∧_,fun σ' H' q=>q,fun v H' hy=>?_⟩
  obtain⟨G2,t2,R2,rp⟩:=g2 v H' hy
  unfold forL at hp1
  cases eh:h d δ1 with
  | none=>rw[eh] at hp1;exact hp1.elim
  | some δ2 =>
   rw[eh] at hp1
   refine hg ρ1 G2 H' μ1 σ δ1 δ2 v d _ R2 (E1.mono t2.exG) rp eh fun σ2 E2 _ _=>?_
   refine turn_ok hb t2.toS R2 E2 hM1 hM1 hp1 fun ρ3 G3 H3 σ3 δ3 μ3 t3 _ R3 E3 hM3 hp3=>?_
   refine⟨xs.length-(i+1),by omega,ρ3,G3,δ3,μ3,x1.trans t3.exG,fun a od u h=>t3.fz a od u (f1 a od u h),R3,E3,hM3,rfl,hlt,?_⟩
   rw[hds];exact PostS.shift t3 hp3
def whL (M:Nat)(ks:List Bool)(ft:TM)(gb:SM)(N:Nat):Nat→Env→Mem→Out
 | 0,_,_=>.bad
 | k+1,δ,μ=>lift (ft δ μ) δ fun b μ1=>if b=true then turnL M ks (gb N δ μ1) (whL M ks ft gb N k) else .next δ μ1
def gWh (fuel:Nat)(ks:List Bool)(ft:TM)(gb:SM):SM:=fun N δ μ=>whL μ.length ks ft gb N fuel δ μ
theorem snd_while {tc:TT}{ft:TM}{tb:TS}{gb:SM}(fuel:Nat)(ks:List Bool)(hc:SndT K W tc ft)(hb:SndS K W tb gb):SndS K W (tWhile tc tb) (gWh fuel ks ft gb):=fun N ρ G H σ δ μ Dn R E hp=>by
 refine⟨fun m σ H'=>∃ ρ1 G1 δ1 μ1,Rel K ρ1 G1 H' μ1∧EnvOk K ρ1 G1 σ δ1∧(∀ n a,ρ1 n=some a→n<μ.length) ∧
  PostS K W N ρ1 G1 H' Dn (whL μ.length ks ft gb N m δ1 μ1),⟨fuel,ρ,G,δ,μ,R,E,R.lt,hp⟩,fun m σ H' hW=>?_⟩
 obtain⟨ρ1,G1,δ1,μ1,R1,E1,hM1,hp1⟩:=hW
 cases m with
 | zero=>exact hp1.elim
 | succ k =>
  refine SndG.stm (t:=tc) hc R1 E1 hp1 fun b μ2 G2 H2 v t2 R2 E2 d hp2=>?_
  subst d
  cases v with
  | false=>exact hp2 ρ1 G2 H2 σ t2.toS R2 E2
  | true =>
   refine⟨fun σ' H''=>∃ m',m'<k+1∧_,fun σ' H'' q=>q,?_⟩
   refine turn_ok hb t2.toS R2 E2 hM1 hM1 hp2 fun ρ3 G3 H3 σ3 δ3 μ3 t3 _ R3 E3 hM3 hp4=>⟨k,by omega,ρ3,G3,δ3,μ3,R3,E3,hM3,PostS.shift t3 hp4⟩
def belowA (N:Nat)(xs:List DV):Bool:=xs.all fun x=>match x with
 | .dat _=>true
 | .loc m=>decide (m<N)
theorem belowA_ok {xs:List DV}(h:belowA N xs=true):∀ x∈xs,x.below N:=fun x hx=>by
 have:=List.all_eq_true.mp h x hx
 cases x with
 | dat d=>trivial
 | loc m=>exact(of_decide_eq_true this:m<N)
def closeR (N:Nat)(r:R)(μ:Mem):Res R:=match r with
 | .dat d=>.ok (.dat d) (μ.take N)
 | .nl xs=>if belowA N xs=true then .ok (.nl xs) (μ.take N) else .bad
 | .nk kvs=>if belowA N (kvs.map (·.2))=true then .ok (.nk kvs) (μ.take N) else .bad
 | .loc n=>if n<N then .ok (.loc n) (μ.take N) else match μ[n]? with
  | some (.lst xs)=>if belowA N xs=true then .ok (.nl xs) (μ.take N) else .bad
  | some (.dct kvs)=>if belowA N (kvs.map (·.2))=true then .ok (.nk kvs) (μ.take N) else .bad
  | _=>.bad
def callF (g:SM)(m:Nat)(args:List DV)(μ:Mem):Res R:=match g μ.length (args.map some++List.replicate m none) μ with
 | .next _ μ'=>.ok (.dat .non) (μ'.take μ.length)
 | .ret r μ'=>closeR μ.length r μ'
 | .exc x _ μ'=>.exc x (μ'.take μ.length)
 | _=>.bad
def spF (K:PySem.W.Frag)(n:Nat)(F:List DV→Mem→Res R):Sp:=fun vs H Q E=>vs.length=n∧∃ ρ G μ xs,Rel K ρ G H μ∧DvL K ρ G vs xs ∧
 PostG K (fun cls d _ H=>E cls d H) ρ G H [] (fun G' H'=>rpE K ρ G' H H') Q (F xs μ)
theorem res_back (R:Rel K ρ G H μ)(t:TrS μ.length ρ G H ρ1 G1 H1):resP μ.length ρ1=ρ:=by
 funext n
 unfold resP
 by_cases e:n<μ.length
 ·rw[if_pos e];exact t.pre n e
 ·rw[if_neg e]
  cases q:ρ n with
  | none=>rfl
  | some a=>exact absurd (R.lt n a q) e
theorem tr_back (R:Rel K ρ G H μ)(t:TrS μ.length ρ G H ρ1 G1 H1):Tr ρ G H G1 H1 where
 exG:=t.exG
 keep:=t.keep
 th:=t.th
 nG:=fun a h=>(t.nG a h).elim .inl fun q=>q.elim .inr fun⟨n,hn,z⟩=>absurd (R.lt n a z) (by omega)
 fz:=t.fz
theorem RpR.close {μ1 μ2:Mem}{r r':R}{v:V}(R:Rel K ρ G H μ)(t:TrS μ.length ρ G H ρ1 G1 H1)(R1:Rel K ρ1 G1 H1 μ1)(h:RpR K ρ1 G1 H H1 v r)(e:closeR μ.length r μ1=.ok r' μ2) :
  RpR K ρ G1 H H1 v r'∧μ2=μ1.take μ.length:=by
 have eb:=res_back R t
 have lst:∀ {a:Addr} {vs:List V} {xs:List DV},H1 a=some (.lst vs)→DvL K ρ1 G1 vs xs→G1 a=none→(∀ n,ρ n≠some a)→H a=none→belowA μ.length xs=true→RpR K ρ G1 H H1 (.ref a) (.nl xs):=fun {a vs xs} h1 h2 h3 h4 h5 h6 =>
  ⟨a,vs,rfl,h1,by have z:=h2.res (belowA_ok h6);rw[eb] at z;exact z,h3,h4,h5⟩
 have dct:∀ {a:Addr} {o:HO} {vs:List V} {xs:List (Ky×DV)},H1 a=some o→DctIs K G1 a o (xs.map (·.1)) vs→DvL K ρ1 G1 vs (xs.map (·.2))→G1 a=none→(∀ n,ρ n≠some a)→H a=none→belowA μ.length (xs.map (·.2))=true→RpR K ρ G1 H H1 (.ref a) (.nk xs):=fun {a o vs xs} h1 hk h2 h3 h4 h5 h6 =>
  ⟨a,o,vs,rfl,h1,hk,by have z:=h2.res (belowA_ok h6);rw[eb] at z;exact z,h3,h4,h5⟩
 have noρ:∀ a,(∀ n,ρ1 n≠some a)→∀ n,ρ n≠some a:=fun a h n q=>h n ((t.pre n (R.lt n a q)).trans q)
 cases r with
 | dat d=>cases e;exact⟨h,rfl⟩
 | nl xs =>
  obtain⟨a,vs,rfl,h1,h2,h3,h4,h5⟩:=h
  simp only[closeR] at e
  by_cases hb:belowA μ.length xs=true
  ·rw[if_pos hb] at e;cases e
   exact⟨lst h1 h2 h3 (noρ a h4) h5 hb,rfl⟩
  ·rw[if_neg hb] at e;cases e
 | nk kvs =>
  obtain⟨a,o,vs,rfl,h1,hk,h2,h3,h4,h5⟩:=h
  simp only[closeR] at e
  by_cases hb:belowA μ.length (kvs.map (·.2))=true
  ·rw[if_pos hb] at e;cases e
   exact⟨dct h1 hk h2 h3 (noρ a h4) h5 hb,rfl⟩
  ·rw[if_neg hb] at e;cases e
 | loc n =>
  obtain⟨a,rfl,q⟩:=h
  simp only[closeR] at e
  by_cases hn:n<μ.length
  ·rw[if_pos hn] at e;cases e
   exact⟨⟨a,rfl,(t.pre n hn).symm.trans q⟩,rfl⟩
  ·rw[if_neg hn] at e
   have hne:∀ m,ρ m≠some a:=fun m z=>by
    have h1:=(t.pre m (R.lt m a z)).trans z
    have h2:=R1.inj m n a h1 q
    exact hn (h2▸R.lt m a z)
   have h0:H a=none:=(t.nρ n a q).elim (fun z=>z.elim (fun z=>absurd z (hne n)) fun⟨m,_,z⟩=>absurd z (hne m)) id
   have hg:G1 a=none:=R1.nG n a q
   match em:μ1[n]? with
   | none=>rw[em] at e;cases e
   | some .gone=>rw[em] at e;cases e
   | some (.lkd _)=>rw[em] at e;cases e
   | some (.lkl _)=>rw[em] at e;cases e
   | some (.tp _)=>rw[em] at e;cases e
   | some (.ins _ _)=>rw[em] at e;cases e
   | some .own=>rw[em] at e;cases e
   | some (.lst xs) =>
    rw[em] at e
    obtain⟨_,b,vs,k1,k2,k3⟩:=R1.pl n _ em
    rw[q] at k1;cases k1
    by_cases hb:belowA μ.length xs=true
    ·simp only[if_pos hb] at e;cases e
     exact⟨lst k2 k3 hg hne h0 hb,rfl⟩
    ·simp only[if_neg hb] at e;cases e
   | some (.dct kvs) =>
    rw[em] at e
    obtain⟨_,b,o,vs,k1,k2,kk,k3⟩:=R1.pl n _ em
    rw[q] at k1;cases k1
    by_cases hb:belowA μ.length (kvs.map (·.2))=true
    ·simp only[if_pos hb] at e;cases e
     exact⟨dct k2 kk k3 hg hne h0 hb,rfl⟩
    ·simp only[if_neg hb] at e;cases e
theorem body_ok {ts:TS}{g:SM}{Q:VK}{E:XK}{vs:List V}{Nm:List Str}{n:Nat}(hb:SndS K (fun cls d _ H=>E cls d H) ts g)(hn:n≤Nm.length)(h:spF K n (callF g (Nm.length-n)) vs H Q E) :
  ts { nx:=fun _ H'=>Q .non H',rt:=Q } (L2.start Nm vs) H:=by
 obtain⟨hl,ρ,G,μ,xs,R,d,hp⟩:=h
 have hx:xs.length=n:=by rw[←paired_len d];exact hl
 have env:EnvOk K ρ G (L2.start Nm vs) (xs.map some++List.replicate (Nm.length-n) none):=by
  refine⟨by simp[L2.start,hl,hx],fun i x hi=>?_⟩
  have hi1:i<xs.length:=by
   by_cases e:i<xs.length
   ·exact e
   ·rw[List.getElem?_append_right (by simpa using e),List.getElem?_replicate] at hi
    split at hi <;> cases hi
  rw[List.getElem?_append_left (by simpa using hi1),List.getElem?_map,List.getElem?_eq_getElem hi1] at hi
  simp only[Option.map_some,Option.some.injEq] at hi
  have key:∀ {vs:List V} {xs:List DV} {i:Nat} (d:DvL K ρ G vs xs) (hi:i<xs.length),∃ v,vs[i]?=some v∧DvOk K ρ G v xs[i]:=by
   intro vs xs i d
   induction d generalizing i with
   | nil=>intro hi;exact absurd hi (Nat.not_lt_zero _)
   | cons r _ ih =>
    intro hi
    cases i with
    | zero=>exact⟨_,rfl,r⟩
    | succ i=>exact ih (Nat.lt_of_succ_lt_succ hi)
  obtain⟨v,h1,h2⟩:=key d hi1
  refine⟨v,?_,hi▸h2⟩
  unfold L2.start
  have hv:i<vs.length:=by omega
  rw[List.getElem?_append_left (by simpa using hv),List.getElem?_map,h1]
  rfl
 refine hb μ.length ρ G H _ _ μ _ R env ?_
 unfold callF at hp
 cases e:g μ.length (xs.map some++List.replicate (Nm.length-n) none) μ with
 | next δ' μ' =>
  rw[e] at hp
  intro ρ' G' H' σ' t R' E'
  have z:=R'.cut μ.length
  rw[res_back R t] at z
  exact hp G' H' .non (tr_back R t) z Rp.non
 | ret r μ' =>
  rw[e] at hp
  intro ρ' G' H' v t R' q
  simp only at hp
  cases ec:closeR μ.length r μ' with
  | bad=>rw[ec] at hp;exact hp.elim
  | exc x μ2=>exact(by cases r <;> simp only[closeR] at ec <;> (repeat' split at ec) <;> cases ec)
  | ok r' μ2 =>
   rw[ec] at hp
   obtain⟨q',em⟩:=RpR.close R t R' q ec
   have z:=R'.cut μ.length
   rw[res_back R t,←em] at z
   exact hp G' H' v (tr_back R t) z q'
 | brk δ' μ'=>rw[e] at hp;exact hp.elim
 | cnt δ' μ'=>rw[e] at hp;exact hp.elim
 | exc x δ' μ' =>
  rw[e] at hp
  intro ρ' G' H' σ' cls d t R' E' q
  have z:=R'.cut μ.length
  rw[res_back R t] at z
  exact hp G' H' cls d (tr_back R t) z q
 | bad=>rw[e] at hp;exact hp.elim
end
structure PSM (X:Cx)(W:WX)(st:Stmt)(ts:TS)(g:SM):Prop where
 ps:PS X st ts
 sd:SndS X.K W ts g
structure PSMs (X:Cx)(W:WX)(st:List Stmt)(ts:TS)(g:SM):Prop where
 ps:PSs X st ts
 sd:SndS X.K W ts g
structure PMI (X:Cx)(W:WX)(tg e:Expr)(wi:TI)(f:IM):Prop where
 pi:PI X tg e wi
 sd:SndI X.K W wi f
structure PMG (X:Cx)(tg:Expr)(g:TG)(h:D→Env→Option Env)(ts:List Nat):Prop where
 pg:PG X tg g
 ok:TgOk X.K g h ts
section
variable {X:Cx}{W:WX}{pos:Pos}{te:TE}{f:EM}{tt:TT}{ft:TM}{t u:TS}{g h:SM}{st:Stmt}{rest body els:List Stmt}{e:Expr}
theorem ss_nil:PSMs X W [] tNext gNext:=⟨pss_nil,snd_next⟩
theorem ss_cons (h1:PSM X W st t g)(h2:PSMs X W rest u h):PSMs X W (st::rest) (tSeq t u) (gSeq g h):=⟨pss_cons h1.ps h2.ps,snd_seq h1.sd h2.sd⟩
theorem ss_one (h1:PSM X W st t g):PSMs X W [st] t g:=⟨pss_one h1.ps,h1.sd⟩
theorem sm_expr (h:PM X W e te f)(hs:swapsWith e none pos.line X.env=pure false:=by rfl):PSM X W (.Expr e pos) (tDrop te) (gDrop f):=⟨ps_expr h.pe hs,snd_drop h.sd⟩
theorem sm_ret (h:PM X W e te f):PSM X W (.Return (some e) pos) (tRet te) (gRet f):=⟨ps_ret h.pe,snd_ret h.sd⟩
theorem sm_if (hc:PMT X W e tt ft)(h1:PSMs X W body t g)(h2:PSMs X W els u h):PSM X W (.If e body els pos) (tIfS tt t u) (gIf ft g h):=⟨ps_if hc.pe h1.ps h2.ps,snd_if hc.sd h1.sd h2.sd⟩
theorem sm_asg {x:Str}{p:Pos}(i:Nat)(hN:X.N.Nodup)(h:PM X W e te f)(hi:X.N[i]?=some x:=by rfl)(hx:Loc X.env.scope x:=by first|exact Or.inl rfl|exact Or.inr rfl)
  (hf:X.fn x=true∨X.env.scope.names.lookup x=some .local:=by first|exact .inl rfl|exact .inr rfl)
  (a1:swapsWithSole [.Name x p] e pos.line X.env=pure false:=by rfl) (a2:swappedStores [.Name x p] e X.env=pure none:=by rfl) (a3:List.map (fun x=>x.snd) (assignEach [.Name x p] X.env)=[assign (.Name x p) X.env]:=by rfl) :
  PSM X W (.Assign [.Name x p] e pos) (tAsg te (gName i)) (gAsg i f):=⟨ps_asg h.pe (pg_name hN hi hx hf) a1 a2 a3,snd_asg i h.sd⟩
theorem sm_new {x:Str}{p:Pos}(i:Nat)(hN:X.N.Nodup)(h:PM X W e te f)(hi:X.N[i]?=some x:=by rfl)(hx:Loc X.env.scope x:=by first|exact Or.inl rfl|exact Or.inr rfl)
  (hf:X.fn x=true∨X.env.scope.names.lookup x=some .local:=by first|exact .inl rfl|exact .inr rfl)
  (a1:swapsWithSole [.Name x p] e pos.line X.env=pure false:=by rfl) (a2:swappedStores [.Name x p] e X.env=pure none:=by rfl) (a3:List.map (fun x=>x.snd) (assignEach [.Name x p] X.env)=[assign (.Name x p) X.env]:=by rfl) :
  PSM X W (.Assign [.Name x p] e pos) (tAsg te (gName i)) (gNew i f):=⟨ps_asg h.pe (pg_name hN hi hx hf) a1 a2 a3,snd_new i h.sd⟩
theorem pg_nm {x:Str}(i:Nat)(hN:X.N.Nodup)(hi:X.N[i]?=some x:=by rfl)(hx:Loc X.env.scope x:=by first|exact Or.inl rfl|exact Or.inr rfl)
  (hf:X.fn x=true∨X.env.scope.names.lookup x=some .local:=by first|exact .inl rfl|exact .inr rfl):PMG X (.Name x pos) (gName i) (tgName i) [i]:=⟨pg_name hN hi hx hf,tg_name i⟩
theorem sm_for {tg iter:Expr}{wi:TI}{fi:IM}{gt:TG}{ht:D→Env→Option Env}{tv:List Nat}(ks:List Bool)(hp:PassesOwn (model X.prog X.w) X.A X.env X.xe)(hc:X.calm=true)(hi:PMI X W tg iter wi fi)(hg:PMG X tg gt ht tv)(hb:PSMs X W body t g)
  (hs:∀ (x:Value),foldedSetIterable iter X.env x=pure x:=by intro _;rfl):PSM X W (.For tg iter body [] pos) (tFor wi gt t) (gFor ks fi ht g) :=
 ⟨ps_for hp hc hi.pi hg.pg hb.ps hs,snd_for ks hi.sd hg.ok hb.sd⟩
theorem sm_while (fuel:Nat)(ks:List Bool)(hp:PassesOwn (model X.prog X.w) X.A X.env X.xe)(hc:PMT X W e tt ft)(hb:PSMs X W body t g):PSM X W (.While e body [] pos) (tWhile tt t) (gWh fuel ks ft g) :=
 ⟨ps_while hp hc.pe hb.ps,snd_while fuel ks hc.sd hb.sd⟩
end
section
variable {X:Cx}{W:WX}{pos:Pos}{te ta tb:TE}{f fa fb:EM}{tt tu:TT}{ft fu:TM}{a b e:Expr}{rest:List Expr}
def tmB (f:EM):TM:=fun δ μ=>(f δ μ).bind fun r μ'=>match r with
 | .dat (.bl b)=>.ok b μ'
 | _=>.bad
theorem snd_tmB {K:PySem.W.Frag}{tt:TT}(h:SndE K W te f)(ht:∀ σ H Q,tB te σ H Q→tt σ H Q):SndT K W tt (tmB f):=fun ρ G H σ δ μ Q R E hp=>ht σ H Q (by
 refine SndG.seq (t:=te) h R E hp fun r μ' G' H' v t' R' E' q hp'=>?_
 match r,q,hp' with
 | .dat (.bl b),q,hp'=>cases q;exact⟨b,rfl,hp' G' H' b t' R' rfl⟩
 | .dat .non,_,hp'=>exact hp'.elim
 | .dat (.int _),_,hp'=>exact hp'.elim
 | .dat (.str _),_,hp'=>exact hp'.elim
 | .dat (.ty _),_,hp'=>exact hp'.elim
 | .dat (.ref _),_,hp'=>exact hp'.elim
 | .dat (.tup _),_,hp'=>exact hp'.elim
 | .dat (.lst _),_,hp'=>exact hp'.elim
 | .dat (.fro _),_,hp'=>exact hp'.elim
 | .dat (.dct _),_,hp'=>exact hp'.elim
 | .dat (.ins _ _),_,hp'=>exact hp'.elim
 | .dat (.err _ _ _ _ _),_,hp'=>exact hp'.elim
 | .loc _,_,hp'=>exact hp'.elim
 | .nl _,_,hp'=>exact hp'.elim
 | .nk _,_,hp'=>exact hp'.elim)
theorem pt_cmp {op:CmpOp}{r:R2}{g:DV→DV→Mem→Res R}(ho:OpR X (compareOp op) r)(hd:OpD X.K r g)(ha:PM X W a ta fa)(hb:PM X W b tb fb)(hm:behindInMarks op b=false):PMT X W (.Compare a [op] [b] pos) (tTest (tOp r ta tb)) (tmB (eOp g fa fb)) :=
 ⟨pt_cmpR ho ha.pe hb.pe hm,snd_tmB (snd_op hd ha.sd hb.sd) fun _ _ _ h=>h⟩
theorem pt_of (h:PM X W e te f)(he:∀ whole,isTrue e X.env whole=(do let v ←whole;standAt e.pos;holding [v] (truthy v)):=by intro _;rfl):PMT X W e (tB te) (tmB f) :=
 ⟨L2.pt_val h.pe he,snd_tmB h.sd fun _ _ _ h=>h⟩
def tmNot (f:TM):TM:=fun δ μ=>(f δ μ).bind fun b μ'=>.ok (!b) μ'
def tmAnd (f g:TM):TM:=fun δ μ=>(f δ μ).bind fun b μ'=>if b=true then g δ μ' else .ok false μ'
def tmOr (f g:TM):TM:=fun δ μ=>(f δ μ).bind fun b μ'=>if b=true then .ok true μ' else g δ μ'
theorem pt_no (h:PMT X W a tt ft):PMT X W (.UnaryOp .Not a pos) (tNot tt) (tmNot ft):=⟨L2.pt_not h.pe,fun ρ G H σ δ μ Q R E hp =>
 SndG.seq (t:=tt) h.sd R E hp fun b μ' G' H' v t' R' E' q hp'=>by subst q;exact hp' G' H' (!v) t' R' rfl⟩
structure PMW (X:Cx)(W:WX)(e:Expr)(tt:TT)(f:TM):Prop where
 pe:PW X e tt
 sd:SndT X.K W tt f
theorem PMW.t (h:PMW X W e tt ft):PMT X W e tt ft:=⟨h.pe.pt,h.sd⟩
theorem w_or1 (h:PMT X W a tt ft):PMW X W (.BoolOp .Or [a] pos) tt ft:=⟨pw_or1 h.pe,h.sd⟩
theorem w_or (h:PMT X W a tt ft)(hb:PMW X W (.BoolOp .Or (b::rest) pos) tu fu):PMW X W (.BoolOp .Or (a::b::rest) pos) (tOr tt tu) (tmOr ft fu):=⟨pw_or h.pe hb.pe,fun ρ G H σ δ μ Q R E hp=>by
 refine SndG.seq (t:=tt) h.sd R E hp fun b μ' G' H' v t' R' E' q hp'=>?_
 subst q
 cases v with
 | true=>exact hp' G' H' true t' R' rfl
 | false=>exact hb.sd ρ G' H' σ δ μ' Q R' E' (hp'.shift t' fun _ _ _ _ q=>q)⟩
def asB (r:R):Option Bool:=match r with
 | .dat (.bl b)=>some b
 | _=>none
theorem asB_ok {K:PySem.W.Frag}{ρ:Pm}{G H0 H:Hp}{v:V}{r:R}{b:Bool}(h:RpR K ρ G H0 H v r)(e:asB r=some b):v=.bl b:=by
 unfold asB at e
 split at e
 ·cases e;cases h;rfl
 ·cases e
def eAnd (f g:EM):EM:=fun δ μ=>(f δ μ).bind fun r μ'=>match asB r with
 | some true=>g δ μ'
 | some false=>.ok (.dat (.bl false)) μ'
 | none=>.bad
def eOr (f g:EM):EM:=fun δ μ=>(f δ μ).bind fun r μ'=>match asB r with
 | some true=>.ok (.dat (.bl true)) μ'
 | some false=>g δ μ'
 | none=>.bad
def eNot (f:EM):EM:=fun δ μ=>(f δ μ).bind fun r μ'=>match asB r with
 | some b=>.ok (.dat (.bl (!b))) μ'
 | none=>.bad
theorem pm_one {op}(h:PM X W a te f):PM X W (.BoolOp op [a] pos) te f:=⟨pe_one h.pe,h.sd⟩
theorem pm_and (ha:PM X W a ta fa)(hb:PM X W (.BoolOp .And (b::rest) pos) tb fb):PM X W (.BoolOp .And (a::b::rest) pos) (tAndV ta tb) (eAnd fa fb):=⟨pe_and ha.pe hb.pe,fun ρ G H σ δ μ Q R E hp=>by
 refine SndG.seq (t:=ta) ha.sd R E hp fun r μ' G' H' v t' R' E' q hp'=>?_
 match e:asB r with
 | none=>rw[e] at hp';exact hp'.elim
 | some c =>
  rw[e] at hp'
  refine⟨c,asB_ok q e,?_⟩
  cases c with
  | true=>exact hb.sd ρ G' H' σ δ μ' Q R' E' (hp'.shiftE t')
  | false=>exact hp' G' H' _ t' R' (Rp.bl false)⟩
theorem pm_not (ha:PM X W a ta fa):PM X W (.UnaryOp .Not a pos) (tNotV ta) (eNot fa):=⟨pe_not ha.pe,fun ρ G H σ δ μ Q R E hp=>by
 refine SndG.seq (t:=ta) ha.sd R E hp fun r μ' G' H' v t' R' E' q hp'=>?_
 match e:asB r with
 | none=>rw[e] at hp';exact hp'.elim
 | some c=>rw[e] at hp';exact⟨c,asB_ok q e,hp' G' H' _ t' R' (Rp.bl _)⟩⟩
def eIf (f:TM)(g h:EM):EM:=fun δ μ=>(f δ μ).bind fun b μ'=>if b=true then g δ μ' else h δ μ'
theorem pm_if {c:Expr}(hc:PMT X W c tt ft)(ha:PM X W a ta fa)(hb:PM X W b tb fb):PM X W (.IfExp c a b pos) (tIf tt ta tb) (eIf ft fa fb):=⟨pe_ifExp hc.pe ha.pe hb.pe,fun ρ G H σ δ μ Q R E hp=>by
 refine SndG.seq (t:=tt) hc.sd R E hp fun b μ' G' H' v t' R' E' q hp'=>?_
 subst q
 cases v with
 | true=>exact ha.sd ρ G' H' σ δ μ' Q R' E' (hp'.shiftE t')
 | false=>exact hb.sd ρ G' H' σ δ μ' Q R' E' (hp'.shiftE t')⟩
end
def wipeE (δ:Env):List Nat→Env
 | []=>δ
 | v::vs=>(wipeE δ vs).set v none
def WF:WX:=fun _ _ _ _=>False
def lcL (h:D→Env→Option Env)(ft:TM)(fe:EM)(δ:Env):List D→Mem→Res (List DV)
 | [],μ=>.ok [] μ
 | d::ds,μ=>match h d δ with
  | none=>.bad
  | some δ1=>match ft δ1 μ with
   | .ok true μ1=>match frzV fe δ1 μ1 with
    | .ok y μ2=>(lcL h ft fe δ ds μ2).bind fun ys μ3=>.ok (y::ys) μ3
    | _=>.bad
   | .ok false μ1=>lcL h ft fe δ ds μ1
   | _=>.bad
def eLc (fi:IM)(h:D→Env→Option Env)(ft:TM)(fe:EM)(vs:List Nat):EM:=fun δ μ=>(fi δ μ).bind fun xs μ' =>
 if xs.length≤sizeLine then(lcL h ft fe (wipeE δ vs) xs μ').bind fun ys μ2=>.ok (.nl ys) μ2 else .bad
section
variable {K:PySem.W.Frag}{W:WX}{N M:Nat}{ρ ρ0 ρ1 ρ2:Pm}{G H G0 H0 G1 H1 G2 H2:Hp}{σ:Slots}{δ:Env}{μ:Mem}{Dn:Ends}
theorem EnvOk.wipe (E:EnvOk K ρ G σ δ):∀ vs:List Nat,EnvOk K ρ G (wipe σ vs) (wipeE δ vs)
 | []=>E
 | v::vs=>by
  have E':=EnvOk.wipe E vs
  refine⟨?_,fun i x hi=>?_⟩
  ·show((L2.wipe σ vs).set v none).length=((wipeE δ vs).set v none).length
   rw[List.length_set,List.length_set];exact E'.len
  ·have hi:((wipeE δ vs).set v none)[i]?=some (some x):=hi
   show ∃ w,((L2.wipe σ vs).set v none)[i]?=some (some w)∧_
   by_cases e:v=i
   ·subst e
    by_cases hl:v<(wipeE δ vs).length
    ·rw[List.getElem?_set_self hl] at hi;cases hi
    ·rw[List.getElem?_eq_none (by rw[List.length_set];omega)] at hi;cases hi
   ·rw[List.getElem?_set_ne e] at hi ⊢
    exact E'.at_ i x hi
theorem Rel.poke {p:Addr}{o:HO}(R:Rel K ρ G H μ)(hg:G p=none)(hn:∀ n,ρ n≠some p):Rel K ρ G (upd H p o) μ:=by
 refine⟨fun a u h=>?_,R.inj,R.nG,R.lt,fun n a h q=>?_,fun n q h=>?_⟩
 ·have e:a≠p:=fun e=>by rw[e,hg] at h;cases h
  rw[upd_ne e];exact R.ex a u h
 ·have e:a≠p:=fun e=>hn n (e▸h)
  rw[upd_ne e] at q;exact R.hs n a h q
 ·have z:=R.pl n q h
  cases q with
  | lst xs=>obtain⟨b,a,vs,h1,h2,h3⟩:=z;exact⟨b,a,vs,h1,by rw[upd_ne (show a≠p from fun e=>hn n (e▸h1))];exact h2,h3⟩
  | dct kvs=>obtain⟨b,a,o,vs,h1,h2,h3⟩:=z;exact⟨b,a,o,vs,h1,by rw[upd_ne (show a≠p from fun e=>hn n (e▸h1))];exact h2,h3⟩
  | lkd kvs=>obtain⟨b,a,o,vs,h1,h2,h3⟩:=z;exact⟨b,a,o,vs,h1,by rw[upd_ne (show a≠p from fun e=>hn n (e▸h1))];exact h2,h3⟩
  | lkl xs=>obtain⟨b,a,o,vs,h1,h2,h3⟩:=z;exact⟨b,a,o,vs,h1,by rw[upd_ne (show a≠p from fun e=>hn n (e▸h1))];exact h2,h3⟩
  | tp xs=>obtain⟨b,a,o,vs,h1,h2,h3⟩:=z;exact⟨b,a,o,vs,h1,by rw[upd_ne (show a≠p from fun e=>hn n (e▸h1))];exact h2,h3⟩
  | own=>obtain⟨a,b,h1,h2⟩:=z;exact⟨a,b,h1,by rw[upd_ne (show a≠p from fun e=>hn n (e▸h1))];exact h2⟩
  | ins nm fs=>obtain⟨b,a,dx,C,vs,m,hm,h1,h2,c,h4,h3⟩:=z;exact⟨b,a,dx,C,vs,m,hm,h1,by rw[upd_ne (show a≠p from fun e=>hn n (e▸h1))];exact h2,c,by rw[upd_ne (show dx≠p from fun e=>hn m (e▸hm.2))];exact h4,h3⟩
  | gone=>exact z
theorem Tr.poke {p:Addr}{o:HO}(t:Tr ρ G0 H0 G H)(h0:H0 p=none):Tr ρ G0 H0 G (upd H p o) where
 exG:=t.exG
 keep:=fun a u hn h=>by rw[upd_ne (ne_of_none h h0)];exact t.keep a u hn h
 th:=fun a h=>by
  by_cases e:a=p
  ·rw[e];exact h0
  ·rw[upd_ne e] at h;exact t.th a h
 nG:=t.nG
 fz:=fun a od u h=>by rw[upd_ne (ne_of_none h h0)];exact t.fz a od u h
theorem paired_snoc {α β:Type}{P:α→β→Prop}:∀ {l:List α} {m:List β} {a:α} {b:β},Paired P l m→P a b→Paired P (l++[a]) (m++[b])
 | _,_,_,_,.nil,h=>.cons h .nil
 | _,_,_,_,.cons r t,h=>.cons r (paired_snoc t h)
theorem snd_lc {wi:TI}{fi:IM}{g:TG}{h:D→Env→Option Env}{tv vs:List Nat}{tt:TT}{ft:TM}{te:TE}{fe:EM}(hi:SndI K W wi fi)(hg:TgOk K g h tv)(hv:∀ i∈tv,i∈vs)(ht:SndT K WF tt ft)(he:SndE K WF te fe) :
  SndE K W (tLc wi g tt te vs) (eLc fi h ft fe vs):=fun ρ G H σ δ μ Q R E hp=>by
 refine SndG.seq (t:=wi) hi R E hp fun xs μ0 G0 H0 J t0 R0 E0 it hp0=>?_
 by_cases hz:xs.length≤sizeLine
 case neg=>rw[if_neg hz] at hp0;exact hp0.elim
 rw[if_pos hz] at hp0
 intro Dl hD
 obtain⟨nG0,nρ0⟩:=fresh_ne R0 hD
 have hp0:=hp0.shiftE t0
 refine⟨fun i m H1=>∃ G1 μ1 accV pre,Tr ρ G0 H0 G1 H1∧Rel K ρ G1 H1 μ1∧G1 Dl=none∧H1 Dl=some (.lst accV)∧DvL K ρ G1 accV pre∧pre.length≤i∧m=xs.length-i∧i≤xs.length ∧
  PostG K W ρ G0 H0 σ (fun G' H'=>rpE K ρ G' H0 H') Q ((lcL h ft fe (wipeE δ vs) (xs.drop i) μ1).bind fun ys μ2=>.ok (.nl (pre++ys)) μ2),⟨xs.length,G0,μ0,[],[],(Tr.refl _ _ _).poke hD,R0.poke nG0 nρ0,nG0,upd_same,.nil,by simp,by omega,by omega,?_⟩,fun i m H1 hW=>?_⟩
 ·exact hp0
 obtain⟨G1,μ1,accV,pre,t1,R1,nG1,eD,dl,hlen,em,hle,hp1⟩:=hW
 obtain⟨go,stop⟩:=it ρ G1 H1 μ1 R1 t1.exG t1.fz
 cases e:xs.drop i with
 | nil =>
  rw[e] at hp1
  have hl:xs.length≤i:=by
   have:=congrArg List.length e
   rw[List.length_drop] at this
   simp at this;omega
  simp only[lcL,Res.bind_ok,List.append_nil] at hp1
  exact .inl ⟨stop i hl,hp1 G1 H1 _ t1 R1 ⟨Dl,accV,rfl,eD,dl,nG1,nρ0,hD⟩⟩
 | cons d ds =>
  rw[e] at hp1
  obtain⟨hd,hds,hlt⟩:=drop_cons e
  obtain⟨g1,g2⟩:=go i d hd
  refine .inr ⟨g1,fun H'=>∃ m',m'<m∧_,fun H' q=>q,fun v H2 hy=>?_⟩
  obtain⟨G2,t2,R2,rp⟩:=g2 v H2 hy
  have E2:EnvOk K ρ G2 (wipe σ vs) (wipeE δ vs):=(E0.mono (t1.exG.trans t2.exG)).wipe vs
  unfold lcL at hp1
  cases eh:h d (wipeE δ vs) with
  | none=>simp only[eh] at hp1;exact hp1.elim
  | some δ1 =>
   simp only[eh] at hp1
   refine hg ρ G2 H2 μ1 _ (wipeE δ vs) δ1 v d _ R2 E2 rp eh fun σ2 E3 hl hσ=>⟨?_,?_⟩
   ·refine(wipe_ext (τ:=wipe σ vs) hl fun i hi=>hσ i fun z=>hi (hv i z)).trans ?_
    exact wipe_ext (by rw[wipe_length]) fun i hi=>wipe_out hi
   have nG2:∀ {G' H'},Tr ρ G1 H1 G' H'→G' Dl=none:=fun {G' H'} t'=>by
    cases q:G' Dl with
    | none=>rfl
    | some o=>exact((t'.nG Dl (by rw[q];simp)).elim (fun z=>absurd nG1 z) fun z=>by rw[eD] at z;cases z)
   refine ht ρ G2 H2 σ2 δ1 μ1 _ R2 E3 ?_
   cases et:ft δ1 μ1 with
   | exc x μ'=>simp only[et] at hp1;exact hp1.elim
   | bad=>simp only[et] at hp1;exact hp1.elim
   | ok b μ2 =>
    intro G3 H3 bv t3 R3 eb
    subst eb
    simp only[et] at hp1
    have T3:=t2.trans t3
    cases bv with
    | false =>
     refine⟨xs.length-(i+1),by omega,G3,μ2,accV,pre,t1.trans T3,R3,nG2 T3,T3.keep _ _ nρ0 eD,DvL.mono T3.exG (fun _ _ q=>q) dl,by omega,rfl,hlt,?_⟩
     rw[hds];exact hp1
    | true =>
     refine he.toV ρ G3 H3 σ2 δ1 μ2 _ R3 (E3.mono t3.exG) ?_
     simp only at hp1
     cases ee:frzV fe δ1 μ2 with
     | exc x μ'=>simp only[ee] at hp1;exact hp1.elim
     | bad=>simp only[ee] at hp1;exact hp1.elim
     | ok y μ3 =>
      simp only[ee] at hp1
      intro G4 H4 yv t4 R4 dy
      have T4:=T3.trans t4
      refine⟨accV,T4.keep _ _ nρ0 eD,?_,xs.length-(i+1),by omega,G4,μ3,accV++[yv],pre++[y],(t1.trans T4).poke hD,R4.poke (nG2 T4) nρ0,nG2 T4,upd_same,paired_snoc (DvL.mono T4.exG (fun _ _ q=>q) dl) dy,?_,rfl,hlt,?_⟩
      ·rw[paired_len dl];omega
      ·rw[List.length_append,List.length_singleton];omega
      ·rw[hds]
       have z:((lcL h ft fe (wipeE δ vs) ds μ3).bind fun ys μ2=>Res.ok (DL.R.nl (pre++[y]++ys)) μ2)=(((lcL h ft fe (wipeE δ vs) ds μ3).bind fun ys μ3=>Res.ok (y::ys) μ3).bind fun ys μ2=>.ok (DL.R.nl (pre++ys)) μ2):=by
        cases lcL h ft fe (wipeE δ vs) ds μ3 <;> simp
       rw[z];exact hp1
theorem snd_yes:SndT K W tYes (fun _ μ=>.ok true μ):=fun ρ G H σ δ μ Q R E hp=>hp G H true (Tr.refl _ _ _) R rfl
end
section
variable {X:Cx}{W:WX}
structure PMTs (X:Cx)(W:WX)(ifs:List Expr)(tt:TT)(f:TM):Prop where
 pe:PTs X ifs tt
 sd:SndT X.K W tt f
def tmYes:TM:=fun _ μ=>.ok true μ
theorem ts_nil:PMTs X W [] tYes tmYes:=⟨pts_nil,snd_yes⟩
theorem ts_one {c:Expr}{t:TT}{f:TM}(h:PMT X W c t f):PMTs X W [c] t f:=⟨pts_one h.pe,h.sd⟩
theorem pm_lc {elt tg iter:Expr}{ifs:List Expr}{scope:Scope}{own:List (Str×Nat)}{pos:Pos}{wi:TI}{fi:IM}{g:TG}{h:D→Env→Option Env}{tv:List Nat}{tt:TT}{ft:TM}{te:TE}{fe:EM}(hc:X.calm=true)(hN:X.N.Nodup)
  (hi:PMI X W tg iter wi fi) (ok:BlkOk X.N X.env.scope scope own)
  (hg:∀ (s:Shared) (H:Hp) (C:Addr) (cl:List (Str×Addr)) (fp:List Addr),PMG (X.blk s H scope (compEnvC scope cl C X.env) fp) tg g h tv)
  (hv:∀ i∈tv,i∈own.map (·.2))
  (ht:∀ (s:Shared) (H:Hp) (C:Addr) (cl:List (Str×Addr)) (fp:List Addr),PMTs (X.blk s H scope (compEnvC scope cl C X.env) fp) WF ifs tt ft)
  (he:∀ (s:Shared) (H:Hp) (C:Addr) (cl:List (Str×Addr)) (fp:List Addr),PM (X.blk s H scope (compEnvC scope cl C X.env) fp) WF elt te fe)
  (hs:∀ x,foldedSetIterable iter X.env x=pure x:=by intro _;rfl) :
  PM X W (.ListComp elt [⟨tg,iter,ifs,0⟩] scope pos) (tLc wi g tt te (own.map (·.2))) (eLc fi h ft fe (own.map (·.2))) :=
 ⟨pe_lc hc hN hi.pi ok (fun s H C cl fp=>(hg s H C cl fp).pg) (fun s H C cl fp=>(ht s H C cl fp).pe) (fun s H C cl fp=>(he s H C cl fp).pe) hs,
  snd_lc hi.sd (hg X.s_0 X.H_0 0 [] []).ok hv (ht X.s_0 X.H_0 0 [] []).sd (he X.s_0 X.H_0 0 [] []).sd⟩
abbrev EW (W:WX):Slots→XK:=fun σ cls d H=>W cls d σ H
theorem snd_call {K:PySem.W.Frag}{F:List DV→Mem→Res R}{n:Nat}{ta:TA}{fa:AM}(ha:SndA K W ta fa)(hn:∀ xs μ,F xs μ≠.bad→xs.length=n):SndE K W (tCallSD (spF K n F) [] (EW W) ta) (eCB F fa):=fun ρ G H σ δ μ Q R E hp=>by
 refine SndG.seq (t:=ta) ha R E hp fun xs μ1 G1 H1 vs t1 R1 E1 d1 hp1=>?_
 have hp2:=hp1.shiftE t1
 have hb:F xs μ1≠.bad:=fun e=>by rw[e] at hp2;exact hp2
 show spF K n F (vs++[]) H1 Q (EW W σ)
 rw[List.append_nil]
 refine⟨by rw[paired_len d1];exact hn xs μ1 hb,ρ,G1,μ1,xs,R1,d1,?_⟩
 cases e:F xs μ1 with
 | ok r μ'=>rw[e] at hp2;exact hp2
 | exc x μ'=>rw[e] at hp2;exact hp2
 | bad=>exact hb e
structure FnD (P:Program)(w:World)(K:PySem.W.Frag)(mg:Str→Option Value)(base:Heap)(cx:CXT)(k:Nat)(x:Str)(n:Nat)(F:List DV→Mem→Res R):Prop where
 ar:∀ xs μ,F xs μ≠.bad→xs.length=n
 ex:∃ (f:Addr) (fd:FuncData) (ps:List Str),ps.length=n∧FnG P w K mg base cx k f fd ps (spF K n F)∧mg x=some (.ref f)∧PySem.W.keepIn K (.ref f)=true∧Binds K fd ps []
theorem pm_call {cx:CXT}{k n:Nat}{x:Str}{F:List DV→Mem→Res R}{e:Expr}{es:List Expr}{ta:TA}{fa:AM}{p pos:Pos}(Fn:FnD X.prog X.w X.K X.mg X.base cx k x n F)(hr:Room k X.A)(hgd:X.A.guards=some [])(hg:Gl X x)
  (hx:∀ σ,PassesAt cx X σ (EW W σ)) (ha:PMA X W (e::es) ta fa) (hdb:(x==("__debug__":Str))=false:=by decide)
  (he:starEach (e::es) X.env=(false,eval e X.env)::starEach es X.env:=by rfl) (hpl:(backTo pos (starEach es X.env)).any (·.1)=false:=by rfl) :
  PM X W (.Call (.Name x p) (e::es) [] pos) (tCallSD (spF X.K n F) [] (EW W) ta) (eCB F fa):=by
 obtain⟨f,fd,ps,hn,G,hm,hk,hb⟩:=Fn.ex
 exact⟨pe_callG G hr hgd hg hm hk hb .nil hx ha.pe hdb he hpl,snd_call ha.sd Fn.ar⟩
def callD (g:SM)(n m:Nat):List DV→Mem→Res R:=fun xs μ=>if xs.length=n then callF g m xs μ else .bad
theorem callD_ar {g:SM}{n m:Nat}(xs:List DV)(μ:Mem)(h:callD g n m xs μ≠.bad):xs.length=n:=by
 unfold callD at h
 by_cases e:xs.length=n
 ·exact e
 ·rw[if_neg e] at h;exact absurd rfl h
theorem sp_callD {K:PySem.W.Frag}{g:SM}{n m:Nat}{vs:List V}{H:Hp}{Q:VK}{E:XK}(h:spF K n (callD g n m) vs H Q E):spF K n (callF g m) vs H Q E:=by
 obtain⟨hl,ρ,G,μ,xs,R,d,hp⟩:=h
 refine⟨hl,ρ,G,μ,xs,R,d,?_⟩
 unfold callD at hp
 rw[if_pos (by rw[←paired_len d];exact hl)] at hp
 exact hp
variable {P:Program}{w:World}{K:PySem.W.Frag}{mg:Str→Option Value}{base:Heap}
theorem fn_ok {x qual:Str}{st:Stmt}{f:Addr}{fd:FuncData}{Nm ps:List Str}{k n m:Nat}{g:SM}(F:Fun K x qual st f fd)(S:FnScope Nm ps (defScope st))(hm:mg x=some (.ref f))(hn:ps.length=n)(hmn:Nm.length=n+m)
  (hb:∀ (kV doc pm:Value) (an:Option Addr) (cdv ct:Value) (us:List Value),us.length=ps.length→bindArgs (PySem.W.fnOf x qual (defArgs st) (defBody st) (defScope st) .none kV doc pm an cdv ct) ⟨us,[]⟩=pure (ps.zip us))
  (body:∀ (cdv:Value) (A:Around) (out:List PySem.Env) (s:Shared) (H:Hp) (E:XK),Room k (A.deeper (envOfC qual (defScope st) s.heap.objs.size f cdv))→A.guards=some [] →
   ∃ ts,PSMs (cxOf CX0 P w K mg base Nm qual (defScope st) f cdv A out s H E).nox (fun cls d _ H=>E cls d H) (defBody st) ts g) :
  FnD P w K mg base CX0 (k+1) x n (callD g n m):=by
 refine⟨callD_ar,f,fd,ps,hn,?_,hm,F.kp,F.binds hb⟩
 obtain⟨oc,od,kV,doc,pm,an,cdv,ct,osl,rfl,lk,hcd⟩:=F.ex
 refine fnG_of lk hcd S (fun vs H Q E h=>by rw[h.1,hn]) fun A out s H vs Q E hr hg hsp=>?_
 obtain⟨ts,b⟩:=body cdv A out s H E hr hg
 refine⟨ts,b.ps.nox,?_⟩
 have e:Nm.length-n=m:=by omega
 exact body_ok (n:=n) b.sd (by omega) (by rw[e];exact sp_callD hsp)
theorem pass_0 {X:Cx}{E:Slots→XK}(σ:Slots):PassesAt CX0 X σ (E σ):=fun _ _ _ _ _ _ h=>h.elim
end
theorem OpR.or {X:Cx}{f:Value→Value→Sem Value}{r r':R2}(h:OpR X f r)(h':OpR X f r'):OpR X f (fun x y H Q=>r x y H Q∨r' x y H Q) :=
 fun pins s σ H x y v u Q I rx ry q=>q.elim (h pins s σ H x y v u Q I rx ry) (h' pins s σ H x y v u Q I rx ry)
theorem CallR.or {X:Cx}{f:Value}{r r':List V→Hp→VK→Prop}(h:CallR X f r)(h':CallR X f r'):CallR X f (fun x H Q=>r x H Q∨r' x H Q) :=
 fun pins s σ H x v Q I rx q=>q.elim (h pins s σ H x v Q I rx) (h' pins s σ H x v Q I rx)
theorem SlR.or {X:Cx}{r r':V→Option Int→Option Int→Hp→VK→Prop}(h:SlR X r)(h':SlR X r'):SlR X (fun x lo hi H Q=>r x lo hi H Q∨r' x lo hi H Q) :=
 fun pins s σ H x v vl vu lo hi sl Q I rx a b c q=>q.elim (h pins s σ H x v vl vu lo hi sl Q I rx a b c) (h' pins s σ H x v vl vu lo hi sl Q I rx a b c)
def asL (μ:Mem):DV→Option (List DV)
 | .dat (.lst ds)=>some (ds.map DV.dat)
 | .dat (.fro ds)=>some (ds.map DV.dat)
 | .loc n=>match μ[n]? with
  | some (.lst xs)=>some xs
  | _=>none
 | _=>none
def asM (μ:Mem):DV→Option (List DV)
 | .dat (.lst ds)=>some (ds.map DV.dat)
 | .loc n=>match μ[n]? with
  | some (.lst xs)=>some xs
  | _=>none
 | _=>none
def asT:DV→Option (List D)
 | .dat (.tup ds)=>some ds
 | _=>none
def asS (μ:Mem)(x:DV):Option (List DV):=match asL μ x with
 | some xs=>some xs
 | none=>(asT x).map fun ds=>ds.map DV.dat
section
variable {K:PySem.W.Frag}{W:WX}{N M:Nat}{ρ:Pm}{G H:Hp}{σ:Slots}{δ:Env}{μ:Mem}{Q:VK}{v:V}{x:DV}
theorem RpL.dv {vs:List V}{ds:List D}:RpL K G vs ds→DvL K ρ G vs (ds.map DV.dat)
 | .nil=>.nil
 | .cons a b=>.cons a (RpL.dv b)
theorem asL_ok {xs:List DV}(R:Rel K ρ G H μ)(h:DvOk K ρ G v x)(e:asL μ x=some xs):∃ a vs,v=.ref a∧SqL K H a vs∧DvL K ρ G vs xs:=by
 unfold asL at e
 split at e
 ·cases e
  cases h with
  | lst h r=>exact⟨_,_,rfl,.inl (.inl (R.ex _ _ h)),r.dv⟩
 ·cases e
  cases h with
  | fro h r=>exact⟨_,_,rfl,ex_l R.ex h,r.dv⟩
 ·rename_i n
  split at e
  ·rename_i q
   cases e
   obtain⟨a,rfl,hn⟩:=h
   obtain⟨_,b,vs,h1,h2,h3⟩:=R.pl n _ q
   rw[hn] at h1;cases h1
   exact⟨a,vs,rfl,.inl (.inl h2),h3⟩
  ·cases e
 ·cases e
theorem asM_ok {xs:List DV}(R:Rel K ρ G H μ)(h:DvOk K ρ G v x)(e:asM μ x=some xs):∃ a vs,v=.ref a∧H a=some (.lst vs)∧DvL K ρ G vs xs:=by
 unfold asM at e
 split at e
 ·cases e
  cases h with
  | lst h r=>exact⟨_,_,rfl,R.ex _ _ h,r.dv⟩
 ·rename_i n
  split at e
  ·rename_i q
   cases e
   obtain⟨a,rfl,hn⟩:=h
   obtain⟨_,b,vs,h1,h2,h3⟩:=R.pl n _ q
   rw[hn] at h1;cases h1
   exact⟨a,vs,rfl,h2,h3⟩
  ·cases e
 ·cases e
theorem asT_ok {ds:List D}(R:Rel K ρ G H μ)(h:DvOk K ρ G v x)(e:asT x=some ds):∃ a vs,v=.ref a∧SqT K H a vs∧RpL K G vs ds:=by
 unfold asT at e
 split at e
 ·cases e
  cases h with
  | tup h r=>exact⟨_,_,rfl,ex_t R.ex h,r⟩
 ·cases e
theorem asT_eq {ds:List D}(e:asT x=some ds):x=.dat (.tup ds):=by
 unfold asT at e
 split at e
 ·cases e;rfl
 ·cases e
theorem new_tup {G0 H0:Hp}{p:Addr}{vs:List V}{ds:List D}(R:Rel K ρ G H μ)(t:Tr ρ G0 H0 G H)(hn:H p=none)(r:RpL K G vs ds)
  (hp:PostG K W ρ G0 H0 σ (fun G' H'=>rpE K ρ G' H0 H') Q (.ok (.dat (.tup ds)) μ)):Q (.ref p) (upd H p (.tup vs)):=by
 obtain⟨R2,t2,ex⟩:=R.layD (o:=.tup vs) hn
 exact hp _ _ _ (t.trans t2) R2 (Rp.tup (.inl (.inl upd_same)) (r.mono ex))
theorem asS_ok {xs:List DV}(R:Rel K ρ G H μ)(h:DvOk K ρ G v x)(e:asS μ x=some xs):∃ a vs,v=.ref a∧(SqL K H a vs∨SqT K H a vs)∧DvL K ρ G vs xs:=by
 unfold asS at e
 split at e
 ·rename_i q
  cases e
  obtain⟨a,vs,h1,h2,h3⟩:=asL_ok R h q
  exact⟨a,vs,h1,.inl h2,h3⟩
 ·cases q:asT x with
  | none=>rw[q] at e;cases e
  | some ds =>
   rw[q] at e;cases e
   obtain⟨a,vs,h1,h2,h3⟩:=asT_ok R h q
   exact⟨a,vs,h1,.inr h2,h3.dv⟩
theorem DvL.get':∀ {vs:List V} {xs:List DV} {i:Nat} {y:DV},DvL K ρ G vs xs→xs[i]?=some y→∃ w,vs[i]?=some w∧DvOk K ρ G w y
 | _,_,_,_,.nil,h=>by simp at h
 | _,_,0,_,.cons a _,h=>by cases h;exact⟨_,rfl,a⟩
 | _,_,i+1,v,.cons _ b,h=>DvL.get' (i:=i) b h
theorem DvL.take {vs:List V}{xs:List DV}(h:DvL K ρ G vs xs)(n:Nat):DvL K ρ G (vs.take n) (xs.take n):=by
 induction h generalizing n with
 | nil=>simp;exact .nil
 | cons a _ ih =>
  cases n with
  | zero=>exact .nil
  | succ n=>exact .cons a (ih n)
theorem DvL.drop {vs:List V}{xs:List DV}(h:DvL K ρ G vs xs)(n:Nat):DvL K ρ G (vs.drop n) (xs.drop n):=by
 induction h generalizing n with
 | nil=>simp;exact .nil
 | cons a b ih =>
  cases n with
  | zero=>exact .cons a b
  | succ n=>exact ih n
theorem DvL.append {vs ws:List V}{xs ys:List DV}(h:DvL K ρ G vs xs)(h':DvL K ρ G ws ys):DvL K ρ G (vs++ws) (xs++ys):=by
 induction h with
 | nil=>exact h'
 | cons a _ ih=>exact .cons a ih
theorem PostG.okD {d:D}(h:PostG K W ρ G H σ (fun G' H'=>rpE K ρ G' H H') Q (.ok (.dat d) μ))(R:Rel K ρ G H μ)(r:Rp K G v d):Q v H:=h G H v (Tr.refl _ _ _) R r
theorem PostG.okV {y:DV}(h:PostG K W ρ G H σ (fun G' H'=>rpE K ρ G' H H') Q (.ok (ofV y) μ))(R:Rel K ρ G H μ)(r:DvOk K ρ G v y):Q v H:=h G H v (Tr.refl _ _ _) R (RpR.ofV r)
def asI:DV→Option Int
 | .dat (.int i)=>some i
 | _=>none
def asStr:DV→Option Str
 | .dat (.str i)=>some i
 | _=>none
def asBl:DV→Option Bool
 | .dat (.bl i)=>some i
 | _=>none
theorem asI_ok {i:Int}(h:DvOk K ρ G v x)(e:asI x=some i):v=.int i:=by
 unfold asI at e
 split at e
 ·cases e;cases h;rfl
 ·cases e
theorem asStr_ok {i:Str}(h:DvOk K ρ G v x)(e:asStr x=some i):v=.str i:=by
 unfold asStr at e
 split at e
 ·cases e;cases h;rfl
 ·cases e
theorem asBl_ok {i:Bool}(h:DvOk K ρ G v x)(e:asBl x=some i):v=.bl i:=by
 unfold asBl at e
 split at e
 ·cases e;cases h;rfl
 ·cases e
def d2I (C:Int→Int→Bool)(g:Int→Int→D)(x y:DV)(μ:Mem):Res R:=match asI x with
 | none=>.bad
 | some i=>match asI y with
  | none=>.bad
  | some j=>if C i j=true then .ok (.dat (g i j)) μ else .bad
theorem od_I {C:Int→Int→Prop}{Cb:Int→Int→Bool}{g:Int→Int→V}{gd:Int→Int→D}(hC:∀ i j,Cb i j=true→C i j)(hg:∀ G i j,Rp K G (g i j) (gd i j)):OpD K (rI C g) (d2I Cb gd):=fun W ρ G H σ μ v w x y Q R hx hy hp=>by
 unfold d2I at hp
 cases e1:asI x with
 | none=>rw[e1] at hp;exact hp.elim
 | some i =>
  rw[e1] at hp
  cases e2:asI y with
  | none=>rw[e2] at hp;exact hp.elim
  | some j =>
   rw[e2] at hp
   by_cases c:Cb i j=true
   ·simp only[if_pos c] at hp;exact⟨i,j,asI_ok hx e1,asI_ok hy e2,hC i j c,hp.okD R (hg G i j)⟩
   ·simp only[if_neg c] at hp;exact hp.elim
theorem od_I0 {g:Int→Int→V}{gd:Int→Int→D}(hg:∀ G i j,Rp K G (g i j) (gd i j)):OpD K (rI0 g) (d2I (fun _ _=>true) gd):=fun W ρ G H σ μ v w x y Q R hx hy hp=>by
 obtain⟨i,j,h1,h2,_,q⟩:=od_I (C:=fun _ _=>True) (fun _ _ _=>trivial) hg W ρ G H σ μ v w x y Q R hx hy hp
 exact⟨i,j,h1,h2,q⟩
abbrev dSub:DV→DV→Mem→Res R:=d2I (fun _ _=>true) fun i j=>.int (i-j)
def cMul (i j:Int):Bool:=decide (-2^64<i∧i<2^64)||decide (-2^64<j∧j<2^64)
abbrev dMul:DV→DV→Mem→Res R:=d2I cMul fun i j=>.int (i*j)
abbrev dMod:DV→DV→Mem→Res R:=d2I (fun _ j=>decide (0<j)) fun i j=>.int (i % j)
abbrev dDiv:DV→DV→Mem→Res R:=d2I (fun _ j=>decide (0<j∧j<1073741824)) fun i j=>.int (i / j)
abbrev dLt:DV→DV→Mem→Res R:=d2I (fun _ _=>true) fun i j=>.bl (decide (i<j))
abbrev dLe:DV→DV→Mem→Res R:=d2I (fun _ _=>true) fun i j=>.bl (decide (i≤j))
abbrev dGt:DV→DV→Mem→Res R:=d2I (fun _ _=>true) fun i j=>.bl (decide (j<i))
abbrev dGe:DV→DV→Mem→Res R:=d2I (fun _ _=>true) fun i j=>.bl (decide (j≤i))
theorem od_sub:OpD K (rI0 fun i j=>V.int (i-j)) dSub:=od_I0 fun _ _ _=>.int _
theorem od_mul:OpD K (rI CMul fun i j=>V.int (i*j)) dMul:=od_I (fun i j h=>by
 unfold cMul at h
 rw[Bool.or_eq_true,decide_eq_true_eq,decide_eq_true_eq] at h
 exact h) fun _ _ _=>.int _
theorem od_mod:OpD K (rI (fun _ j=>0<j) fun i j=>V.int (i % j)) dMod:=od_I (fun i j h=>of_decide_eq_true h) fun _ _ _=>.int _
theorem od_div:OpD K (rI CDiv fun i j=>V.int (i / j)) dDiv:=od_I (fun i j h=>by
 have:=of_decide_eq_true h
 exact⟨by omega,by omega⟩) fun _ _ _=>.int _
theorem od_lt:OpD K (rI0 fun i j=>V.bl (decide (i<j))) dLt:=od_I0 fun _ _ _=>.bl _
theorem od_le:OpD K (rI0 fun i j=>V.bl (decide (i≤j))) dLe:=od_I0 fun _ _ _=>.bl _
theorem od_gt:OpD K (rI0 fun i j=>V.bl (decide (j<i))) dGt:=od_I0 fun _ _ _=>.bl _
theorem od_ge:OpD K (rI0 fun i j=>V.bl (decide (j≤i))) dGe:=od_I0 fun _ _ _=>.bl _
def rPlus (K:PySem.W.Frag):R2:=fun x y H Q=>(rI0 (fun i j=>V.int (i+j)) x y H Q∨rCat x y H Q) ∨
 (rCatA K x y H Q∨∃ i j,x=V.str i∧y=V.str j∧i.length+j.length≤sizeLine∧Q (V.str (i++j)) H)
theorem op_plus {X:Cx}:OpR X (binaryOp .Add) (rPlus X.K):=OpR.or (OpR.or op_add op_cat) (OpR.or op_catA op_add_str)
def dAdd (x y:DV)(μ:Mem):Res R:=match asI x,asI y with
 | some i,some j=>.ok (.dat (.int (i+j))) μ
 | _,_=>match asStr x,asStr y with
  | some i,some j=>if i.length+j.length≤sizeLine then .ok (.dat (.str (i++j))) μ else .bad
  | _,_=>match asT x,asT y with
   | some a,some b=>if a.length+b.length≤sizeLine then .ok (.dat (.tup (a++b))) μ else .bad
   | _,_=>match asM μ x,asM μ y with
    | some a,some b=>if a.length+b.length≤sizeLine then .ok (.nl (a++b)) μ else .bad
    | _,_=>.bad
theorem od_add:OpD K (rPlus K) dAdd:=fun W ρ G H σ μ v w x y Q R hx hy hp=>by
 unfold dAdd at hp
 split at hp
 ·rename_i i j e1 e2
  exact .inl (.inl ⟨i,j,asI_ok hx e1,asI_ok hy e2,hp.okD R (.int _)⟩)
 split at hp
 ·rename_i i j e1 e2
  by_cases c:i.length+j.length≤sizeLine
  ·rw[if_pos c] at hp;exact .inr (.inr ⟨i,j,asStr_ok hx e1,asStr_ok hy e2,c,hp.okD R (.str _)⟩)
  ·rw[if_neg c] at hp;exact hp.elim
 split at hp
 ·rename_i a b e1 e2
  by_cases c:a.length+b.length≤sizeLine
  ·rw[if_pos c] at hp
   obtain⟨p,vs,rfl,h2,h3⟩:=asT_ok R hx e1
   obtain⟨q,ws,rfl,k2,k3⟩:=asT_ok R hy e2
   refine .inr (.inl ⟨p,q,vs,ws,rfl,rfl,h2,k2,by rw[h3.length,k3.length];exact c,fun z=>?_,fun _ z=>?_,fun _ _ t ht=>?_⟩)
   ·subst z
    cases h3
    rw[asT_eq e2] at hy
    exact hp.okD R hy
   ·subst z
    cases k3
    rw[List.append_nil] at hp
    rw[asT_eq e1] at hx
    exact hp.okD R hx
   ·exact new_tup R (Tr.refl _ _ _) ht (h3.append k3) hp
  ·rw[if_neg c] at hp;exact hp.elim
 split at hp
 ·rename_i a b e1 e2
  by_cases c:a.length+b.length≤sizeLine
  ·rw[if_pos c] at hp
   obtain⟨p,vs,rfl,h2,h3⟩:=asM_ok R hx e1
   obtain⟨q,ws,rfl,k2,k3⟩:=asM_ok R hy e2
   exact .inl (.inr ⟨p,q,vs,ws,rfl,rfl,h2,k2,by rw[paired_len h3,paired_len k3];exact c,fun t ht=>new_list R (Tr.refl _ _ _) ht (h3.append k3) hp⟩)
  ·rw[if_neg c] at hp;exact hp.elim
 exact hp.elim
def dIx (x y:DV)(μ:Mem):Res R:=match asI y with
 | none=>.bad
 | some i=>match asS μ x with
  | some xs=>match atI xs i with
   | some z=>.ok (ofV z) μ
   | none=>.bad
  | none=>match asStr x with
   | some z=>if z.length≤sizeLine then match atI z.cps.toList i with
     | some c=>.ok (.dat (.str ⟨#[c]⟩)) μ
     | none=>.bad
    else .bad
   | none=>.bad
theorem atI_dv {vs:List V}{xs:List DV}{i:Int}{y:DV}(h:DvL K ρ G vs xs)(e:atI xs i=some y):∃ w,atI vs i=some w∧DvOk K ρ G w y:=by
 unfold atI at e ⊢
 rw[paired_len h]
 cases q:ixN xs.length i with
 | none=>rw[q] at e;cases e
 | some j=>rw[q] at e;exact DvL.get' h e
theorem od_ix:OpD K (rIx K) dIx:=fun W ρ G H σ μ v w x y Q R hx hy hp=>by
 unfold dIx at hp
 cases e1:asI y with
 | none=>rw[e1] at hp;exact hp.elim
 | some i =>
  rw[e1] at hp
  have ew:=asI_ok hy e1
  cases e2:asS μ x with
  | some xs =>
   simp only[e2] at hp
   obtain⟨a,vs,rfl,h2,h3⟩:=asS_ok R hx e2
   cases e3:atI xs i with
   | none=>rw[e3] at hp;exact hp.elim
   | some z =>
    rw[e3] at hp
    obtain⟨u,q1,q2⟩:=atI_dv h3 e3
    rcases h2 with h2|h2
    ·exact .inl ⟨a,vs,i,u,rfl,ew,h2,q1,hp.okV R q2⟩
    ·exact .inr (.inl ⟨a,vs,i,u,rfl,ew,h2,q1,hp.okV R q2⟩)
  | none =>
   simp only[e2] at hp
   cases e3:asStr x with
   | none=>rw[e3] at hp;exact hp.elim
   | some z =>
    simp only[e3] at hp
    by_cases c:z.length≤sizeLine
    ·rw[if_pos c] at hp
     cases e4:atI z.cps.toList i with
     | none=>rw[e4] at hp;exact hp.elim
     | some k=>rw[e4] at hp;exact .inr (.inr ⟨z,i,k,asStr_ok hx e3,ew,c,e4,hp.okD R (.str _)⟩)
    ·rw[if_neg c] at hp;exact hp.elim
def cutL {α:Type}(xs:List α)(lo hi:Option Int):List α:=(xs.drop (HT.sIx xs.length 0 lo)).take (HT.sIx xs.length xs.length hi-HT.sIx xs.length 0 lo)
def rSl (K:PySem.W.Frag):V→Option Int→Option Int→Hp→VK→Prop:=fun x lo hi H Q=>(rSlL K x lo hi H Q∨rSlA K x lo hi H Q)∨rSlS x lo hi H Q
theorem sl_any {X:Cx}:SlR X (rSl X.K):=SlR.or (SlR.or sl_list sl_tupA) sl_str
def dSl (x:DV)(lo hi:Option Int)(μ:Mem):Res R:=match asL μ x with
 | some xs=>.ok (.nl (cutL xs lo hi)) μ
 | none=>match asT x with
  | some ds=>.ok (.dat (.tup (cutL ds lo hi))) μ
  | none=>match asStr x with
   | some z=>if z.length≤sizeLine then .ok (.dat (.str (cutS z lo hi))) μ else .bad
   | none=>.bad
theorem cutL_full {α:Type}{xs:List α}{lo hi:Option Int}(h:HT.sIx xs.length 0 lo=0∧HT.sIx xs.length xs.length hi=xs.length):cutL xs lo hi=xs:=by
 unfold cutL;rw[h.1,h.2];simp
theorem dvl_cut {vs:List V}{xs:List DV}{lo hi:Option Int}(h:DvL K ρ G vs xs):DvL K ρ G (L2.cutV vs lo hi) (cutL xs lo hi):=by
 unfold L2.cutV cutL
 rw[paired_len h]
 exact(h.drop _).take _
theorem rpl_cut {vs:List V}{xs:List D}{lo hi:Option Int}(h:RpL K G vs xs):RpL K G (L2.cutV vs lo hi) (cutL xs lo hi):=by
 unfold L2.cutV cutL
 rw[h.length]
 exact(h.drop _).take _
theorem od_sl {lo hi:Option Int}(R:Rel K ρ G H μ)(hx:DvOk K ρ G v x)(hp:PostG K W ρ G H σ (fun G' H'=>rpE K ρ G' H H') Q (dSl x lo hi μ)):rSl K v lo hi H Q:=by
 unfold dSl at hp
 split at hp
 ·rename_i xs e
  obtain⟨a,vs,rfl,h2,h3⟩:=asL_ok R hx e
  exact .inl (.inl ⟨a,vs,rfl,h2,fun p hn=>new_list R (Tr.refl _ _ _) hn (dvl_cut h3) hp⟩)
 split at hp
 ·rename_i ds e
  obtain⟨a,vs,rfl,h2,h3⟩:=asT_ok R hx e
  refine .inl (.inr ⟨a,vs,rfl,h2,fun z=>?_,fun _ p hn=>new_tup R (Tr.refl _ _ _) hn (rpl_cut h3) hp⟩)
  rw[h3.length] at z
  rw[cutL_full z] at hp
  rw[asT_eq e] at hx
  exact hp.okD R hx
 split at hp
 ·rename_i z e
  by_cases c:z.length≤sizeLine
  ·rw[if_pos c] at hp;exact .inr ⟨z,asStr_ok hx e,c,hp.okD R (.str _)⟩
  ·rw[if_neg c] at hp;exact hp.elim
 exact hp.elim
abbrev OM:=Env→Mem→Res (Option Int)
abbrev SndO (K:PySem.W.Frag)(W:WX)(t:TO)(f:OM):Prop:=SndG K W t f rpT
def oNone:OM:=fun _ μ=>.ok none μ
def oSome (f:EM):OM:=fun δ μ=>(frzV f δ μ).bind fun x μ'=>match asI x with
 | some i=>.ok (some i) μ'
 | none=>.bad
def eSl (f:EM)(lo hi:OM):EM:=fun δ μ=>(frzV f δ μ).bind fun x μ1=>(lo δ μ1).bind fun l μ2=>(hi δ μ2).bind fun u μ3=>dSl x l u μ3
end
structure PMO (X:Cx)(W:WX)(e:Option Expr)(t:TO)(f:OM):Prop where
 po:PO X e t
 sd:SndO X.K W t f
section
variable {X:Cx}{W:WX}{pos p2:Pos}{e:Expr}{lo hi:Option Expr}{te:TE}{tl th:TO}{f:EM}{fl fh:OM}
theorem mo_none:PMO X W none tNoPart oNone:=⟨po_none,fun ρ G H σ δ μ Q R E hp=>hp G H none (Tr.refl _ _ _) R rfl⟩
theorem mo_some (h:PM X W e te f):PMO X W (some e) (tPart te) (oSome f):=⟨po_some h.pe,fun ρ G H σ δ μ Q R E hp=>by
 refine SndG.seq (t:=te) h.sd.toV R E hp fun x μ1 G1 H1 v t1 R1 E1 d1 hp1=>?_
 cases e:asI x with
 | none=>rw[e] at hp1;exact hp1.elim
 | some i=>rw[e] at hp1;exact⟨i,asI_ok d1 e,hp1 G1 H1 _ t1 R1 rfl⟩⟩
theorem pm_sl (h:PM X W e te f)(hl:PMO X W lo tl fl)(hh:PMO X W hi th fh):PM X W (.Subscript e (.Slice lo hi none p2) pos) (tSl (rSl X.K) te tl th) (eSl f fl fh):=⟨pe_slice sl_any h.pe hl.po hh.po,fun ρ G H σ δ μ Q R E hp=>by
 refine SndG.seq (t:=te) h.sd.toV R E hp fun x μ1 G1 H1 v t1 R1 E1 d1 hp1=>?_
 refine SndG.seq (t:=tl) hl.sd R1 E1 (hp1.shiftE t1) fun l μ2 G2 H2 lv t2 R2 E2 d2 hp2=>?_
 refine SndG.seq (t:=th) hh.sd R2 E2 (hp2.shiftE t2) fun u μ3 G3 H3 uv t3 R3 E3 d3 hp3=>?_
 subst d2 d3
 exact od_sl R3 (d1.mono (t2.exG.trans t3.exG) fun _ _ q=>q) (hp3.shiftE t3)⟩
theorem pm_add {a b:Expr}{ta tb:TE}{fa fb:EM}(ha:PM X W a ta fa)(hb:PM X W b tb fb):PM X W (.BinOp a .Add b pos) (tOp (rPlus X.K) ta tb) (eOp dAdd fa fb):=pm_op op_plus od_add ha hb
theorem pm_sub {a b:Expr}{ta tb:TE}{fa fb:EM}(ha:PM X W a ta fa)(hb:PM X W b tb fb):PM X W (.BinOp a .Sub b pos) (tOp (rI0 fun i j=>V.int (i-j)) ta tb) (eOp dSub fa fb):=pm_op op_sub od_sub ha hb
theorem pm_mul {a b:Expr}{ta tb:TE}{fa fb:EM}(ha:PM X W a ta fa)(hb:PM X W b tb fb):PM X W (.BinOp a .Mult b pos) (tOp (rI CMul fun i j=>V.int (i*j)) ta tb) (eOp dMul fa fb):=pm_op op_mul od_mul ha hb
theorem pm_mod {a b:Expr}{ta tb:TE}{fa fb:EM}(ha:PM X W a ta fa)(hb:PM X W b tb fb):PM X W (.BinOp a .Mod b pos) (tOp (rI (fun _ j=>0<j) fun i j=>V.int (i % j)) ta tb) (eOp dMod fa fb):=pm_op op_mod od_mod ha hb
theorem pm_div {a b:Expr}{ta tb:TE}{fa fb:EM}(ha:PM X W a ta fa)(hb:PM X W b tb fb):PM X W (.BinOp a .FloorDiv b pos) (tOp (rI CDiv fun i j=>V.int (i / j)) ta tb) (eOp dDiv fa fb):=pm_op op_fdiv od_div ha hb
theorem pm_idx {a b:Expr}{ta tb:TE}{fa fb:EM}(ha:PM X W a ta fa)(hb:PM X W b tb fb)(hs:PlainIx b):PM X W (.Subscript a b pos) (tOp (rIx X.K) ta tb) (eOp dIx fa fb):=pm_ix ix_seq od_ix ha hb hs
end
mutual
def toPy:D→Option PyData
 | .non=>some .none
 | .bl b=>some (.bool b)
 | .int i=>some (.int i)
 | .str s=>some (.str s)
 | .tup xs=>(toPyL xs).map .tuple
 | .lst xs=>(toPyL xs).map .list
 | .fro xs=>(toPyL xs).map .list
 | .ty _=>none
 | .ref _=>none
 | .dct _=>none
 | .ins _ _=>none
 | .err _ _ _ _ _=>none
 | .eo _=>none
def toPyL:List D→Option (List PyData)
 | []=>some []
 | x::xs=>match toPy x with
  | none=>none
  | some p=>(toPyL xs).map (p::·)
end
def peekL (f:DV→Option D):List DV→Option (List D)
 | []=>some []
 | x::xs=>match f x with
  | none=>none
  | some d=>(peekL f xs).map (d::·)
def peekK:Nat→Mem→DV→Option D
 | _,_,.dat d=>some d
 | 0,_,.loc _=>none
 | k+1,μ,.loc n=>match μ[n]? with
  | some (.lst xs)=>(peekL (peekK k μ) xs).map .lst
  | some (.tp xs)=>(peekL (peekK k μ) xs).map .tup
  | _=>none
def peek (μ:Mem)(x:DV):Option D:=peekK 5 μ x
def peekPy (μ:Mem)(x:DV):Option PyData:=(peek μ x).bind toPy
section
variable {K:PySem.W.Frag}{W:WX}{N M:Nat}{ρ:Pm}{G H:Hp}{σ:Slots}{δ:Env}{μ:Mem}{Q:VK}{v w:V}{x y:DV}
mutual
theorem Rp.dp:∀ {v:V} {d:D} {p:PyData},Rp K G v d→toPy d=some p→Dp K G v p
 | _,_,_,.non,e=>by cases e;exact .non
 | _,_,_,.bl b,e=>by cases e;exact .bl b
 | _,_,_,.int i,e=>by cases e;exact .int i
 | _,_,_,.str s,e=>by cases e;exact .str s
 | _,_,_,.ty n,e=>by cases e
 | _,_,_,.ref a,e=>by cases e
 | _,_,_,.tup (ds:=ds) h r,e=>by
  simp only[toPy] at e
  cases q:toPyL ds with
  | none=>rw[q] at e;cases e
  | some ps=>rw[q] at e;cases e;exact .tup h (RpL.dp r q)
 | _,_,_,.lst (ds:=ds) h r,e=>by
  simp only[toPy] at e
  cases q:toPyL ds with
  | none=>rw[q] at e;cases e
  | some ps=>rw[q] at e;cases e;exact .lst (.inl (.inl h)) (RpL.dp r q)
 | _,_,_,.fro (ds:=ds) h r,e=>by
  simp only[toPy] at e
  cases q:toPyL ds with
  | none=>rw[q] at e;cases e
  | some ps=>rw[q] at e;cases e;exact .lst h (RpL.dp r q)
 | _,_,_,.dct _ _ _,e=>by cases e
 | _,_,_,.ins _ _ _ _ _,e=>by cases e
 | _,_,_,.er0 _,e=>by cases e
 | _,_,_,.eo _ _ _,e=>by cases e
 | _,_,_,.err _ _ _ _,e=>by cases e
theorem RpL.dp:∀ {vs:List V} {ds:List D} {ps:List PyData},RpL K G vs ds→toPyL ds=some ps→DpAll K G vs ps
 | _,_,_,.nil,e=>by cases e;exact .nil
 | _,_,_,.cons (d:=d) (ds:=ds) a b,e=>by
  simp only[toPyL] at e
  cases q:toPy d with
  | none=>rw[q] at e;cases e
  | some p =>
   rw[q] at e
   cases q2:toPyL ds with
   | none=>rw[q2] at e;cases e
   | some ps=>rw[q2] at e;cases e;exact .cons (Rp.dp a q) (RpL.dp b q2)
end
theorem peekL_ok {f:DV→Option D}(hf:∀ v x d,DvOk K ρ G v x→f x=some d→Rp K H v d):∀ {vs:List V} {xs:List DV} {ds:List D},DvL K ρ G vs xs→peekL f xs=some ds→RpL K H vs ds
 | _,_,_,.nil,e=>by cases e;exact .nil
 | _,x::xs,ds,.cons a b,e=>by
  unfold peekL at e
  cases q:f x with
  | none=>rw[q] at e;cases e
  | some d =>
   rw[q] at e
   cases q2:peekL f xs with
   | none=>rw[q2] at e;cases e
   | some es=>rw[q2] at e;cases e;exact .cons (hf _ _ _ a q) (peekL_ok hf b q2)
theorem peekK_ok (R:Rel K ρ G H μ):∀ (k:Nat) (v:V) (x:DV) (d:D),DvOk K ρ G v x→peekK k μ x=some d→Rp K H v d
 | k,v,.dat d',d,h,e=>by
  have:peekK k μ (.dat d')=some d':=by cases k <;> rfl
  rw[this] at e;cases e;exact Rp.mono R.ex h
 | 0,v,.loc n,d,h,e=>by cases e
 | k+1,v,.loc n,d,h,e=>by
  unfold peekK at e
  split at e
  ·rename_i xs q
   cases qa:peekL (peekK k μ) xs with
   | none=>rw[qa] at e;cases e
   | some ds =>
    rw[qa] at e;cases e
    obtain⟨a,rfl,hn⟩:=h
    obtain⟨_,b,vs,h1,h2,h3⟩:=R.pl n _ q
    rw[hn] at h1;cases h1
    exact Rp.lst h2 (peekL_ok (fun v x d=>peekK_ok R k v x d) h3 qa)
  ·rename_i xs q
   cases qa:peekL (peekK k μ) xs with
   | none=>rw[qa] at e;cases e
   | some ds =>
    rw[qa] at e;cases e
    obtain⟨a,rfl,hn⟩:=h
    obtain⟨_,b,_,vs,h1,h2,h3⟩:=R.pl n _ q
    rw[hn] at h1;cases h1
    exact Rp.tup (.inl (.inl h2)) (peekL_ok (fun v x d=>peekK_ok R k v x d) h3 qa)
  ·cases e
theorem peek_ok {d:D}(R:Rel K ρ G H μ)(h:DvOk K ρ G v x)(e:peek μ x=some d):Rp K H v d:=peekK_ok R 5 v x d h e
theorem peekPy_ok {p:PyData}(R:Rel K ρ G H μ)(h:DvOk K ρ G v x)(e:peekPy μ x=some p):Dp K H v p:=by
 unfold peekPy at e
 cases q:peek μ x with
 | none=>rw[q] at e;cases e
 | some d=>rw[q] at e;exact Rp.dp (peek_ok R h q) e
def dEqB (b:Bool)(x y:DV)(μ:Mem):Res R:=match peekPy μ x with
 | none=>.bad
 | some p=>match peekPy μ y with
  | none=>.bad
  | some q=>if SeqAt.shaped p=true∧SeqAt.shaped q=true then .ok (.dat (.bl (PyData.eqv p q==b))) μ else .bad
def dEqS (b:Bool)(x y:DV)(μ:Mem):Res R:=match asStr x with
 | none=>dEqB b x y μ
 | some s=>match asStr y with
  | none=>dEqB b x y μ
  | some t=>.ok (.dat (.bl (decide (s=t)==b))) μ
abbrev dEq:DV→DV→Mem→Res R:=dEqS true
abbrev dNe:DV→DV→Mem→Res R:=dEqS false
def rEqQ (K:PySem.W.Frag):R2:=fun x y H Q=>rEq x y H Q∨rEqD K x y H Q
def rNeQ (K:PySem.W.Frag):R2:=fun x y H Q=>rNe x y H Q∨rNeD K x y H Q
theorem op_eqQ {X:Cx}(h:X.A.units+64<cLine):OpR X (compareOp .Eq) (rEqQ X.K):=OpR.or op_eq (op_eqD h)
theorem op_neQ {X:Cx}(h:X.A.units+64<cLine):OpR X (compareOp .NotEq) (rNeQ X.K):=OpR.or op_ne (op_neD h)
theorem od_eqB (b:Bool)(R:Rel K ρ G H μ)(hx:DvOk K ρ G v x)(hy:DvOk K ρ G w y)(hp:PostG K W ρ G H σ (fun G' H'=>rpE K ρ G' H H') Q (dEqB b x y μ)) :
  ∃ d e,Dp K H v d∧Dp K H w e∧SeqAt.shaped d=true∧SeqAt.shaped e=true∧Q (.bl (PyData.eqv d e==b)) H:=by
 unfold dEqB at hp
 cases e1:peekPy μ x with
 | none=>rw[e1] at hp;exact hp.elim
 | some p =>
  rw[e1] at hp
  cases e2:peekPy μ y with
  | none=>rw[e2] at hp;exact hp.elim
  | some q =>
   rw[e2] at hp
   by_cases c:SeqAt.shaped p=true∧SeqAt.shaped q=true
   ·simp only[if_pos c] at hp
    exact⟨p,q,peekPy_ok R hx e1,peekPy_ok R hy e2,c.1,c.2,hp.okD R (.bl _)⟩
   ·simp only[if_neg c] at hp;exact hp.elim
theorem od_eqS (b:Bool)(R:Rel K ρ G H μ)(hx:DvOk K ρ G v x)(hy:DvOk K ρ G w y)(hp:PostG K W ρ G H σ (fun G' H' v r=>rpE K ρ G' H H' v r) Q (dEqS b x y μ)) :
  (scal v w=true∧Q (.bl (decide (v=w)==b)) H)∨∃ d e,Dp K H v d∧Dp K H w e∧SeqAt.shaped d=true∧SeqAt.shaped e=true∧Q (.bl (PyData.eqv d e==b)) H:=by
 unfold dEqS at hp
 cases e1:asStr x with
 | none=>rw[e1] at hp;exact .inr (od_eqB b R hx hy hp)
 | some s =>
  rw[e1] at hp
  cases e2:asStr y with
  | none=>rw[e2] at hp;exact .inr (od_eqB b R hx hy hp)
  | some t =>
   rw[e2] at hp
   rw[asStr_ok hx e1,asStr_ok hy e2]
   have:decide (V.str s=V.str t)=decide (s=t):=by rw[Bool.eq_iff_iff];simp
   exact .inl ⟨rfl,by rw[this];exact hp G H _ (Tr.refl _ _ _) R (Rp.bl _)⟩
theorem od_eq:OpD K (rEqQ K) dEq:=fun W ρ G H σ μ v w x y Q R hx hy hp=>by
 rcases od_eqS true R hx hy hp with⟨h1,h2⟩|⟨d,e,h1,h2,h3,h4,h5⟩
 ·exact .inl ⟨h1,by simpa using h2⟩
 ·exact .inr ⟨d,e,h1,h2,h3,h4,by simpa using h5⟩
theorem od_ne:OpD K (rNeQ K) dNe:=fun W ρ G H σ μ v w x y Q R hx hy hp=>by
 rcases od_eqS false R hx hy hp with⟨h1,h2⟩|⟨d,e,h1,h2,h3,h4,h5⟩
 ·exact .inl ⟨h1,by
   have z:((decide (v=w))==false)=!decide (v=w):=by cases decide (v=w) <;> rfl
   rw[←z];exact h2⟩
 ·exact .inr ⟨d,e,h1,h2,h3,h4,by
   have z:(PyData.eqv d e==false)=!PyData.eqv d e:=by cases PyData.eqv d e <;> rfl
   rw[←z];exact h5⟩
def isNon:DV→Bool
 | .dat .non=>true
 | _=>false
def eIsN (f:EM):EM:=fun δ μ=>(frzV f δ μ).bind fun x μ'=>.ok (.dat (.bl (isNon x))) μ'
def eNotN (f:EM):EM:=fun δ μ=>(frzV f δ μ).bind fun x μ'=>.ok (.dat (.bl (!isNon x))) μ'
def flat:DV→Option V
 | .dat .non=>some .non
 | .dat (.bl b)=>some (.bl b)
 | .dat (.int i)=>some (.int i)
 | .dat (.str s)=>some (.str s)
 | _=>none
def flats:List DV→Option (List V)
 | []=>some []
 | x::xs=>match flat x with
  | none=>none
  | some v=>(flats xs).map (v::·)
theorem flat_ok {u:V}(h:DvOk K ρ G v x)(e:flat x=some u):v=u∧flatV u=true:=by
 unfold flat at e
 split at e <;> first|cases e|skip
 all_goals (cases h;exact⟨rfl,rfl⟩)
theorem flats_ok:∀ {xs:List DV} {vs us:List V},DvL K ρ G vs xs→flats xs=some us→vs=us∧us.all flatV=true
 | [],_,_,h,e=>by cases e;cases h;exact⟨rfl,rfl⟩
 | x::xs,_,_,h,e=>by
  cases h with
  | cons r1 r2 =>
   simp only[flats] at e
   cases q:flat x with
   | none=>rw[q] at e;cases e
   | some u =>
    rw[q] at e
    cases q2:flats xs with
    | none=>rw[q2] at e;cases e
    | some us =>
     rw[q2] at e;cases e
     obtain⟨e1,e2⟩:=flat_ok r1 q
     obtain⟨e3,e4⟩:=flats_ok r2 q2
     exact⟨by rw[e1,e3],by rw[List.all_cons,e2,e4];rfl⟩
def dIn (neg:Bool)(x y:DV)(μ:Mem):Res R:=match flat x with
 | none=>.bad
 | some u=>match asS μ y with
  | none=>.bad
  | some ys=>match flats ys with
   | none=>.bad
   | some us=>.ok (.dat (.bl (if neg=true then !inV u us else inV u us))) μ
theorem od_in (neg:Bool):OpD K (rIn K neg) (dIn neg):=fun W ρ G H σ μ v w x y Q R hx hy hp=>by
 unfold dIn at hp
 cases e1:flat x with
 | none=>rw[e1] at hp;exact hp.elim
 | some u =>
  rw[e1] at hp
  cases e2:asS μ y with
  | none=>simp only[e2] at hp;exact hp.elim
  | some ys =>
   simp only[e2] at hp
   cases e3:flats ys with
   | none=>rw[e3] at hp;exact hp.elim
   | some us =>
    rw[e3] at hp
    obtain⟨a,vs,rfl,h2,h3⟩:=asS_ok R hy e2
    obtain⟨q1,q2⟩:=flat_ok hx e1
    obtain⟨q3,q4⟩:=flats_ok h3 e3
    subst q1 q3
    exact⟨a,vs,rfl,h2,q2,q4,hp.okD R (.bl _)⟩
theorem DvL.one {vs:List V}(h:DvL K ρ G vs [x]):∃ v,vs=[v]∧DvOk K ρ G v x:=by
 cases h with
 | cons a b=>cases b;exact⟨_,rfl,a⟩
theorem DvL.two {vs:List V}(h:DvL K ρ G vs [x,y]):∃ v w,vs=[v,w]∧DvOk K ρ G v x∧DvOk K ρ G w y:=by
 cases h with
 | cons a b=>cases b with
  | cons c d=>cases d;exact⟨_,_,rfl,a,c⟩
def d1 (g:DV→Mem→Res R)(xs:List DV)(μ:Mem):Res R:=match xs with
 | [x]=>g x μ
 | _=>.bad
theorem cd_1 {r:List V→Hp→VK→Prop}{g:DV→Mem→Res R}(h:∀ (W:WX) (ρ:Pm) (G H:Hp) (σ:Slots) (μ:Mem) (v:V) (x:DV) (Q:VK),Rel K ρ G H μ→DvOk K ρ G v x→PostG K W ρ G H σ (fun G' H'=>rpE K ρ G' H H') Q (g x μ)→r [v] H Q) :
  CallD K r (d1 g):=fun W ρ G H σ μ vs xs Q R hx hp=>by
 match xs,hx,hp with
 | [x],hx,hp =>
  obtain⟨v,rfl,d⟩:=hx.one
  exact h W ρ G H σ μ v x Q R d hp
 | [],_,hp=>exact hp.elim
 | _::_::_,_,hp=>exact hp.elim
def dLen (x:DV)(μ:Mem):Res R:=match asS μ x with
 | some xs=>.ok (.dat (.int xs.length)) μ
 | none=>match asStr x with
  | some z=>if z.length≤sizeLine then .ok (.dat (.int z.length)) μ else .bad
  | none=>.bad
theorem cd_len:CallD K (fun xs H Q=>∃ x n,xs=[x]∧LenV K x H n∧Q (.int (n:Nat)) H) (d1 dLen):=cd_1 fun W ρ G H σ μ v x Q R hx hp=>by
 unfold dLen at hp
 split at hp
 ·rename_i xs e
  obtain⟨a,vs,rfl,h2,h3⟩:=asS_ok R hx e
  refine⟨_,vs.length,rfl,?_,?_⟩
  ·rcases h2 with h2|h2
   ·exact .inl ⟨vs,h2,rfl⟩
   ·exact .inr ⟨vs,h2,rfl⟩
  ·rw[paired_len h3];exact hp.okD R (.int _)
 split at hp
 ·rename_i z e
  by_cases c:z.length≤sizeLine
  ·rw[if_pos c] at hp
   have ev:=asStr_ok hx e
   subst ev
   exact⟨_,z.length,rfl,⟨c,rfl⟩,hp.okD R (.int _)⟩
  ·rw[if_neg c] at hp;exact hp.elim
 exact hp.elim
def dInt (x:DV)(μ:Mem):Res R:=match asI x with
 | some i=>.ok (.dat (.int i)) μ
 | none=>match asBl x with
  | some b=>.ok (.dat (.int (if b=true then 1 else 0))) μ
  | none=>.bad
theorem cd_int:CallD K (fun xs H Q=>(∃ i,xs=[V.int i]∧Q (V.int i) H)∨∃ k,xs=[V.bl k]∧Q (V.int (if k=true then 1 else 0)) H) (d1 dInt):=cd_1 fun W ρ G H σ μ v x Q R hx hp=>by
 unfold dInt at hp
 split at hp
 ·rename_i i e
  have ev:=asI_ok hx e
  subst ev
  exact .inl ⟨i,rfl,hp.okD R (.int _)⟩
 split at hp
 ·rename_i b e
  have ev:=asBl_ok hx e
  subst ev
  exact .inr ⟨b,rfl,hp.okD R (.int _)⟩
 exact hp.elim
def dAbs (x:DV)(μ:Mem):Res R:=match asI x with
 | some i=>.ok (.dat (.int (if i<0 then -i else i))) μ
 | none=>.bad
theorem cd_abs:CallD K (fun xs H Q=>∃ i,xs=[V.int i]∧Q (V.int (if i<0 then -i else i)) H) (d1 dAbs):=cd_1 fun W ρ G H σ μ v x Q R hx hp=>by
 unfold dAbs at hp
 split at hp
 ·rename_i i e
  have ev:=asI_ok hx e
  subst ev
  exact⟨i,rfl,hp.okD R (.int _)⟩
 exact hp.elim
def dList (x:DV)(μ:Mem):Res R:=match asS μ x with
 | some xs=>.ok (.nl xs) μ
 | none=>.bad
theorem cd_list:CallD K (fun xs H Q=>∃ p ys,xs=[V.ref p]∧(SqL K H p ys∨SqT K H p ys)∧∀ l,H l=none→Q (V.ref l) (upd H l (.lst ys))) (d1 dList):=cd_1 fun W ρ G H σ μ v x Q R hx hp=>by
 unfold dList at hp
 split at hp
 ·rename_i xs e
  obtain⟨a,vs,rfl,h2,h3⟩:=asS_ok R hx e
  exact⟨a,vs,rfl,h2,fun l hn=>new_list R (Tr.refl _ _ _) hn h3 hp⟩
 exact hp.elim
def dTuple (x:DV)(μ:Mem):Res R:=match asL μ x with
 | some xs=>match allDat xs with
  | some ds=>.ok (.dat (.tup ds)) μ
  | none=>.bad
 | none=>match asT x with
  | some ds=>.ok (.dat (.tup ds)) μ
  | none=>.bad
theorem cd_tuple:CallD K (fun xs H Q=>∃ p ys,xs=[V.ref p]∧((SqL K H p ys∧∀ l,H l=none→Q (V.ref l) (upd H l (.tup ys)))∨SqT K H p ys∧Q (V.ref p) H)) (d1 dTuple):=cd_1 fun W ρ G H σ μ v x Q R hx hp=>by
 unfold dTuple at hp
 split at hp
 ·rename_i xs e
  obtain⟨a,vs,rfl,h2,h3⟩:=asL_ok R hx e
  split at hp
  ·rename_i ds e2
   exact⟨a,vs,rfl,.inl ⟨h2,fun l hn=>new_tup R (Tr.refl _ _ _) hn (allDat_ok e2 h3) hp⟩⟩
  ·exact hp.elim
 split at hp
 ·rename_i ds e
  obtain⟨a,vs,rfl,h2,h3⟩:=asT_ok R hx e
  rw[asT_eq e] at hx
  exact⟨a,vs,rfl,.inr ⟨h2,hp.okD R hx⟩⟩
 exact hp.elim
def bools:List DV→Option (List Bool)
 | []=>some []
 | x::xs=>match asBl x with
  | none=>none
  | some b=>(bools xs).map (b::·)
theorem bools_ok:∀ {xs:List DV} {vs:List V} {bs:List Bool},DvL K ρ G vs xs→bools xs=some bs→vs=bs.map V.bl
 | [],_,_,h,e=>by cases e;cases h;rfl
 | x::xs,_,_,h,e=>by
  cases h with
  | cons r1 r2 =>
   simp only[bools] at e
   cases q:asBl x with
   | none=>rw[q] at e;cases e
   | some b =>
    rw[q] at e
    cases q2:bools xs with
    | none=>rw[q2] at e;cases e
    | some bs=>rw[q2] at e;cases e;rw[asBl_ok r1 q,bools_ok r2 q2];rfl
def dAll (f:List Bool→Bool)(x:DV)(μ:Mem):Res R:=match asL μ x with
 | some xs=>match bools xs with
  | some bs=>.ok (.dat (.bl (f bs))) μ
  | none=>.bad
 | none=>.bad
theorem cd_all (f:List Bool→Bool):CallD K (fun vs H Q=>∃ a bs,vs=[V.ref a]∧SqL K H a (bs.map V.bl)∧Q (V.bl (f bs)) H) (d1 (dAll f)):=cd_1 fun W ρ G H σ μ v x Q R hx hp=>by
 unfold dAll at hp
 split at hp
 ·rename_i xs e
  obtain⟨a,vs,rfl,h2,h3⟩:=asL_ok R hx e
  split at hp
  ·rename_i bs e2
   have ev:=bools_ok h3 e2
   subst ev
   exact⟨a,bs,rfl,h2,hp.okD R (.bl _)⟩
  ·exact hp.elim
 exact hp.elim
def dRepr (x:DV)(μ:Mem):Res R:=match peekPy μ x with
 | some p=>if p.showable=true∧SeqAt.shaped p=true∧p.shown.length≤sizeLine then .ok (.dat (.str p.shown)) μ else .bad
 | none=>.bad
def rRepr (K:PySem.W.Frag):List V→Hp→VK→Prop:=fun xs H Q=>∃ v p,xs=[v]∧Dp K H v p∧p.showable=true∧SeqAt.shaped p=true∧p.shown.length≤sizeLine∧Q (.str p.shown) H
theorem cr_repr {X:Cx} {k:Nat} (hr:Room k X.A) (hg:X.A.guards=some []):CallR X (.builtin "repr") (rRepr X.K):=by
 intro pins s σ H xs us Q I rv h
 obtain⟨v,p,rfl,hd,hs,hsh,hz,q⟩:=h
 obtain⟨u,rfl,ru⟩:∃ u,us=[u]∧L2.RelV v u:=by
  cases rv with
  | cons a b=>cases b;exact⟨_,rfl,a⟩
 obtain⟨as,rd⟩:=Dp.reads I p v u hd ru
 have fin:∀ h' tk t',(∀ b o,s.heap.get? b=some o→h'.get? b=some o)→EP X pins σ Q (.str p.shown t') { s with heap:=h',toks:=tk }:=fun h' tk t' kp =>
  ⟨.str p.shown,H,I.kept kp,⟨t',rfl⟩,q⟩
 have hc:=SeqAt.canLay_of_shaped hsh
 have hdp:p.depth≤64:=of_decide_eq_true (Bool.and_eq_true_iff.mp hsh).2
 have hu:X.A.units+200<cLine:=by have:=hr.un;omega
 cases rd with
 | none=>exact PySem.P.repr_of_none (fin s.heap _ _ fun _ _ e=>e)
 | bool b=>exact PySem.P.repr_of_bool (fin s.heap _ _ fun _ _ e=>e)
 | int i t=>exact PySem.P.repr_of_int (of_decide_eq_true hs) (fin s.heap _ _ fun _ _ e=>e)
 | str z t=>exact PySem.P.repr_of_str (fin s.heap _ _ fun _ _ e=>e) hz
 | list ho hcl hda ra=>exact repr_of_reads' (.list ho hcl hda ra) hs (PyData.noDict_hsm (PyData.hasDict_of_canLay _ hc)) hg (by omega) (fun _ _ e=>e) (fun h' u tk kp=>fin h' tk u kp) hz
 | tuple ho hcl hda ra=>exact repr_of_reads' (.tuple ho hcl hda ra) hs (PyData.noDict_hsm (PyData.hasDict_of_canLay _ hc)) hg (by omega) (fun _ _ e=>e) (fun h' u tk kp=>fin h' tk u kp) hz
 | dict _ _ _ _ _=>exact absurd hc Bool.false_ne_true
theorem cd_repr:CallD K (rRepr K) (d1 dRepr):=cd_1 fun W ρ G H σ μ v x Q R hx hp=>by
 unfold dRepr at hp
 split at hp
 ·rename_i p e
  by_cases c:p.showable=true∧SeqAt.shaped p=true∧p.shown.length≤sizeLine
  ·rw[if_pos c] at hp;exact⟨v,p,rfl,peekPy_ok R hx e,c.1,c.2.1,c.2.2,hp.okD R (.str _)⟩
  ·rw[if_neg c] at hp;exact hp.elim
 exact hp.elim
end
section
variable {prog:Program}{w:World}{A:Around}{E:Value→Shared→Prop}{s:Shared}
end
def iSeq (K:PySem.W.Frag)(tl:TE):TI:=fun σ H R=>tl σ H fun x H1=>∃ a,x=.ref a∧((∃ xs,SqL K H1 a xs)∧R (Itl K a) H1∨(∃ xs,SqT K H1 a xs)∧R (Itt K a) H1)
theorem pi_seq {X:Cx}{tg l:Expr}{tl:TE}(hl:PE X l tl):PI X tg l (iSeq X.K tl):=by
 refine⟨fun pins s σ H R I h=>thn (hl.run pins s σ H _ I h) ?_⟩
 rintro v s1 ⟨x,H1,I1,r1,a,rfl,q1⟩
 cases r1
 have fr:FpOk X pins H1 s1.heap.objs.size:=I1.fpOk (Nat.le_refl _) (I1.hok.fresh (Nat.le_refl _))
 rcases q1 with⟨⟨xs,hq⟩,q⟩|⟨⟨xs,hq⟩,q⟩
 ·obtain⟨its,rv,p,hz⟩:=I1.list hq
  refine wpAny_pyIter_list p.isList ⟨s1.heap.objs.size,[s1.heap.objs.size],_,_,H1,rfl,I1.kept (t':=s1.toks) fun b o e=>Heap.get?_push_of_some _ e,turn_list a _,⟨_,Heap.get?_push_size _ rfl,rfl,rfl⟩,fun b hb=>?_,q⟩
  rw[show b=s1.heap.objs.size by simpa using hb];exact fr
 ·obtain⟨its,rv,p,hz⟩:=I1.tuple hq
  refine wpAny_pyIter_tuple (show s1.heap.IsTuple a its.toArray from p) ⟨s1.heap.objs.size,[s1.heap.objs.size],_,_,H1,rfl,I1.kept (t':=s1.toks) fun b o e=>Heap.get?_push_of_some _ e,turn_tuple a _,⟨_,Heap.get?_push_size _ rfl,rfl,rfl⟩,fun b hb=>?_,q⟩
  rw[show b=s1.heap.objs.size by simpa using hb];exact fr
section
variable {K:PySem.W.Frag}{W:WX}{N M:Nat}{ρ:Pm}{G H:Hp}{σ:Slots}{δ:Env}{μ:Mem}{Q:VK}{v w:V}{x y:DV}
theorem it_list {H0:Hp}{a:Addr}{vs:List V}{ds:List D}(h:SqL K G a vs)(r:RpL K G vs ds):ItOk K G H0 (Itl K a) ds:=fun ρ G1 H μ R x _=>by
 have hq:SqL K H a vs:=ex_l (x.trans R.ex) h
 refine⟨fun i d e=>?_,fun i hi=>⟨vs,hq,by rw[r.length];exact hi⟩⟩
 obtain⟨u,h1,h2⟩:=r.get' e
 refine⟨⟨vs,u,hq,h1⟩,fun v H' hy=>?_⟩
 obtain⟨rfl,q⟩:=hy
 have e2:=q vs hq
 rw[h1] at e2;cases e2
 exact⟨G1,Tr.refl _ _ _,R,h2.mono x⟩
theorem it_tup {H0:Hp}{a:Addr}{vs:List V}{ds:List D}(h:SqT K G a vs)(r:RpL K G vs ds):ItOk K G H0 (Itt K a) ds:=fun ρ G1 H μ R x _=>by
 have hq:SqT K H a vs:=ex_t (x.trans R.ex) h
 refine⟨fun i d e=>?_,fun i hi=>⟨vs,hq,by rw[r.length];exact hi⟩⟩
 obtain⟨u,h1,h2⟩:=r.get' e
 refine⟨⟨vs,u,hq,h1⟩,fun v H' hy=>?_⟩
 obtain⟨rfl,q⟩:=hy
 have e2:=q vs hq
 rw[h1] at e2;cases e2
 exact⟨G1,Tr.refl _ _ _,R,h2.mono x⟩
def enumD:Nat→List D→List D
 | _,[]=>[]
 | i,d::ds=>.tup [.int i,d]::enumD (i+1) ds
def seqD:DV→Option (List D)
 | .dat (.lst ds)=>some ds
 | .dat (.fro ds)=>some ds
 | .dat (.tup ds)=>some ds
 | _=>none
theorem seqD_ok {ds:List D}(h:DvOk K ρ G v x)(e:seqD x=some ds):∃ a vs,v=.ref a∧(SqL K G a vs∨SqT K G a vs)∧RpL K G vs ds:=by
 unfold seqD at e
 split at e
 ·cases e;cases h with|lst h r=>exact⟨_,_,rfl,.inl (.inl (.inl h)),r⟩
 ·cases e;cases h with|fro h r=>exact⟨_,_,rfl,.inl h,r⟩
 ·cases e;cases h with|tup h r=>exact⟨_,_,rfl,.inr h,r⟩
 ·cases e
def imSeq (f:EM):IM:=fun δ μ=>(frzV f δ μ).bind fun x μ'=>match seqD x with
 | some ds=>.ok ds μ'
 | none=>.bad
theorem snd_iseq {te:TE}{f:EM}(h:SndE K W te f):SndI K W (iSeq K te) (imSeq f):=fun ρ G H σ δ μ Q R E hp=>by
 refine SndG.seq (t:=te) h.toV R E hp fun x μ1 G1 H1 v t1 R1 E1 d1 hp1=>?_
 cases e:seqD x with
 | none=>rw[e] at hp1;exact hp1.elim
 | some ds =>
  rw[e] at hp1
  obtain⟨a,vs,rfl,hs,r⟩:=seqD_ok d1 e
  refine⟨a,rfl,?_⟩
  rcases hs with hs|hs
  ·exact .inl ⟨⟨vs,ex_l R1.ex hs⟩,hp1 G1 H1 _ t1 R1 (it_list hs r)⟩
  ·exact .inr ⟨⟨vs,ex_t R1.ex hs⟩,hp1 G1 H1 _ t1 R1 (it_tup hs r)⟩
def imEnum (f:AM):IM:=fun δ μ=>(f δ μ).bind fun xs μ'=>match xs with
 | [x]=>match seqD x with
  | some ds=>.ok (enumD 0 ds) μ'
  | none=>.bad
 | _=>.bad
def rngD (lo:Int)(n:Nat):List D:=(List.range n).map fun i=>.int (lo+(i:Nat))
theorem it_rng {H0:Hp}(lo:Int)(n:Nat):ItOk K G H0 (Itr lo n) (rngD lo n):=fun ρ G1 H μ R x _=>by
 refine⟨fun i d e=>?_,fun i hi=>?_⟩
 ·unfold rngD at e
  rw[List.getElem?_map] at e
  cases q:(List.range n)[i]? with
  | none=>rw[q] at e;cases e
  | some j =>
   rw[q] at e
   simp only[Option.map_some,Option.some.injEq] at e
   obtain⟨hi,ej⟩:=List.getElem?_eq_some_iff.mp q
   rw[List.getElem_range] at ej
   rw[List.length_range] at hi
   refine⟨hi,fun v H' hy=>?_⟩
   obtain⟨rfl,rfl⟩:=hy
   subst ej
   exact⟨G1,Tr.refl _ _ _,R,e▸Rp.int _⟩
 ·show n≤i
  simpa [rngD] using hi
def imRng (f:AM):IM:=fun δ μ=>(f δ μ).bind fun xs μ'=>match xs with
 | [x]=>match asI x with
  | some j=>if -2^62≤j∧j<2^62 then .ok (rngD 0 j.toNat) μ' else .bad
  | none=>.bad
 | _=>.bad
theorem snd_irng {ta:TA}{f:AM}(h:SndA K W ta f):SndI K W (iRng1 ta) (imRng f):=fun ρ G H σ δ μ Q R E hp=>by
 refine SndG.seq (t:=ta) h R E hp fun xs μ1 G1 H1 vs t1 R1 E1 d1 hp1=>?_
 match xs,d1,hp1 with
 | [],_,hp1=>exact hp1.elim
 | _::_::_,_,hp1=>exact hp1.elim
 | [x],d1,hp1 =>
  obtain⟨v,rfl,d⟩:=d1.one
  simp only at hp1
  cases e:asI x with
  | none=>rw[e] at hp1;exact hp1.elim
  | some j =>
   rw[e] at hp1
   by_cases c:-2^62≤j∧j<2^62
   ·simp only[if_pos c] at hp1
    rw[asI_ok d e]
    exact⟨j,rfl,c.1,c.2,hp1 G1 H1 _ t1 R1 (it_rng 0 _)⟩
   ·simp only[if_neg c] at hp1;exact hp1.elim
def imRng2 (f:AM):IM:=fun δ μ=>(f δ μ).bind fun xs μ'=>match xs with
 | [x,y]=>match asI x,asI y with
  | some i,some j=>if -2^62≤i∧i<2^62∧-2^62≤j∧j<2^62 then .ok (rngD i (j-i).toNat) μ' else .bad
  | _,_=>.bad
 | _=>.bad
def TgsOk (K:PySem.W.Frag)(g:TGs)(h:List D→Env→Option Env)(ts:List Nat):Prop:=∀ (ρ:Pm) (G H:Hp) (μ:Mem) (σ:Slots) (δ δ':Env) (vs:List V) (ds:List D) (Q:Slots→Hp→Prop),Rel K ρ G H μ→EnvOk K ρ G σ δ→RpL K G vs ds→h ds δ=some δ' →
 (∀ σ',EnvOk K ρ G σ' δ'→σ'.length=σ.length→(∀ i,i∉ts→σ'[i]?=σ[i]?)→Q σ' H)→g vs σ H Q
def tgNil:List D→Env→Option Env:=fun ds δ=>match ds with
 | []=>some δ
 | _::_=>none
def tgCons (h:D→Env→Option Env)(hs:List D→Env→Option Env):List D→Env→Option Env:=fun ds δ=>match ds with
 | []=>none
 | d::ds=>match h d δ with
  | none=>none
  | some δ1=>hs ds δ1
def tgTup (n:Nat)(hs:List D→Env→Option Env):D→Env→Option Env:=fun d δ=>match d with
 | .tup ds=>if ds.length=n then hs ds δ else none
 | _=>none
theorem tgs_nil:TgsOk K gNil tgNil []:=fun ρ G H μ σ δ δ' vs ds Q R E r e q=>by
 cases r with
 | nil=>cases e;exact⟨rfl,q σ E rfl fun _ _=>rfl⟩
 | cons _ _=>cases e
theorem tgs_cons {g:TG}{gs:TGs}{h:D→Env→Option Env}{hs:List D→Env→Option Env}{t ts:List Nat}(h1:TgOk K g h t)(h2:TgsOk K gs hs ts):TgsOk K (gCons g gs) (tgCons h hs) (t++ts):=fun ρ G H μ σ δ δ' vs ds Q R E r e q=>by
 cases r with
 | nil=>cases e
 | cons a b =>
  rename_i v vs d ds
  simp only[tgCons] at e
  cases e1:h d δ with
  | none=>rw[e1] at e;cases e
  | some δ1 =>
   rw[e1] at e
   refine⟨v,vs,rfl,h1 ρ G H μ σ δ δ1 v d _ R E a e1 fun σ1 E1 l1 k1=>h2 ρ G H μ σ1 δ1 δ' vs ds _ R E1 b e fun σ2 E2 l2 k2=>q σ2 E2 (l2.trans l1) fun i hi=>?_⟩
   rw[k2 i fun z=>hi (List.mem_append_right _ z),k1 i fun z=>hi (List.mem_append_left _ z)]
theorem tg_tup {gs:TGs}{hs:List D→Env→Option Env}{ts:List Nat}{n:Nat}(h:TgsOk K gs hs ts):TgOk K (L2.gTup K n gs) (tgTup n hs) ts:=fun ρ G H μ σ δ δ' v d Q R E r e q=>by
 unfold tgTup at e
 split at e
 ·rename_i ds
  by_cases c:ds.length=n
  ·rw[if_pos c] at e
   cases r with
   | tup h1 r=>exact⟨_,_,rfl,ex_t R.ex h1,by rw[r.length];exact c,h ρ G H μ σ δ δ' _ ds Q R E r e q⟩
  ·rw[if_neg c] at e;cases e
 ·cases e
end
section
variable {X:Cx}{W:WX}{pos p tpos:Pos}{tg e:Expr}{te:TE}{f:EM}{ta:TA}{fa:AM}{a b:Expr}
theorem mi_seq (h:PM X W e te f):PMI X W tg e (iSeq X.K te) (imSeq f):=⟨pi_seq h.pe,snd_iseq h.sd⟩
theorem mi_rng1 (hg:Gl X "range") (hm:X.mg "range"=none) (h:PMA X W [a] ta fa) (hs:starEach [a] X.env=[(false,eval a X.env)]:=by rfl):PMI X W tg (.Call (.Name "range" p) [a] [] pos) (iRng1 ta) (imRng fa):=⟨pi_range1 hg hm h.pe hs,snd_irng h.sd⟩
structure PMGs (X:Cx)(es:List Expr)(g:TGs)(h:List D→Env→Option Env)(ts:List Nat):Prop where
 pg:PGs X es g
 ok:TgsOk X.K g h ts
theorem gs_nil:PMGs X [] gNil tgNil []:=⟨pgs_nil,tgs_nil⟩
theorem gs_cons {es:List Expr}{g:TG}{gs:TGs}{h:D→Env→Option Env}{hs:List D→Env→Option Env}{t ts:List Nat}(h1:PMG X e g h t)(h2:PMGs X es gs hs ts)
  (ha:List.map (fun x=>x.snd) (assignEach (e::es) X.env)=assign e X.env::List.map (fun x=>x.snd) (assignEach es X.env):=by rfl):PMGs X (e::es) (gCons g gs) (tgCons h hs) (t++ts):=⟨pgs_cons h1.pg h2.pg ha,tgs_cons h1.ok h2.ok⟩
theorem pg_tp {es:List Expr}{k n:Nat}{gs:TGs}{hs:List D→Env→Option Env}{ts:List Nat}(hc:X.calm=true)(h:PMGs X es gs hs ts)(h1:(assignEach es X.env).length=n:=by rfl)(h2:List.findIdx? (fun x=>x.fst) (assignEach es X.env)=none:=by rfl) :
  PMG X (.Tuple es k pos) (L2.gTup X.K n gs) (tgTup n hs) ts:=⟨pg_tup hc h.pg h1 h2,tg_tup h.ok⟩
end
theorem meets_ext_tup (l:Addr)(items:Array Value)(n:Nat)(b:Addr)(items2:Array Value)(n2:Nat)(dct:Option Addr)(sl:Array (Option Value))(hs0:¬(!items.isEmpty&&Builtin.List.listTooLong (items.size+items2.size))=true)(hs1:items.size≤sizeLine)(hs2:items.size+items2.size≤sizeLine+1) :
  Meets (Builtin.«list.extend» ⟨[.ref l,.ref b],[]⟩) (fun _ R s=>s.heap.get? l=some { cls:=.type "list",dict:=none,data:=.seq items n,slots:=#[] }∧s.heap.get? b=some { cls:=.type "tuple",dict:=dct,data:=.seq items2 n2,slots:=sl } ∧
   R (.ok (.ret Value.none)) { s with heap:=s.heap.update l (Obj.mapSeq fun x=>x++items2),toks:=s.toks }) :=
 .of_wp fun prog w A R s h=>by
  obtain⟨hp,g,d,tk,os⟩:=s
  obtain⟨hl,hb,h⟩:=h
  have f1:=AutoSeq1.idx_int
  have f2:=AutoSeq1.sub_tuple_tuple
  have f3:=AutoSeq1.sub_list_list
  have f4:=AutoSeq1.sub_tuple_list
  have f5:=AutoSeq1.sub_list_tuple
  have hz':(items++items2).size≤sizeLine+1:=by rw[Array.size_append];exact hs2
  wp_walk using (wpAny_updateSeq hl rfl (hz:=hs1) (_hz':=hz')),AutoSeq1.wpAny_loadPart' hl,AutoSeq1.wpAny_loadPart' hb
  exact⟨_,rfl,h⟩
def rExtT (K:PySem.W.Frag):V→List V→Hp→VK→Prop:=fun x vs H Q=>∃ l b xs zs,x=.ref l∧vs=[.ref b]∧H l=some (.lst xs)∧SqT K H b zs∧xs.length+zs.length≤sizeLine∧Q .non (upd H l (.lst (xs++zs)))
theorem mt_extT {X:Cx}:MtM X "list.extend" (rExtT X.K):=by
 intro pins s σ H x vs v us Q I rx rv h
 obtain⟨l,b,xs,zs,rfl,rfl,hH,hB,hz,q⟩:=h
 cases rx
 obtain⟨u,rfl,ru⟩:=rv.one
 cases ru
 obtain⟨z,its,n,r,hl,e⟩:=I.lstM hH
 obtain⟨its2,r2,⟨⟨c,dct,dt,sl⟩,ho,hc,n2,hd⟩,z2⟩:=I.tuple hB
 obtain rfl:c=.type "tuple":=hc
 obtain rfl:dt=.seq its2.toArray n2:=hd
 have hl2:=r2.length
 have hsz:its.toArray.size+its2.toArray.size≤sizeLine:=by rw[List.size_toArray,List.size_toArray];omega
 have hlong:¬(!its.toArray.isEmpty&&Builtin.List.listTooLong (its.toArray.size+its2.toArray.size))=true:=by
  rw[notLongL hsz,Bool.and_false]
  exact Bool.false_ne_true
 refine call_meets F.slot_list_extend ⟨_,e,rfl⟩ F.entry_list_extend (F.args_list_extend_2 _ _)
  (meets_ext_tup l its.toArray n b its2.toArray n2 dct sl hlong (by rw[List.size_toArray];omega) (by omega)) ⟨e,ho,?_⟩
 refine⟨.non,_,I.lset (its':=its++its2) hH e (by simp) (r.append r2) ?_,rfl,q⟩
 rw[List.length_append]
 omega
section
variable {K:PySem.W.Frag}{W:WX}{N M:Nat}{ρ:Pm}{G H:Hp}{σ:Slots}{δ:Env}{μ:Mem}{Q:VK}{v w:V}{x y:DV}
theorem Rel.setL {n:Nat}{a:Addr}{vs':List V}{xs' ys:List DV}(R:Rel K ρ G H μ)(hn:ρ n=some a)(hm:μ[n]?=some (.lst ys))(hb:∀ x∈xs',x.below n)(hd:DvL K ρ G vs' xs') :
  Rel K ρ G (upd H a (.lst vs')) (μ.set n (.lst xs'))∧Tr ρ G H G (upd H a (.lst vs')):=by
 have hlt:n<μ.length:=R.lt n a hn
 refine⟨⟨fun b o h=>?_,R.inj,R.nG,fun m b h=>by rw[List.length_set];exact R.lt m b h,fun m b h q=>?_,fun m q h=>?_⟩,⟨Ex.refl _,fun b o hb h=>?_,fun b h=>?_,fun b h=>.inl h,fun b od u h=>?_⟩⟩
 ·have e:b≠a:=fun e=>by rw[e,R.nG n a hn] at h;cases h
  rw[upd_ne e];exact R.ex b o h
 ·by_cases e:b=a
  ·rw[e,upd_same] at q;cases q
  ·rw[upd_ne e] at q;exact R.hs m b h q
 ·by_cases e:m=n
  ·subst e
   rw[List.getElem?_set_self hlt] at h
   cases h
   exact⟨hb,a,vs',hn,upd_same,hd⟩
  ·rw[List.getElem?_set_ne (fun z=>e z.symm)] at h
   have z:=R.pl m q h
   have ne:∀ b,ρ m=some b→b≠a:=fun b hb z=>e (R.inj m n a (z▸hb) hn)
   cases q with
   | lst xs=>obtain⟨b,c,vs,h1,h2,h3⟩:=z;exact⟨b,c,vs,h1,by rw[upd_ne (ne c h1)];exact h2,h3⟩
   | dct kvs=>obtain⟨b,c,o,vs,h1,h2,h3⟩:=z;exact⟨b,c,o,vs,h1,by rw[upd_ne (ne c h1)];exact h2,h3⟩
   | lkd kvs=>obtain⟨b,c,o,vs,h1,h2,h3⟩:=z;exact⟨b,c,o,vs,h1,by rw[upd_ne (ne c h1)];exact h2,h3⟩
   | lkl xs=>obtain⟨b,c,o,vs,h1,h2,h3⟩:=z;exact⟨b,c,o,vs,h1,by rw[upd_ne (ne c h1)];exact h2,h3⟩
   | tp xs=>obtain⟨b,c,o,vs,h1,h2,h3⟩:=z;exact⟨b,c,o,vs,h1,by rw[upd_ne (ne c h1)];exact h2,h3⟩
   | own=>obtain⟨b,c,h1,h2⟩:=z;exact⟨b,c,h1,by rw[upd_ne (ne b h1)];exact h2⟩
   | ins nm fs =>
    obtain⟨b,c,dx,C,vs,k,hk,h1,h2,cl,h4,h3⟩:=z
    have nd:dx≠a:=fun e=>by
     obtain⟨_,a',vs',k1,k2,_⟩:=R.pl n _ hm
     rw[hn] at k1;cases k1;rw[e,k2] at h4;cases h4
    exact⟨b,c,dx,C,vs,k,hk,h1,by rw[upd_ne (ne c h1)];exact h2,cl,by rw[upd_ne nd];exact h4,h3⟩
   | gone=>exact z
 ·have e:b≠a:=fun e=>hb n (e▸hn)
  rw[upd_ne e];exact h
 ·by_cases e:b=a
  ·rw[e,upd_same] at h;cases h
  ·rw[upd_ne e] at h;exact h
 ·rw[upd_ne (fun e=>by
   obtain⟨_,a',vs',k1,k2,_⟩:=R.pl n _ hm
   rw[hn] at k1;cases k1;rw[e,k2] at h;cases h)]
  exact h
def MtD (K:PySem.W.Frag)(r:V→List V→Hp→VK→Prop)(g:DV→List DV→Mem→Res R):Prop:=∀ (W:WX) (ρ:Pm) (G H:Hp) (σ:Slots) (μ:Mem) (v:V) (vs:List V) (x:DV) (xs:List DV) (Q:VK),Rel K ρ G H μ→DvOk K ρ G v x→DvL K ρ G vs xs →
 PostG K W ρ G H σ (fun G' H'=>rpE K ρ G' H H') Q (g x xs μ)→r v vs H Q
def TyD (K:PySem.W.Frag)(T:String)(c:DV→Mem→Bool):Prop:=∀ (ρ:Pm) (G H:Hp) (μ:Mem) (v:V) (x:DV),Rel K ρ G H μ→DvOk K ρ G v x→c x μ=true→tyV K T v H
def tyL (x:DV)(μ:Mem):Bool:=(asL μ x).isSome
def tyS (x:DV)(_:Mem):Bool:=(asStr x).isSome
theorem td_list:TyD K "list" tyL:=fun ρ G H μ v x R h e=>by
 unfold tyL at e
 cases q:asL μ x with
 | none=>rw[q] at e;cases e
 | some xs =>
  obtain⟨a,vs,rfl,h2,_⟩:=asL_ok R h q
  exact .inl ⟨rfl,vs,h2⟩
theorem td_str:TyD K "str" tyS:=fun ρ G H μ v x R h e=>by
 unfold tyS at e
 cases q:asStr x with
 | none=>rw[q] at e;cases e
 | some z =>
  rw[asStr_ok h q]
  show "str"="str"
  rfl
def eBM (c:DV→Mem→Bool)(g:DV→List DV→Mem→Res R)(f:EM)(fa:AM):EM:=fun δ μ=>(frzV f δ μ).bind fun x μ1=>if c x μ1=true then(fa δ μ1).bind fun xs μ2=>g x xs μ2 else .bad
def eBM0 (c:DV→Mem→Bool)(g:DV→List DV→Mem→Res R)(f:EM):EM:=fun δ μ=>(frzV f δ μ).bind fun x μ1=>if c x μ1=true then g x [] μ1 else .bad
theorem snd_bm {T:String}{c:DV→Mem→Bool}{r:V→List V→Hp→VK→Prop}{g:DV→List DV→Mem→Res R}{to:TE}{ta:TA}{f:EM}{fa:AM}(hT:TyD K T c)(hm:MtD K r g)(h:SndE K W to f)(ha:SndA K W ta fa):SndE K W (tBM K T r to ta) (eBM c g f fa):=fun ρ G H σ δ μ Q R E hp=>by
 refine SndG.seq (t:=to) h.toV R E hp fun x μ1 G1 H1 v t1 R1 E1 d1 hp1=>?_
 by_cases hc:c x μ1=true
 case neg=>rw[if_neg hc] at hp1;exact hp1.elim
 rw[if_pos hc] at hp1
 refine⟨hT ρ G1 H1 μ1 v x R1 d1 hc,?_⟩
 refine SndG.seq (t:=ta) ha R1 E1 (hp1.shiftE t1) fun xs μ2 G2 H2 vs t2 R2 E2 d2 hp2=>?_
 exact hm W ρ G2 H2 σ μ2 v vs x xs Q R2 (d1.mono t2.exG fun _ _ q=>q) d2 (hp2.shiftE t2)
def atPl (μ:Mem):DV→Option (Nat×List DV)
 | .loc n=>match μ[n]? with
  | some (.lst xs)=>some (n,xs)
  | _=>none
 | .dat _=>none
theorem atPl_ok {n:Nat}{xs:List DV}(R:Rel K ρ G H μ)(h:DvOk K ρ G v x)(e:atPl μ x=some (n,xs)):∃ a vs,v=.ref a∧ρ n=some a∧H a=some (.lst vs)∧DvL K ρ G vs xs∧μ[n]?=some (.lst xs)∧∀ x∈xs,x.below n:=by
 unfold atPl at e
 split at e
 ·rename_i m
  split at e
  ·rename_i ys q
   cases e
   obtain⟨a,rfl,hn⟩:=h
   obtain⟨b,c,vs,h1,h2,h3⟩:=R.pl _ _ q
   rw[hn] at h1;cases h1
   exact⟨a,vs,rfl,hn,h2,h3,q,b⟩
  ·cases e
 ·cases e
def belowB (n:Nat):DV→Bool
 | .dat _=>true
 | .loc m=>decide (m<n)
theorem belowB_ok {n:Nat}(h:belowB n x=true):x.below n:=by
 cases x with
 | dat d=>trivial
 | loc m=>exact(of_decide_eq_true h:m<n)
def dAppend (x:DV)(xs:List DV)(μ:Mem):Res R:=match atPl μ x with
 | none=>.bad
 | some (n,ys)=>match xs with
  | [y]=>if ys.length<sizeLine∧belowB n y=true then .ok (.dat .non) (μ.set n (.lst (ys++[y]))) else .bad
  | _=>.bad
theorem below_app {n:Nat}{xs ys:List DV}(h1:∀ x∈xs,x.below n)(h2:∀ x∈ys,x.below n):∀ x∈xs++ys,x.below n:=fun x hx=>(List.mem_append.mp hx).elim (h1 x) (h2 x)
theorem md_append:MtD K rAppend dAppend:=fun W ρ G H σ μ v vs x xs Q R hx hs hp=>by
 unfold dAppend at hp
 cases e:atPl μ x with
 | none=>rw[e] at hp;exact hp.elim
 | some q =>
  obtain⟨n,ys⟩:=q
  rw[e] at hp
  obtain⟨a,ws,rfl,hn,hH,hd,hm,hb⟩:=atPl_ok R hx e
  match xs,hs,hp with
  | [],_,hp=>exact hp.elim
  | _::_::_,_,hp=>exact hp.elim
  | [y],hs,hp =>
   obtain⟨u,rfl,du⟩:=hs.one
   simp only at hp
   by_cases c:ys.length<sizeLine∧belowB n y=true
   ·rw[if_pos c] at hp
    obtain⟨R2,t2⟩:=R.setL hn hm (below_app hb fun x hx=>by rw[List.mem_singleton.mp hx];exact belowB_ok c.2) (hd.append (.cons du .nil))
    exact⟨a,ws,u,rfl,rfl,hH,by rw[paired_len hd];exact c.1,hp _ _ _ t2 R2 Rp.non⟩
   ·rw[if_neg c] at hp;exact hp.elim
def rExt (K:PySem.W.Frag):V→List V→Hp→VK→Prop:=fun x vs H Q=>rExtend x vs H Q∨rExtT K x vs H Q
theorem mt_ext {X:Cx}:MtM X "list.extend" (rExt X.K):=fun pins s σ H x xs v us Q I rx rv h=>h.elim (mt_extend pins s σ H x xs v us Q I rx rv) (mt_extT pins s σ H x xs v us Q I rx rv)
def dExtend (x:DV)(xs:List DV)(μ:Mem):Res R:=match atPl μ x with
 | none=>.bad
 | some (n,ys)=>match xs with
  | [y]=>match asM μ y with
   | some zs=>if ys.length+zs.length≤sizeLine∧zs.all (belowB n)=true then .ok (.dat .non) (μ.set n (.lst (ys++zs))) else .bad
   | none=>match asT y with
    | some ds=>if ys.length+ds.length≤sizeLine then .ok (.dat .non) (μ.set n (.lst (ys++ds.map DV.dat))) else .bad
    | none=>.bad
  | _=>.bad
theorem md_ext:MtD K (rExt K) dExtend:=fun W ρ G H σ μ v vs x xs Q R hx hs hp=>by
 unfold dExtend at hp
 cases e:atPl μ x with
 | none=>rw[e] at hp;exact hp.elim
 | some q =>
  obtain⟨n,ys⟩:=q
  rw[e] at hp
  obtain⟨a,ws,rfl,hn,hH,hd,hm,hb⟩:=atPl_ok R hx e
  match xs,hs,hp with
  | [],_,hp=>exact hp.elim
  | _::_::_,_,hp=>exact hp.elim
  | [y],hs,hp =>
   obtain⟨u,rfl,du⟩:=hs.one
   simp only at hp
   cases e2:asM μ y with
   | some zs =>
    simp only[e2] at hp
    by_cases c:ys.length+zs.length≤sizeLine∧zs.all (belowB n)=true
    ·rw[if_pos c] at hp
     obtain⟨b,us,rfl,k2,k3⟩:=asM_ok R du e2
     obtain⟨R2,t2⟩:=R.setL hn hm (below_app hb fun x hx=>belowB_ok (List.all_eq_true.mp c.2 x hx)) (hd.append k3)
     exact .inl ⟨a,b,ws,us,rfl,rfl,hH,k2,by rw[paired_len hd,paired_len k3];exact c.1,hp _ _ _ t2 R2 Rp.non⟩
    ·rw[if_neg c] at hp;exact hp.elim
   | none =>
    simp only[e2] at hp
    cases e3:asT y with
    | none=>rw[e3] at hp;exact hp.elim
    | some ds =>
     simp only[e3] at hp
     by_cases c:ys.length+ds.length≤sizeLine
     ·rw[if_pos c] at hp
      obtain⟨b,us,rfl,k2,k3⟩:=asT_ok R du e3
      obtain⟨R2,t2⟩:=R.setL hn hm (below_app hb fun x hx=>by obtain⟨d,_,rfl⟩:=List.mem_map.mp hx;trivial) (hd.append (k3.dv (ρ:=ρ)))
      exact .inr ⟨a,b,ws,us,rfl,rfl,hH,k2,by rw[paired_len hd,k3.length];exact c,hp _ _ _ t2 R2 Rp.non⟩
     ·rw[if_neg c] at hp;exact hp.elim
theorem DvL.erase {vs:List V}{xs:List DV}(h:DvL K ρ G vs xs)(k:Nat):DvL K ρ G (vs.eraseIdx k) (xs.eraseIdx k):=by
 induction h generalizing k with
 | nil=>exact .nil
 | cons a b ih =>
  cases k with
  | zero=>exact b
  | succ k=>exact .cons a (ih k)
def dPop (x:DV)(xs:List DV)(μ:Mem):Res R:=match atPl μ x with
 | none=>.bad
 | some (n,ys)=>match xs with
  | [i]=>match asI i with
   | some j=>if -2^63≤j∧j<2^63 then match seqIndex? j ys.length with
     | some k=>match ys[k]? with
      | some y=>.ok (ofV y) (μ.set n (.lst (ys.eraseIdx k)))
      | none=>.bad
     | none=>.bad
    else .bad
   | none=>.bad
  | _=>.bad
theorem md_popAt:MtD K rPopAt dPop:=fun W ρ G H σ μ v vs x xs Q R hx hs hp=>by
 unfold dPop at hp
 cases e:atPl μ x with
 | none=>rw[e] at hp;exact hp.elim
 | some q =>
  obtain⟨n,ys⟩:=q
  rw[e] at hp
  obtain⟨a,ws,rfl,hn,hH,hd,hm,hb⟩:=atPl_ok R hx e
  match xs,hs,hp with
  | [],_,hp=>exact hp.elim
  | _::_::_,_,hp=>exact hp.elim
  | [i],hs,hp =>
   obtain⟨u,rfl,du⟩:=hs.one
   simp only at hp
   cases e2:asI i with
   | none=>rw[e2] at hp;exact hp.elim
   | some j =>
    simp only[e2] at hp
    by_cases c:-2^63≤j∧j<2^63
    case neg=>rw[if_neg c] at hp;exact hp.elim
    rw[if_pos c] at hp
    cases e3:seqIndex? j ys.length with
    | none=>rw[e3] at hp;exact hp.elim
    | some k =>
     simp only[e3] at hp
     cases e4:ys[k]? with
     | none=>rw[e4] at hp;exact hp.elim
     | some y =>
      rw[e4] at hp
      obtain⟨z,h1,h2⟩:=DvL.get' hd e4
      obtain⟨R2,t2⟩:=R.setL hn hm (fun x hx=>hb x (List.mem_of_mem_eraseIdx hx)) (hd.erase k)
      rw[asI_ok du e2]
      exact⟨a,ws,j,k,z,rfl,rfl,hH,c.1,c.2,by rw[paired_len hd];exact e3,h1,hp _ _ _ t2 R2 (RpR.ofV h2)⟩
def dSplit (x:DV)(xs:List DV)(μ:Mem):Res R:=match asStr x with
 | none=>.bad
 | some a=>match xs with
  | [y]=>match asStr y with
   | some b=>if(b.length==0)=false∧a.length+2≤sizeLine then .ok (.nl ((Txt.split a b).map fun s=>.dat (.str s))) μ else .bad
   | none=>.bad
  | _=>.bad
theorem dvl_strs:∀ (l:List Str),DvL K ρ G (l.map V.str) (l.map fun s=>.dat (.str s))
 | []=>.nil
 | s::l=>.cons (Rp.str s) (dvl_strs l)
theorem md_split:MtD K (fun x xs H Q=>∃ a b,x=V.str a∧xs=[V.str b]∧(b.length==0)=false∧a.length+2≤sizeLine∧rNewStrs (Txt.split a b) H Q) dSplit:=fun W ρ G H σ μ v vs x xs Q R hx hs hp=>by
 unfold dSplit at hp
 cases e:asStr x with
 | none=>rw[e] at hp;exact hp.elim
 | some a =>
  rw[e] at hp
  match xs,hs,hp with
  | [],_,hp=>exact hp.elim
  | _::_::_,_,hp=>exact hp.elim
  | [y],hs,hp =>
   obtain⟨u,rfl,du⟩:=hs.one
   simp only at hp
   cases e2:asStr y with
   | none=>rw[e2] at hp;exact hp.elim
   | some b =>
    simp only[e2] at hp
    by_cases c:(b.length==0)=false∧a.length+2≤sizeLine
    case neg=>rw[if_neg c] at hp;exact hp.elim
    rw[if_pos c] at hp
    rw[asStr_ok du e2,asStr_ok hx e]
    exact⟨a,b,rfl,rfl,c.1,c.2,fun p hn=>new_list R (Tr.refl _ _ _) hn (dvl_strs _) hp⟩
end
section
variable {X:Cx}{W:WX}{o e:Expr}{es:List Expr}{to:TE}{ta:TA}{name:Str}{apos cpos:Pos}{T id:String}{r:V→List V→Hp→VK→Prop}{c:DV→Mem→Bool}{g:DV→List DV→Mem→Res R}{f:EM}{fa:AM}
theorem pm_bm (hp:PlainAttrs T) (hsl:Slot T name id) (hty:typeOf (Value.builtin id)=pure (Value.type "method_descriptor")) (hm:MtR X id r) (hT:TyD X.K T c) (hd:MtD X.K r g) (ho:PM X W o to f) (ha:PMA X W (e::es) ta fa)
  (h1:attributeBase o name X.env (eval o X.env)=eval o X.env:=by rfl)
  (h2:(((((backTo cpos (starEach (e::es) X.env)).all fun x=>!x.fst)&&(backToKw cpos (keywordEach [] X.env)).all fun x=>x.fst.isSome)&&decide (((e::es).length+([]:List Keyword).length+if([]:List Keyword).isEmpty=true then 0 else 1)<30))=true):=by rfl)
  (h3:(apos.endLine==cpos.line)=true:=by rfl) (h4:starEach (e::es) X.env=(false,eval e X.env)::starEach es X.env:=by rfl) (h5:((backTo cpos (starEach es X.env)).any fun x=>x.fst)=false:=by rfl) :
  PM X W ((o.Attribute name apos).Call (e::es) [] cpos) (tBM X.K T r to ta) (eBM c g f fa):=⟨pe_bm hp hsl hty hm ho.pe ha.pe h1 h2 h3 h4 h5,snd_bm hT hd ho.sd ha.sd⟩
end
def rGetL (K:PySem.W.Frag):V→V→Hp→VK→Prop:=fun o i H Q=>∃ p xs k v,o=.ref p∧i=.int k∧SqL K H p xs∧0≤k∧k<2^63∧xs[k.toNat]?=some v∧Q v H
theorem pget_list {X:Cx}:PGet X (rGetL X.K):=by
 intro pins s σ H o i ov iv Q I ro ri h
 obtain⟨p,xs,k,v,rfl,rfl,hq,h0,h1,hx,q⟩:=h
 cases ro
 obtain⟨t,rfl⟩:=ri
 obtain⟨its,rv,pl,hz⟩:=I.list hq
 obtain⟨u,hu,ru⟩:=rv.get hx
 exact wpAny_getItem_list pl.isList h0 h1 (by simpa using hu) ⟨v,H,I,ru,q⟩
section
variable {K:PySem.W.Frag}{W:WX}{N M:Nat}{ρ:Pm}{G H:Hp}{σ:Slots}{δ:Env}{μ:Mem}{Q:VK}{v w:V}{x y:DV}
theorem DvL.set {vs:List V}{xs:List DV}(h:DvL K ρ G vs xs)(k:Nat)(d:DvOk K ρ G v x):DvL K ρ G (vs.set k v) (xs.set k x):=by
 induction h generalizing k with
 | nil=>exact .nil
 | cons a b ih =>
  cases k with
  | zero=>exact .cons d b
  | succ k=>exact .cons a (ih k)
def setPl (μ:Mem)(x i y:DV):Option Mem:=match atPl μ x with
 | none=>none
 | some (n,ys)=>match asI i with
  | none=>none
  | some k=>match ixN ys.length k with
   | some j=>if belowB n y=true then some (μ.set n (.lst (ys.set j y))) else none
   | none=>none
theorem setPl_ok {i:DV}{vi:V}{μ':Mem}{Qh:Hp→Prop}(R:Rel K ρ G H μ)(hx:DvOk K ρ G v x)(hi:DvOk K ρ G vi i)(hy:DvOk K ρ G w y)(e:setPl μ x i y=some μ')
  (go:∀ H',Tr ρ G H G H'→Rel K ρ G H' μ'→Qh H'):rSetL v vi w H Qh:=by
 unfold setPl at e
 cases e1:atPl μ x with
 | none=>rw[e1] at e;cases e
 | some q =>
  obtain⟨n,ys⟩:=q
  simp only[e1] at e
  obtain⟨a,ws,rfl,hn,hH,hd,hm,hb⟩:=atPl_ok R hx e1
  cases e2:asI i with
  | none=>rw[e2] at e;cases e
  | some k =>
   simp only[e2] at e
   cases e3:ixN ys.length k with
   | none=>rw[e3] at e;cases e
   | some j =>
    simp only[e3] at e
    by_cases c:belowB n y=true
    ·rw[if_pos c] at e;cases e
     obtain⟨R2,t2⟩:=R.setL hn hm (fun x hx=>(List.mem_or_eq_of_mem_set hx).elim (hb x) fun z=>by rw[z];exact belowB_ok c) (hd.set j hy)
     exact⟨a,ws,k,j,rfl,asI_ok hi e2,hH,by rw[paired_len hd];exact e3,go _ t2 R2⟩
    ·rw[if_neg c] at e;cases e
def gSet (fo fi fe:EM):SM:=fun _ δ μ=>lift ((frzV fe δ μ).bind fun y μ1=>(frzV fo δ μ1).bind fun x μ2=>(frzV fi δ μ2).bind fun i μ3=>match setPl μ3 x i y with
 | some μ4=>.ok () μ4
 | none=>.bad) δ fun _ μ4=>.next δ μ4
theorem SndG.stm2 {α β γ:Type}{t:Slots→Hp→(β→Hp→Prop)→Prop}{f:Env→Mem→Res α}{rp:Pm→Hp→Hp→Hp→β→α→Prop}{Dn:Ends}
  (h:SndG K W t f rp) (R:Rel K ρ G H μ) (E:EnvOk K ρ G σ δ) {k:α→Mem→Res γ} {kk:γ→Mem→Out}
  (hp:PostS K W N ρ G H Dn (lift ((f δ μ).bind k) δ kk)) {Q:β→Hp→Prop}
  (go:∀ r μ' G' H' v,Tr ρ G H G' H'→Rel K ρ G' H' μ'→EnvOk K ρ G' σ δ→rp ρ G' H H' v r→PostS K W N ρ G' H' Dn (lift (k r μ') δ kk)→Q v H'):t σ H Q:=by
 refine h ρ G H σ δ μ Q R E ?_
 cases e:f δ μ with
 | ok r μ'=>rw[e] at hp;exact fun G' H' v t' R' q=>go r μ' G' H' v t' R' (E.mono t'.exG) q (PostS.shift t'.toS hp)
 | exc x μ'=>rw[e] at hp;exact fun G' H' cls d t' R' q=>hp ρ G' H' σ cls d t'.toS R' (E.mono t'.exG) q
 | bad=>rw[e] at hp;exact hp
theorem snd_set {to ti te:TE}{fo fi fe:EM}(ho:SndE K W to fo)(hi:SndE K W ti fi)(he:SndE K W te fe):SndS K W (tAsg te (gSub to ti rSetL)) (gSet fo fi fe):=fun N ρ G H σ δ μ Dn R E hp=>by
 refine SndG.stm2 (t:=te) he.toV R E hp fun y μ1 G1 H1 w t1 R1 E1 d1 hp1=>?_
 refine SndG.stm2 (t:=to) ho.toV R1 E1 hp1 fun x μ2 G2 H2 v t2 R2 E2 d2 hp2=>?_
 refine SndG.stm2 (t:=ti) hi.toV R2 E2 hp2 fun i μ3 G3 H3 vi t3 R3 E3 d3 hp3=>?_
 cases e:setPl μ3 x i y with
 | none=>rw[e] at hp3;exact hp3.elim
 | some μ4 =>
  rw[e] at hp3
  exact setPl_ok R3 (d2.mono t3.exG fun _ _ q=>q) d3 (d1.mono (t2.exG.trans t3.exG) fun _ _ q=>q) e fun H' t4 R4=>hp3 ρ G3 H' σ t4.toS R4 E3
def getPl (μ:Mem)(x i:DV):Option Int:=match asL μ x with
 | none=>none
 | some xs=>match asI i with
  | none=>none
  | some k=>if 0≤k∧k<2^63 then match xs[k.toNat]? with
    | some y=>asI y
    | none=>none
   else none
def gAugS (op:Int→Int→Int)(fo fi fe:EM):SM:=fun _ δ μ=>lift ((frzV fo δ μ).bind fun x μ1=>(frzV fi δ μ1).bind fun i μ2=>match getPl μ2 x i with
 | none=>.bad
 | some a=>(frzV fe δ μ2).bind fun y μ3=>match asI y with
  | none=>.bad
  | some b=>match setPl μ3 x i (.dat (.int (op a b))) with
   | some μ4=>.ok () μ4
   | none=>.bad) δ fun _ μ4=>.next δ μ4
theorem snd_augS {to ti te:TE}{fo fi fe:EM}{op:Int→Int→Int}(ho:SndE K W to fo)(hi:SndE K W ti fi)(he:SndE K W te fe):SndS K W (tAugS to ti te (rGetL K) (ipI op) rSetL) (gAugS op fo fi fe):=fun N ρ G H σ δ μ Dn R E hp=>by
 refine SndG.stm2 (t:=to) ho.toV R E hp fun x μ1 G1 H1 v t1 R1 E1 d1 hp1=>?_
 refine SndG.stm2 (t:=ti) hi.toV R1 E1 hp1 fun i μ2 G2 H2 vi t2 R2 E2 d2 hp2=>?_
 cases eg:getPl μ2 x i with
 | none=>rw[eg] at hp2;exact hp2.elim
 | some a =>
  simp only[eg] at hp2
  have d1':=d1.mono t2.exG fun _ _ q=>q
  unfold getPl at eg
  cases e1:asL μ2 x with
  | none=>rw[e1] at eg;cases eg
  | some xs =>
   simp only[e1] at eg
   cases e2:asI i with
   | none=>rw[e2] at eg;cases eg
   | some k =>
    simp only[e2] at eg
    by_cases c:0≤k∧k<2^63
    case neg=>rw[if_neg c] at eg;cases eg
    rw[if_pos c] at eg
    cases e3:xs[k.toNat]? with
    | none=>rw[e3] at eg;cases eg
    | some z =>
     simp only[e3] at eg
     obtain⟨p,vs,rfl,hq,hd⟩:=asL_ok R2 d1' e1
     obtain⟨u,h1,h2⟩:=DvL.get' hd e3
     refine⟨p,vs,k,u,rfl,asI_ok d2 e2,hq,c.1,c.2,h1,?_⟩
     rw[asI_ok h2 eg]
     refine SndG.stm2 (t:=te) he.toV R2 E2 hp2 fun y μ3 G3 H3 w t3 R3 E3 d3 hp3=>?_
     cases e4:asI y with
     | none=>rw[e4] at hp3;exact hp3.elim
     | some b =>
      simp only[e4] at hp3
      refine⟨a,b,rfl,asI_ok d3 e4,?_⟩
      cases e5:setPl μ3 x i (.dat (.int (op a b))) with
      | none=>rw[e5] at hp3;exact hp3.elim
      | some μ4 =>
       rw[e5] at hp3
       exact setPl_ok R3 (d1'.mono t3.exG fun _ _ q=>q) (d2.mono t3.exG fun _ _ q=>q) (y:=.dat (.int (op a b))) (Rp.int _) e5 fun H' t4 R4=>hp3 ρ G3 H' σ t4.toS R4 E3
def gAug (i:Nat)(op:Int→Int→Int)(fe:EM):SM:=fun _ δ μ=>match δ[i]? with
 | some (some x)=>match asI x with
  | some a=>lift (frzV fe δ μ) δ fun y μ'=>match asI y with
   | some b=>.next (δ.set i (some (.dat (.int (op a b))))) μ'
   | none=>.bad
  | none=>.bad
 | _=>.bad
def gPar (i j:Nat)(fa:AM):SM:=fun _ δ μ=>lift (fa δ μ) δ fun xs μ'=>match xs with
 | [x,y]=>.next ((δ.set i (some x)).set j (some y)) μ'
 | _=>.bad
theorem snd_par {ta:TA}{fa:AM}(i j:Nat)(ha:SndA K W ta fa):SndS K W (tPar i j ta) (gPar i j fa):=fun N ρ G H σ δ μ Dn R E hp=>by
 refine SndG.stm (t:=ta) ha R E hp fun xs μ' G' H' vs t' R' E' d hp'=>?_
 match xs,d,hp' with
 | [],_,hp'=>exact hp'.elim
 | [_],_,hp'=>exact hp'.elim
 | _::_::_::_,_,hp'=>exact hp'.elim
 | [x,y],d,hp' =>
  obtain⟨v,w,rfl,dx,dy⟩:=d.two
  exact⟨v,w,rfl,hp' ρ G' H' _ t'.toS R' ((E'.set i dx).set j dy)⟩
def gPar2 (i j:Nat)(f g:EM):SM:=fun N δ μ=>lift (f δ μ) δ fun r μ1=>match bindR N i r δ μ1 with
 | .next δ1 μ2=>lift (g δ μ2) δ fun r2 μ3=>bindR N j r2 δ1 μ3
 | _=>.bad
end
section
variable {X:Cx}{W:WX}{pos p tpos px py pt pt2:Pos}{e o i a b:Expr}{te to ti:TE}{f fo fi:EM}{ta:TA}{fa:AM}
theorem sm_set (ho:PM X W o to fo)(hi:PM X W i ti fi)(he:PM X W e te f)
  (hs:∀ (v:Value),assign (o.Subscript i p) X.env v=(do
        let ov ←holding [v] (eval o X.env)
        let iv ←holding [v,ov] (eval i X.env)
        standAt p
        holding [v,ov,iv] (setItem ov iv v)
        release [v,ov,iv] []):=by intro _;rfl)
  (a1:swapsWithSole [o.Subscript i p] e pos.line X.env=pure false:=by rfl) (a2:swappedStores [o.Subscript i p] e X.env=pure none:=by rfl) (a3:List.map (fun x=>x.snd) (assignEach [o.Subscript i p] X.env)=[assign (o.Subscript i p) X.env]:=by rfl) :
  PSM X W (.Assign [o.Subscript i p] e pos) (tAsg te (gSub to ti rSetL)) (gSet fo fi f):=⟨ps_asg he.pe (pg_sub ho.pe hi.pe set_list hs) a1 a2 a3,snd_set ho.sd hi.sd he.sd⟩
theorem sm_augS (ho:PM X W o to fo)(hi:PM X W i ti fi)(he:PM X W e te f)
  (hs:∀ (ov iv new:Value),augStore i ov iv new=(do
           holding [new,ov,iv] (setItem ov iv new)
           release [new,ov,iv] []
           pure Flow.next):=by intro _ _ _;rfl) :
  PSM X W (.AugAssign (o.Subscript i tpos) .Add e pos) (tAugS to ti te (rGetL X.K) (ipI fun i j=>i+j) rSetL) (gAugS (fun i j=>i+j) fo fi f):=⟨ps_augS ho.pe hi.pe pget_list he.pe ip_add set_list hs,snd_augS ho.sd hi.sd he.sd⟩
theorem sm_par {x y:Str}{kt k2:Nat}(n m:Nat)(hc:X.calm=true)(hN:X.N.Nodup)(ha:PMA X W [a,b] ta fa)(hi:X.N[n]?=some x:=by rfl)(hj:X.N[m]?=some y:=by rfl)(hne:n≠m:=by decide)
  (hx:X.env.scope.names.lookup x=some .local:=by rfl) (hy:X.env.scope.names.lookup y=some .local:=by rfl)
  (hs:swappedStores [Expr.Tuple [Expr.Name x px,Expr.Name y py] kt pt] (Expr.Tuple [a,b] k2 pt2) X.env=pure (some [x,y]):=by rfl)
  (hs2:swapsWithSole [Expr.Tuple [Expr.Name x px,Expr.Name y py] kt pt] (Expr.Tuple [a,b] k2 pt2) pos.line X.env=pure false:=by rfl) :
  PSM X W (.Assign [Expr.Tuple [Expr.Name x px,Expr.Name y py] kt pt] (Expr.Tuple [a,b] k2 pt2) pos) (tPar n m ta) (gPar n m fa):=⟨ps_par hc hN hi hj hne hx hy ha.pe hs hs2,snd_par n m ha.sd⟩
theorem pm_cb {x:Str}{es:List Expr}{id:String}{r:List V→Hp→VK→Prop}{g:List DV→Mem→Res R}(hr:CallR X (.builtin id) r)(hd:CallD X.K r g)(hg:Gl X x)(hm:X.mg x=none)(hv:bootBuiltins x=some (.builtin id))(ha:PMA X W (e::es) ta fa)
  (hn:x≠"__name__":=by decide) (hdb:(x==("__debug__":Str))=false:=by decide) (he:starEach (e::es) X.env=(false,eval e X.env)::starEach es X.env:=by rfl) (hpl:(backTo pos (starEach es X.env)).any (·.1)=false:=by rfl) :
  PM X W (.Call (.Name x p) (e::es) [] pos) (tCB r ta) (eCB g fa):=⟨pe_callB hr hg hm hv ha.pe hn hdb he hpl,snd_cb hd ha.sd⟩
end
section
variable {K:PySem.W.Frag}{W:WX}{N M:Nat}{ρ:Pm}{G H:Hp}{σ:Slots}{δ:Env}{μ:Mem}{Q:VK}{v w:V}{x y:DV}
theorem bindR_ok {r:R}{i:Nat}{G0 H0:Hp}{δ1:Env}{μ2:Mem}(R':Rel K ρ G H μ)(t':TrS N ρ G0 H0 ρ G H)(d:RpR K ρ G H0 H v r)(e:bindR N i r δ μ=.next δ1 μ2) :
  ∃ ρ1 x,TrS N ρ G0 H0 ρ1 G H∧Rel K ρ1 G H μ2∧(∀ n b,ρ n=some b→ρ1 n=some b)∧DvOk K ρ1 G v x∧δ1=δ.set i (some x):=by
 cases r with
 | dat d'=>cases e;exact⟨ρ,.dat d',t',R',fun _ _ q=>q,d,rfl⟩
 | loc n=>cases e;exact⟨ρ,.loc n,t',R',fun _ _ q=>q,d,rfl⟩
 | nl xs =>
  obtain⟨a,vs,rfl,h2,h3,h4,h5,h6⟩:=d
  have up:∀ n b,ρ n=some b→addP ρ μ.length a n=some b:=fun n b q=>by
   unfold addP;rw[if_neg (Nat.ne_of_lt (R'.lt n b q))];exact q
  unfold bindR at e
  by_cases hN:N≤μ.length
  case neg=>simp only[if_neg hN] at e;cases e
  simp only[if_pos hN] at e
  cases e
  obtain⟨R2,t2,up,at_⟩:=R'.alloc (p:=.lst xs) hN t' (by rw[h2];simp) h4 h5 h6 ⟨DvL.below R' h3,a,vs,by unfold addP;rw[if_pos rfl],h2,DvL.mono (Ex.refl _) up h3⟩
  exact⟨_,.loc μ.length,t2,R2,up,⟨a,rfl,at_⟩,rfl⟩
 | nk kvs =>
  obtain⟨a,o,vs,rfl,h2,hk,h3,h4,h5,h6⟩:=d
  have up:∀ n b,ρ n=some b→addP ρ μ.length a n=some b:=fun n b q=>by
   unfold addP;rw[if_neg (Nat.ne_of_lt (R'.lt n b q))];exact q
  have bl:∀ p∈kvs,p.2.below μ.length:=fun p hp=>DvL.below R' h3 p.2 (List.mem_map.mpr ⟨p,hp,rfl⟩)
  unfold bindR at e
  by_cases hN:N≤μ.length
  case neg=>simp only[if_neg hN] at e;cases e
  simp only[if_pos hN] at e
  cases e
  obtain⟨R2,t2,up,at_⟩:=R'.alloc (p:=.dct kvs) hN t' (by rw[h2];simp) h4 h5 h6 ⟨bl,a,o,vs,by unfold addP;rw[if_pos rfl],h2,hk,DvL.mono (Ex.refl _) up h3⟩
  exact⟨_,.loc μ.length,t2,R2,up,⟨a,rfl,at_⟩,rfl⟩
theorem bindR_next {r:R}{i:Nat}:(∃ δ1 μ2,bindR N i r δ μ=.next δ1 μ2)∨bindR N i r δ μ=.bad:=by
 cases r with
 | dat d=>exact .inl ⟨_,_,rfl⟩
 | loc d=>exact .inl ⟨_,_,rfl⟩
 | nl xs =>
  by_cases h:N≤μ.length
  ·exact .inl ⟨_,_,if_pos h⟩
  ·exact .inr (if_neg h)
 | nk xs =>
  by_cases h:N≤μ.length
  ·exact .inl ⟨_,_,if_pos h⟩
  ·exact .inr (if_neg h)
theorem snd_par2 {t u:TE}{f g:EM}(i j:Nat)(h1:SndE K W t f)(h2:SndE K W u g):SndS K W (tPar i j (tCons t (tCons u tNil))) (gPar2 i j f g):=fun N ρ G H σ δ μ Dn R E hp=>by
 refine SndG.stm (t:=t) h1 R E hp fun r μ1 G1 H1 v t1 R1 E1 d1 hp1=>?_
 rcases bindR_next (N:=N) (r:=r) (i:=i) (δ:=δ) (μ:=μ1) with⟨δ1,μ2,e⟩|e
 case inr=>rw[e] at hp1;exact hp1.elim
 rw[e] at hp1
 obtain⟨ρ1,x,T1,R2,up,dx,rfl⟩:=bindR_ok R1 (t1.toS (N:=N)) d1 e
 have E2:EnvOk K ρ1 G1 σ δ:=E1.up (Ex.refl _) up
 refine SndG.stm (t:=u) h2 R2 E2 (PostS.shift T1 hp1) fun r2 μ3 G3 H3 w t3 R3 E3 d3 hp3=>?_
 refine⟨v,w,rfl,?_⟩
 exact snd_bindR (σ:=σ.set i (some v)) j R3 (E3.set i (dx.mono t3.exG fun _ _ q=>q)) t3.toS d3 hp3
def eChain (g g':DV→DV→Mem→Res R)(fa fb fc:EM):EM:=fun δ μ=>(frzV fa δ μ).bind fun x μ1=>(frzV fb δ μ1).bind fun y μ2=>(g x y μ2).bind fun r μ3=>match asB r with
 | some true=>(frzV fc δ μ3).bind fun z μ4=>g' y z μ4
 | some false=>.ok (.dat (.bl false)) μ3
 | none=>.bad
theorem snd_chain {r r':R2}{g g':DV→DV→Mem→Res R}{ta tb tc:TE}{fa fb fc:EM}(ho:OpD K r g)(ho':OpD K r' g')(ha:SndE K W ta fa)(hb:SndE K W tb fb)(hc:SndE K W tc fc):SndE K W (tChain r r' ta tb tc) (eChain g g' fa fb fc):=fun ρ G H σ δ μ Q R E hp=>by
 refine SndG.seq (t:=ta) ha.toV R E hp fun x μ1 G1 H1 v t1 R1 E1 d1 hp1=>?_
 refine SndG.seq (t:=tb) hb.toV R1 E1 (hp1.shiftE t1) fun y μ2 G2 H2 w t2 R2 E2 d2 hp2=>?_
 have hp2:=hp2.shiftE t2
 refine ho W ρ G2 H2 σ μ2 v w x y _ R2 (d1.mono t2.exG fun _ _ q=>q) d2 ?_
 cases e:g x y μ2 with
 | exc z μ'=>rw[e] at hp2;exact hp2
 | bad=>rw[e] at hp2;exact hp2
 | ok r0 μ3 =>
  rw[e] at hp2
  intro G3 H3 u t3 R3 d3
  simp only[Res.bind_ok] at hp2
  cases eb:asB r0 with
  | none=>rw[eb] at hp2;exact hp2.elim
  | some b =>
   rw[eb] at hp2
   refine⟨b,asB_ok d3 eb,?_⟩
   cases b with
   | false=>exact hp2 G3 H3 _ t3 R3 (Rp.bl false)
   | true =>
    refine SndG.seq (t:=tc) hc.toV R3 (E2.mono t3.exG) (hp2.shiftE t3) fun z μ4 G4 H4 zv t4 R4 E4 d4 hp4=>?_
    exact ho' W ρ G4 H4 σ μ4 w zv y z Q R4 (d2.mono (t3.exG.trans t4.exG) fun _ _ q=>q) d4 (hp4.shiftE t4)
end
section
variable {X:Cx}{W:WX}{pos p tpos px py pt pt2 spos:Pos}{e o i a b c:Expr}{te to ti ta tb tc:TE}{f fo fi fa fb fc:EM}{tA:TA}{fA:AM}
theorem sm_par2 {x y:Str}{kt k2:Nat}(n m:Nat)(hc:X.calm=true)(hN:X.N.Nodup)(ha:PM X W a ta fa)(hb:PM X W b tb fb)(hi:X.N[n]?=some x:=by rfl)(hj:X.N[m]?=some y:=by rfl)(hne:n≠m:=by decide)
  (hx:X.env.scope.names.lookup x=some .local:=by rfl) (hy:X.env.scope.names.lookup y=some .local:=by rfl)
  (hs:swappedStores [Expr.Tuple [Expr.Name x px,Expr.Name y py] kt pt] (Expr.Tuple [a,b] k2 pt2) X.env=pure (some [x,y]):=by rfl)
  (hs2:swapsWithSole [Expr.Tuple [Expr.Name x px,Expr.Name y py] kt pt] (Expr.Tuple [a,b] k2 pt2) pos.line X.env=pure false:=by rfl)
  (h1:starEach [a,b] X.env=(false,eval a X.env)::starEach [b] X.env:=by rfl) (h2:starEach [b] X.env=(false,eval b X.env)::starEach [] X.env:=by rfl) :
  PSM X W (.Assign [Expr.Tuple [Expr.Name x px,Expr.Name y py] kt pt] (Expr.Tuple [a,b] k2 pt2) pos) (tPar n m (tCons ta (tCons tb tNil))) (gPar2 n m fa fb):=⟨ps_par hc hN hi hj hne hx hy (pa_cons ha.pe (pa_cons hb.pe pa_nil h2) h1) hs hs2,snd_par2 n m ha.sd hb.sd⟩
theorem pm_ct {x:Str}{es:List Expr}{T:String}{r:List V→Hp→VK→Prop}{g:List DV→Mem→Res R}(hr:CallR X (.type T) r)(hd:CallD X.K r g)(hg:Gl X x)(hm:X.mg x=none)(hv:bootBuiltins x=some (.type T))(ha:PMA X W (e::es) tA fA)
  (hn:x≠"__name__":=by decide) (hdb:(x==("__debug__":Str))=false:=by decide) (he:starEach (e::es) X.env=(false,eval e X.env)::starEach es X.env:=by rfl) (hpl:(backTo pos (starEach es X.env)).any (·.1)=false:=by rfl) :
  PM X W (.Call (.Name x p) (e::es) [] pos) (tCB r tA) (eCB g fA):=⟨pe_callTy hr hg hm hv ha.pe hn hdb he hpl,snd_cb hd ha.sd⟩
theorem pm_chain {op op':CmpOp}{r r':R2}{g g':DV→DV→Mem→Res R}(ho:OpR X (compareOp op) r)(hd:OpD X.K r g)(ho':OpR X (compareOp op') r')(hd':OpD X.K r' g')(ha:PM X W a ta fa)(hb:PM X W b tb fb)(hc:PM X W c tc fc)(hm:lastMarks [op,op'] [b,c]=false:=by rfl) :
  PM X W (.Compare a [op,op'] [b,c] pos) (tChain r r' ta tb tc) (eChain g g' fa fb fc):=⟨pe_chain ho ho' ha.pe hb.pe hc.pe hm,snd_chain hd hd' ha.sd hb.sd hc.sd⟩
theorem pt_chain {op op':CmpOp}{r r':R2}{g g':DV→DV→Mem→Res R}(ho:OpR X (compareOp op) r)(hd:OpD X.K r g)(ho':OpR X (compareOp op') r')(hd':OpD X.K r' g')(ha:PM X W a ta fa)(hb:PM X W b tb fb)(hc:PM X W c tc fc)(hm:lastMarks [op,op'] [b,c]=false:=by rfl) :
  PMT X W (.Compare a [op,op'] [b,c] pos) (tTest (tChain r r' ta tb tc)) (tmB (eChain g g' fa fb fc)):=⟨L2.pt_chain ho ho' ha.pe hb.pe hc.pe hm,snd_tmB (snd_chain hd hd' ha.sd hb.sd hc.sd) fun _ _ _ h=>h⟩
theorem sm_lc (fresh:Bool){j:Nat}{y:Str}{elt tg iter:Expr}{ifs:List Expr}{scope:Scope}{own:List (Str×Nat)}{wi:TI}{fI:IM}{g:TG}{h:D→Env→Option Env}{tv:List Nat}{tt:TT}{ft:TM}{fe:EM}(hc:X.calm=true)(hN:X.N.Nodup)(hy:X.N[j]?=some y)(hyl:X.env.scope.names.lookup y=some .local)
  (hsw:swapsWith (.ListComp elt [⟨tg,iter,ifs,0⟩] scope pos) (some (.Name y py)) spos.line X.env=pure true)
  (hi:PMI X W tg iter wi fI) (ok:BlkOk X.N X.env.scope scope own)
  (hg:∀ (s:Shared) (H:Hp) (C:Addr) (cl:List (Str×Addr)) (fp:List Addr),PMG (X.blk s H scope (compEnvC scope cl C X.env) fp) tg g h tv)
  (hv:∀ i∈tv,i∈own.map (·.2))
  (ht:∀ (s:Shared) (H:Hp) (C:Addr) (cl:List (Str×Addr)) (fp:List Addr),PMTs (X.blk s H scope (compEnvC scope cl C X.env) fp) WF ifs tt ft)
  (he:∀ (s:Shared) (H:Hp) (C:Addr) (cl:List (Str×Addr)) (fp:List Addr),PM (X.blk s H scope (compEnvC scope cl C X.env) fp) WF elt te fe)
  (hs:∀ x,foldedSetIterable iter X.env x=pure x:=by intro _;rfl) :
  PSM X W (.Assign [.Name y py] (.ListComp elt [⟨tg,iter,ifs,0⟩] scope pos) spos) (tAsg (tLc wi g tt te (own.map (·.2))) (gName j)) (if fresh=true then gNew j (eLc fI h ft fe (own.map (·.2))) else gAsg j (eLc fI h ft fe (own.map (·.2)))):=by
 have sd:SndE X.K W (tLc wi g tt te (own.map (·.2))) (eLc fI h ft fe (own.map (·.2))):=snd_lc hi.sd (hg X.s_0 X.H_0 0 [] []).ok hv (ht X.s_0 X.H_0 0 [] []).sd (he X.s_0 X.H_0 0 [] []).sd
 refine⟨ps_setLc hc hN hy hyl hsw hi.pi ok (fun s H C cl fp=>(hg s H C cl fp).pg) (fun s H C cl fp=>(ht s H C cl fp).pe) (fun s H C cl fp=>(he s H C cl fp).pe) hs,?_⟩
 cases fresh with
 | true=>exact snd_new j sd
 | false=>exact snd_asg j sd
end
section
variable {K:PySem.W.Frag}{W:WX}{N M:Nat}{ρ:Pm}{G H:Hp}{σ:Slots}{δ:Env}{μ:Mem}{Q:VK}{v w:V}{x y:DV}
def gTgt (h:D→Env→Option Env)(f:EM):SM:=fun _ δ μ=>lift (frzV f δ μ) δ fun x μ'=>match x with
 | .dat d=>match h d δ with
  | some δ'=>.next δ' μ'
  | none=>.bad
 | .loc _=>.bad
theorem snd_tgt {te:TE}{f:EM}{g:TG}{h:D→Env→Option Env}{ts:List Nat}(hg:TgOk K g h ts)(he:SndE K W te f):SndS K W (tAsg te g) (gTgt h f):=fun N ρ G H σ δ μ Dn R E hp=>by
 refine SndG.stm (t:=te) he.toV R E hp fun x μ' G' H' v t' R' E' d hp'=>?_
 cases x with
 | loc n=>exact hp'.elim
 | dat d0 =>
  simp only at hp'
  cases e:h d0 δ with
  | none=>rw[e] at hp';exact hp'.elim
  | some δ' =>
   rw[e] at hp'
   exact hg ρ G' H' μ' σ δ δ' v d0 _ R' E' d e fun σ' E2 _ _=>hp' ρ G' H' σ' t'.toS R' E2
def newPl (N:Nat)(r:R)(μ:Mem):Option (DV×Mem):=match r with
 | .dat d=>some (.dat d,μ)
 | .loc n=>some (.loc n,μ)
 | .nl xs=>if N≤μ.length then some (.loc μ.length,μ++[.lst xs]) else none
 | .nk kvs=>if N≤μ.length then some (.loc μ.length,μ++[.dct kvs]) else none
theorem newPl_ok {r:R}{G0 H0:Hp}{μ2:Mem}(R':Rel K ρ G H μ)(t':TrS N ρ G0 H0 ρ G H)(d:RpR K ρ G H0 H v r)(e:newPl N r μ=some (x,μ2)) :
  ∃ ρ1,TrS N ρ G0 H0 ρ1 G H∧Rel K ρ1 G H μ2∧(∀ n b,ρ n=some b→ρ1 n=some b)∧DvOk K ρ1 G v x:=by
 have key:bindR N 0 r [none] μ=.next [some x] μ2:=by
  cases r with
  | dat d=>cases e;rfl
  | loc n=>cases e;rfl
  | nl xs =>
   simp only[newPl] at e
   by_cases h:N≤μ.length
   ·rw[if_pos h] at e;cases e;exact if_pos h
   ·rw[if_neg h] at e;cases e
  | nk xs =>
   simp only[newPl] at e
   by_cases h:N≤μ.length
   ·rw[if_pos h] at e;cases e;exact if_pos h
   ·rw[if_neg h] at e;cases e
 obtain⟨ρ1,y,h1,h2,h3,h4,h5⟩:=bindR_ok R' t' d key
 cases h5
 exact⟨ρ1,h1,h2,h3,h4⟩
abbrev NM:=Nat→Env→Mem→Res (List DV)
def nNil:NM:=fun _ _ μ=>.ok [] μ
def nCons (f:EM)(g:NM):NM:=fun N δ μ=>(f δ μ).bind fun r μ1=>match newPl N r μ1 with
 | none=>.bad
 | some (x,μ2)=>(g N δ μ2).bind fun xs μ3=>.ok (x::xs) μ3
def SndN (K:PySem.W.Frag)(W:WX)(t:TA)(f:NM):Prop:=∀ (N:Nat) (ρ:Pm) (G H:Hp) (σ:Slots) (δ:Env) (μ:Mem) (Q:List V→Hp→Prop),Rel K ρ G H μ→EnvOk K ρ G σ δ →
 (match f N δ μ with
  | .ok xs μ'=>∀ ρ' G' H' vs,TrS N ρ G H ρ' G' H'→Rel K ρ' G' H' μ'→(∀ n b,ρ n=some b→ρ' n=some b)→DvL K ρ' G' vs xs→Q vs H'
  | .exc x μ'=>∀ ρ' G' H' cls d,TrS N ρ G H ρ' G' H'→Rel K ρ' G' H' μ'→(∀ n b,ρ n=some b→ρ' n=some b)→XcOk K G' H' x cls d→W cls d σ H'
  | .bad=>False)→t σ H Q
theorem snd_nnil:SndN K W tNil nNil:=fun N ρ G H σ δ μ Q R E hp=>hp ρ G H [] (TrS.refl _ _ _ _) R (fun _ _ q=>q) .nil
theorem snd_ncons {t:TE}{ts:TA}{f:EM}{g:NM}(h:SndE K W t f)(hs:SndN K W ts g):SndN K W (tCons t ts) (nCons f g):=fun N ρ G H σ δ μ Q R E hp=>by
 unfold nCons at hp
 refine h ρ G H σ δ μ _ R E ?_
 cases e:f δ μ with
 | bad=>rw[e] at hp;exact hp
 | exc x μ'=>rw[e] at hp;exact fun G' H' cls d t' R' q=>hp ρ G' H' cls d t'.toS R' (fun _ _ q=>q) q
 | ok r μ1 =>
  rw[e] at hp
  intro G1 H1 v t1 R1 d1
  simp only[Res.bind_ok] at hp
  cases e2:newPl N r μ1 with
  | none=>rw[e2] at hp;exact hp.elim
  | some q =>
   obtain⟨x,μ2⟩:=q
   rw[e2] at hp
   obtain⟨ρ1,T1,R2,up,dx⟩:=newPl_ok R1 (t1.toS (N:=N)) d1 e2
   refine hs N ρ1 G1 H1 σ δ μ2 _ R2 ((E.mono t1.exG).up (Ex.refl _) up) ?_
   simp only at hp
   cases e3:g N δ μ2 with
   | bad=>rw[e3] at hp;exact hp
   | exc z μ3 =>
    rw[e3] at hp
    exact fun ρ' G' H' cls d t' R' up' q=>hp ρ' G' H' cls d (T1.trans t') R' (fun n b z=>up' n b (up n b z)) q
   | ok xs μ3 =>
    rw[e3] at hp
    exact fun ρ' G' H' vs t' R' up' dl=>hp ρ' G' H' (v::vs) (T1.trans t') R' (fun n b z=>up' n b (up n b z)) (.cons (dx.mono t'.exG up') dl)
def gDisp (i:Nat)(f:NM):SM:=fun N δ μ=>match f N δ μ with
 | .ok xs μ1=>if xs.length≤sizeLine then bindR N i (.nl xs) δ μ1 else .bad
 | .exc x μ1=>.exc x δ μ1
 | .bad=>.bad
theorem snd_disp {ta:TA}{f:NM}(i:Nat)(h:SndN K W ta f):SndS K W (tAsg (tLst ta) (gName i)) (gDisp i f):=fun N ρ G H σ δ μ Dn R E hp=>by
 refine h N ρ G H σ δ μ _ R E ?_
 unfold gDisp at hp
 cases e:f N δ μ with
 | bad=>rw[e] at hp;exact hp
 | exc x μ'=>rw[e] at hp;exact fun ρ' G' H' cls d t' R' up q=>hp ρ' G' H' σ cls d t' R' (E.up t'.exG up) q
 | ok xs μ1 =>
  rw[e] at hp
  intro ρ' G' H' vs t' R' up dl
  simp only at hp
  by_cases c:xs.length≤sizeLine
  case neg=>rw[if_neg c] at hp;exact hp.elim
  rw[if_pos c] at hp
  refine⟨by rw[paired_len dl];exact c,fun p hn=>?_⟩
  obtain⟨n1,n2⟩:=fresh_ne R' hn
  obtain⟨R2,t2⟩:=R'.lay (o:=.lst vs) hn
  refine snd_bindR (σ:=σ) i R2 (E.up t'.exG up) (t2.toS (N:=N)) (G0:=G') (H0:=H') (r:=.nl xs) ⟨p,vs,rfl,upd_same,dl,n1,n2,hn⟩ (PostS.shift t' hp)
def dNeg (x:DV)(μ:Mem):Res R:=match asI x with
 | some i=>.ok (.dat (.int (-i))) μ
 | none=>.bad
def eUn (g:DV→Mem→Res R)(f:EM):EM:=fun δ μ=>(frzV f δ μ).bind fun x μ'=>g x μ'
theorem snd_neg {ta:TE}{f:EM}(h:SndE K W ta f):SndE K W (tUn (rU fun i=>.int (-i)) ta) (eUn dNeg f):=fun ρ G H σ δ μ Q R E hp=>by
 refine SndG.seq (t:=ta) h.toV R E hp fun x μ1 G1 H1 v t1 R1 E1 d1 hp1=>?_
 unfold dNeg at hp1
 split at hp1
 ·rename_i i e
  exact⟨i,asI_ok d1 e,hp1 G1 H1 _ t1 R1 (Rp.int _)⟩
 ·exact hp1.elim
def absL:List Value→Option (List V)
 | []=>some []
 | u::us=>match absV u with
  | none=>none
  | some v=>(absL us).map (v::·)
theorem relV_of_abs {u:Value}{v:V}(h:absV u=some v):L2.RelV v u:=by
 cases u with
 | none=>cases h;rfl
 | bool b=>cases h;rfl
 | int i t=>cases h;exact⟨t,rfl⟩
 | str s t=>cases h;exact⟨t,rfl⟩
 | bytes s t=>cases h;exact⟨t,rfl⟩
 | float s t=>cases h;exact⟨t,rfl⟩
 | ref a=>cases h;rfl
 | type n=>cases h;rfl
 | _=>cases h
theorem absL_ok:∀ {us:List Value} {vs:List V},absL us=some vs→Vals vs us
 | [],_,h=>by cases h;exact .nil
 | u::us,_,h=>by
  simp only[absL] at h
  cases e:absV u with
  | none=>rw[e] at h;cases h
  | some v =>
   rw[e] at h
   cases e2:absL us with
   | none=>rw[e2] at h;cases h
   | some vs=>rw[e2] at h;cases h;exact .cons (relV_of_abs e) (absL_ok e2)
theorem rp_ktup {a:Addr} {oc:Option Addr} {its:Array Value} {n:Nat} {sl:Array (Option Value)} {ss:List Str} (hk:K.lookup a=some ⟨.type "tuple",oc,.seq its n,sl⟩) (hz:its.size≤sizeLine) (hv:absL its.toList=some (ss.map V.str)) (G:Hp) :
  Rp K G (.ref a) (.tup (ss.map D.str)):=by
 refine Rp.tup (vs:=ss.map V.str) (.inr ⟨_,its,n,hk,rfl,rfl,hz,absL_ok hv⟩) ?_
 clear hv
 induction ss with
 | nil=>exact .nil
 | cons s ss ih=>exact .cons (.str s) ih
def eInK (neg:Bool)(ks:List Str)(f:EM):EM:=fun δ μ=>(frzV f δ μ).bind fun x μ'=>match asStr x with
 | some z=>.ok (.dat (.bl (if neg=true then !(ks.any fun k=>decide (k=z)) else ks.any fun k=>decide (k=z)))) μ'
 | none=>.bad
end
structure PMN (X:Cx)(W:WX)(es:List Expr)(ta:TA)(f:NM):Prop where
 pe:PA X es ta
 sd:SndN X.K W ta f
section
variable {X:Cx}{W:WX}{pos p:Pos}{e a tg:Expr}{es:List Expr}{te ta:TE}{f fa:EM}{tA:TA}{fN:NM}
theorem sm_tgt {g:TG}{h:D→Env→Option Env}{ts:List Nat}(hg:PMG X tg g h ts)(he:PM X W e te f)(a1:swapsWithSole [tg] e pos.line X.env=pure false:=by rfl)(a2:swappedStores [tg] e X.env=pure none:=by rfl)(a3:List.map (fun x=>x.snd) (assignEach [tg] X.env)=[assign tg X.env]:=by rfl) :
  PSM X W (.Assign [tg] e pos) (tAsg te g) (gTgt h f):=⟨ps_asg he.pe hg.pg a1 a2 a3,snd_tgt hg.ok he.sd⟩
theorem n_nil:PMN X W [] tNil nNil:=⟨pa_nil,snd_nnil⟩
theorem n_cons (h:PM X W e te f)(hs:PMN X W es tA fN)(hst:starEach (e::es) X.env=(false,eval e X.env)::starEach es X.env:=by rfl):PMN X W (e::es) (tCons te tA) (nCons f fN):=⟨pa_cons h.pe hs.pe hst,snd_ncons h.sd hs.sd⟩
theorem sm_disp {x:Str}{q:Pos}(i:Nat)(hN:X.N.Nodup)(h:PMN X W es tA fN)(hi:X.N[i]?=some x:=by rfl)(hx:Loc X.env.scope x:=by first|exact Or.inl rfl|exact Or.inr rfl)
  (hf:X.fn x=true∨X.env.scope.names.lookup x=some .local:=by first|exact .inl rfl|exact .inr rfl)
  (a1:swapsWithSole [.Name x p] (.List es q) pos.line X.env=pure false:=by rfl) (a2:swappedStores [.Name x p] (.List es q) X.env=pure none:=by rfl) (a3:List.map (fun x=>x.snd) (assignEach [.Name x p] X.env)=[assign (.Name x p) X.env]:=by rfl) :
  PSM X W (.Assign [.Name x p] (.List es q) pos) (tAsg (tLst tA) (gName i)) (gDisp i fN):=⟨ps_asg (pe_lst h.pe) (pg_name hN hi hx hf) a1 a2 a3,snd_disp i h.sd⟩
theorem pm_neg (ha:PM X W a ta fa):PM X W (.UnaryOp .USub a pos) (tUn (rU fun i=>.int (-i)) ta) (eUn dNeg fa):=⟨pe_un un_neg ha.pe,snd_neg ha.sd⟩
end
section
variable {X:Cx}{W:WX}{pos p p2 q tpos apos cpos:Pos}{a b e o i:Expr}{es:List Expr}{lo hi:Option Expr}{te ta tb to ti:TE}{tA:TA}{fA:AM}{tl th:TO}{f fa fb fo fi:EM}{fl fh:OM}
theorem op_eqK (K:PySem.W.Frag)(h:X.A.units+64<cLine)(hK:X.K=K:=by rfl):OpR X (compareOp .Eq) (rEqQ K):=by subst hK;exact op_eqQ h
theorem op_neK (K:PySem.W.Frag)(h:X.A.units+64<cLine)(hK:X.K=K:=by rfl):OpR X (compareOp .NotEq) (rNeQ K):=by subst hK;exact op_neQ h
theorem pm_cmpK {op:CmpOp}{r:R2}{g:DV→DV→Mem→Res R}{K:PySem.W.Frag}(ho:OpR X (compareOp op) r)(hd:OpD K r g)(ha:PM X W a ta fa)(hb:PM X W b tb fb)(hm:behindInMarks op b=false)(hK:X.K=K:=by rfl):PM X W (.Compare a [op] [b] pos) (tOp r ta tb) (eOp g fa fb):=by
 subst hK;exact pm_cmp ho hd ha hb hm
theorem pt_cmpK {op:CmpOp}{r:R2}{g:DV→DV→Mem→Res R}{K:PySem.W.Frag}(ho:OpR X (compareOp op) r)(hd:OpD K r g)(ha:PM X W a ta fa)(hb:PM X W b tb fb)(hm:behindInMarks op b=false)(hK:X.K=K:=by rfl):PMT X W (.Compare a [op] [b] pos) (tTest (tOp r ta tb)) (tmB (eOp g fa fb)):=by
 subst hK;exact pt_cmp ho hd ha hb hm
theorem call_lenK (K:PySem.W.Frag)(hK:X.K=K:=by rfl):CallR X (.builtin "len") (fun xs H Q=>∃ x n,xs=[x]∧LenV K x H n∧Q (V.int ↑n) H):=by subst hK;exact call_len
theorem call_list_ofK (K:PySem.W.Frag)(hK:X.K=K:=by rfl):CallR X (.type "list") (fun xs H Q=>∃ p ys,xs=[V.ref p]∧(SqL K H p ys∨SqT K H p ys)∧∀ (l:Addr),H l=none→Q (V.ref l) (upd H l (HO.lst ys))):=by subst hK;exact call_list_of
theorem call_tuple_ofK (K:PySem.W.Frag)(hK:X.K=K:=by rfl):CallR X (.type "tuple") (fun xs H Q=>∃ p ys,xs=[V.ref p]∧((SqL K H p ys∧∀ (l:Addr),H l=none→Q (V.ref l) (upd H l (HO.tup ys)))∨SqT K H p ys∧Q (V.ref p) H)):=by subst hK;exact call_tuple_of
theorem cr_allK (K:PySem.W.Frag)(h:X.calm=true)(hK:X.K=K:=by rfl):CallR X (.builtin "all") (rAll K):=by subst hK;exact cr_all h
theorem cr_reprK (K:PySem.W.Frag){k:Nat}(h:Room k X.A)(hg:X.A.guards=some [])(hK:X.K=K:=by rfl):CallR X (.builtin "repr") (rRepr K):=by subst hK;exact cr_repr h hg
theorem pm_cbK {x:Str}{id:String}{r:List V→Hp→VK→Prop}{g:List DV→Mem→Res R}{K:PySem.W.Frag}(hr:CallR X (.builtin id) r)(hd:CallD K r g)(hg:Gl X x)(hm:X.mg x=none)(hv:bootBuiltins x=some (.builtin id))(ha:PMA X W (e::es) tA fA)(hK:X.K=K:=by rfl)
  (hn:x≠"__name__":=by decide) (hdb:(x==("__debug__":Str))=false:=by decide) (he:starEach (e::es) X.env=(false,eval e X.env)::starEach es X.env:=by rfl) (hpl:(backTo pos (starEach es X.env)).any (·.1)=false:=by rfl) :
  PM X W (.Call (.Name x p) (e::es) [] pos) (tCB r tA) (eCB g fA):=by subst hK;exact pm_cb hr hd hg hm hv ha hn hdb he hpl
theorem pm_ctK {x:Str}{T:String}{r:List V→Hp→VK→Prop}{g:List DV→Mem→Res R}{K:PySem.W.Frag}(hr:CallR X (.type T) r)(hd:CallD K r g)(hg:Gl X x)(hm:X.mg x=none)(hv:bootBuiltins x=some (.type T))(ha:PMA X W (e::es) tA fA)(hK:X.K=K:=by rfl)
  (hn:x≠"__name__":=by decide) (hdb:(x==("__debug__":Str))=false:=by decide) (he:starEach (e::es) X.env=(false,eval e X.env)::starEach es X.env:=by rfl) (hpl:(backTo pos (starEach es X.env)).any (·.1)=false:=by rfl) :
  PM X W (.Call (.Name x p) (e::es) [] pos) (tCB r tA) (eCB g fA):=by subst hK;exact pm_ct hr hd hg hm hv ha hn hdb he hpl
theorem pm_callK {P:Program}{w:World}{K:PySem.W.Frag}{mg:Str→Option Value}{base:Heap}{cx:CXT}{k n:Nat}{x:Str}{F:List DV→Mem→Res R}(Fn:FnD P w K mg base cx k x n F)(hr:Room k X.A)(hgd:X.A.guards=some [])(hg:Gl X x)
  (hx:∀ σ,PassesAt cx X σ (EW W σ)) (ha:PMA X W (e::es) tA fA) (h1:X.prog=P:=by rfl) (h2:X.w=w:=by rfl) (h3:X.K=K:=by rfl) (h4:X.mg=mg:=by rfl) (h5:X.base=base:=by rfl) (hdb:(x==("__debug__":Str))=false:=by decide)
  (he:starEach (e::es) X.env=(false,eval e X.env)::starEach es X.env:=by rfl) (hpl:(backTo pos (starEach es X.env)).any (·.1)=false:=by rfl) :
  PM X W (.Call (.Name x p) (e::es) [] pos) (tCallSD (spF K n F) [] (EW W) tA) (eCB F fA):=by subst h1 h2 h3 h4 h5;exact pm_call Fn hr hgd hg hx ha hdb he hpl
theorem pm_slK (K:PySem.W.Frag)(h:PM X W e te f)(hl:PMO X W lo tl fl)(hh:PMO X W hi th fh)(hK:X.K=K:=by rfl):PM X W (.Subscript e (.Slice lo hi none p2) pos) (tSl (rSl K) te tl th) (eSl f fl fh):=by subst hK;exact pm_sl h hl hh
theorem pm_addK (K:PySem.W.Frag)(ha:PM X W a ta fa)(hb:PM X W b tb fb)(hK:X.K=K:=by rfl):PM X W (.BinOp a .Add b pos) (tOp (rPlus K) ta tb) (eOp dAdd fa fb):=by subst hK;exact pm_add ha hb
theorem pm_idxK (K:PySem.W.Frag)(ha:PM X W a ta fa)(hb:PM X W b tb fb)(hs:PlainIx b)(hK:X.K=K:=by rfl):PM X W (.Subscript a b pos) (tOp (rIx K) ta tb) (eOp dIx fa fb):=by subst hK;exact pm_idx ha hb hs
theorem mi_seqK (K:PySem.W.Frag){tg:Expr}(h:PM X W e te f)(hK:X.K=K:=by rfl):PMI X W tg e (iSeq K te) (imSeq f):=by subst hK;exact mi_seq h
theorem mt_extK (K:PySem.W.Frag)(hK:X.K=K:=by rfl):MtM X "list.extend" (rExt K):=by subst hK;exact mt_ext
theorem pm_bmK (K:PySem.W.Frag) {name:Str} {T id:String} {r:V→List V→Hp→VK→Prop} {c:DV→Mem→Bool} {g:DV→List DV→Mem→Res R} (hp:PlainAttrs T) (hsl:Slot T name id) (hty:typeOf (Value.builtin id)=pure (Value.type "method_descriptor")) (hm:MtR X id r) (hT:TyD K T c) (hd:MtD K r g) (ho:PM X W o to f) (ha:PMA X W (e::es) tA fA) (hK:X.K=K:=by rfl)
  (h1:attributeBase o name X.env (eval o X.env)=eval o X.env:=by rfl)
  (h2:(((((backTo cpos (starEach (e::es) X.env)).all fun x=>!x.fst)&&(backToKw cpos (keywordEach [] X.env)).all fun x=>x.fst.isSome)&&decide (((e::es).length+([]:List Keyword).length+if([]:List Keyword).isEmpty=true then 0 else 1)<30))=true):=by rfl)
  (h3:(apos.endLine==cpos.line)=true:=by rfl) (h4:starEach (e::es) X.env=(false,eval e X.env)::starEach es X.env:=by rfl) (h5:((backTo cpos (starEach es X.env)).any fun x=>x.fst)=false:=by rfl) :
  PM X W ((o.Attribute name apos).Call (e::es) [] cpos) (tBM K T r to tA) (eBM c g f fA):=by subst hK;exact pm_bm hp hsl hty hm hT hd ho ha h1 h2 h3 h4 h5
theorem pg_tpK (K:PySem.W.Frag){k n:Nat}{gs:TGs}{hs:List D→Env→Option Env}{ts:List Nat}(hc:X.calm=true)(h:PMGs X es gs hs ts)(hK:X.K=K:=by rfl)(h1:(assignEach es X.env).length=n:=by rfl)(h2:List.findIdx? (fun x=>x.fst) (assignEach es X.env)=none:=by rfl) :
  PMG X (.Tuple es k pos) (L2.gTup K n gs) (tgTup n hs) ts:=by subst hK;exact pg_tp hc h h1 h2
theorem sm_augSK (K:PySem.W.Frag)(ho:PM X W o to fo)(hi:PM X W i ti fi)(he:PM X W e te f)(hK:X.K=K:=by rfl)
  (hs:∀ (ov iv new:Value),augStore i ov iv new=(do
           holding [new,ov,iv] (setItem ov iv new)
           release [new,ov,iv] []
           pure Flow.next):=by intro _ _ _;rfl) :
  PSM X W (.AugAssign (o.Subscript i tpos) .Add e pos) (tAugS to ti te (rGetL K) (ipI fun i j=>i+j) rSetL) (gAugS (fun i j=>i+j) fo fi f):=by subst hK;exact sm_augS ho hi he hs
end
section
variable {X:Cx}{cx:CXT}{k:Nat}{f C:Addr}{fd:FuncData}{ps:List Str}{sp:Sp}{E:L2.St→XK}{x m:Str}{p pos apos:Pos}{e o:Expr}{es:List Expr}{ta:TE}{t:TA}
theorem pe_callG0 (F:FnG X.prog X.w X.K X.mg X.base cx k f fd ps sp)(hr:Room k X.A)(hgd:X.A.guards=some [])(hg:Gl X x)(hm:X.mg x=some (.ref f))(hk:PySem.W.keepIn X.K (.ref f)=true)(hb:Binds X.K fd ps [])
  (hx:∀ σ,PassesAt cx X σ (E σ)) (hdb:(x==("__debug__":Str))=false:=by decide):PE X (.Call (.Name x p) [] [] pos) (tCallSD sp [] E tNil):=by
 refine⟨fun pins s σ H Q I h=>wpAny_Call_Name_kw (ld_glob I hg hm ?_ hdb)⟩
 exact PySem.W.callWith_K0 I.kIn hk (run_fnG (us:=[]) (vs:=[]) F hr hgd hb .nil (hx σ) I .nil h)
end
def insAt (μ:Mem):DV→Option (Str×List (Str×DV))
 | .dat (.ins nm fs)=>some (nm,fs.map fun p=>(p.1,.dat p.2))
 | .loc n=>match μ[n]? with
  | some (.ins nm fs)=>some (nm,fs)
  | _=>none
 | _=>none
theorem ClsAt.uniq {K:PySem.W.Frag}{nm:Str}{C C':Addr}(a:ClsAt K nm C)(b:ClsAt K nm C'):C=C':=by
 unfold ClsAt at a b;rw[a] at b;cases b;rfl
section
variable {K:PySem.W.Frag}{W:WX}{ρ:Pm}{G H:Hp}{μ:Mem}{σ:Slots}{δ:Env}
def isI (nm m:Str)(x:DV)(μ:Mem):Bool:=match insAt μ x with
 | some (nm',fs)=>decide (nm'=nm)&&(fs.lookup m).isNone
 | none=>false
def eMeth (nm m:Str)(F:List DV→Mem→Res R)(f:EM)(fa:AM):EM:=fun δ μ=>(frzV f δ μ).bind fun x μ1=>if isI nm m x μ1=true then(fa δ μ1).bind fun xs μ2=>F (x::xs) μ2 else .bad
structure MthD (P:Program)(w:World)(K:PySem.W.Frag)(mg:Str→Option Value)(base:Heap)(cx:CXT)(k:Nat)(nm m:Str)(n:Nat)(F:List DV→Mem→Res R):Prop where
 ar:∀ xs μ,F xs μ≠.bad→xs.length=n
 ex:∃ (C f:Addr) (fd:FuncData) (ps:List Str),ps.length=n∧ClsAt K nm C∧FnG P w K mg base cx k f fd ps (spF K n F)∧Cls K C∧Meth K C m f∧Binds K fd ps []
def eFld (nms:List Str)(m:Str)(f:EM):EM:=fun δ μ=>(frzV f δ μ).bind fun x μ1=>match insAt μ1 x with
 | some (nm,fs)=>if nm∈nms then match fs.lookup m with
   | some y=>.ok (ofV y) μ1
   | none=>.bad
  else .bad
 | none=>.bad
theorem Rel.setP {n:Nat}{a:Addr}{o':HO}{p p':Pl}(R:Rel K ρ G H μ)(hn:ρ n=some a)(hm:μ[n]?=some p)(hno:p≠.own)(hp':PlOk K ρ G (upd H a o') n p')(hnl:∀ kvs,p≠.lkd kvs:=by intro _ z;cases z)(hnl2:∀ xs,p≠.lkl xs:=by intro _ z;cases z) :
  Rel K ρ G (upd H a o') (μ.set n p')∧Tr ρ G H G (upd H a o'):=by
 have hlt:n<μ.length:=R.lt n a hn
 have nown:∀ b,H a≠some (.own b):=fun b e=>by
  have z:=R.pl n p hm
  cases p with
  | lst xs=>obtain⟨_,b,vs,h1,h2,_⟩:=z;rw[hn] at h1;cases h1;rw[e] at h2;cases h2
  | dct kvs=>obtain⟨_,b,o,vs,h1,h2,h3,_⟩:=z;rw[hn] at h1;cases h1;rw[e] at h2;cases h2;rcases h3 with⟨_,h,_⟩|⟨_,_,_,h,_⟩ <;> cases h
  | lkd kvs=>exact hnl kvs rfl
  | lkl xs=>exact hnl2 xs rfl
  | tp xs=>obtain⟨_,b,o,vs,h1,h2,_⟩:=z;rw[hn] at h1;cases h1;rw[e] at h2;cases h2
  | ins nm fs=>obtain⟨_,b,dx,C,vs,m,_,h1,h2,_⟩:=z;rw[hn] at h1;cases h1;rw[e] at h2;cases h2
  | own=>exact hno rfl
  | gone=>rw[show ρ n=none from z] at hn;cases hn
 have nfrz:∀ od u,H a≠some (.frz od u):=fun od u e=>by
  have z:=R.pl n p hm
  cases p with
  | lst xs=>obtain⟨_,b,vs,h1,h2,_⟩:=z;rw[hn] at h1;cases h1;rw[e] at h2;cases h2
  | dct kvs=>obtain⟨_,b,o,vs,h1,h2,h3,_⟩:=z;rw[hn] at h1;cases h1;rw[e] at h2;cases h2;rcases h3 with⟨_,h,_⟩|⟨_,_,_,h,_⟩ <;> cases h
  | lkd kvs=>exact hnl kvs rfl
  | lkl xs=>exact hnl2 xs rfl
  | tp xs=>obtain⟨_,b,o,vs,h1,h2,_⟩:=z;rw[hn] at h1;cases h1;rw[e] at h2;cases h2
  | ins nm fs=>obtain⟨_,b,dx,C,vs,m,_,h1,h2,_⟩:=z;rw[hn] at h1;cases h1;rw[e] at h2;cases h2
  | own=>exact hno rfl
  | gone=>rw[show ρ n=none from z] at hn;cases hn
 refine⟨⟨fun b o h=>?_,R.inj,R.nG,fun m b h=>by rw[List.length_set];exact R.lt m b h,fun m b h q=>?_,fun m q h=>?_⟩,⟨Ex.refl _,fun b o hb h=>?_,fun b h=>?_,fun b h=>.inl h,fun b od u h=>by rw[upd_ne (show b≠a from fun e=>nfrz od u (by rw[←e];exact h))];exact h⟩⟩
 ·have e:b≠a:=fun e=>by rw[e,R.nG n a hn] at h;cases h
  rw[upd_ne e];exact R.ex b o h
 ·by_cases e:b=a
  ·rw[e,upd_same] at q;cases q
  ·rw[upd_ne e] at q;exact R.hs m b h q
 ·by_cases e:m=n
  ·subst e
   rw[List.getElem?_set_self hlt] at h
   cases h
   exact hp'
  ·rw[List.getElem?_set_ne (fun z=>e z.symm)] at h
   have z:=R.pl m q h
   have ne:∀ b,ρ m=some b→b≠a:=fun b hb z=>e (R.inj m n a (z▸hb) hn)
   cases q with
   | lst xs=>obtain⟨b,c,vs,h1,h2,h3⟩:=z;exact⟨b,c,vs,h1,by rw[upd_ne (ne c h1)];exact h2,h3⟩
   | dct kvs=>obtain⟨b,c,o,vs,h1,h2,h3⟩:=z;exact⟨b,c,o,vs,h1,by rw[upd_ne (ne c h1)];exact h2,h3⟩
   | lkd kvs=>obtain⟨b,c,o,vs,h1,h2,h3⟩:=z;exact⟨b,c,o,vs,h1,by rw[upd_ne (ne c h1)];exact h2,h3⟩
   | lkl xs=>obtain⟨b,c,o,vs,h1,h2,h3⟩:=z;exact⟨b,c,o,vs,h1,by rw[upd_ne (ne c h1)];exact h2,h3⟩
   | tp xs=>obtain⟨b,c,o,vs,h1,h2,h3⟩:=z;exact⟨b,c,o,vs,h1,by rw[upd_ne (ne c h1)];exact h2,h3⟩
   | own=>obtain⟨b,c,h1,h2⟩:=z;exact⟨b,c,h1,by rw[upd_ne (ne b h1)];exact h2⟩
   | ins nm fs =>
    obtain⟨b,c,dx,C,vs,k,hk,h1,h2,cl,h4,h3⟩:=z
    exact⟨b,c,dx,C,vs,k,hk,h1,by rw[upd_ne (ne c h1)];exact h2,cl,by rw[upd_ne (show dx≠a from fun e=>nown c (e▸h4))];exact h4,h3⟩
   | gone=>exact z
 ·have e:b≠a:=fun e=>hb n (e▸hn)
  rw[upd_ne e];exact h
 ·by_cases e:b=a
  ·rw[e,upd_same] at h;cases h
  ·rw[upd_ne e] at h;exact h
def putD (f:Str)(v:DV):List (Str×DV)→List (Str×DV)
 | []=>[(f,v)]
 | (g,x)::r=>if g=f then(g,v)::r else(g,x)::putD f v r
def setFld (nms:List Str)(μ:Mem)(x:DV)(m:Str)(y:DV):Option Mem:=match x with
 | .loc n=>match μ[n]? with
  | some (.ins nm fs)=>if nm∈nms∧fs.length<1000∧belowB n y=true then some (μ.set n (.ins nm (putD m y fs))) else none
  | _=>none
 | .dat _=>none
def gFld (nms:List Str)(m:Str)(fo fe:EM):SM:=fun _ δ μ=>lift ((frzV fe δ μ).bind fun y μ1=>(frzV fo δ μ1).bind fun x μ2=>match setFld nms μ2 x m y with
 | some μ3=>.ok () μ3
 | none=>.bad) δ fun _ μ3=>.next δ μ3
def mkEnd (N:Nat)(μ2:Mem):Res R:=match μ2[N+1]? with
 | some (.ins nm fs)=>match allDat (fs.map (·.2)) with
  | some ds=>.ok (.dat (.ins nm ((fs.map (·.1)).zip ds))) (μ2.take N)
  | none=>.bad
 | _=>.bad
def mkRun (F:List DV→Mem→Res R)(nm:Str)(xs:List DV)(μ1:Mem):Res R:=match F (.loc (μ1.length+1)::xs) (μ1++[.own]++[.ins nm []]) with
 | .ok (.dat .non) μ2=>mkEnd μ1.length μ2
 | .exc x μ2=>.exc x (μ2.take μ1.length)
 | _=>.bad
def eMake (nm:Str)(F:List DV→Mem→Res R)(fa:AM):EM:=fun δ μ=>(fa δ μ).bind fun xs μ1=>mkRun F nm xs μ1
structure MakD (P:Program)(w:World)(K:PySem.W.Frag)(mg:Str→Option Value)(base:Heap)(cx:CXT)(k:Nat)(nm:Str)(n:Nat)(F:List DV→Mem→Res R):Prop where
 ar:∀ xs μ,F xs μ≠.bad→xs.length=n
 ex:∃ (C f:Addr) (fd:FuncData) (ps:List Str),ps.length=n∧ClsAt K nm C∧mg nm=some (.ref C)∧FnG P w K mg base cx k f fd ps (spF K n F)∧Mk K C f∧Binds K fd ps []
end
section
variable {X:Cx}{W:WX}{P:Program}{w:World}{K:PySem.W.Frag}{mg:Str→Option Value}{base:Heap}{cx:CXT}{k n:Nat}{nm m x:Str}{F:List DV→Mem→Res R}{e o:Expr}{es:List Expr}{tA:TA}{fA:AM}{to te:TE}{fo fe:EM}{p pos apos:Pos}
theorem pm_call0 {p:Pos}(Fn:FnD P w K mg base cx k x n F)(hr:Room k X.A)(hgd:X.A.guards=some [])(hg:Gl X x)(hx:∀ σ,PassesAt cx X σ (EW W σ))(h1:X.prog=P:=by rfl)(h2:X.w=w:=by rfl)(h3:X.K=K:=by rfl)(h4:X.mg=mg:=by rfl)(h5:X.base=base:=by rfl)
  (hdb:(x==("__debug__":Str))=false:=by decide):PM X W (.Call (.Name x p) [] [] pos) (tCallSD (spF K n F) [] (EW W) tNil) (eCB F aNil):=by
 subst h1 h2 h3 h4 h5
 obtain⟨f,fd,ps,hn,G,hm,hk,hb⟩:=Fn.ex
 exact⟨pe_callG0 G hr hgd hg hm hk hb hx hdb,snd_call snd_nil Fn.ar⟩
end
inductive Kd where
 | b (t:String)|c (nm:Str)|x (nm:Str)
def kindOf (μ:Mem):DV→Option Kd
 | .dat .non=>some (.b "NoneType")
 | .dat (.bl _)=>some (.b "bool")
 | .dat (.int _)=>some (.b "int")
 | .dat (.str _)=>some (.b "str")
 | .dat (.tup _)=>some (.b "tuple")
 | .dat (.lst _)=>some (.b "list")
 | .dat (.fro _)=>some (.b "list")
 | .dat (.dct _)=>some (.b "dict")
 | .dat (.ins nm _)=>some (.c nm)
 | .dat (.ty _)=>none
 | .dat (.ref _)=>none
 | .dat (.err _ _ _ _ _)=>none
 | .dat (.eo nm)=>some (.x nm)
 | .loc n=>match μ[n]? with
  | some (.lst _)=>some (.b "list")
  | some (.dct _)=>some (.b "dict")
  | some (.lkd _)=>some (.b "dict")
  | some (.ins nm _)=>some (.c nm)
  | _=>none
structure ClsTy (K:PySem.W.Frag)(nm:Str):Prop where
 ex:∃ C,ClsAt K nm C∧Cls K C∧PySem.W.findIn K (.ref C) "__class__"=some (some (.builtin "object.__class__"))∧PySem.W.mroIn K C (.type "object")=some true
structure EoC (K:PySem.W.Frag)(C:Addr):Prop where
 hcl:(PySem.W.clsIn K C).isSome=true
 ga:PySem.W.findIn K (.ref C) "__getattribute__"=some (some (.builtin "BaseException.__getattribute__"))
 gg:PySem.W.findIn K (.ref C) "__getattr__"=some none
 sb:PySem.W.subIn K (.ref C) (.type "BaseException")=some true
 cc:PySem.W.findIn K (.ref C) "__class__"=some (some (.builtin "object.__class__"))
 mo:PySem.W.mroIn K C (.type "object")=some true
def EoTy (K:PySem.W.Frag)(nm:Str):Prop:=∃ C,ClsAt K nm C∧EoC K C
theorem get_class (K:PySem.W.Frag):PySem.W.specialIn K (.builtin "object.__class__") "__get__"=some (some (.builtin "getset_descriptor.__get__"))∧PySem.W.takesIn K (.builtin "object.__class__")=some true:=by
 constructor <;> kernel_rfl
def KdIs (K:PySem.W.Frag):Kd→Value→Prop
 | .b s,t=>t=.type s
 | .c nm,t=>∃ C,ClsAt K nm C∧t=.ref C
 | .x nm,t=>∃ C,ClsAt K nm C∧t=.ref C
section
variable {K:PySem.W.Frag}{W:WX}{ρ:Pm}{G H:Hp}{μ:Mem}{σ:Slots}{δ:Env}
theorem ty_tup {a:Addr} {xs:List V} (h:SqT K H a xs):TyX K H (.ref a) (.type "tuple"):=by
 rcases h with (h|⟨o,h⟩)|⟨o,its,n,h1,h2,_⟩
 ·exact .base (.tup h)
 ·exact .fTuple h
 ·exact .kTuple h1 h2
theorem ty_lst {a:Addr} {xs:List V} (h:SqL K H a xs):TyX K H (.ref a) (.type "list"):=by
 rcases h with (h|⟨o,h⟩)|⟨o,its,n,h1,h2,_⟩
 ·exact .base (.lst h)
 ·exact .base (.frz h)
 ·exact .kList h1 h2
def TyZ (K:PySem.W.Frag)(H:Hp)(v:V)(t:Value):Prop:=TyX K H v t∨(∃ a es,v=.ref a∧Rd H a (TX a es)∧t=.type "dict")∨∃ a C d,v=.ref a∧H a=some (EO a C d)∧H d=some (.own a)∧t=.ref C∧EoC K C
theorem kind_ok {v:V}{x:DV}{kd:Kd}(R:Rel K ρ G H μ)(h:DvOk K ρ G v x)(cs:∀ nm,kd=.c nm→ClsTy K nm)(xs:∀ nm,kd=.x nm→EoTy K nm)(e:kindOf μ x=some kd):∃ t,KdIs K kd t∧TyZ K H v t:=by
 have ins:∀ {a dx C nm fs},H a=some (.ins C dx fs)→ClsAt K nm C→ClsTy K nm→TyZ K H (.ref a) (.ref C):=fun {a dx C nm fs} h1 h2 ⟨C',c1,c2,c3,c4⟩=>by
  cases h2.uniq c1
  exact .inl (.base (.ins h1 c2 c3 (get_class K).1 (get_class K).2 c4))
 cases x with
 | dat d =>
  cases d with
  | non=>cases e;cases h;exact⟨_,rfl,.inl (.base .non)⟩
  | bl b=>cases e;cases h;exact⟨_,rfl,.inl (.base (.bl b))⟩
  | int i=>cases e;cases h;exact⟨_,rfl,.inl (.base (.int i))⟩
  | str s=>cases e;cases h;exact⟨_,rfl,.inl (.base (.str s))⟩
  | tup ds=>cases e;cases h with|tup h1 h2=>exact⟨_,rfl,.inl (ty_tup (ex_t R.ex h1))⟩
  | lst ds=>cases e;cases h with|lst h1 h2=>exact⟨_,rfl,.inl (.base (.lst (R.ex _ _ h1)))⟩
  | fro ds=>cases e;cases h with|fro h1 h2=>exact⟨_,rfl,.inl (ty_lst (ex_l R.ex h1))⟩
  | dct ds =>
   cases e
   cases h with
   | dct h1 h2 h3 =>
    rcases h2 with⟨kvs,rfl,_⟩|⟨es,xs,_,rfl,_⟩
    ·exact⟨_,rfl,.inl (.fDict (R.ex _ _ h1))⟩
    ·exact⟨_,rfl,.inr (.inl ⟨_,es,rfl,.inr ⟨_,R.ex _ _ h1⟩,rfl⟩)⟩
  | ins nm ds=>cases e;cases h with|ins c h1 h2 h3 h4=>exact⟨_,⟨_,c,rfl⟩,ins (R.ex _ _ h1) c (cs nm rfl)⟩
  | ty n=>cases e
  | ref a=>cases e
  | err _ _ _ _ _=>cases e
  | eo nm =>
   cases e
   cases h with
   | eo c h1 h2 =>
    obtain⟨C',c2,f⟩:=xs nm rfl
    cases c.uniq c2
    exact⟨_,⟨_,c,rfl⟩,.inr (.inr ⟨_,_,_,rfl,R.ex _ _ h1,R.ex _ _ h2,rfl,f⟩)⟩
 | loc n =>
  obtain⟨a,rfl,q⟩:=h
  unfold kindOf at e
  match em:μ[n]? with
  | none=>simp only[em] at e;cases e
  | some .own=>simp only[em] at e;cases e
  | some .gone=>simp only[em] at e;cases e
  | some (.lkl _)=>simp only[em] at e;cases e
  | some (.tp _)=>simp only[em] at e;cases e
  | some (.lkd kvs) =>
   simp only[em] at e;cases e
   obtain⟨_,b,o,vs,h1,h2,⟨od,u,rfl,h3⟩,_⟩:=R.pl n _ em
   rw[q] at h1;cases h1
   rcases h3 with⟨kvs,rfl,_⟩|⟨es,xs,_,rfl,_⟩
   ·exact⟨_,rfl,.inl (.fDict h2)⟩
   ·exact⟨_,rfl,.inr (.inl ⟨_,es,rfl,.inr ⟨_,h2⟩,rfl⟩)⟩
  | some (.lst xs) =>
   simp only[em] at e;cases e
   obtain⟨_,b,vs,h1,h2,_⟩:=R.pl n _ em
   rw[q] at h1;cases h1
   exact⟨_,rfl,.inl (.base (.lst h2))⟩
  | some (.dct kvs) =>
   simp only[em] at e;cases e
   obtain⟨_,b,o,vs,h1,h2,h3,_⟩:=R.pl n _ em
   rw[q] at h1;cases h1
   rcases h3 with⟨kvs,rfl,_⟩|⟨es,xs,_,rfl,_⟩
   ·exact⟨_,rfl,.inl (.base (.dK h2))⟩
   ·exact⟨_,rfl,.inr (.inl ⟨_,es,rfl,.inl h2,rfl⟩)⟩
  | some (.ins nm fs) =>
   simp only[em] at e;cases e
   obtain⟨_,b,dx,C,vs,k,hk,h1,h2,c,_⟩:=R.pl n _ em
   rw[q] at h1;cases h1
   exact⟨_,⟨_,c,rfl⟩,ins h2 c (cs nm rfl)⟩
end
section
variable {X:Cx}{pins:List (Addr×Obj)}{σ:L2.St}{H:Hp}{s:Shared}
theorem kit_ofZ {x:V} {u t:Value} (I:Inv X pins σ H s) (rx:RelV x u) (ty:TyZ X.K H x t):∃ P:Heap→Prop,PySem.W.KitX X.K u t P∧P s.heap∧u≠.builtin "__main__.__loader__#opaque":=by
 rcases ty with ty|⟨a,es,rfl,ea,rfl⟩|⟨a,C,d,rfl,ea,ed,rfl,f⟩
 ·exact kit_of I rx ty
 ·cases (show u=Value.ref a from rx)
  obtain⟨⟨o,ep,h1,h2,_⟩,_⟩:=(show ObjOk X.prog X.w H s.heap a (TX a es) from ea.ok I.hok)
  exact⟨_,PySem.W.kitx_dict,⟨o,h1,h2.1⟩,fun z=>nomatch z⟩
 ·cases (show u=Value.ref a from rx)
  obtain⟨⟨ox,h1,h2,h3,vs,h4⟩,_⟩:=(show ObjOk X.prog X.w H s.heap a (EO a C d) from I.hok a _ ea)
  obtain⟨o,hd⟩:=(show ObjOk X.prog X.w H s.heap d (.own a) from I.hok d _ ed)
  exact⟨_,PySem.W.kitx_exc (x:=a) (ox:=ox) (od:=some o) f.hcl f.ga f.gg f.sb f.cc (get_class X.K).1 (get_class X.K).2 f.mo,⟨h1,h2,by unfold PySem.W.notCls;rw[h4],by rw[h3];exact hd⟩,fun z=>nomatch z⟩
def rIsiZ (K:PySem.W.Frag):List V→Hp→VK→Prop:=fun xs H Q=>∃ (x c:V) (t u:Value) (b:Bool),xs=[x,c]∧ClsV c u∧TyZ K H x t∧PySem.W.kitOne K t u=some b∧Q (.bl b) H
def rIsiTZ (K:PySem.W.Frag):List V→Hp→VK→Prop:=fun xs H Q=>∃ (x:V) (tp:Addr) (cs:List V) (t:Value) (us:List Value) (b:Bool),xs=[x,.ref tp]∧H tp=some (.tup cs)∧Paired ClsV cs us∧TyZ K H x t∧PySem.W.kitAny K t us=some b∧Q (.bl b) H
theorem call_isiZ:CallR X (.builtin "isinstance") (rIsiZ X.K):=by
 intro pins s σ H xs us Q I r h
 obtain⟨x,c,t,u,b,rfl,k,ty,e,q⟩:=h
 obtain⟨u1,u2,rfl,r1,r2⟩:=vals2 r
 have e2:=k.eq r2
 subst e2
 obtain⟨P,Z,p,hx⟩:=kit_ofZ I r1 ty
 exact PySem.W.kia_one Z I.kIn p e hx fun tk=>⟨.bl b,H,I.tok tk,rfl,q⟩
theorem call_isiTZ:CallR X (.builtin "isinstance") (rIsiTZ X.K):=by
 intro pins s σ H xs us Q I r h
 obtain⟨x,tp,cs,t,ws,b,rfl,hT,k,ty,e,q⟩:=h
 obtain⟨u1,u2,rfl,r1,r2⟩:=vals2 r
 cases (show u2=Value.ref tp from r2)
 obtain⟨P,Z,p,hx⟩:=kit_ofZ I r1 ty
 obtain⟨_,its,rv,o,h1,h2,n,h3⟩:=(show ObjOk X.prog X.w H s.heap tp (.tup cs) from I.hok tp _ hT)
 have e3:=ClsV.all k rv
 subst e3
 obtain⟨oc,od,dt,sl⟩:=o
 simp only at h2 h3
 subst h2 h3
 exact PySem.W.kia_tup Z I.kIn p h1 e hx fun tk=>⟨.bl b,H,I.tok tk,rfl,q⟩
end
section
variable {K:PySem.W.Frag}{W:WX}{ρ:Pm}{G H:Hp}{μ:Mem}{σ:Slots}{δ:Env}
def dIsi (tab:Kd→Option Bool)(x:DV)(μ:Mem):Res R:=match kindOf μ x with
 | some kd=>match tab kd with
  | some b=>.ok (.dat (.bl b)) μ
  | none=>.bad
 | none=>.bad
structure TabOk (K:PySem.W.Frag)(tab:Kd→Option Bool)(ans:Value→Bool→Prop):Prop where
 ok:∀ kd b t,tab kd=some b→KdIs K kd t→ans t b
 cl:∀ nm b,tab (.c nm)=some b→ClsTy K nm
 xl:∀ nm b,tab (.x nm)=some b→EoTy K nm:=by exact fun _ _ e=>nomatch e
theorem isi_ok {tab:Kd→Option Bool}{ans:Value→Bool→Prop}{x:DV}{v:V}{Q:VK}{G0 H0:Hp}(T:TabOk K tab ans)(R:Rel K ρ G H μ)(t0:Tr ρ G0 H0 G H)(d:DvOk K ρ G v x)(hp:PostG K W ρ G0 H0 σ (fun G' H'=>rpE K ρ G' H0 H') Q (dIsi tab x μ)) :
  ∃ t b,TyZ K H v t∧ans t b∧Q (.bl b) H:=by
 unfold dIsi at hp
 cases ek:kindOf μ x with
 | none=>rw[ek] at hp;exact hp.elim
 | some kd =>
  rw[ek] at hp
  simp only at hp
  cases et:tab kd with
  | none=>rw[et] at hp;exact hp.elim
  | some b =>
   rw[et] at hp
   obtain⟨t,k1,k2⟩:=kind_ok R d (fun nm e=>T.cl nm b (e▸et)) (fun nm e=>T.xl nm b (e▸et)) ek
   exact⟨t,b,k2,T.ok kd b t et k1,hp G H (.bl b) t0 R (Rp.bl b)⟩
theorem snd_isi {tab:Kd→Option Bool}{te:TE}{f:EM}{c:V}{u:Value}(k:ClsV c u)(T:TabOk K tab fun t b=>PySem.W.kitOne K t u=some b)(h:SndE K W te f):SndE K W (tCB (rIsiZ K) (tCons te (tCons (tC c) tNil))) (eUn (dIsi tab) f):=fun ρ G H σ δ μ Q R E hp=>by
 refine SndG.seq (t:=te) h.toV R E hp fun x μ1 G1 H1 v t1 R1 E1 d1 hp1=>?_
 obtain⟨t,b,h1,h2,h3⟩:=isi_ok T R1 t1 d1 hp1
 exact⟨v,c,t,u,b,rfl,k,h1,h2,h3⟩
theorem TyZ.ext {H':Hp}{v:V}{t:Value}(e:Ex H H')(h:TyZ K H v t):TyZ K H' v t:=by
 rcases h with h|⟨a,es,rfl,h,rfl⟩|⟨a,C,d,rfl,h,hd,rfl,f⟩
 ·refine .inl ?_
  cases h with
  | base b =>
   refine .base ?_
   cases b with
   | non=>exact .non
   | bl x=>exact .bl x
   | int x=>exact .int x
   | str x=>exact .str x
   | flt x=>exact .flt x
   | lst h=>exact .lst (e _ _ h)
   | frz h=>exact .frz (e _ _ h)
   | tup h=>exact .tup (e _ _ h)
   | dK h=>exact .dK (e _ _ h)
   | dT h=>exact .dT (e _ _ h)
   | ins h a b c d f=>exact .ins (e _ _ h) a b c d f
  | byt b=>exact .byt b
  | set h=>exact .set (e _ _ h)
  | kList h c=>exact .kList h c
  | kTuple h c=>exact .kTuple h c
  | kDict h c=>exact .kDict h c
  | fTuple h=>exact .fTuple (e _ _ h)
  | fDict h=>exact .fDict (e _ _ h)
 ·refine .inr (.inl ⟨a,es,rfl,?_,rfl⟩)
  rcases h with h|⟨o,h⟩
  ·exact .inl (e _ _ h)
  ·exact .inr ⟨o,e _ _ h⟩
 ·exact .inr (.inr ⟨a,C,d,rfl,e _ _ h,e _ _ hd,rfl,f⟩)
theorem snd_isi2 {tab:Kd→Option Bool}{te:TE}{f:EM}{c1 c2:V}{u1 u2:Value}(k1:ClsV c1 u1)(k2:ClsV c2 u2)(T:TabOk K tab fun t b=>PySem.W.kitAny K t [u1,u2]=some b)(h:SndE K W te f) :
  SndE K W (tCB (rIsiTZ K) (tCons te (tCons (tTup (tCons (tC c1) (tCons (tC c2) tNil))) tNil))) (eUn (dIsi tab) f):=fun ρ G H σ δ μ Q R E hp=>by
 refine SndG.seq (t:=te) h.toV R E hp fun x μ1 G1 H1 v t1 R1 E1 d1 hp1=>?_
 refine⟨by show 2≤sizeLine;decide,fun p hn=>?_⟩
 obtain⟨R2,t2⟩:=R1.lay (o:=.tup [c1,c2]) hn
 obtain⟨t,b,h1,h2,h3⟩:=isi_ok T R2 (t1.trans t2) d1 hp1
 exact⟨v,p,[c1,c2],t,[u1,u2],b,rfl,upd_same,.cons k1 (.cons k2 .nil),h1,h2,h3⟩
end
section
variable {X:Cx}{W:WX}{e c1 c2:Expr}{te:TE}{f:EM}{p pos p1 p2:Pos}
theorem pm_isi (K:PySem.W.Frag) {tab:Kd→Option Bool} {c:V} {u:Value} (hg:Gl X "isinstance") (hm:X.mg "isinstance"=none) (k:ClsV c u) (T:TabOk K tab fun t b=>PySem.W.kitOne K t u=some b) (h:PM X W e te f) (hc:PE X c1 (tC c)) (hK:X.K=K:=by rfl)
  (hs:starEach (e::[c1]) X.env=(false,eval e X.env)::starEach [c1] X.env:=by rfl) (hs1:starEach [c1] X.env=(false,eval c1 X.env)::starEach [] X.env:=by rfl) (hpl:(backTo pos (starEach [c1] X.env)).any (·.1)=false:=by rfl) :
  PM X W (.Call (.Name "isinstance" p) [e,c1] [] pos) (tCB (rIsiZ K) (tCons te (tCons (tC c) tNil))) (eUn (dIsi tab) f):=by
 subst hK
 exact⟨pe_callB call_isiZ hg hm (by decide +kernel) (pa_cons h.pe (pa_cons hc pa_nil hs1) hs) (he:=hs) (hpl:=hpl),snd_isi k T h.sd⟩
theorem pm_isi2 (K:PySem.W.Frag) {tab:Kd→Option Bool} {a1 a2:V} {u1 u2:Value} {x1} (hg:Gl X "isinstance") (hm:X.mg "isinstance"=none) (k1:ClsV a1 u1) (k2:ClsV a2 u2) (T:TabOk K tab fun t b=>PySem.W.kitAny K t [u1,u2]=some b) (h:PM X W e te f) (hc1:PE X c1 (tC a1)) (hc2:PE X c2 (tC a2)) (hK:X.K=K:=by rfl)
  (hs:starEach (e::[.Tuple [c1,c2] x1 p1]) X.env=(false,eval e X.env)::starEach [.Tuple [c1,c2] x1 p1] X.env:=by rfl) (hs1:starEach [.Tuple [c1,c2] x1 p1] X.env=(false,eval (.Tuple [c1,c2] x1 p1) X.env)::starEach [] X.env:=by rfl)
  (hs2:starEach [c1,c2] X.env=(false,eval c1 X.env)::starEach [c2] X.env:=by rfl) (hs3:starEach [c2] X.env=(false,eval c2 X.env)::starEach [] X.env:=by rfl) (hpl:(backTo pos (starEach [.Tuple [c1,c2] x1 p1] X.env)).any (·.1)=false:=by rfl) :
  PM X W (.Call (.Name "isinstance" p) [e,.Tuple [c1,c2] x1 p1] [] pos) (tCB (rIsiTZ K) (tCons te (tCons (tTup (tCons (tC a1) (tCons (tC a2) tNil))) tNil))) (eUn (dIsi tab) f):=by
 subst hK
 exact⟨pe_callB call_isiTZ hg hm (by decide +kernel) (pa_cons h.pe (pa_cons (pe_tup (pa_cons hc1 (pa_cons hc2 pa_nil hs3) hs2)) pa_nil hs1) hs) (he:=hs) (hpl:=hpl),snd_isi2 k1 k2 T h.sd⟩
theorem pe_tyN {T:String} {x:Str} (hg:Gl X x) (hm:X.mg x=none) (hv:bootBuiltins x=some (.type T)) (hn:x≠"__name__":=by decide) (hdb:(x==("__debug__":Str))=false:=by decide):PE X (.Name x pos) (tC (.ty T)):=pe_bltn (v:=.ty T) hg hm hv rfl hn hdb
def tabT (T:String)(cls:List Str):Kd→Option Bool
 | .b t=>kitB t T
 | .c nm=>if nm∈cls then some false else none
 | .x _=>none
def tabT2 (T U:String)(cls:List Str):Kd→Option Bool
 | .b t=>match kitB t T with
  | some true=>some true
  | some false=>kitB t U
  | none=>none
 | .c nm=>if nm∈cls then some false else none
 | .x _=>none
def tabC (nm0:Str)(others:List Str):Kd→Option Bool
 | .b t=>if t∈["NoneType","bool","int","str","tuple","list","dict"] then some false else none
 | .c nm=>if nm=nm0 then some true else if nm∈others then some false else none
 | .x _=>none
def NoSub (K:PySem.W.Frag)(nm:Str)(T:String):Prop:=∃ C,ClsAt K nm C∧PySem.W.kitOne K (.ref C) (.type T)=some false
theorem tabT_ok {K:PySem.W.Frag}{T:String}{cls:List Str}(h:∀ nm∈cls,ClsTy K nm∧NoSub K nm T):TabOk K (tabT T cls) fun t b=>PySem.W.kitOne K t (.type T)=some b where
 ok:=fun kd b t e k=>by
  cases kd with
  | x nm=>simp[tabT] at e
  | b s=>cases k;exact kit_ty e
  | c nm =>
   obtain⟨C,c1,rfl⟩:=k
   simp only[tabT] at e
   by_cases hn:nm∈cls
   ·rw[if_pos hn] at e;cases e
    obtain⟨C',c2,h2⟩:=(h nm hn).2
    cases c1.uniq c2;exact h2
   ·rw[if_neg hn] at e;cases e
 cl:=fun nm b e=>by
  simp only[tabT] at e
  by_cases hn:nm∈cls
  ·exact(h nm hn).1
  ·rw[if_neg hn] at e;cases e
theorem tabT2_ok {K:PySem.W.Frag}{T U:String}{cls:List Str}(h:∀ nm∈cls,ClsTy K nm∧NoSub K nm T∧NoSub K nm U):TabOk K (tabT2 T U cls) fun t b=>PySem.W.kitAny K t [.type T,.type U]=some b where
 ok:=fun kd b t e k=>by
  cases kd with
  | x nm=>simp[tabT2] at e
  | b s =>
   cases k
   simp only[tabT2] at e
   cases h1:kitB s T with
   | none=>rw[h1] at e;cases e
   | some r =>
    rw[h1] at e
    cases r with
    | true=>cases e;exact kitAny_cons (b:=true) (kit_ty h1) (fun z=>by cases z) fun _=>rfl
    | false=>exact kitAny_cons (b:=false) (kit_ty h1) (fun _=>by
      cases b with
      | true=>exact kitAny_cons (b:=true) (kit_ty e) (fun z=>by cases z) fun _=>rfl
      | false=>exact kitAny_cons (b:=false) (kit_ty e) (fun _=>kitAny_nil) fun z=>by cases z) fun z=>by cases z
  | c nm =>
   obtain⟨C,c1,rfl⟩:=k
   simp only[tabT2] at e
   by_cases hn:nm∈cls
   ·rw[if_pos hn] at e;cases e
    obtain⟨_,⟨C',c2,h2⟩,⟨C'',c3,h3⟩⟩:=h nm hn
    cases c1.uniq c2;cases c1.uniq c3
    exact kitAny_cons (b:=false) h2 (fun _=>kitAny_cons (b:=false) h3 (fun _=>kitAny_nil) fun z=>by cases z) fun z=>by cases z
   ·rw[if_neg hn] at e;cases e
 cl:=fun nm b e=>by
  simp only[tabT2] at e
  by_cases hn:nm∈cls
  ·exact(h nm hn).1
  ·rw[if_neg hn] at e;cases e
end
section
variable {X:Cx}{cx:CXT}{k:Nat}{f C:Addr}{fd:FuncData}{ps:List Str}{sp:Sp}{E:XK}{pins:List (Addr×Obj)}{σ:L2.St}{H:Hp}{s:Shared}{Q:VK}{us:List Value}{vs:List V}
end
section
variable {K:PySem.W.Frag}{W:WX}{F:List DV→Mem→Res R}{n:Nat}{nm:Str}{C:Addr}
def eLenO (nm:Str)(F:List DV→Mem→Res R)(f:EM):EM:=fun δ μ=>(frzV f δ μ).bind fun x μ1=>if isI nm "" x μ1=true then match F [x] μ1 with
  | .ok (.dat (.int n)) μ2=>if 0≤n∧n<2^63 then .ok (.dat (.int n)) μ2 else .bad
  | _=>.bad
 else .bad
def boolR:Res R→Res R
 | .ok (.dat (.bl b)) μ=>.ok (.dat (.bl b)) μ
 | _=>.bad
def eEqO (nm:Str)(others:List Str)(F:List DV→Mem→Res R)(fa fb:EM):EM:=fun δ μ=>(frzV fa δ μ).bind fun x μ1=>(frzV fb δ μ1).bind fun y μ2=>if isI nm "" x μ2=true∧((kindOf μ2 y).bind (tabC nm others)).isSome=true then boolR (F [x,y] μ2) else .bad
def negR (neg:Bool):Res R→Res R
 | .ok (.dat (.bl b)) μ=>.ok (.dat (.bl (b != neg))) μ
 | _=>.bad
def eInO (nm:Str)(neg:Bool)(F:List DV→Mem→Res R)(fa fb:EM):EM:=fun δ μ=>(frzV fa δ μ).bind fun y μ1=>(frzV fb δ μ1).bind fun x μ2=>if isI nm "" x μ2=true then negR neg (F [x,y] μ2) else .bad
end
section
variable {X:Cx}{W:WX}{P:Program}{w:World}{K:PySem.W.Frag}{mg:Str→Option Value}{base:Heap}{k n:Nat}{nm:Str}{F:List DV→Mem→Res R}{a b e:Expr}{ta tb te:TE}{fa fb f:EM}{p pos:Pos}
end
section
variable {K:PySem.W.Frag}{W:WX}{ρ:Pm}{G H:Hp}{μ:Mem}{σ:Slots}{δ:Env}
theorem paired_app {α β:Type}{P:α→β→Prop}:∀ {a c:List α} {b d:List β},Paired P a b→Paired P c d→Paired P (a++c) (b++d)
 | _,_,_,_,.nil,h=>h
 | _,_,_,_,.cons r t,h=>.cons r (paired_app t h)
theorem paired_rep {α β:Type}{P:α→β→Prop}{a:List α}{b:List β}(h:Paired P a b):∀ k:Nat,Paired P (List.replicate k a).flatten (List.replicate k b).flatten
 | 0=>.nil
 | k+1=>by rw[List.replicate_succ,List.replicate_succ,List.flatten_cons,List.flatten_cons];exact paired_app h (paired_rep h k)
def rMulX:R2:=fun x y H Q=>rI CMul (fun i j=>V.int (i*j)) x y H Q∨rRep x y H Q
def dMulX (x y:DV)(μ:Mem):Res R:=match asI y with
 | none=>.bad
 | some j=>match asI x with
  | some i=>if cMul i j=true then .ok (.dat (.int (i*j))) μ else .bad
  | none=>match asM μ x with
   | some xs=>if -(2^63)≤j∧j<2^63∧xs.length*j.toNat≤sizeLine then .ok (.nl (List.replicate j.toNat xs).flatten) μ else .bad
   | none=>.bad
theorem od_mulX:OpD K rMulX dMulX:=fun W ρ G H σ μ v w x y Q R hx hy hp=>by
 unfold dMulX at hp
 cases ej:asI y with
 | none=>rw[ej] at hp;exact hp.elim
 | some j =>
  rw[ej] at hp
  simp only at hp
  have ew:=asI_ok hy ej
  subst ew
  cases ei:asI x with
  | some i =>
   rw[ei] at hp
   simp only at hp
   have ev:=asI_ok hx ei
   subst ev
   by_cases c:cMul i j=true
   ·rw[if_pos c] at hp
    refine .inl ⟨i,j,rfl,rfl,?_,hp.okD R (.int _)⟩
    unfold cMul at c
    rw[Bool.or_eq_true,decide_eq_true_eq,decide_eq_true_eq] at c
    exact c
   ·rw[if_neg c] at hp;exact hp.elim
  | none =>
   rw[ei] at hp
   simp only at hp
   cases em:asM μ x with
   | none=>rw[em] at hp;exact hp.elim
   | some xs =>
    rw[em] at hp
    simp only at hp
    by_cases c:-(2^63)≤j∧j<2^63∧xs.length*j.toNat≤sizeLine
    ·rw[if_pos c] at hp
     obtain⟨a,vs,rfl,h2,h3⟩:=asM_ok R hx em
     refine .inr ⟨a,j,vs,rfl,rfl,h2,c.1,c.2.1,by rw[paired_len h3];exact c.2.2,fun p hn=>?_⟩
     exact new_list R (Tr.refl _ _ _) hn (paired_rep h3 _) hp
    ·rw[if_neg c] at hp;exact hp.elim
def d2 (g:DV→DV→Mem→Res R)(xs:List DV)(μ:Mem):Res R:=match xs with
 | [x,y]=>g x y μ
 | _=>.bad
def dMM (f:Int→Int→Int)(x y:DV)(μ:Mem):Res R:=match asI x with
 | none=>.bad
 | some i=>match asI y with
  | none=>.bad
  | some j=>.ok (.dat (.int (f i j))) μ
theorem cd_mm (f:Int→Int→Int):CallD K (fun xs H Q=>∃ i j,xs=[.int i,.int j]∧Q (.int (f i j)) H) (d2 (dMM f)):=fun W ρ G H σ μ vs xs Q R hx hp=>by
 unfold d2 at hp
 split at hp
 ·rename_i x y
  cases hx with
  | cons h1 h2 =>
   cases h2 with
   | cons h2 h3 =>
    cases h3
    unfold dMM at hp
    cases e1:asI x with
    | none=>rw[e1] at hp;exact hp.elim
    | some i =>
     rw[e1] at hp
     simp only at hp
     cases e2:asI y with
     | none=>rw[e2] at hp;exact hp.elim
     | some j =>
      rw[e2] at hp
      have a1:=asI_ok h1 e1
      have a2:=asI_ok h2 e2
      subst a1 a2
      exact⟨i,j,rfl,hp.okD R (.int _)⟩
 ·exact hp.elim
def gBad:SM:=fun _ _ _=>.bad
end
section
variable {X:Cx}{W:WX}{a b:Expr}{ta tb:TE}{fa fb:EM}{pos:Pos}
theorem pm_mulX (ha:PM X W a ta fa)(hb:PM X W b tb fb):PM X W (.BinOp a .Mult b pos) (tOp rMulX ta tb) (eOp dMulX fa fb):=pm_op (OpR.or op_mul op_rep) od_mulX ha hb
end
section
variable {X:Cx}{W:WX}{P:Program}{w:World}{K:PySem.W.Frag}{mg:Str→Option Value}{base:Heap}{k n:Nat}{nm:Str}{F:List DV→Mem→Res R}{a b e:Expr}{ta tb te:TE}{fa fb f:EM}{p pos:Pos}
end
theorem kit_noT {K:PySem.W.Frag}{C:Addr}{T:String}(h:PySem.W.subIn K (.ref C) (.type T)=some false)(hm:PySem.W.kitMeta T=true):PySem.W.kitOne K (.ref C) (.type T)=some false:=by
 unfold PySem.W.kitOne PySem.W.kitCls;rw[if_neg (by simp)];simp only;rw[if_pos hm];exact h
section
variable {P:Program}{w:World}{K:PySem.W.Frag}{mg:Str→Option Value}{base:Heap}
end
section
variable {K:PySem.W.Frag}{W:WX}{ρ:Pm}{G H:Hp}{μ:Mem}{σ:Slots}{δ:Env}{N n:Nat}{a:Addr}
end
def dval {α:Type}(kvs:List (Ky×α))(k:Ky):Option α:=(kvs.find? fun p=>decide (p.1=k)).map (·.2)
def dput {α:Type}(kvs:List (Ky×α))(k:Ky)(v:α):List (Ky×α) :=
 if(kvs.any fun p=>decide (p.1=k))=true then kvs.map (fun p=>if p.1=k then(p.1,v) else p) else kvs++[(k,v)]
def Ky.isK:Ky→Bool
 | .k _=>true
 | .t _=>false
def allK {α:Type}(kvs:List (Ky×α)):Bool:=kvs.all fun p=>p.1.isK
def keyD:DV→Option Key
 | .dat (.int i)=>some (.inl i)
 | .dat (.str s)=>some (.inr s)
 | _=>none
def datP (ds:List (Ky×D)):List (Ky×DV):=ds.map fun p=>(p.1,.dat p.2)
def dctOf (x:DV)(μ:Mem):Option (List (Ky×DV)):=match x with
 | .dat (.dct ds)=>some (datP ds)
 | .dat _=>none
 | .loc n=>match μ[n]? with
  | some (.dct kvs)=>some kvs
  | some (.lkd kvs)=>some kvs
  | _=>none
section
variable {K:PySem.W.Frag}{W:WX}{ρ:Pm}{G H G0 H0:Hp}{μ:Mem}{σ:Slots}{δ:Env}
theorem RpL.paired:∀ {vs:List V} {ds:List D},RpL K G vs ds→DvL K ρ G vs (ds.map DV.dat)
 | _,_,.nil=>.nil
 | _,_,.cons a b=>.cons a (RpL.paired b)
theorem Rel.swap {p:Addr}{o o':HO}(r:Rel K ρ G H μ)(t:Tr ρ G0 H0 G H)(h:H p=some o)(hg:G p=none)(hn:∀ n,ρ n≠some p)(h0:H0 p=none):Rel K ρ G (upd H p o') μ∧Tr ρ G0 H0 G (upd H p o'):=by
 have neG:∀ a u,G a=some u→a≠p:=fun a u e z=>by rw[z,hg] at e;cases e
 have neP:∀ n a,ρ n=some a→a≠p:=fun n a e z=>hn n (z▸e)
 refine⟨⟨fun a u e=>?_,r.inj,r.nG,r.lt,fun n a e q=>?_,fun n q e=>?_⟩,⟨t.exG,fun a u k e=>?_,fun a e=>?_,t.nG,fun a od u e=>by rw[upd_ne (fun z=>by rw[z,h0] at e;cases e)];exact t.fz a od u e⟩⟩
 ·rw[upd_ne (neG a u e)];exact r.ex a u e
 ·rw[upd_ne (neP n a e)] at q;exact r.hs n a e q
 ·have z:=r.pl n q e
  cases q with
  | lst xs=>obtain⟨b,a,vs,h1,h2,h3⟩:=z;exact⟨b,a,vs,h1,by rw[upd_ne (neP _ _ h1)];exact h2,h3⟩
  | dct kvs=>obtain⟨b,a,o,vs,h1,h2,h3⟩:=z;exact⟨b,a,o,vs,h1,by rw[upd_ne (neP _ _ h1)];exact h2,h3⟩
  | lkd kvs=>obtain⟨b,a,o,vs,h1,h2,h3⟩:=z;exact⟨b,a,o,vs,h1,by rw[upd_ne (neP _ _ h1)];exact h2,h3⟩
  | lkl xs=>obtain⟨b,a,o,vs,h1,h2,h3⟩:=z;exact⟨b,a,o,vs,h1,by rw[upd_ne (neP _ _ h1)];exact h2,h3⟩
  | tp xs=>obtain⟨b,a,o,vs,h1,h2,h3⟩:=z;exact⟨b,a,o,vs,h1,by rw[upd_ne (neP _ _ h1)];exact h2,h3⟩
  | own=>obtain⟨a,b,h1,h2⟩:=z;exact⟨a,b,h1,by rw[upd_ne (neP _ _ h1)];exact h2⟩
  | ins nm fs=>obtain⟨b,a,dx,C,vs,m,hm,h1,h2,c,h4,h3⟩:=z;exact⟨b,a,dx,C,vs,m,hm,h1,by rw[upd_ne (neP _ _ h1)];exact h2,c,by rw[upd_ne (neP _ _ hm.2)];exact h4,h3⟩
  | gone=>exact z
 ·have q:=t.keep a u k e
  rw[upd_ne (fun z=>by rw[z,h0] at e;cases e)];exact q
 ·by_cases z:a=p
  ·rw[z,upd_same] at e;cases e
  ·rw[upd_ne z] at e;exact t.th a e
theorem datP_1 (ds:List (Ky×D)):(datP ds).map (·.1)=ds.map (·.1):=by unfold datP;rw[List.map_map];rfl
theorem datP_2 (ds:List (Ky×D)):(datP ds).map (·.2)=(ds.map (·.2)).map DV.dat:=by unfold datP;rw[List.map_map,List.map_map];rfl
theorem keyD_ok {v:V}{x:DV}{k:Key}(h:DvOk K ρ G v x)(e:keyD x=some k):v=kV k:=by
 cases x with
 | loc n=>cases e
 | dat d=>cases d with
  | int i=>cases e;cases h;rfl
  | str s=>cases e;cases h;rfl
  | _=>cases e
theorem dctOf_ok {v:V}{x:DV}{kvs:List (Ky×DV)}(R:Rel K ρ G H μ)(h:DvOk K ρ G v x)(e:dctOf x μ=some kvs) :
  ∃ a o vs,v=.ref a∧Rd H a o∧DctIs K G a o (kvs.map (·.1)) vs∧DvL K ρ G vs (kvs.map (·.2)):=by
 cases x with
 | dat d=>cases d with
  | dct ds =>
   cases e
   cases h with
   | dct h1 h2 h3=>exact⟨_,_,_,rfl,.inr ⟨_,R.ex _ _ h1⟩,by rw[datP_1];exact h2,by rw[datP_2];exact h3.paired⟩
  | _=>cases e
 | loc n =>
  obtain⟨a,rfl,q⟩:=h
  simp only[dctOf] at e
  match em:μ[n]? with
  | none=>simp only[em] at e;cases e
  | some (.lst _)=>simp only[em] at e;cases e
  | some .own=>simp only[em] at e;cases e
  | some .gone=>simp only[em] at e;cases e
  | some (.lkl _)=>simp only[em] at e;cases e
  | some (.tp _)=>simp only[em] at e;cases e
  | some (.ins _ _)=>simp only[em] at e;cases e
  | some (.dct ks) =>
   simp only[em] at e;cases e
   obtain⟨_,b,o,vs,h1,h2,h3,h4⟩:=R.pl n _ em
   rw[q] at h1;cases h1
   exact⟨_,_,_,rfl,.inl h2,h3,h4⟩
  | some (.lkd ks) =>
   simp only[em] at e;cases e
   obtain⟨_,b,o,vs,h1,h2,⟨od,u,rfl,h3⟩,h4⟩:=R.pl n _ em
   rw[q] at h1;cases h1
   exact⟨_,_,_,rfl,.inr ⟨_,h2⟩,h3,h4⟩
abbrev PrL (K:PySem.W.Frag)(ρ:Pm)(G:Hp):List (Key×V)→List (Ky×DV)→Prop:=Paired fun p q=>q.1=Ky.k p.1∧DvOk K ρ G p.2 q.2
theorem prl_of:∀ {ls:List (Key×V)} {kvs:List (Ky×DV)},kvs.map (·.1)=ls.map (fun p=>Ky.k p.1)→DvL K ρ G (ls.map (·.2)) (kvs.map (·.2))→PrL K ρ G ls kvs
 | [],[],_,_=>.nil
 | [],_::_,h,_=>by cases h
 | _::_,[],h,_=>by cases h
 | p::ls,q::kvs,h,d=>by
  simp only[List.map_cons,List.cons.injEq] at h
  cases d with
  | cons a b=>exact .cons ⟨h.1,a⟩ (prl_of h.2 b)
theorem prl_to:∀ {ls:List (Key×V)} {kvs:List (Ky×DV)},PrL K ρ G ls kvs→kvs.map (·.1)=ls.map (fun p=>Ky.k p.1)∧DvL K ρ G (ls.map (·.2)) (kvs.map (·.2))
 | _,_,.nil=>⟨rfl,.nil⟩
 | _,_,.cons a b=>by
  obtain⟨h1,h2⟩:=prl_to b
  exact⟨by simp only[List.map_cons];rw[h1,a.1],.cons a.2 h2⟩
theorem dK_of {a:Addr}{o:HO}{kvs:List (Ky×DV)}{vs:List V}(h:DctIs K G a o (kvs.map (·.1)) vs)(d:DvL K ρ G vs (kvs.map (·.2)))(hk:allK kvs=true):∃ ls,o=.dK ls∧PrL K ρ G ls kvs:=by
 rcases h with⟨ls,rfl,h2,rfl⟩|⟨es,ls,hne,rfl,_,_,_,_,h2,_⟩
 ·exact⟨ls,rfl,prl_of h2 d⟩
 ·cases ls with
  | nil=>exact(hne rfl).elim
  | cons p ls =>
   cases kvs with
   | nil=>cases h2
   | cons q kvs =>
    simp only[List.map_cons,List.cons.injEq] at h2
    simp only[allK,List.all_cons,Bool.and_eq_true] at hk
    rw[h2.1] at hk
    cases hk.1
theorem prl_dK {a:Addr}{ls:List (Key×V)}{kvs:List (Ky×DV)}(h:PrL K ρ G ls kvs):DctIs K G a (.dK ls) (kvs.map (·.1)) (ls.map (·.2))∧DvL K ρ G (ls.map (·.2)) (kvs.map (·.2)) :=
 ⟨.inl ⟨ls,rfl,(prl_to h).1,rfl⟩,(prl_to h).2⟩
theorem prl_val {k:Key}:∀ {ls:List (Key×V)} {kvs:List (Ky×DV)},PrL K ρ G ls kvs→(valV ls k=none∧dval kvs (.k k)=none)∨∃ v x,valV ls k=some v∧dval kvs (.k k)=some x∧DvOk K ρ G v x
 | _,_,.nil=>.inl ⟨rfl,rfl⟩
 | p::ls,q::kvs,.cons a b=>by
  by_cases e:p.1=k
  ·refine .inr ⟨p.2,q.2,valV_pos e,?_,a.2⟩
   unfold dval
   rw[List.find?_cons_of_pos (by rw[a.1,e];simp)]
   rfl
  ·rw[valV_neg e]
   have:dval (q::kvs) (.k k)=dval kvs (.k k):=by
    unfold dval
    rw[List.find?_cons_of_neg (by rw[a.1];simpa using e)]
   rw[this]
   exact prl_val b
theorem prl_any {k:Key}:∀ {ls:List (Key×V)} {kvs:List (Ky×DV)},PrL K ρ G ls kvs→(ls.any fun p=>decide (p.1=k))=kvs.any fun p=>decide (p.1=Ky.k k)
 | _,_,.nil=>rfl
 | p::ls,q::kvs,.cons a b=>by
  simp only[List.any_cons]
  rw[prl_any b,a.1]
  congr 1
  simp
theorem prl_put {k:Key}{v:V}{x:DV}{ls:List (Key×V)}{kvs:List (Ky×DV)}(h:PrL K ρ G ls kvs)(d:DvOk K ρ G v x):PrL K ρ G (putK ls k v) (dput kvs (.k k) x):=by
 unfold putK dput
 rw[←prl_any h]
 by_cases e:(ls.any fun p=>decide (p.1=k))=true
 ·rw[if_pos e,if_pos e]
  clear e
  induction h with
  | nil=>exact .nil
  | cons a b ih =>
   refine .cons ?_ ih
   rename_i p q _ _
   show((if q.1=Ky.k k then(q.1,x) else q):Ky×DV).1=Ky.k ((if p.1=k then(p.1,v) else p):Key×V).1∧DvOk K ρ G ((if p.1=k then(p.1,v) else p):Key×V).2 ((if q.1=Ky.k k then(q.1,x) else q):Ky×DV).2
   by_cases e:p.1=k
   ·rw[if_pos e,if_pos (by rw[a.1,e])];exact⟨a.1,d⟩
   ·rw[if_neg e,if_neg (by rw[a.1];simpa using e)];exact a
 ·rw[if_neg e,if_neg e]
  clear e
  induction h with
  | nil=>exact .cons ⟨rfl,d⟩ .nil
  | cons a b ih=>exact .cons a ih
end
def dGet (x y:DV)(μ:Mem):Res R:=match dctOf x μ,keyD y with
 | some kvs,some k=>if allK kvs=true then match dval kvs (.k k) with
   | some z=>.ok (ofV z) μ
   | none=>.bad
  else .bad
 | _,_=>.bad
section
variable {X:Cx}{W:WX}
def dInD (neg:Bool)(y x:DV)(μ:Mem):Res R:=match dctOf x μ,keyD y with
 | some kvs,some k=>if allK kvs=true then .ok (.dat (.bl ((dval kvs (.k k)).isSome != neg))) μ else .bad
 | _,_=>.bad
theorem inD_ok {K:PySem.W.Frag}{ρ:Pm}{G H:Hp}{μ:Mem}{σ:Slots}{v w:V}{x y:DV}{neg:Bool}{Q:VK}(R:Rel K ρ G H μ)(d1:DvOk K ρ G v y)(d2:DvOk K ρ G w x)
  (hp:PostG K W ρ G H σ (fun G' H'=>rpE K ρ G' H H') Q (dInD neg y x μ)):∃ a o,w=.ref a∧DGet H a v o∧Q (.bl (o.isSome != neg)) H:=by
 unfold dInD at hp
 match e1:dctOf x μ,e2:keyD y with
 | none,_=>simp only[e1] at hp;exact hp.elim
 | some _,none=>simp only[e1,e2] at hp;exact hp.elim
 | some kvs,some k =>
  simp only[e1,e2] at hp
  by_cases hk:allK kvs=true
  case neg=>rw[if_neg hk] at hp;exact hp.elim
  rw[if_pos hk] at hp
  obtain⟨a,o,vs,rfl,h1,h2,h3⟩:=dctOf_ok R d2 e1
  obtain⟨ls,rfl,hl⟩:=dK_of h2 h3 hk
  refine⟨a,_,rfl,.inl ⟨ls,k,h1,keyD_ok d1 e2,rfl⟩,?_⟩
  have e:(valV ls k).isSome=(dval kvs (.k k)).isSome:=by
   rcases prl_val (k:=k) hl with⟨q,q'⟩|⟨v,z,q1,q2,q3⟩
   ·rw[q,q'];rfl
   ·rw[q1,q2];rfl
  rw[e]
  exact hp G H _ (Tr.refl _ _ _) R (.bl _)
def dGet1 (x y:DV)(μ:Mem):Res R:=match dctOf x μ,keyD y with
 | some kvs,some k=>if allK kvs=true then match dval kvs (.k k) with
   | some z=>.ok (ofV z) μ
   | none=>.ok (.dat .non) μ
  else .bad
 | _,_=>.bad
def isDct (x:DV)(μ:Mem):Bool:=match dctOf x μ with
 | some kvs=>allK kvs
 | none=>false
def eDGet1 (fd fy:EM):EM:=fun δ μ=>(frzV fd δ μ).bind fun x μ1=>if isDct x μ1=true then(frzV fy δ μ1).bind fun y μ2=>dGet1 x y μ2 else .bad
theorem isDct_ok {K:PySem.W.Frag}{ρ:Pm}{G H:Hp}{μ:Mem}{v:V}{x:DV}(R:Rel K ρ G H μ)(d:DvOk K ρ G v x)(e:isDct x μ=true):∃ a,v=.ref a∧IsD H a:=by
 unfold isDct at e
 cases q:dctOf x μ with
 | none=>rw[q] at e;cases e
 | some kvs =>
  rw[q] at e
  obtain⟨a,o,vs,rfl,h1,h2,h3⟩:=dctOf_ok R d q
  obtain⟨ls,rfl,_⟩:=dK_of h2 h3 e
  exact⟨a,rfl,.inl ⟨ls,h1⟩⟩
def allDatK:List (Ky×DV)→Option (List (Ky×D))
 | []=>some []
 | (k,.dat d)::r=>match allDatK r with
  | some ds=>some ((k,d)::ds)
  | none=>none
 | (_,.loc _)::_=>none
theorem allDatK_ok {K:PySem.W.Frag}{ρ:Pm}{G:Hp}:∀ {kvs:List (Ky×DV)} {ds:List (Ky×D)} {vs:List V},allDatK kvs=some ds→DvL K ρ G vs (kvs.map (·.2))→kvs.map (·.1)=ds.map (·.1)∧RpL K G vs (ds.map (·.2))
 | [],ds,vs,e,h=>by cases e;cases h;exact⟨rfl,.nil⟩
 | (k,.dat d)::r,ds,vs,e,h=>by
  simp only[allDatK] at e
  cases q:allDatK r with
  | none=>rw[q] at e;cases e
  | some es =>
   rw[q] at e;cases e
   cases h with
   | cons a b =>
    obtain⟨h1,h2⟩:=allDatK_ok q b
    exact⟨by simp only[List.map_cons];rw[h1],.cons a h2⟩
 | (_,.loc _)::_,_,_,e,_=>by cases e
def tLk (t:TE):TE:=fun σ H Q=>t σ H fun v H1=>∃ d u,v=.ref d∧H1 d=some u∧Mut (some u)∧∀ od,Q v (upd H1 d (.frz od u))
theorem pe_lk {e:Expr}{t:TE}(h:PE X e t):PE X e (tLk t):=by
 refine⟨fun pins s σ H Q I hw=>?_⟩
 refine thn (h.run pins s σ _ _ I hw) fun v s1 ⟨x,H1,I2,r,d,u,ex,hd,mu,q⟩=>?_
 obtain⟨od,I3⟩:=I2.lock hd mu
 exact⟨x,_,I3,r,q od⟩
def eLk (f:EM):EM:=fun δ μ=>(f δ μ).bind fun r μ1=>match r with
 | .nk kvs=>match allDatK kvs with
  | some ds=>.ok (.dat (.dct ds)) μ1
  | none=>.bad
 | _=>.bad
theorem dct_mut {K:PySem.W.Frag}{G:Hp}{a:Addr}{o:HO}{ks:List Ky}{vs:List V}(h:DctIs K G a o ks vs):Mut (some o):=by
 rcases h with⟨ls,rfl,_⟩|⟨_,_,_,rfl,_⟩ <;> trivial
theorem snd_lk {K:PySem.W.Frag}{t:TE}{f:EM}(h:SndE K W t f):SndE K W (tLk t) (eLk f):=fun ρ G H σ δ μ Q R E hp=>by
 refine SndG.seq (t:=t) h R E hp fun r μ1 G1 H1 v t1 R1 E1 d1 hp1=>?_
 match r with
 | .dat _=>exact hp1.elim
 | .loc _=>exact hp1.elim
 | .nl _=>exact hp1.elim
 | .nk kvs =>
  cases q:allDatK kvs with
  | none=>simp only[q] at hp1;exact hp1.elim
  | some ds =>
   simp only[q] at hp1
   obtain⟨a,o,vs,rfl,h2,h3,h4,h5,h6,h7⟩:=d1
   obtain⟨k1,k2⟩:=allDatK_ok q h4
   refine⟨a,o,rfl,h2,dct_mut h3,fun od=>?_⟩
   obtain⟨R2,t2⟩:=R1.swap (o':=.frz od o) t1 h2 h5 h6 h7
   obtain⟨R3,t3,ex⟩:=R2.freeze t2 upd_same h7 h5 h6
   exact hp1 _ _ _ t3 R3 (Rp.dct upd_same (by rw[←k1];exact h3.mono ex) (k2.mono ex))
end
def kyD:Key→D
 | .inl i=>.int i
 | .inr s=>.str s
def Ky.dat:Ky→D
 | .k x=>kyD x
 | .t xs=>.tup (xs.map kyD)
def mergeD {α:Type}(kvs more:List (Ky×α)):List (Ky×α):=more.foldl (fun acc p=>dput acc p.1 p.2) kvs
section
variable {K:PySem.W.Frag}{W:WX}{N:Nat}{ρ:Pm}{G H G0 H0:Hp}{μ:Mem}{σ:Slots}{δ:Env}{Q:VK}
theorem rp_key (k:Key):Rp K G (kV k) (kyD k):=by cases k <;> constructor
theorem prl_merge:∀ {more:List (Key×V)} {more':List (Ky×DV)} {ls:List (Key×V)} {kvs:List (Ky×DV)},PrL K ρ G more more'→PrL K ρ G ls kvs→PrL K ρ G (mergeK ls more) (mergeD kvs more')
 | _,_,_,_,.nil,h=>h
 | _,_,_,_,.cons a b,h=>by
  rename_i p q _ _
  show PrL K ρ G (mergeK (putK _ p.1 p.2) _) (mergeD (dput _ q.1 q.2) _)
  rw[a.1]
  exact prl_merge b (prl_put h a.2)
theorem new_dct {p:Addr}{ls:List (Key×V)}{kvs:List (Ky×DV)}(R:Rel K ρ G H μ)(t:Tr ρ G0 H0 G H)(hn:H p=none)(d:PrL K ρ G ls kvs)
  (hp:PostG K W ρ G0 H0 σ (fun G' H'=>rpE K ρ G' H0 H') Q (.ok (.nk kvs) μ)):Q (.ref p) (upd H p (.dK ls)):=by
 obtain⟨R2,t2⟩:=R.lay (o:=.dK ls) hn
 obtain⟨n1,n2⟩:=fresh_ne R hn
 obtain⟨k1,k2⟩:=prl_dK d
 exact hp _ _ _ (t.trans t2) R2 ⟨p,_,_,rfl,upd_same,k1,k2,n1,n2,t.th p hn⟩
def eDNew:EM:=fun _ μ=>.ok (.nk []) μ
theorem snd_dnew:SndE K W tDNewK eDNew:=fun ρ G H σ δ μ Q R E hp p hn=>new_dct R (Tr.refl _ _ _) hn .nil hp
abbrev PsM:=Env→Mem→Res (List (Ky×DV))
def psNil:PsM:=fun _ μ=>.ok [] μ
def psCons (fk fv:EM)(r:PsM):PsM:=fun δ μ=>(frzV fk δ μ).bind fun k μ1=>(frzV fv δ μ1).bind fun v μ2=>(r δ μ2).bind fun ps μ3=>match keyD k with
 | some kk=>.ok ((.k kk,v)::ps) μ3
 | none=>.bad
abbrev rpP (K:PySem.W.Frag):Pm→Hp→Hp→Hp→List (V×V)→List (Ky×DV)→Prop:=fun ρ G' _ _ vs ps=>∃ ls:List (Key×V),vs=ls.map (fun kv=>(kV kv.1,kv.2))∧PrL K ρ G' ls ps
abbrev SndP (K:PySem.W.Frag)(W:WX)(trs:List (TE×TE))(f:PsM):Prop:=SndG K W (tPairs trs) f (rpP K)
theorem snd_psNil:SndP K W [] psNil:=fun ρ G H σ δ μ Q R E hp=>hp G H [] (Tr.refl _ _ _) R ⟨[],rfl,.nil⟩
theorem PostG.shiftP {Q:List (V×V)→Hp→Prop}{out:Res (List (Ky×DV))}{G1 H1:Hp}(t:Tr ρ G H G1 H1)(h:PostG K W ρ G H σ (fun G' H'=>rpP K ρ G' H H') Q out) :
  PostG K W ρ G1 H1 σ (fun G' H'=>rpP K ρ G' H1 H') Q out:=h.shift t fun _ _ _ _ q=>q
theorem snd_psCons {tk tv:TE}{trs:List (TE×TE)}{fk fv:EM}{r:PsM}(hk:SndE K W tk fk)(hv:SndE K W tv fv)(hr:SndP K W trs r):SndP K W ((tk,tv)::trs) (psCons fk fv r):=fun ρ G H σ δ μ Q R E hp=>by
 refine SndG.seq (t:=tk) hk.toV R E hp fun x μ1 G1 H1 v t1 R1 E1 d1 hp1=>?_
 refine SndG.seq (t:=tv) hv.toV R1 E1 (hp1.shiftP t1) fun y μ2 G2 H2 w t2 R2 E2 d2 hp2=>?_
 refine SndG.seq (t:=tPairs trs) hr R2 E2 (hp2.shiftP t2) fun ps μ3 G3 H3 ws t3 R3 E3 d3 hp3=>?_
 cases e:keyD x with
 | none=>simp only[e] at hp3;exact hp3.elim
 | some kk =>
  simp only[e] at hp3
  obtain⟨ls,rfl,hl⟩:=d3
  have ek:=keyD_ok d1 e
  subst ek
  exact hp3 G3 H3 _ t3 R3 ⟨(kk,w)::ls,rfl,.cons ⟨rfl,d2.mono t3.exG fun _ _ q=>q⟩ hl⟩
def eDisK (f:PsM):EM:=fun δ μ=>(f δ μ).bind fun ps μ1=>if ps.length≤15 then .ok (.nk (mergeD [] ps)) μ1 else .bad
theorem snd_disK {trs:List (TE×TE)}{f:PsM}(h:SndP K W trs f):SndE K W (tDisp trs) (eDisK f):=fun ρ G H σ δ μ Q R E hp p hn=>by
 obtain⟨R2,t2⟩:=R.lay (o:=.dK []) hn
 obtain⟨n1,n2⟩:=fresh_ne R hn
 refine h ρ G _ σ δ μ _ R2 E ?_
 unfold eDisK at hp
 cases e:f δ μ with
 | bad=>rw[e] at hp;exact hp
 | exc x μ1=>rw[e] at hp;exact fun G1 H1 cls d t1 R1 q=>hp G1 H1 cls d (t2.trans t1) R1 q
 | ok ps μ1 =>
  rw[e] at hp
  intro G1 H1 ws t1 R1 d1
  obtain⟨ls,rfl,hl⟩:=d1
  have k1:=t1.keep p _ n2 upd_same
  have g1:G1 p=none:=by
   cases q:G1 p with
   | none=>rfl
   | some u =>
    rcases t1.nG p (by rw[q];exact fun z=>nomatch z) with z|z
    ·exact(z n1).elim
    ·rw[upd_same] at z;cases z
  simp only[Res.bind_ok] at hp
  by_cases hz:ps.length≤15
  ·rw[if_pos hz] at hp
   refine⟨k1,ls,rfl,by rw[paired_len hl];exact hz,?_⟩
   obtain⟨R3,t3⟩:=R1.swap (o':=.dK (mergeK [] ls)) (t2.trans t1) k1 g1 n2 hn
   obtain⟨q1,q2⟩:=prl_dK (prl_merge hl (.nil:PrL K ρ G1 [] []))
   exact hp G1 _ (.ref p) t3 R3 ⟨p,_,_,rfl,upd_same,q1,q2,g1,n2,hn⟩
  ·rw[if_neg hz] at hp;exact hp.elim
def dLenK (x:DV)(μ:Mem):Res R:=match dctOf x μ with
 | some kvs=>if allK kvs=true then .ok (.dat (.int kvs.length)) μ else .bad
 | none=>.bad
def rLenK:List V→Hp→VK→Prop:=fun xs H Q=>∃ a kvs,xs=[V.ref a]∧Rd H a (.dK kvs)∧Q (.int kvs.length) H
theorem cr_lenK {X:Cx}:CallR X (.builtin "len") rLenK:=by
 intro pins s σ H xs us Q I r h
 obtain⟨a,kvs,rfl,ha,q⟩:=h
 obtain⟨u,rfl,ru⟩:=vals1 r
 cases ru
 exact d_len I ha fun t s' I'=>⟨.int kvs.length,H,I',⟨t,rfl⟩,q⟩
theorem cd_lenK:CallD K rLenK (d1 dLenK):=cd_1 fun W ρ G H σ μ v x Q R hx hp=>by
 unfold dLenK at hp
 split at hp
 ·rename_i kvs e
  by_cases hk:allK kvs=true
  case neg=>rw[if_neg hk] at hp;exact hp.elim
  rw[if_pos hk] at hp
  obtain⟨a,o,vs,rfl,h1,h2,h3⟩:=dctOf_ok R hx e
  obtain⟨ls,rfl,hl⟩:=dK_of h2 h3 hk
  rw[←paired_len hl] at hp
  exact⟨a,ls,rfl,h1,hp.okD R (.int _)⟩
 ·exact hp.elim
def keysD {α:Type}(kvs:List (Ky×α)):List D:=kvs.map fun p=>p.1.dat
theorem keysD_ok:∀ {ls:List (Key×V)} {kvs:List (Ky×DV)},PrL K ρ G ls kvs→RpL K G (ls.map fun kv=>kV kv.1) (keysD kvs)
 | _,_,.nil=>.nil
 | _,_,.cons a b=>.cons (by show Rp K G _ (Ky.dat _);rw[a.1];exact rp_key _) (keysD_ok b)
def dListK (x:DV)(μ:Mem):Res R:=match dctOf x μ with
 | some kvs=>if allK kvs=true then .ok (.nl ((keysD kvs).map DV.dat)) μ else .bad
 | none=>.bad
def rListK:List V→Hp→VK→Prop:=fun xs H Q=>∃ (a:Addr) (kvs:List (Key×V)),xs=[.ref a]∧Rd H a (.dK kvs)∧∀ p,H p=none→Q (.ref p) (upd H p (.lst (kvs.map fun kv=>kV kv.1)))
theorem cd_listK:CallD K rListK (d1 dListK):=cd_1 fun W ρ G H σ μ v x Q R hx hp=>by
 unfold dListK at hp
 split at hp
 ·rename_i kvs e
  by_cases hk:allK kvs=true
  case neg=>rw[if_neg hk] at hp;exact hp.elim
  rw[if_pos hk] at hp
  obtain⟨a,o,vs,rfl,h1,h2,h3⟩:=dctOf_ok R hx e
  obtain⟨ls,rfl,hl⟩:=dK_of h2 h3 hk
  exact⟨a,ls,rfl,h1,fun p hn=>new_list R (Tr.refl _ _ _) hn (keysD_ok hl).dv hp⟩
 ·exact hp.elim
def pairsOf (ds:List (Ky×D)):List D:=ds.map fun p=>.tup [p.1.dat,p.2]
def allKD (ds:List (Ky×D)):Bool:=ds.all fun p=>p.1.isK
def imKeys (f:EM):IM:=fun δ μ=>(frzV f δ μ).bind fun x μ'=>match x with
 | .dat (.dct ds)=>if allKD ds=true then .ok (keysD ds) μ' else .bad
 | _=>.bad
def imItems (f:EM):IM:=fun δ μ=>(frzV f δ μ).bind fun x μ'=>match x with
 | .dat (.dct ds)=>if allKD ds=true then .ok (pairsOf ds) μ' else .bad
 | _=>.bad
end
end DL
namespace DL
open PySem PySem.Spec PyProof.Rows L2 RZ
def setDct (μ:Mem)(x i y:DV):Option Mem:=match x with
 | .dat _=>none
 | .loc n=>match μ[n]?,keyD i with
  | some (.dct kvs),some k=>if allK kvs=true∧kvs.length<sizeLine∧belowB n y=true then some (μ.set n (.dct (dput kvs (.k k) y))) else none
  | _,_=>none
def gDPut (fo fi fe:EM):SM:=fun _ δ μ=>lift ((frzV fe δ μ).bind fun y μ1=>(frzV fo δ μ1).bind fun x μ2=>(frzV fi δ μ2).bind fun i μ3=>match setDct μ3 x i y with
 | some μ4=>.ok () μ4
 | none=>.bad) δ fun _ μ4=>.next δ μ4
section
variable {K:PySem.W.Frag}{W:WX}{N:Nat}{ρ:Pm}{G H G0 H0:Hp}{μ:Mem}{σ:Slots}{δ:Env}{Q:VK}{v w:V}{x y:DV}
theorem dput_mem {α:Type}{kvs:List (Ky×α)}{k:Ky}{z:α}{p:Ky×α}(h:p∈dput kvs k z):p∈kvs∨p.2=z:=by
 unfold dput at h
 split at h
 ·obtain⟨q,hq,e⟩:=List.mem_map.mp h
  by_cases c:q.1=k
  ·rw[if_pos c] at e;exact .inr (by rw[←e])
  ·rw[if_neg c] at e;exact .inl (e▸hq)
 ·rcases List.mem_append.mp h with h|h
  ·exact .inl h
  ·exact .inr (by rw[List.mem_singleton.mp h])
theorem setDct_ok {i:DV}{vi:V}{μ':Mem}(R:Rel K ρ G H μ)(hx:DvOk K ρ G v x)(hi:DvOk K ρ G vi i)(hy:DvOk K ρ G w y)(e:setDct μ x i y=some μ') :
  ∃ a H',v=.ref a∧DPut H a vi w H'∧Tr ρ G H G H'∧Rel K ρ G H' μ':=by
 cases x with
 | dat d=>cases e
 | loc n =>
  obtain⟨a,rfl,ha⟩:=hx
  simp only[setDct] at e
  match em:μ[n]?,ek:keyD i with
  | none,_=>simp only[em] at e;cases e
  | some (.lst _),_=>simp only[em] at e;cases e
  | some .own,_=>simp only[em] at e;cases e
  | some (.lkd _),_=>simp only[em] at e;cases e
  | some (.lkl _),_=>simp only[em] at e;cases e
  | some (.tp _),_=>simp only[em] at e;cases e
  | some .gone,_=>simp only[em] at e;cases e
  | some (.ins _ _),_=>simp only[em] at e;cases e
  | some (.dct kvs),none=>simp only[em,ek] at e;cases e
  | some (.dct kvs),some k =>
   simp only[em,ek] at e
   by_cases c:allK kvs=true∧kvs.length<sizeLine∧belowB n y=true
   case neg=>rw[if_neg c] at e;cases e
   rw[if_pos c] at e;cases e
   obtain⟨hb,a',o,vs,h1,h2,h3,h4⟩:=R.pl n _ em
   rw[ha] at h1;cases h1
   obtain⟨ls,rfl,hl⟩:=dK_of h3 h4 c.1
   have ei:=keyD_ok hi ek
   subst ei
   have hp:=prl_put (k:=k) hl hy
   obtain⟨q1,q2⟩:=prl_dK hp
   obtain⟨R2,t2⟩:=R.setP (o':=.dK (putK ls k w)) (p':=.dct (dput kvs (.k k) y)) ha em (fun z=>nomatch z)
    ⟨fun p hm=>(dput_mem hm).elim (hb p) fun z=>by rw[z];exact belowB_ok c.2.2,a,_,_,ha,upd_same,q1,q2⟩
   exact⟨a,_,rfl,.inl ⟨ls,k,h2,rfl,by rw[paired_len hl];exact c.2.1,rfl⟩,t2,R2⟩
theorem snd_dput {to ti te:TE}{fo fi fe:EM}(ho:SndE K W to fo)(hi:SndE K W ti fi)(he:SndE K W te fe):SndS K W (sDPut to ti te) (gDPut fo fi fe):=fun N ρ G H σ δ μ Dn R E hp=>by
 refine SndG.stm2 (t:=te) he.toV R E hp fun y μ1 G1 H1 w t1 R1 E1 d1 hp1=>?_
 refine SndG.stm2 (t:=to) ho.toV R1 E1 hp1 fun x μ2 G2 H2 v t2 R2 E2 d2 hp2=>?_
 refine SndG.stm2 (t:=ti) hi.toV R2 E2 hp2 fun i μ3 G3 H3 vi t3 R3 E3 d3 hp3=>?_
 cases e:setDct μ3 x i y with
 | none=>rw[e] at hp3;exact hp3.elim
 | some μ4 =>
  rw[e] at hp3
  obtain⟨a,H',h1,h2,t4,R4⟩:=setDct_ok R3 (d2.mono t3.exG fun _ _ q=>q) d3 (d1.mono (t2.exG.trans t3.exG) fun _ _ q=>q) e
  exact⟨a,H',h1,h2,hp3 ρ G3 H' σ t4.toS R4 E3⟩
end
end DL
namespace DL
open PySem PySem.Spec PyProof.Rows L2
section
variable {K:PySem.W.Frag}{W:WX}
def eKGet (tab:List (Str×Str))(f:EM):EM:=fun δ μ=>(frzV f δ μ).bind fun x μ'=>match asStr x with
 | some z=>match tab.lookup z with
  | some y=>.ok (.dat (.str y)) μ'
  | none=>.ok (.dat .non) μ'
 | none=>.bad
end
end DL
namespace DL
open PySem PySem.Spec PyProof.Rows L2 RZ
section
variable {X:Cx}{W:WX}{a b o i e:Expr}{td ty te:TE}{fd fy fe:EM}{pos pos' p:Pos}
theorem pm_lk (h:PM X W e te fe):PM X W e (tLk te) (eLk fe):=⟨pe_lk h.pe,snd_lk h.sd⟩
theorem pm_dnew:PM X W (.Dict [] [] pos) tDNewK eDNew:=⟨pe_dnewK,snd_dnew⟩
structure PMP (X:Cx)(W:WX)(pos:Pos)(keys:List (Option Expr))(values:List Expr)(trs:List (TE×TE))(f:PsM):Prop where
 pp:PPs X pos keys values trs
 sd:SndP X.K W trs f
theorem pp_nil:PMP X W pos [] [] [] psNil:=⟨pps_nil,snd_psNil⟩
theorem pp_cons {ks:List (Option Expr)}{vs:List Expr}{trs:List (TE×TE)}{f:PsM}(hk:PM X W i ty fy)(hv:PM X W e te fe)(hr:PMP X W pos ks vs trs f):PMP X W pos (some i::ks) (e::vs) ((ty,te)::trs) (psCons fy fe f) :=
 ⟨pps_cons hk.pe hv.pe hr.pp,snd_psCons hk.sd hv.sd hr.sd⟩
theorem pm_disK {ks:List (Option Expr)}{vs:List Expr}{trs:List (TE×TE)}{f:PsM}(h:PMP X W pos ks vs trs f)(hall:ks.all (·.isSome)=true:=by rfl)(hl:ks.length=vs.length:=by rfl)(h0:ks≠[]:=by exact fun z=>nomatch z)(h15:ks.length≤15:=by decide) :
  PM X W (.Dict ks vs pos) (tDisp trs) (eDisK f):=⟨pe_disp h.pp hall hl h0 h15,snd_disK h.sd⟩
theorem sm_dput {fo fi:EM}{to ti:TE}(hu:X.A.units+1<cLine)(ho:PM X W o to fo)(hi:PM X W i ti fi)(hv:PM X W e te fe)(hs:swapsWith e (some (.Subscript o i pos')) pos.line X.env=pure false:=by rfl) :
  PSM X W (.Assign [.Subscript o i pos'] e pos) (sDPut to ti te) (gDPut fo fi fe):=⟨ps_dput hu ho.pe hi.pe hv.pe hs,snd_dput ho.sd hi.sd he⟩
 where he:=hv.sd
end
theorem call_listDK {X:Cx} (hc:X.calm=true):CallR X (.type "list") rListK:=call_listD hc
section
variable {X:Cx}{W:WX}{tg e:Expr}{te:TE}{f:EM}
end
end DL
namespace DL
open PySem PySem.Spec PyProof.Rows L2
abbrev T3:=List Int×Addr×Value
def kI (k:List Int):List Key:=k.map Sum.inl
def upK (xs:List T3):List (List Key×Addr×Value):=xs.map fun x=>(kI x.1,x.2.1,x.2.2)
theorem kI_inj {a b:List Int}:kI a=kI b↔a=b:=by
 unfold kI
 constructor
 ·intro h
  induction a generalizing b with
  | nil=>cases b with
   | nil=>rfl
   | cons=>cases h
  | cons x a ih=>cases b with
   | nil=>cases h
   | cons y b =>
    simp only[List.map_cons,List.cons.injEq] at h
    rw[Sum.inl.inj h.1,ih h.2]
 ·intro h;rw[h]
theorem ent_up (P:Program)(w:World)(xs:List T3):(upK xs).map (entryOfKey (tupleKind (mixKind P w)))=xs.map entI:=by
 unfold upK
 rw[List.map_map]
 refine List.map_congr_left fun x _=>?_
 show(⟨tupleKeyHash (mixKind P w) (kI x.1),.ref x.2.1,x.2.2⟩:DictEntry)=⟨_,.ref x.2.1,x.2.2⟩
 have e:tupleKeyHash (mixKind P w) (kI x.1)=reduceHash (Builtin.Tuple.tupleHashOf (x.1.map hashInt)):=by
  unfold tupleKeyHash kI
  rw[List.map_map];rfl
 rw[e]
theorem keys_up (xs:List T3):((upK xs).map (·.1)).Nodup↔(xs.map (·.1)).Nodup:=by
 have e:(upK xs).map (·.1)=(xs.map (·.1)).map kI:=by unfold upK;rw[List.map_map,List.map_map];rfl
 rw[e]
 unfold List.Nodup
 rw[List.pairwise_map]
 constructor
 ·exact fun h=>h.imp fun n z=>n (by rw[z])
 ·exact fun h=>h.imp fun n z=>n (kI_inj.mp z)
structure TIs (K:PySem.W.Frag)(H:Hp)(a:Addr)(es:Array DictEntry)(xs:List T3):Prop where
 es:es.toList=xs.map entI
 nd:(xs.map (·.1)).Nodup
 sm:(a==sysModules)=false
 sz:xs.length≤sizeLine
 ks:∀ x∈xs,SqT K H x.2.1 (x.1.map V.int)
section
variable {X:Cx}{pins:List (Addr×Obj)}{σ:L2.St}{H:Hp}{s:Shared}{a b:Addr}{y v:V}{u r:Value}{A:Around}{E:Value→Shared→Prop}{es:Array DictEntry}{xs:List T3}{k:List Int}
theorem key_T (I:Inv X pins σ H s)(h:SqT X.K H b (k.map V.int)):(tupleKind (mixKind X.prog X.w)).is s.heap (kI k) b:=by
 obtain⟨its,r,⟨o,h1,h2,n,h3⟩,_⟩:=I.tuple h
 refine⟨o,its.toArray,n,h1,h2,h3,?_⟩
 have r':Vals ((kI k).map kV) its:=by unfold kI;rw[List.map_map];exact r
 simpa using items_are (P:=X.prog) (w:=X.w) r'
theorem TIs.of (I:Inv X pins σ H s)(hr:Rd H a (TX a es))(t:TIs X.K H a es xs):s.heap.DictOfH (tupleKind (mixKind X.prog X.w)) a (upK xs):=by
 obtain⟨⟨o,ep,h1,h2,h3⟩,_⟩:=(show ObjOk X.prog X.w H s.heap a (TX a es) from hr.ok I.hok)
 refine⟨o,es,ep,h1,h2,h3,by rw[ent_up];exact t.es,fun x hx=>?_,(keys_up xs).mpr t.nd⟩
 unfold upK at hx
 obtain⟨z,hz,rfl⟩:=List.mem_map.mp hx
 exact key_T I (t.ks z hz)
end
section
variable {X:Cx}{o i e value ke ve:Expr}{pos pos' tpos:Pos}{td ty tv tk:TE}
end
def intsD:List D→Option (List Int)
 | []=>some []
 | .int i::r=>(intsD r).map (i::·)
 | _::_=>none
def keyT:DV→Option (List Int)
 | .dat (.tup ds)=>intsD ds
 | _=>none
def isT {α:Type}:List (Ky×α)→Bool
 | (.t _,_)::_=>true
 | _=>false
section
variable {K:PySem.W.Frag}{W:WX}{N:Nat}{ρ:Pm}{G H G0 H0:Hp}{μ:Mem}{σ:Slots}{δ:Env}{Q:VK}
theorem TIs.up {a:Addr}{es:Array DictEntry}{xs:List T3}(e:Ex G H)(t:TIs K G a es xs):TIs K H a es xs:=⟨t.es,t.nd,t.sm,t.sz,fun x hx=>ex_t e (t.ks x hx)⟩
def dGetT (x y:DV)(μ:Mem):Res R:=match dctOf x μ,keyT y with
 | some kvs,some k=>if isT kvs=true then match dval kvs (.t (kI k)) with
   | some z=>.ok (ofV z) μ
   | none=>.bad
  else .bad
 | _,_=>.bad
def eTGet (fd fy:EM):EM:=eOp dGetT fd fy
def dInT (neg:Bool)(y x:DV)(μ:Mem):Res R:=match dctOf x μ,keyT y with
 | some kvs,some k=>if isT kvs=true then .ok (.dat (.bl ((dval kvs (.t (kI k))).isSome != neg))) μ else .bad
 | _,_=>.bad
def eTIn (neg:Bool)(fy fd:EM):EM:=eOp (dInT neg) fy fd
def setDctT (μ:Mem)(x i y:DV):Option Mem:=match x with
 | .dat _=>none
 | .loc n=>match μ[n]?,keyT i with
  | some (.dct kvs),some k=>if(isT kvs||kvs.isEmpty)=true∧kvs.length<sizeLine∧belowB n y=true then some (μ.set n (.dct (dput kvs (.t (kI k)) y))) else none
  | _,_=>none
def gTPut (fo fi fe:EM):SM:=fun _ δ μ=>lift ((frzV fe δ μ).bind fun y μ1=>(frzV fo δ μ1).bind fun x μ2=>(frzV fi δ μ2).bind fun i μ3=>match setDctT μ3 x i y with
 | some μ4=>.ok () μ4
 | none=>.bad) δ fun _ μ4=>.next δ μ4
def fPair (fk fv:EM):Env→Mem→Res (DV×DV):=fun δ μ=>(frzV fk δ μ).bind fun k μ1=>(frzV fv δ μ1).bind fun v μ2=>.ok (k,v) μ2
def eDisT (fk fv:EM):EM:=fun δ μ=>(fPair fk fv δ μ).bind fun p μ2=>match keyT p.1 with
 | some kk=>.ok (.nk [(.t (kI kk),p.2)]) μ2
 | none=>.bad
end
section
variable {X:Cx}{pins:List (Addr×Obj)}{σ:L2.St}{H:Hp}{s:Shared}{d:Addr}{o:Obj}{es:Array DictEntry}{xs:List T3}
end
section
variable {P:Program}{w:World}{K:PySem.W.Frag}{tg:Expr}{d:Addr}{o:Obj}{es:Array DictEntry}{ep:Nat}{xs:List T3}
end
section
variable {X:Cx}{tg e:Expr}{td:TE}{apos cpos:Pos}
end
section
variable {K:PySem.W.Frag}{W:WX}{N:Nat}{ρ:Pm}{G H G0 H0:Hp}{μ:Mem}{σ:Slots}{δ:Env}{Q:VK}
def imKeysT (f:EM):IM:=fun δ μ=>(frzV f δ μ).bind fun x μ'=>match x with
 | .dat (.dct ds)=>if isT ds=true then .ok (keysD ds) μ' else .bad
 | _=>.bad
def imItemsT (f:EM):IM:=fun δ μ=>(frzV f δ μ).bind fun x μ'=>match x with
 | .dat (.dct ds)=>if isT ds=true then .ok (pairsOf ds) μ' else .bad
 | _=>.bad
end
section
variable {X:Cx}{W:WX}{a b o i e:Expr}{td ty te:TE}{fd fy fe f:EM}{pos pos' p apos cpos:Pos}{tg:Expr}
end
end DL
set_option maxHeartbeats 2000000
namespace DX
open PySem PySem.W PySem.Calls PyProof.Rows PySem.HandSPX
def eArgs (f:Str)(p1 p2:Pos):Arguments:={ posonlyargs:=[],args:=[{ arg:="self",annotation:=none,pos:=p1 },{ arg:=f,annotation:=none,pos:=p2 }],vararg:=none,kwonlyargs:=[],kw_defaults:=[],kwarg:=none,defaults:=[] }
def eBody (f:Str)(q1 q2 q3 q4 q5 q6 q7 q8 q9 q10:Pos):List Stmt :=
 [.Expr (.Call (.Attribute (.Call (.Name "super" q1) [] [] q2) "__init__" q3) [.Name f q4] [] q5) q6,.Assign [.Attribute (.Name "self" q7) f q8] (.Name f q9) q10]
def eScope (f:Str):Scope:={ kind:=.function,names:=[(PySem.Str.ofString "self",.local),(f,.local),(PySem.Str.ofString "__class__",.free),(PySem.Str.ofString "super",.globalImplicit)],isGenerator:=false,isCoroutine:=false,more:=[] }
structure ErrTxt (prog:Program)(K:Frag)(mg:Str→Option Value)(nm f:Str)(C fI:Addr):Prop where
 gC:mg nm=some (.ref C)
 cls:∃ nm q N bs bm sn sub ab col dd k0 k1 k2 k3 k5,K.lookup C=some (excClassObj nm q C N bs bm true sn sub ab col dd k0 k1 k2 k3 k5 "ValueError.__new__")∧refsVE bm=true
 sa:findIn K (.ref C) "__setattr__"=some (some (.builtin "object.__setattr__"))
 ga:findIn K (.ref C) "__getattribute__"=some (some (.builtin "BaseException.__getattribute__"))
 gg:findIn K (.ref C) "__getattr__"=some none
 noN:findIn K (.ref C) f=some none
 iC:findIn K (.ref C) "__init__"=some (some (.ref fI))
 tC:typeIn K (.ref fI)=some (.type "function")
 kC:keepIn K (.ref C)=true
 exC:subIn K (.ref C) (.type "BaseException")=some true
 exV:subIn K (.ref C) (.type "ValueError")=some true
 tyC:typeIn K (.ref C)=some (.type "type")
 hdC:hasDictIn K C=true
 su:ks_superIn K C C "__init__"=some (some (.builtin "ValueError.__init__"))
 mr:mroIn K C (.ref C)=some true
 op:nsIn K cStatics "thirdparty.any"=some none
 ms:mg "super"=none
 top:(prog.main.scope.names.lookup ("super":Str)).isSome=false
 fs:(f==("self":Str))=false
 fd:(f==("__debug__":Str))=false
 lf:(eScope f).names.lookup f=some .local
 lc:(eScope f).names.lookup ("__class__":Str)=some .free
 ls:(eScope f).names.lookup ("super":Str)=some .globalImplicit
 bd:∀ (qual:Str) (p1 p2:Pos) (bo:List Stmt) (doc pm:Value) (an:Option Addr) (cd ct:Value) (cc:Addr) (a b:Value),bindArgs (ksFn "__init__" qual (eArgs f p1 p2) bo (eScope f) .none .none doc pm an cd ct cc) ⟨[a,b],[]⟩=pure [(PySem.Str.ofString "self",a),(f,b)]
 fn:∃ (oc:Value) (od:Option Addr) (doc pm:Value) (an:Option Addr) (ct:Value) (osl:Array (Option Value)) (qual:Str) (p1 p2 q1 q2 q3 q4 q5 q6 q7 q8 q9 q10:Pos) (cda cc:Addr) (ccl cl:Value) (cdd cld:Option Addr) (vs:Array Value) (ccs csl:Array (Option Value)) (file:Str) (tf:Tok) (pl:Sem Bool),
  K.lookup fI=some ⟨oc,od,.func (ksFn "__init__" qual (eArgs f p1 p2) (eBody f q1 q2 q3 q4 q5 q6 q7 q8 q9 q10) (eScope f) .none .none doc pm an (.ref cda) ct cc),osl⟩∧codeIn K (.ref cda) qual=true ∧
  K.lookup cda=some ⟨ccl,cdd,.fields vs,ccs⟩∧vs[2]?=some (.str file tf)∧((prog.main.file:Str)==file)=true∧K.lookup cc=some ⟨cl,cld,.cell (some (.ref C)),csl⟩ ∧
  (∀ env:Env,eval (.Call (.Attribute (.Call (.Name "super" q1) [] [] q2) "__init__" q3) [.Name f q4] [] q5) env=(do
   let ov ←attributeBase (.Call (.Name "super" q1) [] [] q2) "__init__" env (eval (.Call (.Name "super" q1) [] [] q2) env)
   standAt q3.atName
   let (f1,first) ←holding [ov] (getMethod ov "__init__" pl)
   callWith q5 f1 first (backTo q5 (starEach [.Name f q4] env)) [])) ∧
  (∀ env:Env,swapsWith (.Call (.Attribute (.Call (.Name "super" q1) [] [] q2) "__init__" q3) [.Name f q4] [] q5) none q6.line env=pure false) ∧
  (∀ env:Env,swapsWith (.Name f q9) (some (.Attribute (.Name "self" q7) f q8)) q10.line env=pure false)
structure InitEnd (h h':Heap)(f:Str)(x C dx t1:Addr)(v:Value):Prop where
 keep:∀ b o,b≠x→h.get? b=some o→h'.get? b=some o
 obj:h'.get? x=some { cls:=.ref C,dict:=some dx,data:=.fields #[.ref t1,.none,.none,.none,.bool false,.none] }
 dbig:h.objs.size≤dx
 dne:dx≠x
 ns:h'.Ns1 dx (fun y=>if y=f then some v else none)
section
variable {prog:Program}{w:World}{A:Around}{E:Value→Shared→Prop}{R:Result→Shared→Prop}{s:Shared}{K:Frag}{mg:Str→Option Value}{nm f:Str}{C fI:Addr}
theorem call_mw {h:Heap}{g:Array GenState}{d:Drawn}{t:Nat}{os:OsState}{nm q:Str}{C N:Addr}{bs bm:List Value}{hdct:Bool}{sn:List Str}{sub:List Value}{ab:Bool}{col:Option Bool}{dd:Option Addr}{k0 k1 k2 k3 k5:Option Value}{u e t0:Addr}{rest:List Value}{Q:Value→Shared→Prop}
  (hC:h.get? C=some (excClassObj nm q C N bs bm hdct sn sub ab col dd k0 k1 k2 k3 k5 "ValueError.__new__")) (he:h.get? e=some (excO C t0)) (hu:h.get? u=some (kxs_mw "ValueError.__init__" e)) (hrest:rest.length≤sizeLine)
  (hq:∀ h' t1,(∀ b o,b≠e→h.get? b=some o→h'.get? b=some o)→h'.get? e=some (excO C t1)→Q .none ⟨h',g,d,t,os⟩) :
  wpAny (model prog w) A (call (.ref u) rest) Q E ⟨h,g,d,t,os⟩:=by
 have hm:(Value.type "method-wrapper"==Value.type "method"||Value.type "method-wrapper"==Value.type "builtin_function_or_method"||Value.type "method-wrapper"==Value.type "method-wrapper")=true:=by decide
 refine wpAny_call (codeAny_of_tree ?_)
 show wpAny _ (Around.in1 A) (callAny (Value.ref u) { pos:=rest,kw:=[] }) _ _ _
 simp only[callAny]
 refine wpAny_bind (wpAny_load hu ?_)
 simp only[kxs_mw,hm,if_true]
 refine KFB.if_so (by decide) (wpAny_bind (ESX.check_bound F.excBase_ValueError hC he rfl (wpAny_bind (wpAny_pure (wpAny_pure ?_)))))
 refine And.intro (Code.quiet_builtin _ (by decide +kernel)) (codeAny_builtin F.excBase_ValueError.initEntry ?_)
 rw[Around.under_plainId F.excBase_ValueError.init.plain _]
 wp_walk
 refine hq _ h.objs.size (fun b o nb ob=>?_) ?_
 ·rw[Heap.get?_update_other _ _ (Ne.symm nb)];exact Heap.get?_push_of_some _ ob
 ·rw[Heap.get?_update_self _ (Heap.get?_push_of_some _ he) rfl];rfl
theorem init_ok (T:ErrTxt prog K mg nm f C fI) {x t0:Addr} {v:Value} (X:K.In s.heap) (hlim:s.heap.NoLimit) (G:s.heap.Ns mainGlobals mg) (hb:∃ mb,s.heap.Ns builtinsNs mb∧∀ x:Str,x≠"__name__"→mb x=bootBuiltins x) (hx:s.heap.get? x=some (excO C t0)) (hnx:K.lookup x=none) (hroom:A.depth<recursionLimit)
  (hq:∀ h' tk dx t1,InitEnd s.heap h' f x C dx t1 v→R (.ok (.ret .none)) { s with heap:=h',toks:=tk }) :
  codeAny (model prog w) A (.call (.ref fI) ⟨[.ref x,v],[]⟩) R s:=by
 obtain⟨oc,od,doc,pm,an,ct,osl,qual,p1,p2,q1,q2,q3,q4,q5,q6,q7,q8,q9,q10,cda,cc,ccl,cl,cdd,cld,vs,ccs,csl,file,tf,pl,ho,hcd,hcode,hvs,hfile,hcell,hev,hsw,hsw2⟩:=T.fn
 obtain⟨nm',q,N,bs,bm,sn,sub,ab,col,dd,k0,k1,k2,k3,k5,hC,hbm⟩:=T.cls
 have hcl:clsIn K C=some { name:=nm',bases:=bs,mro:=.ref C::bm,ns:=N,qualname:=q,hasDict:=true,slotNames:=sn,subclasses:=sub,abstract:=ab,collection:=col,hasDel:=false }:=by unfold clsIn;rw[hC] <;> rfl
 have lf:=T.lf
 refine ks_codeAny_call_defAt (binds:=[("self",.ref x),(f,v)]) hroom (X _ _ ho) rfl hlim (codeRec_of X hcd) rfl ?_ ?_ ?_ (fun h₁ hns k₁=>?_)
 ·exact BindsTo.of_eq (T.bd _ _ _ _ _ _ _ _ _ _ _ _)
 ·intro y hy
  have hy':y∈(eScope f).names:=hy
  simp only[eScope,List.mem_cons,List.not_mem_nil,or_false] at hy'
  rcases hy' with rfl|rfl|rfl|rfl <;> exact fun z=>by cases z
 ·intro y hy
  simp only[List.mem_cons,List.not_mem_nil,or_false] at hy
  rcases hy with rfl|rfl
  ·rfl
  ·exact lf
 have X₁:K.In h₁:=X.keeps k₁
 have hx₁:=k₁ _ _ hx
 have I₁:InstAt h₁ x (excO C t0) C none:=⟨hx₁,rfl,rfl,trivial⟩
 have mx:(fun y=>([("self",Value.ref x),(f,v)]:List (Str×Value)).reverse.lookup y) f=some v:=by simp[List.lookup]
 have ms:(fun y=>([("self",Value.ref x),(f,v)]:List (Str×Value)).reverse.lookup y) ("self":Str)=some (.ref x):=by
  have:((PySem.Str.ofString "self")==f)=false:=by
   have:=T.fs
   rw[Bool.eq_false_iff] at this ⊢
   intro z;exact this (by simpa using (eq_of_beq z).symm)
  simp[List.lookup,this]
 refine ks_wpAt_execs_cons (ks_wpAt_Expr_any (ks_wpAt_MethodCall ?_ (hev _)) rfl (hsw _))
 refine ks_wpAt_super_base (f:=fI) (cc:=cda) T.ls T.lc rfl rfl (X₁ _ _ ho) rfl rfl rfl (X₁ _ _ hcode) rfl hvs hfile T.top ?_
 obtain⟨mb,g1,g2⟩:=hb
 refine ks_loadName_global rfl T.ls (loadGlobal_builtin (G.keeps k₁) T.ms (g1.keeps k₁) ((g2 "super" (by decide)).trans (by decide +kernel)) ⟨rfl,?_⟩)
 refine wpAny_loadName_free rfl T.lc rfl ⟨_,X₁ _ _ hcell,rfl⟩ ?_
 refine wpAny_loadName_local rfl rfl hns ms ?_
 refine ks_wpAny_isType_cls (X₁ _ _ hC) rfl ⟨rfl,?_⟩
 refine ks_wpAny_call_super (X₁ _ _ hC) rfl hx₁ rfl (fun c e=>by cases e) (looks_mroIn X₁ T.mr) (fun h₂ e₂ k₂=>?_)
 have X₂:K.In h₂:=X₁.keeps k₂
 have hx₂:=k₂ _ _ hx₁
 have I₂:InstAt h₂ x (excO C t0) C none:=⟨hx₂,rfl,rfl,trivial⟩
 have su:=T.su
 unfold ks_superIn at su
 rw[hcl] at su
 refine kxs_getMethod kxs_ValueError e₂ (looks_opaque X₂ T.op) (l₀:=.ref C::bm) ?_ rfl X₂ su (I₂.type.andThen (looks_subIn X₂ T.exV)) (ks_ne X₂ I₂ hcl) rfl ?_
 ·exact fun A Q E s k q=>wpAny_bind ((looks_clsIn X₂ hcl) A _ E s k (wpAny_pure q))
 have k₃:∀ b o,h₂.get? b=some o→(h₂.push (kxs_mw "ValueError.__init__" x)).get? b=some o:=fun b o e=>Heap.get?_push_of_some _ e
 have X₃:=X₂.keeps k₃
 have hx₃:=k₃ _ _ hx₂
 have hns₃:=(hns.keeps k₂).keeps k₃
 refine kxs_callWith (i:="ValueError.__init__") (x:=x) rfl (evalArgs_plain (x:=eval (.Name f q4) _) (rest:=[]) (Calls.spliced_cons (wpAny_Name (wpAny_loadName_local rfl T.lf hns₃ mx (Calls.spliced_nil ⟨Heap.get?_push_at rfl rfl,?_⟩)) T.fd)))
 have hC₃:=X₃ _ _ hC
 refine call_mw (e:=x) (t0:=t0) hC₃ hx₃ (Heap.get?_push_at rfl rfl) (show [v].length≤sizeLine by rw[sizeLine_eq];exact(by decide:1≤16777216)) (fun h₄ t1 k₄ hx₄=>?_)
 have hxL:s.heap.objs.size≠x:=Nat.ne_of_gt (Heap.lt_size hx)
 have hns₄:h₄.Ns s.heap.objs.size (fun y=>([("self",Value.ref x),(f,v)]:List (Str×Value)).reverse.lookup y):=let ⟨o,es,ep,ho,r⟩:=hns₃;⟨o,es,ep,k₄ _ o hxL ho,r⟩
 show PySem.wpAt _ _ _ (execs _ _) _ _ _
 refine ks_wpAt_execs_cons (wpAt_of_wpAny (plainObj_wpAny_Assign_Attribute ?_ (hsw2 _)))
 refine wpAny_Name (wpAny_loadName_local rfl T.lf hns₄ mx ?_) T.fd
 refine wpAny_Name (wpAny_loadName_local rfl rfl hns₄ ms ?_) (by decide)
 have X₄:K.In h₄:=fun a o e=>k₄ a o (fun z=>by rw[z,hnx] at e;cases e) (X₃ a o e)
 refine set_plain X₄ (ox:=excO C t1) (od:=none) ⟨hx₄,rfl,rfl,trivial⟩ T.sa ?_
 refine exc_osa X₄ hx₄ hcl (show refsVE (.ref C::bm)=true from hbm) rfl T.noN (fun h₅ tk₅ dx k₅ dn dne hx₅ hn₅=>?_)
 have z:s.heap.objs.size<h₁.objs.size:=hns.lt
 have z2:s.heap.objs.size<h₄.objs.size:=hns₄.lt
 refine wpAt_of_wpAny (wpAny_execs_nil ?_)
 exact hq h₅ tk₅ dx t1 ⟨fun b o hb e=>k₅ b o hb (k₄ b o hb (k₃ b o (k₂ b o (k₁ b o e)))),hx₅,Nat.le_of_lt (Nat.lt_of_lt_of_le z2 dn),dne,hn₅⟩
end
end DX
set_option maxHeartbeats 2000000
namespace DX
open PySem PySem.W PySem.Calls PyProof.Rows PySem.HandSPX
structure OwnMade (h h':Heap)(f:Str)(e C d:Addr)(v:Value):Prop where
 keep:∀ b o,h.get? b=some o→h'.get? b=some o
 new:h.objs.size≤e
 obj:∃ oe vs,h'.get? e=some oe∧oe.cls=.ref C∧oe.dict=some d∧oe.data=.fields vs∧vs[1]?=some .none
 dbig:h.objs.size≤d
 dne:d≠e
 ns:h'.Ns1 d (fun y=>if y=f then some v else none)
section
variable {prog:Program}{w:World}{A:Around}{E:Value→Shared→Prop}{R:Result→Shared→Prop}{s:Shared}{K:Frag}{mg:Str→Option Value}{nm f:Str}{C fI:Addr}
theorem made_ok (T:ErrTxt prog K mg nm f C fI) {v:Value} (X:K.In s.heap) (hlim:s.heap.NoLimit) (G:s.heap.Ns mainGlobals mg) (hb:∃ mb,s.heap.Ns builtinsNs mb∧∀ x:Str,x≠"__name__"→mb x=bootBuiltins x) (hroom:A.depth+1<recursionLimit)
  (hq:∀ h' tk e d,OwnMade s.heap h' f e C d v→R (.ok (.ret (.ref e))) { s with heap:=h',toks:=tk }) :
  codeAny (model prog w) A (.call (.ref C) ⟨[v],[]⟩) R s:=by
 obtain⟨nm',q,N,bs,bm,sn,sub,ab,col,dd,k0,k1,k2,k3,k5,hC,hbm⟩:=T.cls
 obtain⟨hp,g,dr,tk,os⟩:=s
 have k:∀ b o,hp.get? b=some o→((hp.push (kdv_tup [v])).push (excO C hp.objs.size)).get? b=some o:=fun b o e=>Heap.get?_push_of_some _ (Heap.get?_push_of_some _ e)
 have hget:((hp.push (kdv_tup [v])).push (excO C hp.objs.size)).get? (hp.objs.size+1)=some (excO C hp.objs.size):=by heap_get
 have hnx:K.lookup (hp.objs.size+1)=none:=by
  cases e:K.lookup (hp.objs.size+1) with
  | none=>rfl
  | some o =>
   have z:hp.get? (hp.objs.size+1)=some o:=X _ _ e
   exact absurd (Nat.lt_of_succ_lt (Heap.lt_size z)) (Nat.lt_irrefl _)
 refine call_own F.excBase_ValueError (fun X=>refsVE_contains X bm hbm) (X _ _ hC) (looks_findIn X T.iC) (fun self=>bind_fn X self T.tC) (show [v].length≤sizeLine by rw[sizeLine_eq];exact(by decide:1≤16777216)) ?_
 have hb':∃ mb,((hp.push (kdv_tup [v])).push (excO C hp.objs.size)).Ns builtinsNs mb∧∀ x:Str,x≠"__name__"→mb x=bootBuiltins x:=by
  obtain⟨mb,b1,b2⟩:=hb
  exact⟨mb,Heap.Ns.keeps b1 k,b2⟩
 refine init_ok (s:=⟨(hp.push (kdv_tup [v])).push (excO C hp.objs.size),g,dr,tk,os⟩) T (X.keeps k) (hlim.keeps k) (Heap.Ns.keeps G k) hb' hget hnx ?_ fun h' tk' dx t1 ⟨k',hx,dn,dne,hns⟩=>?_
 ·show A.depth+1<recursionLimit
  exact hroom
 ·have old:∀ b o,hp.get? b=some o→h'.get? b=some o:=fun b o e=>k' b o (Nat.ne_of_lt (Nat.lt_succ_of_lt (Heap.lt_size e))) (k b o e)
  have z:hp.objs.size+1+1≤dx:=by
   first
    | (simpa only[Heap.size_push] using dn)
    | exact dn
    | (have q:=dn;rw[Heap.size_push,Heap.size_push] at q;exact q)
  exact⟨rfl,hq h' tk' (hp.objs.size+1) dx ⟨old,Nat.le_succ _,⟨_,_,hx,rfl,rfl,rfl,rfl⟩,Nat.le_trans (Nat.le_trans (Nat.le_succ _) (Nat.le_succ _)) z,dne,hns⟩⟩
end
end DX
namespace DL
open PySem PySem.Spec PyProof.Rows L2
section
variable {X:Cx}{C fI:Addr}{nm f:Str}
end
def gRaise (nm f:Str)(fe:EM):SM:=fun _ δ μ=>lift (frzV fe δ μ) δ fun x μ'=>match x with
 | .dat d=>.exc ⟨nm,[(f,d)]⟩ δ μ'
 | .loc _=>.bad
section
variable {K:PySem.W.Frag}{W:WX}{C:Addr}{nm f:Str}
end
def errAt (i:Nat)(δ:Env):Option (Addr×Addr×Addr×Str×List (Str×D)):=match δ[i]? with
 | some (some (.dat (.err a C d nm (f::fs))))=>some (a,C,d,nm,f::fs)
 | _=>none
section
variable {K:PySem.W.Frag}{W:WX}{ρ:Pm}{G H:Hp}{σ:Slots}{δ:Env}{μ:Mem}
def eIsE (i:Nat)(a C d:Addr)(tab:List (Str×Bool)):EM:=fun δ μ=>match errAt i δ with
 | some (a',C',d',nm,_)=>if a'=a∧C'=C∧d'=d then match tab.lookup nm with
   | some b=>.ok (.dat (.bl b)) μ
   | none=>.bad
  else .bad
 | none=>.bad
def eXf (i:Nat)(a C d:Addr)(nm0 f:Str):EM:=fun δ μ=>match errAt i δ with
 | some (a',C',d',nm,fs)=>if a'=a∧C'=C∧d'=d∧nm=nm0 then match fs.lookup f with
   | some v=>.ok (.dat v) μ
   | none=>.bad
  else .bad
 | none=>.bad
end
def unset (i:Nat):Out→Out
 | .next δ μ=>.next (δ.set i none) μ
 | .brk δ μ=>.brk (δ.set i none) μ
 | .cnt δ μ=>.cnt (δ.set i none) μ
 | .ret r μ=>.ret r μ
 | .exc _ _ _=>.bad
 | .bad=>.bad
open Classical in
noncomputable def suiteOut (i:Nat)(k:Addr→Addr→Addr→Out):Out:=if h:∃ o,∀ a C d,k a C d=o then unset i h.choose else .bad
theorem suiteOut_of {i:Nat}{k:Addr→Addr→Addr→Out}{o:Out}(h:∀ a C d,k a C d=o):suiteOut i k=unset i o:=by
 have e:∃ o,∀ a C d,k a C d=o:=⟨o,h⟩
 unfold suiteOut
 rw[dif_pos e]
 rw[←e.choose_spec 0 0 0,h 0 0 0]
noncomputable def gTry (cat:List (Str×Bool))(i:Nat)(gb:SM)(gs:Addr→Addr→Addr→SM):SM:=fun N δ μ=>match gb N δ μ with
 | .exc x δ' μ'=>match cat.lookup x.nm with
  | some true=>if x.fs≠[] then suiteOut i fun a C d=>gs a C d N (δ'.set i (some (.dat (.err a C d x.nm x.fs)))) μ' else .bad
  | some false=>.exc x δ' μ'
  | none=>.bad
 | o=>o
section
variable {K:PySem.W.Frag}{W:WX}{ρ:Pm}{G H:Hp}{σ:Slots}{δ:Env}{μ:Mem}
theorem EnvOk.unset (i:Nat)(E:EnvOk K ρ G σ δ):EnvOk K ρ G (σ.set i none) (δ.set i none):=by
 refine⟨by rw[List.length_set,List.length_set];exact E.len,fun j x h=>?_⟩
 by_cases e:i=j
 ·subst e
  by_cases hl:i<δ.length
  ·rw[List.getElem?_set_self hl] at h;cases h
  ·rw[List.getElem?_eq_none (by rw[List.length_set];omega)] at h;cases h
 ·rw[List.getElem?_set_ne e] at h
  obtain⟨v,h1,h2⟩:=E.at_ j x h
  exact⟨v,by rw[List.getElem?_set_ne e];exact h1,h2⟩
theorem PostS.unset {N:Nat}{D:Ends}{o:Out}(i:Nat)(h:PostS K W N ρ G H D (unset i o)) :
  PostS K W N ρ G H { nx:=fun σ' H'=>D.nx (σ'.set i none) H',rt:=D.rt,bk:=fun σ' H'=>D.bk (σ'.set i none) H',ct:=fun σ' H'=>D.ct (σ'.set i none) H' } o:=by
 cases o with
 | next δ' μ'=>exact fun ρ' G' H' σ' t R E=>h ρ' G' H' _ t R (E.unset i)
 | ret r μ'=>exact h
 | brk δ' μ'=>exact fun ρ' G' H' σ' t R E=>h ρ' G' H' _ t R (E.unset i)
 | cnt δ' μ'=>exact fun ρ' G' H' σ' t R E=>h ρ' G' H' _ t R (E.unset i)
 | exc x δ' μ'=>exact h.elim
 | bad=>exact h
end
structure Bg where
 a:Int
 b:Int
 c:Int
 cs:List Int
def Bg.pl (B:Bg):Pl:=.lst [.dat (.int B.a),.dat (.int B.b),.dat (.int B.c),.dat (.lst (B.cs.map D.int))]
structure Bg.ok (B:Bg):Prop where
 a:0≤B.a
 b:0≤B.b
 b':B.b<2147483647
 c:0≤B.c
 cs:∀ z∈B.cs,0≤z
def Bg.cell (B:Bg):Int:=if B.c<B.cs.length then B.cs.getD B.c.toNat 0 else 0
def Bg.fill (B:Bg):Bg:=if B.a=0 then⟨if 1000000000000000000≤B.cell then B.cell else 0,(B.b*48271+B.cell % 2147483647+7919*(B.c+1)) % 2147483647,B.c+1,B.cs⟩ else B
def Bg.low (B:Bg)(m:Int):Int:=((B.b+1)*39373 % 1000000007*((B.b+1)*39373 % 1000000007) % 998244353*30011) % 998244353 / 7 % m
def takeB (B:Bg)(m:Int):Int×Bg:=if 0<B.fill.a then(B.fill.a % m,{ B.fill with a:=B.fill.a / m }) else(B.fill.low m,B.fill)
def gTake:SM :=
  (gSeq (gIf (tmB (eOp dEq (eOp dIx (eVar 0) (eD (.int 0))) (eD (.int 0)))) (gSeq (gAsg 2 (eD (.int 0)))
  (gSeq (gIf (tmB (eOp dLt (eOp dIx (eVar 0) (eD (.int 2))) (eCB (d1 dLen) (aCons (eOp dIx (eVar 0) (eD (.int 3))) aNil)))) (gAsg 2 (eOp dIx (eOp dIx (eVar 0) (eD (.int 3))) (eOp dIx (eVar 0) (eD (.int 2))))) gNext)
  (gSeq (gAugS (fun i j=>i+j) (eVar 0) (eD (.int 2)) (eD (.int 1)))
  (gSeq (gIf (tmB (eOp dGe (eVar 2) (eD (.int 1000000000000000000)))) (gSet (eVar 0) (eD (.int 0)) (eVar 2)) gNext)
  (gSeq (gAsg 3 (eOp dAdd (eOp dAdd (eOp dMul (eOp dIx (eVar 0) (eD (.int 1))) (eD (.int 48271))) (eOp dMod (eCB (d1 dInt) (aCons (eVar 2) aNil)) (eD (.int 2147483647)))) (eOp dMul (eD (.int 7919)) (eOp dIx (eVar 0) (eD (.int 2))))))
  (gSet (eVar 0) (eD (.int 1)) (eOp dMod (eCB (d1 dInt) (aCons (eVar 3) aNil)) (eD (.int 2147483647))))))))) gNext)
  (gSeq (gIf (tmB (eOp dGt (eOp dIx (eVar 0) (eD (.int 0))) (eD (.int 0)))) (gSeq (gAsg 4 (eOp dMod (eCB (d1 dInt) (aCons (eOp dIx (eVar 0) (eD (.int 0))) aNil)) (eVar 1)))
  (gSeq (gSet (eVar 0) (eD (.int 0)) (eOp dDiv (eCB (d1 dInt) (aCons (eOp dIx (eVar 0) (eD (.int 0))) aNil)) (eVar 1)))
  (gRet (eVar 4)))) gNext)
  (gSeq (gAsg 5 (eOp dMod (eCB (d1 dInt) (aCons (eOp dMul (eOp dAdd (eOp dIx (eVar 0) (eD (.int 1))) (eD (.int 1))) (eD (.int 39373))) aNil)) (eD (.int 1000000007))))
  (gSeq (gAsg 6 (eOp dMod (eCB (d1 dInt) (aCons (eOp dMul (eOp dMod (eCB (d1 dInt) (aCons (eOp dMul (eVar 5) (eVar 5)) aNil)) (eD (.int 998244353))) (eD (.int 30011))) aNil)) (eD (.int 998244353))))
  (gRet (eOp dMod (eCB (d1 dInt) (aCons (eOp dDiv (eVar 6) (eD (.int 7))) aNil)) (eVar 1)))))))
theorem dEqB_int (b:Bool)(i j:Int)(μ:Mem):dEqS b (.dat (.int i)) (.dat (.int j)) μ=.ok (.dat (.bl ((i==j)==b))) μ:=by
 simp[dEqS,asStr,dEqB,peekPy,peek,peekK,toPy,SeqAt.shaped,PyData.eqv,PyData.canLay0,PyData.depth]
theorem frz_ofV (x:DV):frz (ofV x)=some x:=by cases x <;> rfl
theorem fill_ok {B:Bg}(h:B.ok):B.fill.ok:=by
 unfold Bg.fill
 split
 ·rename_i e
  have hc:0≤B.cell:=by
   unfold Bg.cell
   split
   ·rw[List.getD_eq_getElem?_getD]
    cases q:B.cs[B.c.toNat]? with
    | none=>exact Int.le_refl 0
    | some z=>exact h.cs z (List.mem_of_getElem? q)
   ·exact Int.le_refl 0
  exact⟨by dsimp only;split <;> omega,by dsimp only;omega,by dsimp only;omega,by dsimp only;have:=h.c;omega,h.cs⟩
 ·exact h
theorem takeB_ok {B:Bg}(h:B.ok){m:Int}(hm:0<m):(takeB B m).2.ok∧0≤(takeB B m).1∧(takeB B m).1<m:=by
 have f:=fill_ok h
 unfold takeB
 split
 ·exact⟨⟨Int.ediv_nonneg f.a (by omega),f.b,f.b',f.c,f.cs⟩,Int.emod_nonneg _ (by omega),Int.emod_lt_of_pos _ hm⟩
 ·exact⟨f,Int.emod_nonneg _ (by omega),Int.emod_lt_of_pos _ hm⟩
def gFill:SM:=(gIf (tmB (eOp dEq (eOp dIx (eVar 0) (eD (.int 0))) (eD (.int 0)))) (gSeq (gAsg 2 (eD (.int 0)))
  (gSeq (gIf (tmB (eOp dLt (eOp dIx (eVar 0) (eD (.int 2))) (eCB (d1 dLen) (aCons (eOp dIx (eVar 0) (eD (.int 3))) aNil)))) (gAsg 2 (eOp dIx (eOp dIx (eVar 0) (eD (.int 3))) (eOp dIx (eVar 0) (eD (.int 2))))) gNext)
  (gSeq (gAugS (fun i j=>i+j) (eVar 0) (eD (.int 2)) (eD (.int 1)))
  (gSeq (gIf (tmB (eOp dGe (eVar 2) (eD (.int 1000000000000000000)))) (gSet (eVar 0) (eD (.int 0)) (eVar 2)) gNext)
  (gSeq (gAsg 3 (eOp dAdd (eOp dAdd (eOp dMul (eOp dIx (eVar 0) (eD (.int 1))) (eD (.int 48271))) (eOp dMod (eCB (d1 dInt) (aCons (eVar 2) aNil)) (eD (.int 2147483647)))) (eOp dMul (eD (.int 7919)) (eOp dIx (eVar 0) (eD (.int 2))))))
  (gSet (eVar 0) (eD (.int 1)) (eOp dMod (eCB (d1 dInt) (aCons (eVar 3) aNil)) (eD (.int 2147483647))))))))) gNext)
theorem pl_lt {μ:Mem}{n:Nat}{p:Pl}(h:μ[n]?=some p):n<μ.length:=(List.getElem?_eq_some_iff.mp h).1
theorem asL_loc {μ:Mem}{n:Nat}{xs:List DV}(h:μ[n]?=some (.lst xs)):asL μ (.loc n)=some xs:=by simp[asL,h]
theorem dIx_loc {μ:Mem}{n:Nat}{xs:List DV}{i:Int}{x:DV}(h:μ[n]?=some (.lst xs))(hx:atI xs i=some x):dIx (.loc n) (.dat (.int i)) μ=.ok (ofV x) μ:=by
 simp[dIx,asI,asS,asL,h,hx]
theorem dIx_lst {μ:Mem}{ds:List D}{i:Int}{d:D}(h:atI ds i=some d):dIx (.dat (.lst ds)) (.dat (.int i)) μ=.ok (.dat d) μ:=by
 have:atI (ds.map DV.dat) i=some (.dat d):=by
  unfold atI at h ⊢
  rw[List.length_map]
  cases q:ixN ds.length i with
  | none=>rw[q] at h;cases h
  | some j=>rw[q] at h;simp only[Option.bind_some] at h ⊢;rw[List.getElem?_map,h];rfl
 simp[dIx,asI,asS,asL,this,ofV]
theorem atI_nat {α:Type}{xs:List α}{k:Nat}{x:α}(h:xs[k]?=some x):atI xs (k:Int)=some x:=by
 have:k<xs.length:=(List.getElem?_eq_some_iff.mp h).1
 unfold atI ixN
 rw[if_pos (by omega),if_pos (by omega)]
 simpa using h
theorem ev_var {δ:Env}{i:Nat}{x:DV}{μ:Mem}(h:δ[i]?=some (some x)):eVar i δ μ=.ok (ofV x) μ:=by unfold eVar;rw[h]
theorem fz_var {δ:Env}{i:Nat}{x:DV}{μ:Mem}(h:δ[i]?=some (some x)):frzV (eVar i) δ μ=.ok x μ:=by unfold frzV;rw[ev_var h];simp[Res.bind,frz_ofV]
theorem fz_D {δ:Env}{d:D}{μ:Mem}:frzV (eD d) δ μ=.ok (.dat d) μ:=rfl
theorem fz_of {f:EM}{δ:Env}{μ μ':Mem}{x:DV}(h:f δ μ=.ok (ofV x) μ'):frzV f δ μ=.ok x μ':=by unfold frzV;rw[h];simp[Res.bind,frz_ofV]
theorem fz_ofD {f:EM}{δ:Env}{μ μ':Mem}{x:D}(h:f δ μ=.ok (.dat x) μ'):frzV f δ μ=.ok (.dat x) μ':=fz_of (x:=.dat x) h
theorem ev_op {g:DV→DV→Mem→Res R}{f h:EM}{δ:Env}{μ μ1 μ2:Mem}{x y:DV}{r:Res R}(h1:frzV f δ μ=.ok x μ1)(h2:frzV h δ μ1=.ok y μ2)(h3:g x y μ2=r):eOp g f h δ μ=r:=by unfold eOp;rw[h1];simp only[Res.bind];rw[h2];exact h3
theorem ev_cb1 {g:List DV→Mem→Res R}{f:EM}{δ:Env}{μ μ1:Mem}{x:DV}{r:Res R}(h1:frzV f δ μ=.ok x μ1)(h2:g [x] μ1=r):eCB g (aCons f aNil) δ μ=r:=by unfold eCB aCons aNil;rw[h1];simp only[Res.bind];exact h2
theorem ev_cb2 {g:List DV→Mem→Res R}{f h:EM}{δ:Env}{μ μ1 μ2:Mem}{x y:DV}{r:Res R}(h1:frzV f δ μ=.ok x μ1)(h2:frzV h δ μ1=.ok y μ2)(h3:g [x,y] μ2=r):eCB g (aCons f (aCons h aNil)) δ μ=r:=by unfold eCB aCons aNil;rw[h1];simp only[Res.bind];rw[h2];exact h3
theorem sq_next {g h:SM}{N:Nat}{δ δ':Env}{μ μ':Mem}{o:Out}(e:g N δ μ=.next δ' μ')(k:h N δ' μ'=o):gSeq g h N δ μ=o:=by unfold gSeq;rw[e];exact k
theorem sq_ret {g h:SM}{N:Nat}{δ:Env}{μ μ':Mem}{r:R}(e:g N δ μ=.ret r μ'):gSeq g h N δ μ=.ret r μ':=by unfold gSeq;rw[e]
theorem tm_of {f:EM}{δ:Env}{μ μ':Mem}{b:Bool}(h:f δ μ=.ok (.dat (.bl b)) μ'):tmB f δ μ=.ok b μ':=by unfold tmB;rw[h];rfl
theorem if_true {ft:TM}{g h:SM}{N:Nat}{δ:Env}{μ μ':Mem}{o:Out}(e:ft δ μ=.ok true μ')(k:g N δ μ'=o):gIf ft g h N δ μ=o:=by unfold gIf;rw[e];exact k
theorem if_false {ft:TM}{g h:SM}{N:Nat}{δ:Env}{μ μ':Mem}{o:Out}(e:ft δ μ=.ok false μ')(k:h N δ μ'=o):gIf ft g h N δ μ=o:=by unfold gIf;rw[e];exact k
theorem asg_ok {f:EM}{i:Nat}{N:Nat}{δ:Env}{μ μ':Mem}{x:DV}(e:frzV f δ μ=.ok x μ'):gAsg i f N δ μ=.next (δ.set i (some x)) μ':=by unfold gAsg;rw[e];rfl
theorem ret_ok {f:EM}{N:Nat}{δ:Env}{μ μ':Mem}{r:R}(e:f δ μ=.ok r μ'):gRet f N δ μ=.ret r μ':=by unfold gRet;rw[e];rfl
theorem drop_ok {f:EM}{N:Nat}{δ:Env}{μ μ':Mem}{r:R}(e:f δ μ=.ok r μ'):gDrop f N δ μ=.next δ μ':=by unfold gDrop;rw[e];rfl
theorem set_lp {μ:Mem}{n:Nat}{xs:List DV}{k:Int}{j:Nat}{y:DV}(h:μ[n]?=some (.lst xs))(hk:ixN xs.length k=some j)(hb:belowB n y=true):setPl μ (.loc n) (.dat (.int k)) y=some (μ.set n (.lst (xs.set j y))):=by
 simp[setPl,atPl,h,asI,hk,hb]
theorem set_at {μ:Mem}{n:Nat}{p q:Pl}(h:μ[n]?=some p):(μ.set n q)[n]?=some q:=by rw[List.getElem?_set_self (pl_lt h)]
theorem mul_ok {i j:Int}{μ:Mem}(h:cMul i j=true):dMul (.dat (.int i)) (.dat (.int j)) μ=.ok (.dat (.int (i*j))) μ:=by simp[d2I,asI,h]
theorem mod_ok {i j:Int}{μ:Mem}(h:0<j):dMod (.dat (.int i)) (.dat (.int j)) μ=.ok (.dat (.int (i % j))) μ:=by simp[d2I,asI,h]
theorem div_ok {i j:Int}{μ:Mem}(h:0<j)(h':j<1073741824):dDiv (.dat (.int i)) (.dat (.int j)) μ=.ok (.dat (.int (i / j))) μ:=by simp[d2I,asI,h,h']
theorem add_ok {i j:Int}{μ:Mem}:dAdd (.dat (.int i)) (.dat (.int j)) μ=.ok (.dat (.int (i+j))) μ:=by simp[dAdd,asI]
theorem lt_ok {i j:Int}{μ:Mem}:dLt (.dat (.int i)) (.dat (.int j)) μ=.ok (.dat (.bl (decide (i<j)))) μ:=by simp[d2I,asI]
theorem ge_ok {i j:Int}{μ:Mem}:dGe (.dat (.int i)) (.dat (.int j)) μ=.ok (.dat (.bl (decide (j≤i)))) μ:=by simp[d2I,asI]
theorem gt_ok {i j:Int}{μ:Mem}:dGt (.dat (.int i)) (.dat (.int j)) μ=.ok (.dat (.bl (decide (j<i)))) μ:=by simp[d2I,asI]
theorem int_ok {i:Int}{μ:Mem}:d1 dInt [.dat (.int i)] μ=.ok (.dat (.int i)) μ:=rfl
theorem cMul_r {i j:Int}(h:-2^64<j∧j<2^64):cMul i j=true:=by unfold cMul;rw[decide_eq_true (p:=_∧_) h];simp
theorem cMul_l {i j:Int}(h:-2^64<i∧i<2^64):cMul i j=true:=by unfold cMul;rw[decide_eq_true (p:=_∧_) h];simp
theorem ev_int {f:EM}{δ:Env}{μ μ1:Mem}{i:Int}(h:frzV f δ μ=.ok (.dat (.int i)) μ1):frzV (eCB (d1 dInt) (aCons f aNil)) δ μ=.ok (.dat (.int i)) μ1:=fz_ofD (ev_cb1 h int_ok)
theorem ixN_nat {n k:Nat}(h:k<n):ixN n (k:Int)=some k:=by unfold ixN;rw[if_pos (by omega),if_pos (by omega)];simp
theorem bag_at {μ:Mem}{n:Nat}{xs:List DV}{d:D}{δ:Env}{i:Int}(k:Nat)(h:μ[n]?=some (.lst xs))(hd:δ[0]?=some (some (.loc n)))(hk:xs[k]?=some (.dat d))(hi:i=(k:Int):=by rfl):frzV (eOp dIx (eVar 0) (eD (.int i))) δ μ=.ok (.dat d) μ:=by
 subst hi;exact fz_ofD (ev_op (fz_var hd) fz_D (dIx_loc h (atI_nat hk)))
theorem gset_ok {fe:EM}{δ:Env}{μ μ1:Mem}{n N:Nat}{xs:List DV}{y:D}{i:Int}(k:Nat)(e:frzV fe δ μ=.ok (.dat y) μ1)(h:μ1[n]?=some (.lst xs))(hd:δ[0]?=some (some (.loc n)))(hk:k<xs.length)(hi:i=(k:Int):=by rfl):gSet (eVar 0) (eD (.int i)) fe N δ μ=.next δ (μ1.set n (.lst (xs.set k (.dat y)))):=by
 subst hi
 unfold gSet
 rw[e];simp only[Res.bind];rw[fz_var hd];simp only[Res.bind];rw[fz_D];simp only[]
 rw[set_lp (j:=k) h (ixN_nat hk) rfl];rfl
theorem faug_ok {δ:Env}{μ:Mem}{n N:Nat}{xs:List DV}{i j ki:Int}(k:Nat)(h:μ[n]?=some (.lst xs))(hd:δ[0]?=some (some (.loc n)))(hk:xs[k]?=some (.dat (.int i)))(hk3:k<2^63)(hi:ki=(k:Int):=by rfl):gAugS (fun i j=>i+j) (eVar 0) (eD (.int ki)) (eD (.int j)) N δ μ=.next δ (μ.set n (.lst (xs.set k (.dat (.int (i+j)))))):=by
 subst hi
 have hl:k<xs.length:=(List.getElem?_eq_some_iff.mp hk).1
 have g:getPl μ (.loc n) (.dat (.int k))=some i:=by
  have:(0:Int)≤(k:Int)∧(k:Int)<2^63:=⟨by omega,by exact_mod_cast hk3⟩
  simp[getPl,asL,h,asI,this,hk];omega
 unfold gAugS
 rw[fz_var hd];simp only[Res.bind];rw[fz_D];simp only[];rw[g];simp only[];rw[fz_D];simp only[asI]
 rw[set_lp (j:=k) h (ixN_nat hl) rfl];rfl
theorem fill_spec {B:Bg}(hB:B.ok){μ:Mem}{n N:Nat}{m:DV}(h:μ[n]?=some B.pl):∃ y z,gFill N [some (.loc n),some m,none,none,none,none,none] μ=.next [some (.loc n),some m,y,z,none,none,none] (μ.set n B.fill.pl):=by
 have e0:eOp dEq (eOp dIx (eVar 0) (eD (.int 0))) (eD (.int 0)) [some (.loc n),some m,none,none,none,none,none] μ=.ok (.dat (.bl ((B.a==0)==true))) μ:=ev_op (bag_at 0 h rfl rfl) fz_D (dEqB_int _ _ _ _)
 unfold gFill
 by_cases ha:B.a=0
 ·have e1:((B.a==0)==true)=true:=by simp[ha]
  rw[e1] at e0
  have e2:gIf (tmB (eOp dLt (eOp dIx (eVar 0) (eD (.int 2))) (eCB (d1 dLen) (aCons (eOp dIx (eVar 0) (eD (.int 3))) aNil)))) (gAsg 2 (eOp dIx (eOp dIx (eVar 0) (eD (.int 3))) (eOp dIx (eVar 0) (eD (.int 2))))) gNext N [some (.loc n),some m,some (.dat (.int 0)),none,none,none,none] μ =
    .next [some (.loc n),some m,some (.dat (.int B.cell)),none,none,none,none] μ:=by
   have l:eCB (d1 dLen) (aCons (eOp dIx (eVar 0) (eD (.int 3))) aNil) [some (.loc n),some m,some (.dat (.int 0)),none,none,none,none] μ=.ok (.dat (.int B.cs.length)) μ :=
    ev_cb1 (bag_at 3 h rfl rfl) (by simp[d1,dLen,asS,asL])
   have t:eOp dLt (eOp dIx (eVar 0) (eD (.int 2))) (eCB (d1 dLen) (aCons (eOp dIx (eVar 0) (eD (.int 3))) aNil)) [some (.loc n),some m,some (.dat (.int 0)),none,none,none,none] μ=.ok (.dat (.bl (decide (B.c<B.cs.length)))) μ :=
    ev_op (bag_at 2 h rfl rfl) (fz_ofD l) lt_ok
   by_cases c:B.c<B.cs.length
   ·rw[decide_eq_true c] at t
    have hc:=hB.c
    have hl:B.c.toNat<B.cs.length:=by omega
    have g:B.cs[B.c.toNat]?=some B.cell:=by
     unfold Bg.cell;rw[if_pos c,List.getD_eq_getElem?_getD,List.getElem?_eq_getElem hl];rfl
    have w:dIx (.dat (.lst (B.cs.map D.int))) (.dat (.int B.c)) μ=.ok (.dat (.int B.cell)) μ:=by
     have:B.c=((B.c.toNat:Nat):Int):=by omega
     rw[this]
     exact dIx_lst (atI_nat (by rw[List.getElem?_map,g];rfl))
    exact if_true (tm_of t) (asg_ok (fz_ofD (ev_op (bag_at 3 h rfl rfl) (bag_at 2 h rfl rfl) w)))
   ·rw[decide_eq_false c] at t
    have:B.cell=0:=by unfold Bg.cell;rw[if_neg c]
    rw[this]
    exact if_false (tm_of t) rfl
  have h2:=set_at (q:=.lst [.dat (.int B.a),.dat (.int B.b),.dat (.int (B.c+1)),.dat (.lst (B.cs.map D.int))]) h
  have e3:gIf (tmB (eOp dGe (eVar 2) (eD (.int 1000000000000000000)))) (gSet (eVar 0) (eD (.int 0)) (eVar 2)) gNext N [some (.loc n),some m,some (.dat (.int B.cell)),none,none,none,none] (μ.set n (.lst [.dat (.int B.a),.dat (.int B.b),.dat (.int (B.c+1)),.dat (.lst (B.cs.map D.int))])) =
    .next [some (.loc n),some m,some (.dat (.int B.cell)),none,none,none,none] (μ.set n (.lst [.dat (.int (if 1000000000000000000≤B.cell then B.cell else 0)),.dat (.int B.b),.dat (.int (B.c+1)),.dat (.lst (B.cs.map D.int))])):=by
   have t:eOp dGe (eVar 2) (eD (.int 1000000000000000000)) [some (.loc n),some m,some (.dat (.int B.cell)),none,none,none,none] (μ.set n (.lst [.dat (.int B.a),.dat (.int B.b),.dat (.int (B.c+1)),.dat (.lst (B.cs.map D.int))]))=.ok (.dat (.bl (decide (1000000000000000000≤B.cell)))) (μ.set n (.lst [.dat (.int B.a),.dat (.int B.b),.dat (.int (B.c+1)),.dat (.lst (B.cs.map D.int))])) :=
    ev_op (fz_var (i:=2) rfl) fz_D ge_ok
   by_cases c:1000000000000000000≤B.cell
   ·rw[decide_eq_true c] at t
    rw[if_pos c]
    refine if_true (tm_of t) ((gset_ok 0 (fz_var (i:=2) (x:=.dat (.int B.cell)) rfl) h2 rfl (by simp)).trans ?_)
    rw[List.set_set];rfl
   ·rw[decide_eq_false c] at t
    rw[if_neg c]
    rw[ha] at t ⊢
    exact if_false (tm_of t) rfl
  have h3:=set_at (q:=.lst [.dat (.int (if 1000000000000000000≤B.cell then B.cell else 0)),.dat (.int B.b),.dat (.int (B.c+1)),.dat (.lst (B.cs.map D.int))]) h
  refine⟨some (.dat (.int B.cell)),some (.dat (.int (B.b*48271+B.cell % 2147483647+7919*(B.c+1)))),?_⟩
  refine if_true (tm_of e0) (sq_next (asg_ok fz_D) (sq_next e2 (sq_next (faug_ok 2 h rfl rfl (by decide)) (sq_next e3 ?_))))
  have fe:B.fill.pl=.lst [.dat (.int (if 1000000000000000000≤B.cell then B.cell else 0)),.dat (.int ((B.b*48271+B.cell % 2147483647+7919*(B.c+1)) % 2147483647)),.dat (.int (B.c+1)),.dat (.lst (B.cs.map D.int))]:=by
   unfold Bg.fill;rw[if_pos ha];rfl
  rw[fe]
  generalize hz:μ.set n (.lst [.dat (.int (if 1000000000000000000≤B.cell then B.cell else 0)),.dat (.int B.b),.dat (.int (B.c+1)),.dat (.lst (B.cs.map D.int))])=μ3 at h3
  refine sq_next (asg_ok (x:=.dat (.int (B.b*48271+B.cell % 2147483647+7919*(B.c+1)))) (fz_ofD (ev_op (fz_ofD (ev_op (fz_ofD (ev_op (bag_at 1 h3 rfl rfl) fz_D (mul_ok (cMul_r (by decide)))))
   (fz_ofD (ev_op (ev_int (fz_var (i:=2) (x:=.dat (.int B.cell)) rfl)) fz_D (mod_ok (by decide)))) add_ok)) (fz_ofD (ev_op fz_D (bag_at 2 h3 rfl rfl) (mul_ok (cMul_l (by decide))))) add_ok))) ?_
  refine(gset_ok 1 (fz_ofD (ev_op (ev_int (fz_var (i:=3) (x:=.dat (.int (B.b*48271+B.cell % 2147483647+7919*(B.c+1)))) rfl)) fz_D (mod_ok (by decide)))) h3 rfl (by simp)).trans ?_
  rw[←hz,List.set_set];rfl
 ·have e1:((B.a==0)==true)=false:=by simp[ha]
  rw[e1] at e0
  refine⟨none,none,if_false (tm_of e0) ?_⟩
  unfold Bg.fill;rw[if_neg ha]
  show Out.next _ μ=_
  rw[show μ.set n B.pl=μ from by
   apply List.ext_getElem?
   intro i
   by_cases c:n=i
   ·subst c;rw[set_at h,h]
   ·rw[List.getElem?_set_ne c]]
theorem take_len {μ:Mem}{n:Nat}{p:Pl}:(μ.set n p).take μ.length=μ.set n p:=List.take_of_length_le (by rw[List.length_set];exact Nat.le_refl _)
theorem call_ret {g:SM}{k m:Nat}{xs:List DV}{μ μ':Mem}{r:R}{o:Res R}(hk:xs.length=k)(h:g μ.length (xs.map some++List.replicate m none) μ=.ret r μ')(hc:closeR μ.length r μ'=o):callD g k m xs μ=o:=by
 unfold callD;rw[if_pos hk];unfold callF;rw[h];exact hc
theorem take_spec {B:Bg}(hB:B.ok){μ:Mem}{n:Nat}{m:Int}(h:μ[n]?=some B.pl)(hm:0<m)(hm':m<1073741824) :
  callD gTake 2 5 [.loc n,.dat (.int m)] μ=.ok (.dat (.int (takeB B m).1)) (μ.set n (takeB B m).2.pl):=by
 obtain⟨y,z,hf⟩:=fill_spec hB (N:=μ.length) (m:=.dat (.int m)) h
 have h1:=set_at (q:=B.fill.pl) h
 have f:=fill_ok hB
 have key:gTake μ.length [some (.loc n),some (.dat (.int m)),none,none,none,none,none] μ=.ret (.dat (.int (takeB B m).1)) (μ.set n (takeB B m).2.pl):=by
  refine sq_next hf ?_
  have t:eOp dGt (eOp dIx (eVar 0) (eD (.int 0))) (eD (.int 0)) [some (.loc n),some (.dat (.int m)),y,z,none,none,none] (μ.set n B.fill.pl)=.ok (.dat (.bl (decide (0<B.fill.a)))) (μ.set n B.fill.pl) :=
   ev_op (bag_at 0 h1 rfl rfl) fz_D gt_ok
  by_cases c:0<B.fill.a
  ·rw[decide_eq_true c] at t
   have tk:takeB B m=(B.fill.a % m,{ B.fill with a:=B.fill.a / m }):=by unfold takeB;rw[if_pos c]
   rw[tk]
   refine sq_ret (if_true (tm_of t) (sq_next (asg_ok (fz_ofD (ev_op (ev_int (bag_at 0 h1 rfl rfl)) (fz_var (i:=1) (x:=.dat (.int m)) rfl) (mod_ok hm))))
    (sq_next (gset_ok 0 (fz_ofD (ev_op (ev_int (bag_at 0 h1 rfl rfl)) (fz_var (i:=1) (x:=.dat (.int m)) rfl) (div_ok hm hm'))) h1 rfl (by simp[Bg.pl]))
     ((ret_ok (ev_var (i:=4) (x:=.dat (.int (B.fill.a % m))) rfl)).trans ?_))))
   rw[List.set_set];rfl
  ·rw[decide_eq_false c] at t
   have tk:takeB B m=(B.fill.low m,B.fill):=by unfold takeB;rw[if_neg c]
   rw[tk]
   refine sq_next (if_false (tm_of t) rfl) ?_
   have hb:=f.b
   have hb':=f.b'
   have q1:0≤(B.fill.b+1)*39373 % 1000000007∧(B.fill.b+1)*39373 % 1000000007<1000000007:=by omega
   refine sq_next (asg_ok (fz_ofD (ev_op (ev_int (fz_ofD (ev_op (fz_ofD (ev_op (bag_at 1 h1 rfl rfl) fz_D add_ok)) fz_D (mul_ok (cMul_r (by decide)))))) fz_D (mod_ok (by decide))))) ?_
   unfold Bg.low
   generalize (B.fill.b+1)*39373 % 1000000007=e at q1
   refine sq_next (asg_ok (fz_ofD (ev_op (ev_int (fz_ofD (ev_op (fz_ofD (ev_op (ev_int (fz_ofD (ev_op (fz_var (i:=5) (x:=.dat (.int e)) rfl) (fz_var (i:=5) (x:=.dat (.int e)) rfl) (mul_ok (cMul_r (by omega)))))) fz_D (mod_ok (by decide)))) fz_D (mul_ok (cMul_r (by decide)))))) fz_D (mod_ok (by decide))))) ?_
   exact ret_ok (ev_op (ev_int (fz_ofD (ev_op (fz_var (i:=6) (x:=.dat (.int (e*e % 998244353*30011 % 998244353))) rfl) fz_D (div_ok (by decide) (by decide))))) (fz_var (i:=1) (x:=.dat (.int m)) rfl) (mod_ok hm))
 refine call_ret rfl key ?_
 show Res.ok _ (List.take _ _)=_
 rw[take_len]
structure Fit (k w:Nat)(p:PyData):Prop where
 lay:p.canLay0=true
 dep:p.depth≤k
 wt:p.weight≤w
 sh:p.showable=true
 is:p.intsShort 13=true
theorem Fit.mono {k k' w w':Nat}{p:PyData}(h:Fit k w p)(hk:k≤k')(hw:w≤w'):Fit k' w' p:=⟨h.lay,Nat.le_trans h.dep hk,Nat.le_trans h.wt hw,h.sh,h.is⟩
theorem fitAll {k w:Nat}:∀ (ps:List PyData),(∀ p∈ps,Fit k w p)→PyData.canLayAll0 ps=true∧PyData.depthAll ps≤k∧PyData.weightAll ps≤ps.length*(w+1)∧PyData.showableAll ps=true∧PyData.intsShortAll 13 ps=true
 | [],_=>⟨rfl,Nat.zero_le _,Nat.zero_le _,rfl,rfl⟩
 | p::ps,h=>by
  obtain⟨a,b,c,d,e⟩:=fitAll ps fun q hq=>h q (List.mem_cons_of_mem _ hq)
  have f:=h p List.mem_cons_self
  have g1:=f.dep
  have g2:=f.wt
  refine⟨by simp[PyData.canLayAll0,a,f.lay],by simp only[PyData.depthAll];omega,?_,by simp[PyData.showableAll,d,f.sh],by simp[PyData.intsShortAll,e,f.is]⟩
  simp only[PyData.weightAll,List.length_cons,Nat.succ_mul];omega
theorem fit_list {k w n:Nat}{ps:List PyData}(h:∀ p∈ps,Fit k w p)(hn:ps.length≤n):Fit (k+1) (n*(w+1)) (.list ps):=by
 obtain⟨a,b,c,d,e⟩:=fitAll ps h
 exact⟨a,by simp only[PyData.depth];omega,by simp only[PyData.weight];exact Nat.le_trans c (Nat.mul_le_mul_right _ hn),d,e⟩
theorem fit_str {s:Str}{w:Nat}(h:PyData.strOk s=true)(hw:s.cps.size≤w):Fit 0 w (.str s):=⟨h,Nat.zero_le _,hw,rfl,rfl⟩
theorem Fit.shaped {k w:Nat}{p:PyData}(h:Fit k w p)(hk:k≤64):SeqAt.shaped p=true:=by
 unfold SeqAt.shaped;rw[h.lay,decide_eq_true (Nat.le_trans h.dep hk)];rfl
theorem Fit.shown {k w:Nat}{p:PyData}(h:Fit k w p)(hk:k≤64)(hw:w≤2^20):p.shown.length≤sizeLine :=
 PyData.shown_fits_of_layable0 (B:=13) (by decide) (by decide) (by unfold PyData.layable0;rw[h.lay,decide_eq_true (Nat.le_trans h.dep hk),decide_eq_true (Nat.le_trans h.wt hw)];rfl) h.is
theorem eq_anyB {μ:Mem}{x y:DV}{p q:PyData}{k w k' w':Nat}(b:Bool)(hx:peekPy μ x=some p)(hy:peekPy μ y=some q)(h:Fit k w p)(h':Fit k' w' q)(hk:k≤64)(hk':k'≤64):dEqB b x y μ=.ok (.dat (.bl (PyData.eqv p q==b))) μ:=by
 unfold dEqB;rw[hx];simp only;rw[hy];simp only;rw[if_pos ⟨h.shaped hk,h'.shaped hk'⟩]
theorem str_beq (s t:Str):(s==t)=decide (s=t):=by
 by_cases c:s=t
 ·subst c;simp
 ·rw[decide_eq_false c];exact beq_false_of_ne c
theorem asStr_dat {x:DV}{s:Str}(h:asStr x=some s):x=.dat (.str s):=by
 unfold asStr at h;split at h <;> cases h;rfl
theorem eq_str {b:Bool}{s t:Str}{μ:Mem}:dEqS b (.dat (.str s)) (.dat (.str t)) μ=.ok (.dat (.bl (decide (s=t)==b))) μ:=rfl
theorem eq_any {μ:Mem}{x y:DV}{p q:PyData}{k w k' w':Nat}(b:Bool)(hx:peekPy μ x=some p)(hy:peekPy μ y=some q)(h:Fit k w p)(h':Fit k' w' q)(hk:k≤64)(hk':k'≤64):dEqS b x y μ=.ok (.dat (.bl (PyData.eqv p q==b))) μ:=by
 have e:=eq_anyB b hx hy h h' hk hk'
 unfold dEqS
 cases e1:asStr x with
 | none=>exact e
 | some s =>
  cases e2:asStr y with
  | none=>exact e
  | some t =>
   rw[asStr_dat e1] at hx
   rw[asStr_dat e2] at hy
   have hx':some (PyData.str s)=some p:=by rw[←hx];unfold peekPy peek;cases s;rfl
   have hy':some (PyData.str t)=some q:=by rw[←hy];unfold peekPy peek;cases t;rfl
   cases hx';cases hy'
   simp only[PyData.eqv,str_beq]
theorem peekL_dat {f:DV→Option D}(hf:∀ d,f (.dat d)=some d):∀ ds:List D,peekL f (ds.map DV.dat)=some ds
 | []=>rfl
 | d::ds=>by simp[peekL,hf,peekL_dat hf ds]
theorem peekK_dat (k:Nat)(μ:Mem)(d:D):peekK k μ (.dat d)=some d:=by cases k <;> rfl
theorem peekK_loc {k n:Nat}{μ:Mem}{ds:List D}(h:μ[n]?=some (.lst (ds.map DV.dat))):peekK (k+1) μ (.loc n)=some (.lst ds):=by
 unfold peekK;rw[h];simp only;rw[peekL_dat (peekK_dat k μ)];rfl
theorem peek_loc {n:Nat}{μ:Mem}{ds:List D}(h:μ[n]?=some (.lst (ds.map DV.dat))):peek μ (.loc n)=some (.lst ds):=peekK_loc h
theorem peekPy_loc {n:Nat}{μ:Mem}{ds:List D}{ps:List PyData}(h:μ[n]?=some (.lst (ds.map DV.dat)))(hp:toPyL ds=some ps):peekPy μ (.loc n)=some (.list ps):=by
 unfold peekPy;rw[peek_loc h];simp[toPy,hp]
theorem peekPy_dat {μ:Mem}{d:D}{p:PyData}(h:toPy d=some p):peekPy μ (.dat d)=some p:=by unfold peekPy peek;rw[peekK_dat];exact h
theorem ev_bm1 {c:DV→Mem→Bool}{g:DV→List DV→Mem→Res R}{f h:EM}{δ:Env}{μ μ1 μ2:Mem}{x y:DV}{r:Res R}(h1:frzV f δ μ=.ok x μ1)(hc:c x μ1=true)(h2:frzV h δ μ1=.ok y μ2)(h3:g x [y] μ2=r):eBM c g f (aCons h aNil) δ μ=r:=by
 unfold eBM;rw[h1];simp only[Res.bind];rw[if_pos hc];unfold aCons aNil;rw[h2];simp only[Res.bind];exact h3
theorem tyL_loc {μ:Mem}{n:Nat}{xs:List DV}(h:μ[n]?=some (.lst xs)):tyL (.loc n) μ=true:=by unfold tyL;rw[asL_loc h];rfl
theorem pop_ok {μ:Mem}{n k:Nat}{ys:List DV}{y:DV}(h:μ[n]?=some (.lst ys))(hk:ys[k]?=some y)(hb:k<2^63):dPop (.loc n) [.dat (.int k)] μ=.ok (ofV y) (μ.set n (.lst (ys.eraseIdx k))):=by
 have hl:k<ys.length:=(List.getElem?_eq_some_iff.mp hk).1
 have e:seqIndex? (k:Int) ys.length=some k:=by
  have:¬((k:Int)<0):=by omega
  simp[seqIndex?,this,hl]
 have c:-2^63≤(k:Int)∧(k:Int)<2^63:=⟨by omega,by exact_mod_cast hb⟩
 simp only[dPop,atPl,h,asI]
 rw[if_pos c]
 simp only[e,hk]
theorem app_ok {μ:Mem}{n:Nat}{ys:List DV}{y:DV}(h:μ[n]?=some (.lst ys))(hl:ys.length<sizeLine)(hb:belowB n y=true):dAppend (.loc n) [y] μ=.ok (.dat .non) (μ.set n (.lst (ys++[y]))):=by
 simp only[dAppend,atPl,h];rw[if_pos ⟨hl,hb⟩]
theorem len_loc {μ:Mem}{n:Nat}{ys:List DV}(h:μ[n]?=some (.lst ys)):d1 dLen [.loc n] μ=.ok (.dat (.int ys.length)) μ:=by simp[d1,dLen,asS,asL,h]
theorem len_lst {μ:Mem}{ds:List D}:d1 dLen [.dat (.lst ds)] μ=.ok (.dat (.int ds.length)) μ:=by simp[d1,dLen,asS,asL]
def gMixed:SM :=
  (gSeq (gPar2 2 3 (eCB (d1 dList) (aCons (eVar 1) aNil)) (eLst aNil))
  (gSeq (gWh 100000 [true,true,true,true] (tmB (eOp dNe (eVar 2) (eLst aNil))) (gDrop (eBM tyL dAppend (eVar 3) (aCons (eBM tyL dPop (eVar 2) (aCons (eCB (callD gTake 2 5) (aCons (eVar 0) (aCons (eCB (d1 dLen) (aCons (eVar 2) aNil)) aNil))) aNil)) aNil))))
  (gRet (eVar 3))))
theorem map_erase {α β:Type}(f:α→β):∀ (l:List α) (k:Nat),(l.map f).eraseIdx k=(l.eraseIdx k).map f
 | [],k=>by simp
 | a::l,0=>by simp
 | a::l,k+1=>by simp[map_erase f l k]
theorem ap0 {μ:Mem}{a b:Pl}:(μ++[a,b])[μ.length]?=some a:=by simp
theorem ap1 {μ:Mem}{a b:Pl}:(μ++[a,b])[μ.length+1]?=some b:=by simp
theorem st0 {μ:Mem}{a b c:Pl}:(μ++[a,b]).set μ.length c=μ++[c,b]:=by simp[List.set_append]
theorem st1 {μ:Mem}{a b c:Pl}:(μ++[a,b]).set (μ.length+1) c=μ++[a,c]:=by simp[List.set_append]
theorem apn {μ X:Mem}{n:Nat}{p:Pl}(h:μ[n]?=some p):(μ++X)[n]?=some p:=by rw[List.getElem?_append_left (pl_lt h)];exact h
theorem stn {μ X:Mem}{n:Nat}{p q:Pl}(h:μ[n]?=some p):(μ++X).set n q=μ.set n q++X:=by rw[List.set_append_left _ _ (pl_lt h)]
theorem toPyL_fit {k w:Nat}:∀ (ds:List D),(∀ d∈ds,∃ p,toPy d=some p∧Fit k w p)→∃ ps,toPyL ds=some ps∧ps.length=ds.length∧∀ p∈ps,Fit k w p
 | [],_=>⟨[],rfl,rfl,fun _ h=>by cases h⟩
 | d::ds,h=>by
  obtain⟨p,h1,h2⟩:=h d List.mem_cons_self
  obtain⟨ps,h3,h4,h5⟩:=toPyL_fit ds fun e he=>h e (List.mem_cons_of_mem _ he)
  refine⟨p::ps,by simp[toPyL,h1,h3],by simp[h4],fun q hq=>?_⟩
  rcases List.mem_cons.mp hq with rfl|hq
  ·exact h2
  ·exact h5 q hq
theorem ne_nil {μ:Mem}{n k w:Nat}{ds:List D}(hk:k<64)(h:μ[n]?=some (.lst (ds.map DV.dat)))(hd:∀ d∈ds,∃ p,toPy d=some p∧Fit k w p):dNe (.loc n) (.dat (.lst [])) μ=.ok (.dat (.bl (!ds.isEmpty))) μ:=by
 obtain⟨ps,h1,h2,h3⟩:=toPyL_fit ds hd
 have f:=fit_list h3 (Nat.le_refl _)
 have f0:Fit 1 0 (.list []):=(fit_list (k:=0) (w:=0) (n:=0) (ps:=[]) (fun _ h=>by cases h) (Nat.le_refl _)).mono (Nat.le_refl _) (Nat.le_refl _)
 refine(eq_any false (peekPy_loc h h1) (peekPy_dat (d:=.lst []) (p:=.list []) rfl) f f0 (by omega) (by omega)).trans ?_
 cases ds with
 | nil=>cases ps with
  | nil=>rfl
  | cons _ _=>cases h2
 | cons d ds=>cases ps with
  | nil=>cases h2
  | cons _ _=>rfl
theorem mixed_turn {n:Nat}{th:DV}{left found:List D}{B:Bg}{μ:Mem}{N:Nat}(hB:B.ok)(h:μ[n]?=some B.pl)(hl:0<left.length)(hs:left.length+found.length<16777216) :
  ∃ (k:Nat) (d:D),left[k]?=some d∧gDrop (eBM tyL dAppend (eVar 3) (aCons (eBM tyL dPop (eVar 2) (aCons (eCB (callD gTake 2 5) (aCons (eVar 0) (aCons (eCB (d1 dLen) (aCons (eVar 2) aNil)) aNil))) aNil)) aNil))
    N [some (.loc n),some th,some (.loc μ.length),some (.loc (μ.length+1))] (μ++[.lst (left.map DV.dat),.lst (found.map DV.dat)]) =
   .next [some (.loc n),some th,some (.loc μ.length),some (.loc (μ.length+1))] (μ.set n (takeB B left.length).2.pl++[.lst ((left.eraseIdx k).map DV.dat),.lst ((found++[d]).map DV.dat)]):=by
 obtain⟨o1,o2,o3⟩:=takeB_ok hB (m:=(left.length:Int)) (by omega)
 have e1:eCB (callD gTake 2 5) (aCons (eVar 0) (aCons (eCB (d1 dLen) (aCons (eVar 2) aNil)) aNil)) [some (.loc n),some th,some (.loc μ.length),some (.loc (μ.length+1))] (μ++[.lst (left.map DV.dat),.lst (found.map DV.dat)]) =
   .ok (.dat (.int (takeB B left.length).1)) (μ.set n (takeB B left.length).2.pl++[.lst (left.map DV.dat),.lst (found.map DV.dat)]):=by
  have l:eCB (d1 dLen) (aCons (eVar 2) aNil) [some (.loc n),some th,some (.loc μ.length),some (.loc (μ.length+1))] (μ++[.lst (left.map DV.dat),.lst (found.map DV.dat)])=.ok (.dat (.int left.length)) (μ++[.lst (left.map DV.dat),.lst (found.map DV.dat)]):=by
   refine(ev_cb1 (fz_var (i:=2) rfl) (len_loc ap0)).trans ?_;rw[List.length_map]
  refine(ev_cb2 (fz_var (i:=0) rfl) (fz_ofD l) (take_spec hB (apn h) (by omega) (by omega))).trans ?_
  rw[stn h]
 generalize (takeB B left.length).1=t at *
 generalize (takeB B left.length).2=B2 at *
 obtain⟨k,rfl⟩:=Int.eq_ofNat_of_zero_le o2
 have hk:k<left.length:=by omega
 have hk':left[k]?=some (left[k]'hk):=List.getElem?_eq_getElem hk
 generalize left[k]'hk=d at hk'
 refine⟨k,d,hk',?_⟩
 have hL:μ.length=(μ.set n B2.pl).length:=(List.length_set ..).symm
 have e2:eBM tyL dPop (eVar 2) (aCons (eCB (callD gTake 2 5) (aCons (eVar 0) (aCons (eCB (d1 dLen) (aCons (eVar 2) aNil)) aNil))) aNil) [some (.loc n),some th,some (.loc μ.length),some (.loc (μ.length+1))] (μ++[.lst (left.map DV.dat),.lst (found.map DV.dat)]) =
   .ok (ofV (.dat d)) (μ.set n B2.pl++[.lst ((left.eraseIdx k).map DV.dat),.lst (found.map DV.dat)]):=by
  refine(ev_bm1 (fz_var (i:=2) rfl) (tyL_loc ap0) (fz_ofD e1) (pop_ok (k:=k) (y:=.dat d) (ys:=left.map DV.dat) (by rw[hL];exact ap0) (by rw[List.getElem?_map,hk'];rfl) (by omega))).trans ?_
  rw[hL,st0,map_erase]
 refine drop_ok (r:=.dat .non) ((ev_bm1 (fz_var (i:=3) rfl) (tyL_loc ap1) (fz_of e2) (app_ok (ys:=found.map DV.dat) (by rw[hL];exact ap1) (by rw[List.length_map];exact Nat.lt_of_lt_of_le (show found.length<16777216 by omega) (by decide)) rfl)).trans ?_)
 rw[hL,st1,List.map_append];rfl
theorem erase_perm {α:Type}:∀ (l:List α) (k:Nat) (d:α),l[k]?=some d→(d::l.eraseIdx k).Perm l
 | [],k,d,h=>by simp at h
 | a::l,0,d,h=>by simp at h;subst h;exact List.Perm.refl _
 | a::l,k+1,d,h=>by
  have:=erase_perm l k d (by simpa using h)
  exact(List.Perm.swap a d _).trans (List.Perm.cons a this)
theorem mixed_loop {n:Nat}{th:D}{k w:Nat}(hk:k<64):∀ (m:Nat) (left found:List D) (B:Bg) (μ:Mem) (fuel N:Nat),B.ok→μ[n]?=some B.pl→left.length=m→m<fuel→left.length+found.length<16777216 →
  (∀ d∈left,∃ p,toPy d=some p∧Fit k w p) →
  ∃ (ys:List D) (B':Bg),B'.ok∧ys.Perm (found++left) ∧
   whL (μ.length+2) [true,true,true,true] (tmB (eOp dNe (eVar 2) (eLst aNil))) (gDrop (eBM tyL dAppend (eVar 3) (aCons (eBM tyL dPop (eVar 2) (aCons (eCB (callD gTake 2 5) (aCons (eVar 0) (aCons (eCB (d1 dLen) (aCons (eVar 2) aNil)) aNil))) aNil)) aNil)))
    N fuel [some (.loc n),some (.dat th),some (.loc μ.length),some (.loc (μ.length+1))] (μ++[.lst (left.map DV.dat),.lst (found.map DV.dat)]) =
   .next [some (.loc n),some (.dat th),some (.loc μ.length),some (.loc (μ.length+1))] (μ.set n B'.pl++[.lst [],.lst (ys.map DV.dat)]):=by
 intro m
 induction m with
 | zero =>
  intro left found B μ fuel N hB h hm hf hs hd
  cases left with
  | cons _ _=>cases hm
  | nil =>
   cases fuel with
   | zero=>omega
   | succ fuel =>
    refine⟨found,B,hB,by simp,?_⟩
    have t:tmB (eOp dNe (eVar 2) (eLst aNil)) [some (.loc n),some (.dat th),some (.loc μ.length),some (.loc (μ.length+1))] (μ++[.lst (([]:List D).map DV.dat),.lst (found.map DV.dat)])=.ok false (μ++[.lst (([]:List D).map DV.dat),.lst (found.map DV.dat)]) :=
     tm_of (ev_op (fz_var (i:=2) rfl) (show frzV (eLst aNil) _ _=.ok (.dat (.lst [])) _ from rfl) (ne_nil hk (ds:=[]) ap0 hd))
    unfold whL
    rw[t]
    have:μ.set n B.pl=μ:=by
     apply List.ext_getElem?
     intro i
     by_cases c:n=i
     ·subst c;rw[set_at h,h]
     ·rw[List.getElem?_set_ne c]
    rw[this];rfl
 | succ m ih =>
  intro left found B μ fuel N hB h hm hf hs hd
  cases fuel with
  | zero=>omega
  | succ fuel =>
   obtain⟨j,d,hj,e⟩:=mixed_turn (th:=.dat th) (N:=N) (left:=left) (found:=found) hB h (by omega) hs
   obtain⟨o1,o2,o3⟩:=takeB_ok hB (m:=(left.length:Int)) (by omega)
   have hjl:j<left.length:=(List.getElem?_eq_some_iff.mp hj).1
   have hl:(left.eraseIdx j).length=m:=by rw[List.length_eraseIdx,if_pos hjl];omega
   obtain⟨ys,B',oB,pm,eq⟩:=ih (left.eraseIdx j) (found++[d]) (takeB B left.length).2 (μ.set n (takeB B left.length).2.pl) fuel N o1 (set_at h) hl (by omega) (by rw[List.length_append,hl];simp;omega) (fun x hx=>hd x (List.mem_of_mem_eraseIdx hx))
   refine⟨ys,B',oB,pm.trans ?_,?_⟩
   ·rw[List.append_assoc]
    exact List.Perm.append_left found (erase_perm left j d hj)
   ·have t:tmB (eOp dNe (eVar 2) (eLst aNil)) [some (.loc n),some (.dat th),some (.loc μ.length),some (.loc (μ.length+1))] (μ++[.lst (left.map DV.dat),.lst (found.map DV.dat)])=.ok true (μ++[.lst (left.map DV.dat),.lst (found.map DV.dat)]):=by
     refine tm_of ((ev_op (fz_var (i:=2) rfl) (show frzV (eLst aNil) _ _=.ok (.dat (.lst [])) _ from rfl) (ne_nil hk (ds:=left) ap0 hd)).trans ?_)
     cases left with
     | nil=>cases hm
     | cons _ _=>rfl
    unfold whL
    rw[t]
    show turnL _ _ (gDrop _ _ _ _) _=_
    rw[e]
    have hn:=pl_lt h
    have c1:n<μ.length+2:=by omega
    have c2:μ.length<μ.length+2:=by omega
    have c3:μ.length+1<μ.length+2:=by omega
    rw[List.length_set,List.set_set] at eq
    rw[←eq]
    simp only[turnL,cut,cutV,if_pos c1,if_pos c2,if_pos c3,if_true]
    congr 1
    exact List.take_of_length_le (by simp)
theorem mixed_spec {n:Nat}{ds:List D}{k w:Nat}{B:Bg}{μ:Mem}(hk:k<64)(hB:B.ok)(h:μ[n]?=some B.pl)(hs:ds.length<100000)(hd:∀ d∈ds,∃ p,toPy d=some p∧Fit k w p) :
  ∃ (ys:List D) (B':Bg),B'.ok∧ys.Perm ds∧callD gMixed 2 2 [.loc n,.dat (.lst ds)] μ=.ok (.nl (ys.map DV.dat)) (μ.set n B'.pl):=by
 obtain⟨ys,B',oB,pm,eq⟩:=mixed_loop (th:=.lst ds) (n:=n) hk ds.length ds [] B μ 100000 μ.length hB h rfl hs (by simp;omega) hd
 refine⟨ys,B',oB,by simpa using pm,?_⟩
 have hL:μ.length=(μ.set n B'.pl).length:=(List.length_set ..).symm
 have g1:gPar2 2 3 (eCB (d1 dList) (aCons (eVar 1) aNil)) (eLst aNil) μ.length [some (.loc n),some (.dat (.lst ds)),none,none] μ=.next [some (.loc n),some (.dat (.lst ds)),some (.loc μ.length),some (.loc (μ.length+1))] (μ++[.lst (ds.map DV.dat),.lst []]):=by
  have e1:eCB (d1 dList) (aCons (eVar 1) aNil) [some (.loc n),some (.dat (.lst ds)),none,none] μ=.ok (.nl (ds.map DV.dat)) μ:=ev_cb1 (fz_var (i:=1) rfl) (by simp[d1,dList,asS,asL])
  have e2:eLst aNil [some (.loc n),some (.dat (.lst ds)),none,none] (μ++[.lst (ds.map DV.dat)])=.ok (.nl []) (μ++[.lst (ds.map DV.dat)]):=rfl
  unfold gPar2
  rw[e1]
  simp only[lift,bindR,if_pos (Nat.le_refl μ.length)]
  rw[e2]
  simp only[lift,bindR]
  rw[if_pos (by simp)]
  simp
 refine call_ret (r:=.loc (μ.length+1)) rfl (sq_next g1 (sq_next (μ':=μ.set n B'.pl++[.lst [],.lst (ys.map DV.dat)]) (δ':=[some (.loc n),some (.dat (.lst ds)),some (.loc μ.length),some (.loc (μ.length+1))]) ?_ (ret_ok (ev_var (i:=3) (x:=.loc (μ.length+1)) rfl)))) ?_
 ·show whL (μ++_).length _ _ _ _ _ _ _=_
  rw[show(μ++[Pl.lst (ds.map DV.dat),Pl.lst []]).length=μ.length+2 by simp]
  exact eq
 ·unfold closeR
  simp only
  rw[if_neg (by omega)]
  rw[hL,ap1]
  simp only
  have:belowA (μ.set n B'.pl).length (ys.map DV.dat)=true:=by
   unfold belowA;rw[List.all_eq_true];intro x hx
   obtain⟨d,_,rfl⟩:=List.mem_map.mp hx;rfl
  rw[if_pos this,List.take_left]
def gOne:SM:=(gRet (eOp dIx (eVar 1) (eCB (callD gTake 2 5) (aCons (eVar 0) (aCons (eCB (d1 dLen) (aCons (eVar 1) aNil)) aNil)))))
theorem one_spec {n:Nat}{ds:List D}{B:Bg}{μ:Mem}(hB:B.ok)(h:μ[n]?=some B.pl)(h0:0<ds.length)(hs:ds.length<1073741824) :
  ∃ (d:D) (B':Bg),B'.ok∧d∈ds∧callD gOne 2 0 [.loc n,.dat (.lst ds)] μ=.ok (.dat d) (μ.set n B'.pl):=by
 obtain⟨o1,o2,o3⟩:=takeB_ok hB (m:=(ds.length:Int)) (by omega)
 have e1:=take_spec hB h (m:=(ds.length:Int)) (by omega) (by omega)
 generalize (takeB B ds.length).1=t at *
 generalize (takeB B ds.length).2=B2 at *
 obtain⟨k,rfl⟩:=Int.eq_ofNat_of_zero_le o2
 have hk:k<ds.length:=by omega
 have hk':ds[k]?=some (ds[k]'hk):=List.getElem?_eq_getElem hk
 refine⟨ds[k],B2,o1,List.getElem_mem hk,call_ret rfl (ret_ok (ev_op (fz_var (i:=1) rfl) (fz_ofD (ev_cb2 (fz_var (i:=0) rfl) (fz_ofD (ev_cb1 (fz_var (i:=1) rfl) len_lst)) e1)) (dIx_lst (atI_nat hk')))) ?_⟩
 show Res.ok _ (List.take _ _)=_
 rw[take_len]
def gBag:SM:=(gRet (eLst (aCons (eD (.int 0)) (aCons (eD (.int 1234567891)) (aCons (eD (.int 0)) (aCons (eLc (imSeq (eSl (eVar 0) oNone (oSome (eD (.int 63))))) (tgName 1) tmYes (eCB (d1 dAbs) (aCons (eVar 1) aNil)) [1]) aNil))))))
def bag0 (ns:List Int):Bg:=⟨0,1234567891,0,(ns.take 63).map fun i=>if i<0 then -i else i⟩
theorem bag0_ok (ns:List Int):(bag0 ns).ok:=⟨Int.le_refl 0,by show(0:Int)≤1234567891;decide,by show(1234567891:Int)<2147483647;decide,Int.le_refl 0,fun z hz=>by
 obtain⟨i,_,rfl⟩:=List.mem_map.mp hz
 split <;> omega⟩
theorem lc_bag {d0:D}{μ:Mem}:∀ (is:List Int),lcL (tgName 1) tmYes (eCB (d1 dAbs) (aCons (eVar 1) aNil)) [some (.dat d0),none] (is.map D.int) μ=.ok (is.map fun i=>.dat (.int (if i<0 then -i else i))) μ
 | []=>rfl
 | i::is=>by
  have e:frzV (eCB (d1 dAbs) (aCons (eVar 1) aNil)) [some (.dat d0),some (.dat (.int i))] μ=.ok (.dat (.int (if i<0 then -i else i))) μ:=fz_ofD (ev_cb1 (fz_var (i:=1) rfl) rfl)
  have ih:=lc_bag (d0:=d0) (μ:=μ) is
  simp only[List.map_cons,lcL,tgName,tmYes,List.set_cons_succ,List.set_cons_zero,e,ih,Res.bind]
theorem bag_spec {ns:List Int}{μ:Mem}:callD gBag 1 1 [.dat (.fro (ns.map D.int))] μ=.ok (.nl [.dat (.int (bag0 ns).a),.dat (.int (bag0 ns).b),.dat (.int (bag0 ns).c),.dat (.lst ((bag0 ns).cs.map D.int))]) μ:=by
 have e1:eLc (imSeq (eSl (eVar 0) oNone (oSome (eD (.int 63))))) (tgName 1) tmYes (eCB (d1 dAbs) (aCons (eVar 1) aNil)) [1] [some (.dat (.fro (ns.map D.int))),none] μ=.ok (.nl ((bag0 ns).cs.map fun i=>.dat (.int i))) μ:=by
  have s:imSeq (eSl (eVar 0) oNone (oSome (eD (.int 63)))) [some (.dat (.fro (ns.map D.int))),none] μ=.ok ((ns.take 63).map D.int) μ:=by
   have q:eSl (eVar 0) oNone (oSome (eD (.int 63))) [some (.dat (.fro (ns.map D.int))),none] μ=.ok (.nl (((ns.take 63).map D.int).map DV.dat)) μ:=by
    unfold eSl;rw[fz_var (i:=0) (x:=.dat (.fro (ns.map D.int))) rfl]
    simp only[Res.bind,oNone,oSome,fz_D,asI,dSl,asL]
    congr 2
    unfold cutL
    rw[HT.sIx_none,show(some (63:Int))=some ((63:Nat):Int) from rfl,HT.sIx_nat]
    simp[List.map_take]
   unfold imSeq frzV
   rw[q]
   simp only[Res.bind,frz]
   rw[allDat_map]
   rfl
  unfold eLc
  rw[s]
  simp only[Res.bind]
  rw[if_pos (by simp;exact Nat.le_trans (Nat.min_le_left _ _) (by decide))]
  show Res.bind (lcL _ _ _ [some (.dat (.fro (ns.map D.int))),none] _ _) _=_
  rw[lc_bag]
  simp[Res.bind,bag0,Function.comp_def]
 refine call_ret rfl (ret_ok (r:=.nl [.dat (.int (bag0 ns).a),.dat (.int (bag0 ns).b),.dat (.int (bag0 ns).c),.dat (.lst ((bag0 ns).cs.map D.int))]) (μ':=μ) ?_) ?_
 ·have e2:frzV (eLc (imSeq (eSl (eVar 0) oNone (oSome (eD (.int 63))))) (tgName 1) tmYes (eCB (d1 dAbs) (aCons (eVar 1) aNil)) [1]) [some (.dat (.fro (ns.map D.int))),none] μ=.ok (.dat (.lst ((bag0 ns).cs.map D.int))) μ:=by
   unfold frzV;rw[e1];simp only[Res.bind,frz]
   rw[show((bag0 ns).cs.map fun i=>DV.dat (D.int i))=((bag0 ns).cs.map D.int).map DV.dat by simp,allDat_map];rfl
  show eLst _ [some (.dat (.fro (ns.map D.int))),none] μ=_
  generalize (eLc (imSeq (eSl (eVar 0) oNone (oSome (eD (.int 63))))) (tgName 1) tmYes (eCB (d1 dAbs) (aCons (eVar 1) aNil)) [1])=ff at *
  unfold eLst aCons aNil
  simp only[fz_D,Res.bind,e2]
  rw[if_pos (by simp;decide)]
  rfl
 ·unfold closeR
  simp only
  rw[if_pos (show belowA _ _=true from rfl),List.take_length]
theorem sl_lst {ds:List D}{l u:Option Int}{μ:Mem}:dSl (.dat (.lst ds)) l u μ=.ok (.nl ((cutL ds l u).map DV.dat)) μ:=by
 simp only[dSl,asL];congr 2;unfold cutL;simp[List.map_drop,List.map_take]
theorem cut_from {α:Type}(xs:List α)(k:Nat){i:Int}(hi:i=(k:Int):=by rfl):cutL xs (some i) none=xs.drop k:=by
 subst hi
 unfold cutL;rw[HT.sIx_none,HT.sIx_nat]
 by_cases c:k≤xs.length
 ·rw[Nat.min_eq_left c];exact List.take_of_length_le (by simp)
 ·rw[Nat.min_eq_right (by omega),List.drop_of_length_le (Nat.le_refl _),List.drop_of_length_le (by omega)];simp
theorem cut_to {α:Type}(xs:List α)(k:Nat):cutL xs none (some (k:Int))=xs.take k:=by
 unfold cutL;rw[HT.sIx_none,HT.sIx_nat,List.drop_zero,Nat.sub_zero]
 by_cases c:k≤xs.length
 ·rw[Nat.min_eq_left c]
 ·rw[Nat.min_eq_right (by omega),List.take_of_length_le (Nat.le_refl _),List.take_of_length_le (by omega)]
theorem cut_at2 {α:Type}(xs:List α)(a b:Nat)(h:a≤b)(hb:b≤xs.length):cutL xs (some (a:Int)) (some (b:Int))=(xs.drop a).take (b-a):=by
 unfold cutL;rw[HT.sIx_nat,HT.sIx_nat,Nat.min_eq_left (show a≤xs.length by omega),Nat.min_eq_left hb]
theorem cutL_mem {α:Type}{xs:List α}{l u:Option Int}{x:α}(h:x∈cutL xs l u):x∈xs:=List.mem_of_mem_drop (List.mem_of_mem_take h)
theorem dIx_tup {μ:Mem}{ds:List D}{i:Int}{d:D}(h:atI ds i=some d):dIx (.dat (.tup ds)) (.dat (.int i)) μ=.ok (.dat d) μ:=by
 have:atI (ds.map DV.dat) i=some (.dat d):=by
  unfold atI at h ⊢
  rw[List.length_map]
  cases q:ixN ds.length i with
  | none=>rw[q] at h;cases h
  | some j=>rw[q] at h;simp only[Option.bind_some] at h ⊢;rw[List.getElem?_map,h];rfl
 simp[dIx,asI,asS,asL,asT,this,ofV]
theorem flats_str:∀ ss:List Str,flats (ss.map fun s=>.dat (.str s))=some (ss.map V.str)
 | []=>rfl
 | s::ss=>by simp[flats,flat,flats_str ss]
theorem inV_str (s:Str)(ss:List Str):inV (.str s) (ss.map V.str)=decide (s∈ss):=by
 induction ss with
 | nil=>rfl
 | cons t ss ih =>
  unfold inV at ih ⊢
  rw[List.map_cons,List.any_cons,ih]
  have:eqV (V.str t) (V.str s)=decide (t=s):=by
   show(t==s)=_
   by_cases c:t=s
   ·subst c;simp
   ·rw[decide_eq_false c];exact beq_false_of_ne c
  rw[this]
  by_cases c:t=s
  ·subst c;simp
  ·have c':¬s=t:=fun h=>c h.symm
   simp[c,c']
theorem in_tup {neg:Bool}{s:Str}{ss:List Str}{μ:Mem}:dIn neg (.dat (.str s)) (.dat (.tup (ss.map D.str))) μ=.ok (.dat (.bl (if neg=true then !decide (s∈ss) else decide (s∈ss)))) μ:=by
 have:(ss.map D.str).map DV.dat=ss.map fun s=>.dat (.str s):=by simp
 simp only[dIn,flat,asS,asL,asT,Option.map,this,flats_str,inV_str]
theorem add_lst {a b:List D}{μ:Mem}(h:a.length+b.length≤sizeLine):dAdd (.dat (.lst a)) (.dat (.lst b)) μ=.ok (.nl ((a++b).map DV.dat)) μ:=by
 simp only[dAdd,asI,asStr,asT,asM,List.length_map];rw[if_pos h,List.map_append]
theorem close_dat {d:D}{μ μ':Mem}{N:Nat}(h:μ'.take N=μ):closeR N (.dat d) μ'=.ok (.dat d) μ:=by unfold closeR;simp only;rw[h]
theorem ext_tup {μ:Mem}{n:Nat}{ys:List DV}{ds:List D}(h:μ[n]?=some (.lst ys))(hl:ys.length+ds.length≤sizeLine):dExtend (.loc n) [.dat (.tup ds)] μ=.ok (.dat .non) (μ.set n (.lst (ys++ds.map DV.dat))):=by
 simp only[dExtend,atPl,h,asM,asT];rw[if_pos hl]
theorem tuple_lst {ds:List D}{μ:Mem}:d1 dTuple [.dat (.lst ds)] μ=.ok (.dat (.tup ds)) μ:=by simp only[d1,dTuple,asL,allDat_map]
section
variable {P:Program}{w:World}{K:PySem.W.Frag}{mg:Str→Option Value}{base:Heap}
theorem fn_okG {x qual:Str}{st:Stmt}{f:Addr}{fd:FuncData}{Nm ps:List Str}{k n m:Nat}{g:SM}(F:Fun K x qual st f fd)(S:FnScope Nm ps (defScope st))(hn:ps.length=n)(hmn:Nm.length=n+m)
  (body:∀ (cdv:Value) (A:Around) (out:List PySem.Env) (s:Shared) (H:Hp) (E:XK),Room k (A.deeper (envOfC qual (defScope st) s.heap.objs.size f cdv))→A.guards=some [] →
   ∃ ts,PSMs (cxOf CX0 P w K mg base Nm qual (defScope st) f cdv A out s H E).nox (fun cls d _ H=>E cls d H) (defBody st) ts g) :
  FnG P w K mg base CX0 (k+1) f fd ps (spF K n (callD g n m)):=by
 obtain⟨oc,od,kV,doc,pm,an,cdv,ct,osl,rfl,lk,hcd⟩:=F.ex
 refine fnG_of lk hcd S (fun vs H Q E h=>by rw[h.1,hn]) fun A out s H vs Q E hr hg hsp=>?_
 obtain⟨ts,b⟩:=body cdv A out s H E hr hg
 refine⟨ts,b.ps.nox,?_⟩
 have e:Nm.length-n=m:=by omega
 exact body_ok (n:=n) b.sd (by omega) (by rw[e];exact sp_callD hsp)
theorem rpl_ints {G:Hp}:∀ ns:List Int,RpL K G (ns.map V.int) (ns.map D.int)
 | []=>.nil
 | i::ns=>.cons (.int i) (rpl_ints ns)
theorem law_sp {H:Hp}{a:Addr}{ns:List Int}{F:List DV→Mem→Res R}(hS:SqL K H a (ns.map V.int)){μ':Mem}(h:F [.dat (.fro (ns.map D.int))] []=.ok (.dat (.bl true)) μ') :
  spF K 1 F [.ref a] H (fun v _=>v=.bl true) (fun _ _ _=>False):=by
 refine⟨rfl,fun _=>none,H,[],[.dat (.fro (ns.map D.int))],⟨Ex.refl _,(fun _ _ _ h=>by cases h),(fun _ _ h=>by cases h),(fun _ _ h=>by cases h),(fun _ _ h=>by cases h),(fun _ _ h=>by simp at h)⟩,.cons (Rp.fro hS (rpl_ints ns)) .nil,?_⟩
 rw[h]
 intro G' H' v t R q
 cases q;rfl
end
section
variable {P:Program}{w:World}{K:PySem.W.Frag}{mg:Str→Option Value}{base:Heap}
end
section
variable {X:Cx}{W:WX}{a C d:Addr}{oe:Obj}{pn:List (Addr×Obj)}{n:Str}{p p1 p2 pos:Pos}
end
end DL
namespace DR
open PySem PyProof.Rows
mutual
inductive Rs (h:Heap):Value→PyData→Prop
 | none:Rs h .none .none
 | bool (b):Rs h (.bool b) (.bool b)
 | int (i t):Rs h (.int i t) (.int i)
 | str (x t):Rs h (.str x t) (.str x)
 | list {a o vs n xs}:h.get? a=some o→o.cls=.type "list"→o.data=.seq vs n→RsAll h vs.toList xs→Rs h (.ref a) (.list xs)
 | tuple {a o vs n xs}:h.get? a=some o→o.cls=.type "tuple"→o.data=.seq vs n→RsAll h vs.toList xs→Rs h (.ref a) (.tuple xs)
 | dict {a o es n} {kvs:List (PyData×PyData)}:h.get? a=some o→o.cls=.type "dict"→o.data=.dict es n→(a==sysModules)=false→RsAll h (es.toList.map (·.key)) (kvs.map (·.1)) →
   RsAll h (es.toList.map (·.val)) (kvs.map (·.2))→Rs h (.ref a) (.dict kvs)
inductive RsAll (h:Heap):List Value→List PyData→Prop
 | nil:RsAll h [] []
 | cons {v vs d ds}:Rs h v d→RsAll h vs ds→RsAll h (v::vs) (d::ds)
end
section
variable {h:Heap}{prog:Program}{w:World}
mutual
theorem Rs.reads:∀ {v:Value} {d:PyData},Rs h v d→∃ as,Reads h v d as
 | _,_,.none=>⟨_,.none⟩
 | _,_,.bool b=>⟨_,.bool b⟩
 | _,_,.int i t=>⟨_,.int i t⟩
 | _,_,.str x t=>⟨_,.str x t⟩
 | _,_,.list h1 h2 h3 h4=>let ⟨_,r⟩:=RsAll.reads h4;⟨_,.list h1 h2 h3 r⟩
 | _,_,.tuple h1 h2 h3 h4=>let ⟨_,r⟩:=RsAll.reads h4;⟨_,.tuple h1 h2 h3 r⟩
 | _,_,.dict h1 h2 h3 _ h4 h5=>let ⟨_,r⟩:=RsAll.reads h4;let ⟨_,r'⟩:=RsAll.reads h5;⟨_,.dict h1 h2 h3 r r'⟩
theorem RsAll.reads:∀ {vs:List Value} {ds:List PyData},RsAll h vs ds→∃ as,ReadsAll h vs ds as
 | _,_,.nil=>⟨_,.nil⟩
 | _,_,.cons a b=>let ⟨_,r⟩:=Rs.reads a;let ⟨_,r'⟩:=RsAll.reads b;⟨_,.cons r r'⟩
end
mutual
theorem Rs.reprK:∀ {v:Value} {d:PyData},Rs h v d→d.showable=true→d.shown.length≤sizeLine→∃ bs,ReadAtMost h d.depth bs∧ReprK prog w bs h d.depth v d.shown
 | _,_,.none,_,_=>⟨[],(fun _ h=>nomatch h),by simp only[PyData.shown];exact .of_is ReprIs.none _ _ _⟩
 | _,_,.bool b,_,_=>⟨[],(fun _ h=>nomatch h),by simp only[PyData.shown];exact .of_is (ReprIs.bool b) _ _ _⟩
 | _,_,.int i t,hs,_=>⟨[],(fun _ h=>nomatch h),by simp only[PyData.shown];exact .of_is (ReprIs.int t (by simpa [PyData.showable] using hs)) _ _ _⟩
 | _,_,.str x t,_,hz=>⟨[],(fun _ h=>nomatch h),by simp only[PyData.shown];exact .of_is (ReprIs.str x t (by simpa only[PyData.shown] using hz)) _ _ _⟩
 | _,_,.list (a:=a) (vs:=vs) (xs:=xs) h1 h2 h3 h4,hs,hz=>by
  have hz':(listText (PyData.shownAll xs)).length≤sizeLine:=by simpa only[PyData.shown] using hz
  obtain⟨bs,hb,hk⟩:=RsAll.reprK h4 (by simpa [PyData.showable] using hs) fun t ht=>Nat.le_trans (listText_mem_le ht) hz'
  obtain⟨as,r4⟩:=RsAll.reads h4
  have r:Reads h (.ref a) (.list xs) _:=.list h1 h2 h3 r4
  have hna:a∉bs:=not_mem_of_deeper r (by simp only[PyData.depth];omega) hb
  refine⟨a::bs,ReadAtMost.cons r (by simp only[PyData.depth];omega) hb,?_⟩
  simp only[PyData.depth,PyData.shown]
  obtain⟨l⟩:=vs
  cases l with
  | nil =>
   have h4':RsAll h [] xs:=h4
   cases h4'
   simp only[PyData.shownAll,listText_nil]
   exact ReprK.listEmpty h1 h2 h3
  | cons x l=>exact ReprK.list h1 h2 h3 hna (by simpa using hk.length_eq) (fun i y e=>hk.item i y (by simpa using e))
 | _,_,.tuple (a:=a) (xs:=xs) h1 h2 h3 h4,hs,hz=>by
  have hz':(tupleText (PyData.shownAll xs)).length≤sizeLine:=by simpa only[PyData.shown] using hz
  obtain⟨bs,hb,hk⟩:=RsAll.reprK h4 (by simpa [PyData.showable] using hs) fun t ht=>Nat.le_trans (tupleText_mem_le ht) hz'
  obtain⟨as,r4⟩:=RsAll.reads h4
  have r:Reads h (.ref a) (.tuple xs) _:=.tuple h1 h2 h3 r4
  have hna:a∉bs:=not_mem_of_deeper r (by simp only[PyData.depth];omega) hb
  refine⟨a::bs,ReadAtMost.cons r (by simp only[PyData.depth];omega) hb,?_⟩
  simp only[PyData.depth,PyData.shown]
  exact ReprK.tuple h1 h2 h3 hna hk
 | _,_,.dict (a:=a) (es:=es) (kvs:=kvs) h1 h2 h3 hsys h4 h5,hs,hz=>by
  have hz':(dictText (PyData.shownKv kvs)).length≤sizeLine:=by simpa only[PyData.shown] using hz
  obtain⟨hs1,hs2⟩:=PyData.showableKv_split kvs (by simpa [PyData.showable] using hs)
  obtain⟨b1,hb1,k1⟩:=RsAll.reprK h4 hs1 fun t ht=>let ⟨p,hp,hl⟩:=PyData.shownKv_key_le kvs t ht;Nat.le_trans hl (Nat.le_trans (dictText_mem_le hp) hz')
  obtain⟨b2,hb2,k2⟩:=RsAll.reprK h5 hs2 fun t ht=>let ⟨p,hp,hl⟩:=PyData.shownKv_val_le kvs t ht;Nat.le_trans hl (Nat.le_trans (dictText_mem_le hp) hz')
  obtain⟨as4,r4⟩:=RsAll.reads h4
  obtain⟨as5,r5⟩:=RsAll.reads h5
  have r:Reads h (.ref a) (.dict kvs) _:=.dict h1 h2 h3 r4 r5
  have hb:ReadAtMost h (PyData.depthKv kvs) (b1++b2):=(hb1.mono (PyData.depthAll_keys_le kvs)).append (hb2.mono (PyData.depthAll_vals_le kvs))
  have hna:a∉b1++b2:=not_mem_of_deeper r (by simp only[PyData.depth];omega) hb
  refine⟨a::(b1++b2),ReadAtMost.cons r (by simp only[PyData.depth];omega) hb,?_⟩
  simp only[PyData.depth,PyData.shown,PyData.shownKv_eq]
  exact ReprK.dict h1 h2 h3 hsys hna (ReprEntriesK.of_two es.toList _ _
   (k1.more_le (fun b hb=>List.mem_append_left _ hb) (PyData.depthAll_keys_le kvs)) (k2.more_le (fun b hb=>List.mem_append_right _ hb) (PyData.depthAll_vals_le kvs)))
theorem RsAll.reprK:∀ {vs:List Value} {ds:List PyData},RsAll h vs ds→PyData.showableAll ds=true→(∀ t∈PyData.shownAll ds,t.length≤sizeLine) →
  ∃ bs,ReadAtMost h (PyData.depthAll ds) bs∧ReprAllK prog w bs h (PyData.depthAll ds) vs (PyData.shownAll ds)
 | _,_,.nil,_,_=>⟨[],(fun _ h=>nomatch h),by simp only[PyData.shownAll];exact .nil⟩
 | _,_,.cons (d:=d) (ds:=ds) r rs,hs,hz=>by
  have hs':d.showable=true∧PyData.showableAll ds=true:=by simpa [PyData.showableAll] using hs
  obtain⟨b1,hb1,k1⟩:=Rs.reprK r hs'.1 (hz _ (by simp only[PyData.shownAll];exact List.mem_cons_self ..))
  obtain⟨b2,hb2,k2⟩:=RsAll.reprK rs hs'.2 fun t ht=>hz t (by simp only[PyData.shownAll];exact List.mem_cons_of_mem _ ht)
  refine⟨b1++b2,?_,?_⟩
  ·intro b hm
   simp only[PyData.depthAll]
   rcases List.mem_append.mp hm with hm|hm
   ·obtain⟨d',as',r',hd'⟩:=hb1 b hm
    exact⟨d',as',r',Nat.le_trans hd' (Nat.le_max_left _ _)⟩
   ·obtain⟨d',as',r',hd'⟩:=hb2 b hm
    exact⟨d',as',r',Nat.le_trans hd' (Nat.le_max_right _ _)⟩
  ·simp only[PyData.depthAll,PyData.shownAll]
   exact .cons ((k1.more fun b hb=>List.mem_append_left _ hb).level_le (Nat.le_max_left _ _)) (k2.more_le (fun b hb=>List.mem_append_right _ hb) (Nat.le_max_right _ _))
end
end
end DR
namespace DR
open PySem PyProof.Rows
section
variable {prog:Program}{w:World}{h₀:Heap}{a:Addr}{d:PyData}
theorem Rs.shows (r:Rs h₀ (.ref a) d)(hs:d.showable=true)(hsz:d.shown.length≤sizeLine):∃ T idr,ShowsBy prog w h₀ a d T idr:=by
 cases r with
 | list h1 h2 h3 h4 =>
  rename_i o vs n xs
  have hz':(listText (PyData.shownAll xs)).length≤sizeLine:=by simpa only[PyData.shown] using hsz
  obtain⟨bs,hb,hk⟩:=RsAll.reprK (prog:=prog) (w:=w) h4 (by simpa [PyData.showable] using hs) fun t ht=>Nat.le_trans (listText_mem_le ht) hz'
  obtain⟨as,r4⟩:=RsAll.reads h4
  have hna:a∉bs:=not_mem_of_deeper (.list h1 h2 h3 r4) (by simp only[PyData.depth];omega) hb
  refine⟨"list","list.__repr__",F.slot_list_repr.toG,F.slot_list_str,F.slot_list_format,fun s hk0=>⟨o,hk0 _ _ h1,h2⟩,fun A E s Q hg hu hk0 hQ=>?_⟩
  simp only[PyData.depth] at hu
  simp only[PyData.shown] at hQ
  obtain⟨l⟩:=vs
  cases l with
  | nil =>
   have h4':RsAll h₀ [] xs:=h4
   cases h4'
   simp only[PyData.shownAll,listText_nil] at hQ
   exact call_list_repr_empty ⟨o,hk0 _ _ h1,h2⟩ (hk0 _ _ h1) h3 (hQ s.heap _ _ fun _ _ e=>e)
  | cons x l =>
   exact call_list_reprK h1 h2 h3 hna (by simpa using hk.length_eq) (fun i y e=>hk.item i y (by simpa using e)) hg (fun b _=>Clear.nil b) hu hk0 hQ hz'
 | tuple h1 h2 h3 h4 =>
  rename_i o vs n xs
  have hz':(tupleText (PyData.shownAll xs)).length≤sizeLine:=by simpa only[PyData.shown] using hsz
  obtain⟨bs,hb,hk⟩:=RsAll.reprK (prog:=prog) (w:=w) h4 (by simpa [PyData.showable] using hs) fun t ht=>Nat.le_trans (tupleText_mem_le ht) hz'
  obtain⟨as,r4⟩:=RsAll.reads h4
  have hna:a∉bs:=not_mem_of_deeper (.tuple h1 h2 h3 r4) (by simp only[PyData.depth];omega) hb
  refine⟨"tuple","tuple.__repr__",F.slot_tuple_repr,F.slot_tuple_str,F.slot_tuple_format,fun s hk0=>⟨o,hk0 _ _ h1,h2⟩,fun A E s Q hg hu hk0 hQ=>?_⟩
  simp only[PyData.depth] at hu
  simp only[PyData.shown] at hQ
  exact call_tuple_reprK h1 h2 h3 hna hk hg (fun b _=>Clear.nil b) hu hk0 hQ hz'
 | dict h1 h2 h3 hsys h4 h5 =>
  rename_i o es n kvs
  have hz':(dictText (PyData.shownKv kvs)).length≤sizeLine:=by simpa only[PyData.shown] using hsz
  obtain⟨hs1,hs2⟩:=PyData.showableKv_split kvs (by simpa [PyData.showable] using hs)
  obtain⟨b1,hb1,k1⟩:=RsAll.reprK (prog:=prog) (w:=w) h4 hs1 fun t ht=>let ⟨p,hp,hl⟩:=PyData.shownKv_key_le kvs t ht;Nat.le_trans hl (Nat.le_trans (dictText_mem_le hp) hz')
  obtain⟨b2,hb2,k2⟩:=RsAll.reprK (prog:=prog) (w:=w) h5 hs2 fun t ht=>let ⟨p,hp,hl⟩:=PyData.shownKv_val_le kvs t ht;Nat.le_trans hl (Nat.le_trans (dictText_mem_le hp) hz')
  obtain⟨as4,r4⟩:=RsAll.reads h4
  obtain⟨as5,r5⟩:=RsAll.reads h5
  have hb:ReadAtMost h₀ (PyData.depthKv kvs) (b1++b2):=(hb1.mono (PyData.depthAll_keys_le kvs)).append (hb2.mono (PyData.depthAll_vals_le kvs))
  have hna:a∉b1++b2:=not_mem_of_deeper (.dict h1 h2 h3 r4 r5) (by simp only[PyData.depth];omega) hb
  refine⟨"dict","dict.__repr__",F.slot_dict_repr,F.slot_dict_str,F.slot_dict_format,fun s hk0=>⟨o,hk0 _ _ h1,h2⟩,fun A E s Q hg hu hk0 hQ=>?_⟩
  simp only[PyData.depth] at hu
  simp only[PyData.shown,PyData.shownKv_eq] at hQ
  exact call_dict_reprK h1 h2 h3 hsys hna (ReprEntriesK.of_two es.toList _ _
   (k1.more_le (fun b hb=>List.mem_append_left _ hb) (PyData.depthAll_keys_le kvs)) (k2.more_le (fun b hb=>List.mem_append_right _ hb) (PyData.depthAll_vals_le kvs))) hg (fun b _=>Clear.nil b) hu hk0 hQ (by rw[←PyData.shownKv_eq];exact hz')
theorem Rs.repr {A:Around}{E:Value→Shared→Prop}{s:Shared}{Q:Value→Shared→Prop}(r:Rs s.heap (.ref a) d)(hs:d.showable=true)(hg:A.guards=some [])(hu:A.units+(d.depth+1)<cLine)
  (hQ:∀ h' u tk,(∀ b o,s.heap.get? b=some o→h'.get? b=some o)→Q (.str d.shown u) { s with heap:=h',toks:=tk })
  (hsz:d.shown.length≤sizeLine):wpAny (model prog w) A (call (.builtin "repr") [.ref a]) Q E s:=by
 obtain⟨T,idr,S⟩:=r.shows (prog:=prog) (w:=w) hs hsz
 exact call_repr_slot (by omega) (S.typeIs s fun _ _ e=>e) S.slotRepr (S.call A.in1 E s _ hg (by show A.units+1+d.depth<cLine;omega) (fun _ _ e=>e) fun h' u tk hk=>⟨_,_,rfl,hQ h' u tk hk⟩)
end
end DR
namespace DL
open PySem PySem.Spec PyProof.Rows L2 DR
def keyPy:Key→PyData
 | .inl i=>.int i
 | .inr s=>.str s
mutual
def toPyK:D→Option PyData
 | .non=>some .none
 | .bl b=>some (.bool b)
 | .int i=>some (.int i)
 | .str s=>some (.str s)
 | .tup xs=>(toPyKL xs).map .tuple
 | .lst xs=>(toPyKL xs).map .list
 | .fro xs=>(toPyKL xs).map .list
 | .dct kvs=>(toPyKv kvs).map .dict
 | .ty _=>none
 | .ref _=>none
 | .ins _ _=>none
 | .err _ _ _ _ _=>none
 | .eo _=>none
def toPyKL:List D→Option (List PyData)
 | []=>some []
 | x::xs=>match toPyK x with
  | none=>none
  | some p=>(toPyKL xs).map (p::·)
def toPyKv:List (Ky×D)→Option (List (PyData×PyData))
 | []=>some []
 | (.k k,x)::xs=>match toPyK x with
  | none=>none
  | some p=>(toPyKv xs).map ((keyPy k,p)::·)
 | (.t _,_)::_=>none
end
theorem map_k_inj:∀ {a b:List Key},a.map Ky.k=b.map Ky.k→a=b
 | [],[],_=>rfl
 | [],_::_,h=>by cases h
 | _::_,[],h=>by cases h
 | x::a,y::b,h=>by
  simp only[List.map_cons,List.cons.injEq] at h
  cases h.1
  rw[map_k_inj h.2]
theorem toPyKv_ok:∀ {ds:List (Ky×D)} {ps:List (PyData×PyData)},toPyKv ds=some ps→toPyKL (ds.map (·.2))=some (ps.map (·.2))∧∃ ks:List Key,ds.map (·.1)=ks.map Ky.k∧ps.map (·.1)=ks.map keyPy
 | [],ps,e=>by simp only[toPyKv] at e;cases e;exact⟨by simp[toPyKL],[],rfl,rfl⟩
 | (.t _,_)::_,ps,e=>by simp only[toPyKv] at e;cases e
 | (.k k,x)::xs,ps,e=>by
  simp only[toPyKv] at e
  cases q:toPyK x with
  | none=>rw[q] at e;cases e
  | some p =>
   rw[q] at e
   cases q2:toPyKv xs with
   | none=>rw[q2] at e;cases e
   | some qs =>
    rw[q2] at e;cases e
    obtain⟨h1,ks,h2,h3⟩:=toPyKv_ok q2
    refine⟨?_,k::ks,?_,?_⟩
    ·simp only[List.map_cons,toPyKL,q,h1];rfl
    ·simp only[List.map_cons,h2]
    ·simp only[List.map_cons,h3]
section
variable {X:Cx}{pins:List (Addr×Obj)}{σ:L2.St}{H:Hp}{s:Shared}
theorem key_rs {k:Key}{u:Value}(h:(mixKind X.prog X.w).is k u=true):Rs s.heap u (keyPy k):=by
 have r:L2.RelV (kV k) u:=relV_key h
 cases k with
 | inl i=>obtain⟨t,rfl⟩:=r;exact .int i t
 | inr x=>obtain⟨t,rfl⟩:=r;exact .str x t
theorem pairs_keys {es:List DictEntry}{kvs:List (Key×Value)}(h:Pairs (mixKind X.prog X.w) es kvs):RsAll s.heap (es.map (·.key)) (kvs.map fun p=>keyPy p.1)∧es.map (·.val)=kvs.map (·.2):=by
 induction h with
 | nil=>exact⟨.nil,rfl⟩
 | cons h1 h2 _ ih=>exact⟨.cons (key_rs h1) ih.1,by simp only[List.map_cons];rw[h2,ih.2]⟩
theorem kv_vals {ls:List (Key×V)}{vs:List (Key×Value)}(h:KV ls vs):Vals (ls.map (·.2)) (vs.map (·.2)):=by
 unfold KV at h
 induction h with
 | nil=>exact .nil
 | cons a _ ih=>exact .cons a.2 ih
mutual
theorem Rp.rs (I:Inv X pins σ H s):∀ {v:V} {d:D} {p:PyData} {u:Value},Rp X.K H v d→toPyK d=some p→L2.RelV v u→Rs s.heap u p
 | _,_,_,_,.non,e,r=>by simp only[toPyK] at e;cases e;cases r;exact .none
 | _,_,_,_,.bl b,e,r=>by simp only[toPyK] at e;cases e;cases r;exact .bool b
 | _,_,_,_,.int i,e,r=>by simp only[toPyK] at e;cases e;obtain⟨t,rfl⟩:=r;exact .int i t
 | _,_,_,_,.str i,e,r=>by simp only[toPyK] at e;cases e;obtain⟨t,rfl⟩:=r;exact .str i t
 | _,_,_,_,.ty _,e,r=>by simp only[toPyK] at e;cases e
 | _,_,_,_,.ref _,e,r=>by simp only[toPyK] at e;cases e
 | _,_,_,_,.ins _ _ _ _ _,e,r=>by simp only[toPyK] at e;cases e
 | _,_,_,_,.er0 _,e,r=>by simp only[toPyK] at e;cases e
 | _,_,_,_,.eo _ _ _,e,r=>by simp only[toPyK] at e;cases e
 | _,_,_,_,.err _ _ _ _,e,r=>by simp only[toPyK] at e;cases e
 | _,_,_,_,.tup (ds:=ds) h l,e,r=>by
  simp only[toPyK] at e
  cases q:toPyKL ds with
  | none=>rw[q] at e;cases e
  | some ps =>
   rw[q] at e;cases e;cases r
   obtain⟨its,rv,⟨o,ho,hc,n,hd⟩,_⟩:=I.tuple h
   exact .tuple ho hc hd (by simpa using RpL.rs I l q rv)
 | _,_,_,_,.lst (ds:=ds) h l,e,r=>by
  simp only[toPyK] at e
  cases q:toPyKL ds with
  | none=>rw[q] at e;cases e
  | some ps =>
   rw[q] at e;cases e;cases r
   obtain⟨its,rv,⟨o,n,ho,hc,hd,hdat⟩,_⟩:=I.list (.inl (.inl h))
   exact .list ho hc hdat (by simpa using RpL.rs I l q rv)
 | _,_,_,_,.fro (ds:=ds) h l,e,r=>by
  simp only[toPyK] at e
  cases q:toPyKL ds with
  | none=>rw[q] at e;cases e
  | some ps =>
   rw[q] at e;cases e;cases r
   obtain⟨its,rv,⟨o,n,ho,hc,hd,hdat⟩,_⟩:=I.list h
   exact .list ho hc hdat (by simpa using RpL.rs I l q rv)
 | _,_,_,_,.dct (ds:=ds) h k l,e,r=>by
  simp only[toPyK] at e
  cases q:toPyKv ds with
  | none=>rw[q] at e;cases e
  | some ps =>
   rw[q] at e;cases e;cases r
   obtain⟨h1,ks,h2,h3⟩:=toPyKv_ok q
   have step:∀ us,Vals _ us→RsAll s.heap us (ps.map (·.2)):=fun us rv=>RpL.rs I l h1 rv
   rcases k with⟨ls,rfl,k2,rfl⟩|⟨_,ls,hne,rfl,_,_,_,_,k2,_⟩
   ·obtain⟨_,hsys,vs',rel,o',es,ep,ho,hx,hdat,_,hp,_⟩:=dk_rd I.hok (.inr ⟨_,h⟩)
    obtain⟨p1,p2⟩:=pairs_keys (X:=X) (s:=s) hp
    have ek:ks=ls.map (·.1):=by
     have e2:ks.map Ky.k=(ls.map (·.1)).map Ky.k:=by rw[←h2,k2,List.map_map];rfl
     exact map_k_inj e2
    refine .dict ho hx.1 hdat hsys ?_ ?_
    ·have e3:ps.map (·.1)=vs'.map fun p=>keyPy p.1:=by
      rw[h3,ek,rel.keys,List.map_map];rfl
     rw[e3];exact p1
    ·rw[p2];exact step _ (kv_vals rel)
   ·cases ls with
    | nil=>exact absurd rfl hne
    | cons p ls =>
     rw[h2] at k2
     cases ks with
     | nil=>cases k2
     | cons k ks=>simp at k2
theorem RpL.rs (I:Inv X pins σ H s):∀ {vs:List V} {ds:List D} {ps:List PyData} {us:List Value},RpL X.K H vs ds→toPyKL ds=some ps→Vals vs us→RsAll s.heap us ps
 | _,_,_,_,.nil,e,r=>by simp only[toPyKL] at e;cases e;cases r;exact .nil
 | _,_,_,_,.cons (d:=d) (ds:=ds) a b,e,r=>by
  simp only[toPyKL] at e
  cases q:toPyK d with
  | none=>rw[q] at e;cases e
  | some p =>
   rw[q] at e
   cases q2:toPyKL ds with
   | none=>rw[q2] at e;cases e
   | some ps =>
    rw[q2] at e;cases e
    cases r with
    | cons r1 r2=>exact .cons (Rp.rs I a q r1) (RpL.rs I b q2 r2)
end
end
end DL
namespace DL
open PySem PySem.Spec PyProof.Rows L2 DR
def dReprD (x:DV)(μ:Mem):Res R:=match (peek μ x).bind toPyK with
 | some p=>if p.showable=true∧p.depth≤64∧p.shown.length≤sizeLine then .ok (.dat (.str p.shown)) μ else .bad
 | none=>.bad
def rReprD (K:PySem.W.Frag):List V→Hp→VK→Prop:=fun xs H Q=>∃ v d p,xs=[v]∧Rp K H v d∧toPyK d=some p∧p.showable=true∧p.depth≤64∧p.shown.length≤sizeLine∧Q (.str p.shown) H
theorem cr_reprD {X:Cx} {k:Nat} (hr:Room k X.A) (hg:X.A.guards=some []):CallR X (.builtin "repr") (rReprD X.K):=by
 intro pins s σ H xs us Q I rv h
 obtain⟨v,d,p,rfl,hd,hp,hs,hdp,hz,q⟩:=h
 obtain⟨u,rfl,ru⟩:∃ u,us=[u]∧L2.RelV v u:=by
  cases rv with
  | cons a b=>cases b;exact⟨_,rfl,a⟩
 have rd:=Rp.rs I hd hp ru
 have fin:∀ h' tk t',(∀ b o,s.heap.get? b=some o→h'.get? b=some o)→EP X pins σ Q (.str p.shown t') { s with heap:=h',toks:=tk }:=fun h' tk t' kp =>
  ⟨.str p.shown,H,I.kept kp,⟨t',rfl⟩,q⟩
 have hu:X.A.units+200<cLine:=by have:=hr.un;omega
 have all:∀ a,u=.ref a→wpAny (model X.prog X.w) X.A (call (.builtin "repr") [u]) (EP X pins σ Q) X.xe s:=fun a e=>by
  subst e
  exact rd.repr hs hg (by omega) (fun h' t' tk kp=>fin h' tk t' kp) hz
 cases rd with
 | none=>exact PySem.P.repr_of_none (fin s.heap _ _ fun _ _ e=>e)
 | bool b=>exact PySem.P.repr_of_bool (fin s.heap _ _ fun _ _ e=>e)
 | int i t=>exact PySem.P.repr_of_int (of_decide_eq_true hs) (fin s.heap _ _ fun _ _ e=>e)
 | str z t=>exact PySem.P.repr_of_str (fin s.heap _ _ fun _ _ e=>e) hz
 | list _ _ _ _=>exact all _ rfl
 | tuple _ _ _ _=>exact all _ rfl
 | dict _ _ _ _ _ _=>exact all _ rfl
theorem cd_reprD {K:PySem.W.Frag}:CallD K (rReprD K) (d1 dReprD):=cd_1 fun W ρ G H σ μ v x Q R hx hp=>by
 unfold dReprD at hp
 cases e:peek μ x with
 | none=>rw[e] at hp;exact hp.elim
 | some d =>
  rw[e] at hp
  simp only[Option.bind_some] at hp
  cases e2:toPyK d with
  | none=>rw[e2] at hp;exact hp.elim
  | some p =>
   simp only[e2] at hp
   by_cases c:p.showable=true∧p.depth≤64∧p.shown.length≤sizeLine
   ·rw[if_pos c] at hp;exact⟨v,d,p,rfl,peek_ok R hx e,e2,c.1,c.2.1,c.2.2,hp.okD R (.str _)⟩
   ·rw[if_neg c] at hp;exact hp.elim
theorem cr_reprDK (K:PySem.W.Frag){X:Cx}{k:Nat}(h:Room k X.A)(hg:X.A.guards=some [])(hK:X.K=K:=by rfl):CallR X (.builtin "repr") (rReprD K):=by subst hK;exact cr_reprD h hg
end DL
namespace DR
open PySem PySem.SeqAt PyProof.Rows
open AutoSeq1 (wpAny_loadPart')
open MeetsSeq MeetsSeq2 MeetsSeq3 SeqRoads2
section
variable {prog:Program}{w:World}
theorem tup_same (p q:Addr)(us vs:Array Value)(m m2:Nat)(f f2:Option Addr)(t t2:Array (Option Value))(hz:us.size=vs.size) :
  MeetsIn prog w (Builtin.«tuple.__eq__» ⟨[.ref p,.ref q],[]⟩)
   (fun A R s=>s.heap.get? p=some { cls:=.type "tuple",dict:=f,data:=.seq us m,slots:=t } ∧
    s.heap.get? q=some { cls:=.type "tuple",dict:=f2,data:=.seq vs m2,slots:=t2 } ∧
    (∀ j (h1:j<us.size) (h2:j<vs.size),EqP prog w A.in1 s us[j] vs[j] true)∧R (.ok (.ret (.bool true))) s):=by
 intro A R s h
 obtain⟨hp,g,d,tk,os⟩:=s
 obtain⟨hl,hb,he,h⟩:=h
 have st:=AutoSeq1.sub_tuple_tuple
 have hZ:(us.toList.zip vs.toList).length=us.size:=by simp[hz]
 wp_walk using wpAny_loadPart' hl,wpAny_loadPart' hb,wpAny_forIn_list _ (fun rest b s'=>b.1=none∧s'=⟨hp,g,d,tk,os⟩∧∃ i,rest=(us.toList.zip vs.toList).drop i) _
 case turn =>
  rintro ⟨y,x⟩ rest b s' ⟨hb',rfl,i,hzz⟩
  have hlt:i<(us.toList.zip vs.toList).length:=by
   rcases Nat.lt_or_ge i (us.toList.zip vs.toList).length with z|z
   ·exact z
   ·rw[List.drop_of_length_le z] at hzz;cases hzz
  have i1:i<us.size:=hZ▸hlt
  have i2:i<vs.size:=hz▸i1
  rw[List.drop_eq_getElem_cons hlt] at hzz
  injection hzz with hyx hrest
  obtain rfl:y=us[i]:=by have:=congrArg Prod.fst hyx;simpa using this
  obtain rfl:x=vs[i]:=by have:=congrArg Prod.snd hyx;simpa using this
  refine wpAny_bind (he i i1 i2 _ _ ?_)
  wp_walk
  exact⟨rfl,rfl,i+1,hrest⟩
 case fin =>
  rintro ⟨b1,b2⟩ s' ⟨hb',rfl,i,hzz⟩
  simp only at hb'
  subst hb'
  wp_walk
  simpa [Builtin.Tuple.tupleCompareSizes,hz] using h
 case h =>
  exact⟨rfl,rfl,0,rfl⟩
theorem rcP_tups {A:Around}{s:Shared}{p q:Addr}{us vs:Array Value}(hp:s.heap.IsTuple p us)(hq:s.heap.IsTuple q vs)(hz:us.size=vs.size)(hu:A.units<cLine)
  (he:∀ j (h1:j<us.size) (h2:j<vs.size),EqP prog w A.in1 s us[j] vs[j] true) (E Q:Value→Shared→Prop) (h:Q (.bool true) s):wpAny (model prog w) A (richCompare .Eq (.ref p) (.ref q)) Q E s:=by
 obtain⟨⟨c1,f1,k1,t1⟩,o1,e1,m1,g1⟩:=id hp
 obtain⟨⟨c2,f2,k2,t2⟩,o2,e2,m2,g2⟩:=id hq
 simp only at e1 g1 e2 g2
 subst e1 g1 e2 g2
 have ta:s.TypeIs (.ref p) "tuple":=⟨_,o1,rfl⟩
 have tb:s.TypeIs (.ref q) "tuple":=⟨_,o2,rfl⟩
 exact wpAny_richCompare_same_room (op:=.Eq) ta tb F.slot_tuple_eq (call_meetsIn F.slot_tuple_eq ta F.entry_tuple_eq (F.args_tuple_eq_2 _ _) (tup_same p q us vs m1 m2 f1 f2 t1 t2 hz)
  ⟨o1,o2,he,show Value.bool true≠Value.notImplemented∧Q (.bool true) s from⟨(fun x=>nomatch x),h⟩⟩) hu
end
end DR
namespace DR
open PySem PySem.Spec PySem.SeqAt PyProof.Rows L2 DL
mutual
inductive Rq (P:Program) (w:World) (h:Heap):Value→PyData→Prop
 | none:Rq P w h .none .none
 | bool (b):Rq P w h (.bool b) (.bool b)
 | int (i t):Rq P w h (.int i t) (.int i)
 | str (x t):Rq P w h (.str x t) (.str x)
 | list {a vs xs}:h.IsList a vs→RqAll P w h vs.toList xs→Rq P w h (.ref a) (.list xs)
 | tuple {a vs xs}:h.IsTuple a vs→RqAll P w h vs.toList xs→Rq P w h (.ref a) (.tuple xs)
 | dict {a} {vs:List (Key×Value)} {kvs:List (PyData×PyData)}:(a==sysModules)=false→h.DictOf (mixKind P w) a vs→kvs.map (·.1)=vs.map (fun p=>keyPy p.1)→RqAll P w h (vs.map (·.2)) (kvs.map (·.2))→Rq P w h (.ref a) (.dict kvs)
inductive RqAll (P:Program) (w:World) (h:Heap):List Value→List PyData→Prop
 | nil:RqAll P w h [] []
 | cons {v vs d ds}:Rq P w h v d→RqAll P w h vs ds→RqAll P w h (v::vs) (d::ds)
end
section
variable {P:Program}{w:World}{s:Shared}
theorem RqAll.length {h:Heap}:∀ {vs:List Value} {ds:List PyData},RqAll P w h vs ds→vs.length=ds.length
 | _,_,.nil=>rfl
 | _,_,.cons _ b=>congrArg (·+1) (RqAll.length b)
theorem depthKv_snd:∀ kvs:List (PyData×PyData),PyData.depthAll (kvs.map (·.2))≤PyData.depthKv kvs
 | []=>Nat.le_refl _
 | (a,b)::r=>by
  have:=depthKv_snd r
  simp only[List.map_cons,PyData.depthAll,PyData.depthKv]
  omega
theorem keyPy_inj:∀ {a b:List Key},a.map keyPy=b.map keyPy→a=b
 | [],[],_=>rfl
 | [],_::_,h=>by cases h
 | _::_,[],h=>by cases h
 | x::a,y::b,h=>by
  simp only[List.map_cons,List.cons.injEq] at h
  have e:x=y:=by
   rcases x with x|x <;> rcases y with y|y
   ·have:=h.1;simp only[keyPy,PyData.int.injEq] at this;rw[this]
   ·have:=h.1;simp[keyPy] at this
   ·have:=h.1;simp[keyPy] at this
   ·have:=h.1;simp only[keyPy,PyData.str.injEq] at this;rw[this]
  rw[e,keyPy_inj h.2]
theorem hits_same {A:Around}{kb:List (Key×Value)}:∀ {ka:List (Key×Value)},(∀ (i:Nat) (k:Key) (v:Value),ka[i]?=some (k,v)→∃ y,PySem.valueAt kb k=some y∧EqP P w A s v y true)→PySem.W.KeqHitsP P w A s kb ka true
 | [],_=>.nil
 | (k,v)::r,h=>by
  obtain⟨y,h1,h2⟩:=h 0 k v rfl
  exact .hit (e:=true) (b:=true) h1 h2 (hits_same fun i k' v' q=>h (i+1) k' v' q)
theorem hits_zip {A:Around}{a:Addr}{vs vs':List (Key×Value)}(ek:vs.map (·.1)=vs'.map (·.1))(this:∀ (j:Nat) (h1:j<(vs.map (·.2)).length) (h2:j<(vs'.map (·.2)).length),EqP P w A s (vs.map (·.2))[j] (vs'.map (·.2))[j] true)
  (k2:s.heap.DictOf (mixKind P w) a vs'):PySem.W.KeqHitsP P w A s vs' vs true:=by
 have hl:vs.length=vs'.length:=by simpa using congrArg List.length ek
 have nd:(vs'.map (·.1)).Nodup:=by obtain⟨o,es,ep,_,_,_,_,_,z⟩:=k2;exact z
 refine hits_same fun i k v q=>?_
 have hi:i<vs.length:=(List.getElem?_eq_some_iff.mp q).1
 have hi':i<vs'.length:=hl▸hi
 have e1:vs[i]=(k,v):=(List.getElem?_eq_some_iff.mp q).2
 have e2:(vs'[i]).1=k:=by
  have:=congrArg (fun l=>l[i]?) ek
  simp only[List.getElem?_map,List.getElem?_eq_getElem hi,List.getElem?_eq_getElem hi',Option.map_some,Option.some.injEq] at this
  rw[←this,e1]
 refine⟨(vs'[i]).2,PySem.valueAt_of_get nd (i:=i) (by rw[List.getElem?_eq_getElem hi',←e2]),?_⟩
 have z:=this i (by simpa using hi) (by simpa using hi')
 simpa [e1] using z
mutual
theorem Rq.same:∀ {u u':Value} {p:PyData} (A:Around),Rq P w s.heap u p→Rq P w s.heap u' p→A.units+p.depth<cLine→EqP P w A s u u' true
 | _,_,_,A,.none,r,hu=>by cases r;exact(EqAt.same _).eqP
 | _,_,_,A,.bool b,r,hu=>by cases r;exact(EqAt.same _).eqP
 | _,_,_,A,.int i t,r,hu=>by
  cases r with
  | int _ t'=>have:=EqAt.int_int (A:=A) (s:=s) i t i t';simpa using this.eqP (prog:=P) (w:=w)
 | _,_,_,A,.str x t,r,hu=>by
  cases r with
  | str _ t'=>have:=EqAt.str_str (A:=A) (s:=s) x t x t';simpa using this.eqP (prog:=P) (w:=w)
 | _,_,_,A,.list (a:=a) (vs:=vs) h1 h2,r,hu=>by
  cases r with
  | list k1 k2 =>
   rename_i a' vs'
   by_cases e:a=a'
   ·subst e;exact(EqAt.same _).eqP
   ·have hz:vs.size=vs'.size:=by have:=h2.length;have:=k2.length;simp at *;omega
    have:=RqAll.same A.in1 h2 k2 (by simp only[PyData.depth] at hu;show A.units+1+_<cLine;omega)
    refine eqP_refs e fun E Q q=>rcP_lists h1 k1 hz (by omega) (e:=fun _=>true) (fun j h1 h2=>?_) E Q (by rw[show((List.range vs.size).all fun _=>true)=true from List.all_eq_true.mpr fun _ _=>rfl];exact q)
    have z:=this j (by simpa using h1) (by simpa using h2)
    rw[Array.getElem_toList,Array.getElem_toList] at z;exact z
 | _,_,_,A,.tuple (a:=a) (vs:=vs) h1 h2,r,hu=>by
  cases r with
  | tuple k1 k2 =>
   rename_i a' vs'
   by_cases e:a=a'
   ·subst e;exact(EqAt.same _).eqP
   ·have hz:vs.size=vs'.size:=by have:=h2.length;have:=k2.length;simp at *;omega
    have:=RqAll.same A.in1 h2 k2 (by simp only[PyData.depth] at hu;show A.units+1+_<cLine;omega)
    refine eqP_refs e fun E Q q=>rcP_tups h1 k1 hz (by omega) (fun j h1 h2=>?_) E Q q
    have z:=this j (by simpa using h1) (by simpa using h2)
    rw[Array.getElem_toList,Array.getElem_toList] at z;exact z
 | _,_,_,A,.dict (a:=a) (vs:=vs) (kvs:=kvs) h1 h2 h3 h4,r,hu=>by
  cases r with
  | dict k1 k2 k3 k4 =>
   rename_i a' vs'
   by_cases e:a=a'
   ·subst e;exact(EqAt.same _).eqP
   ·have ek:vs.map (·.1)=vs'.map (·.1):=keyPy_inj (by rw[List.map_map,List.map_map];exact h3.symm.trans k3)
    have hl:vs.length=vs'.length:=by simpa using congrArg List.length ek
    have:=RqAll.same A.in1 h4 k4 (by have:=depthKv_snd kvs;simp only[PyData.depth] at hu;show A.units+1+_<cLine;omega)
    exact eqP_refs e fun E Q q=>PySem.W.rcP_dicts h1 k1 h2 k2 (by omega) (r:=true) (fun _=>hits_zip ek this k2) E Q (by simpa [hl] using q)
theorem RqAll.same:∀ {us us':List Value} {ps:List PyData} (A:Around),RqAll P w s.heap us ps→RqAll P w s.heap us' ps→A.units+PyData.depthAll ps<cLine→∀ (j:Nat) (h1:j<us.length) (h2:j<us'.length),EqP P w A s us[j] us'[j] true
 | _,_,_,A,.nil,r,hu,j,h1,h2=>absurd h1 (Nat.not_lt_zero _)
 | _,_,_,A,.cons a b,r,hu,j,h1,h2=>by
  cases r with
  | cons a' b' =>
   have hd:=hu
   simp only[PyData.depthAll] at hd
   cases j with
   | zero=>exact Rq.same A a a' (by omega)
   | succ j=>exact RqAll.same A b b' (by omega) j (Nat.lt_of_succ_lt_succ h1) (Nat.lt_of_succ_lt_succ h2)
end
end
end DR
namespace DL
open PySem PySem.Spec PyProof.Rows L2 DR
section
variable {X:Cx}{pins:List (Addr×Obj)}{σ:L2.St}{H:Hp}{s:Shared}
mutual
theorem Rp.rq (I:Inv X pins σ H s):∀ {v:V} {d:D} {p:PyData} {u:Value},Rp X.K H v d→toPyK d=some p→L2.RelV v u→Rq X.prog X.w s.heap u p
 | _,_,_,_,.non,e,r=>by simp only[toPyK] at e;cases e;cases r;exact .none
 | _,_,_,_,.bl b,e,r=>by simp only[toPyK] at e;cases e;cases r;exact .bool b
 | _,_,_,_,.int i,e,r=>by simp only[toPyK] at e;cases e;obtain⟨t,rfl⟩:=r;exact .int i t
 | _,_,_,_,.str i,e,r=>by simp only[toPyK] at e;cases e;obtain⟨t,rfl⟩:=r;exact .str i t
 | _,_,_,_,.ty _,e,r=>by simp only[toPyK] at e;cases e
 | _,_,_,_,.ref _,e,r=>by simp only[toPyK] at e;cases e
 | _,_,_,_,.ins _ _ _ _ _,e,r=>by simp only[toPyK] at e;cases e
 | _,_,_,_,.er0 _,e,r=>by simp only[toPyK] at e;cases e
 | _,_,_,_,.eo _ _ _,e,r=>by simp only[toPyK] at e;cases e
 | _,_,_,_,.err _ _ _ _,e,r=>by simp only[toPyK] at e;cases e
 | _,_,_,_,.tup (ds:=ds) h l,e,r=>by
  simp only[toPyK] at e
  cases q:toPyKL ds with
  | none=>rw[q] at e;cases e
  | some ps =>
   rw[q] at e;cases e;cases r
   obtain⟨its,rv,hi,_⟩:=I.tuple h
   exact .tuple hi (by simpa using RpL.rq I l q rv)
 | _,_,_,_,.lst (ds:=ds) h l,e,r=>by
  simp only[toPyK] at e
  cases q:toPyKL ds with
  | none=>rw[q] at e;cases e
  | some ps =>
   rw[q] at e;cases e;cases r
   obtain⟨its,rv,⟨o,n,ho,hc,hd,hdat⟩,_⟩:=I.list (.inl (.inl h))
   exact .list ⟨o,ho,hc,n,hdat⟩ (by simpa using RpL.rq I l q rv)
 | _,_,_,_,.fro (ds:=ds) h l,e,r=>by
  simp only[toPyK] at e
  cases q:toPyKL ds with
  | none=>rw[q] at e;cases e
  | some ps =>
   rw[q] at e;cases e;cases r
   obtain⟨its,rv,⟨o,n,ho,hc,hd,hdat⟩,_⟩:=I.list h
   exact .list ⟨o,ho,hc,n,hdat⟩ (by simpa using RpL.rq I l q rv)
 | _,_,_,_,.dct (ds:=ds) h k l,e,r=>by
  simp only[toPyK] at e
  cases q:toPyKv ds with
  | none=>rw[q] at e;cases e
  | some ps =>
   rw[q] at e;cases e;cases r
   obtain⟨h1,ks,h2,h3⟩:=toPyKv_ok q
   have step:∀ us,Vals _ us→RqAll X.prog X.w s.heap us (ps.map (·.2)):=fun us rv=>RpL.rq I l h1 rv
   rcases k with⟨ls,rfl,k2,rfl⟩|⟨_,ls,hne,rfl,_,_,_,_,k2,_⟩
   ·obtain⟨_,hsys,vs',rel,dd⟩:=dk_rd I.hok (.inr ⟨_,h⟩)
    have ek:ks=ls.map (·.1):=by
     have e2:ks.map Ky.k=(ls.map (·.1)).map Ky.k:=by rw[←h2,k2,List.map_map];rfl
     exact map_k_inj e2
    refine .dict hsys dd ?_ (step _ (kv_vals rel))
    rw[h3,ek,rel.keys,List.map_map];rfl
   ·cases ls with
    | nil=>exact absurd rfl hne
    | cons p ls =>
     rw[h2] at k2
     cases ks with
     | nil=>cases k2
     | cons k ks=>simp at k2
theorem RpL.rq (I:Inv X pins σ H s):∀ {vs:List V} {ds:List D} {ps:List PyData} {us:List Value},RpL X.K H vs ds→toPyKL ds=some ps→Vals vs us→RqAll X.prog X.w s.heap us ps
 | _,_,_,_,.nil,e,r=>by simp only[toPyKL] at e;cases e;cases r;exact .nil
 | _,_,_,_,.cons (d:=d) (ds:=ds) a b,e,r=>by
  simp only[toPyKL] at e
  cases q:toPyK d with
  | none=>rw[q] at e;cases e
  | some p =>
   rw[q] at e
   cases q2:toPyKL ds with
   | none=>rw[q2] at e;cases e
   | some ps =>
    rw[q2] at e;cases e
    cases r with
    | cons r1 r2=>exact .cons (Rp.rq I a q r1) (RpL.rq I b q2 r2)
end
end
end DL
namespace DR
open PySem PySem.Spec PySem.SeqAt PyProof.Rows L2 DL
theorem Rq.rc {P:Program}{w:World}{A:Around}{s:Shared}{u v:Value}{p:PyData}{Q:Value→Shared→Prop}{E:Value→Shared→Prop}(a:Rq P w s.heap u p)(b:Rq P w s.heap v p)(hu:A.units+p.depth<cLine)(q:Q (.bool true) s) :
  wpAny (model P w) A (compareOp .Eq u v) Q E s:=by
 cases a with
 | none=>cases b;exact RcAt.none_none P w E Q q
 | bool x=>cases b;exact RcAt.bool_bool x x P w E Q (by simpa using q)
 | int x t =>
  cases b with
  | int _ t'=>exact RcAt.int_int x t x t' P w E Q (by simpa using q)
 | str x t =>
  cases b with
  | str _ t'=>exact RcAt.str_str x t x t' P w E Q (by simpa using q)
 | list h1 h2 =>
  cases b with
  | list k1 k2 =>
   rename_i a vs xs a' vs'
   have hz:vs.size=vs'.size:=by have:=h2.length;have:=k2.length;simp at *;omega
   have:=RqAll.same A.in1 h2 k2 (by simp only[PyData.depth] at hu;show A.units+1+_<cLine;omega)
   refine rcP_lists h1 k1 hz (by omega) (e:=fun _=>true) (fun j h1 h2=>?_) E Q (by rw[show((List.range vs.size).all fun _=>true)=true from List.all_eq_true.mpr fun _ _=>rfl];exact q)
   have z:=this j (by simpa using h1) (by simpa using h2)
   rw[Array.getElem_toList,Array.getElem_toList] at z;exact z
 | tuple h1 h2 =>
  cases b with
  | tuple k1 k2 =>
   rename_i a vs xs a' vs'
   have hz:vs.size=vs'.size:=by have:=h2.length;have:=k2.length;simp at *;omega
   have:=RqAll.same A.in1 h2 k2 (by simp only[PyData.depth] at hu;show A.units+1+_<cLine;omega)
   refine rcP_tups h1 k1 hz (by omega) (fun j h1 h2=>?_) E Q q
   have z:=this j (by simpa using h1) (by simpa using h2)
   rw[Array.getElem_toList,Array.getElem_toList] at z;exact z
 | dict h1 h2 h3 h4 =>
  cases b with
  | dict k1 k2 k3 k4 =>
   rename_i a vs kvs a' vs'
   have ek:vs.map (·.1)=vs'.map (·.1):=keyPy_inj (by rw[List.map_map,List.map_map];exact h3.symm.trans k3)
   have hl:vs.length=vs'.length:=by simpa using congrArg List.length ek
   have:=RqAll.same A.in1 h4 k4 (by have:=depthKv_snd kvs;simp only[PyData.depth] at hu;show A.units+1+_<cLine;omega)
   exact PySem.W.rcP_dicts h1 k1 h2 k2 (by omega) (r:=true) (fun _=>hits_zip ek this k2) E Q (by simpa [hl] using q)
end DR
namespace DL
open PySem PySem.Spec PyProof.Rows L2 DR
def rSame (K:PySem.W.Frag):R2:=fun x y H Q=>∃ d d' p,Rp K H x d∧Rp K H y d'∧toPyK d=some p∧toPyK d'=some p∧p.depth≤64∧Q (.bl true) H
theorem op_same {X:Cx}(hu:X.A.units+64<cLine):OpR X (compareOp .Eq) (rSame X.K):=by
 intro pins s σ H x y v u Q I rx ry h
 obtain⟨d,d',p,h1,h2,e1,e2,hp,q⟩:=h
 exact(Rp.rq I h1 e1 rx).rc (Rp.rq I h2 e2 ry) (by omega) ⟨.bl true,H,I,rfl,q⟩
open Classical in
noncomputable def dSame (x y:DV)(μ:Mem):Res R:=match (peek μ x).bind toPyK with
 | some p=>if(peek μ y).bind toPyK=some p∧p.depth≤64 then .ok (.dat (.bl true)) μ else .bad
 | none=>.bad
theorem od_same {K:PySem.W.Frag}:OpD K (rSame K) dSame:=fun W ρ G H σ μ v w x y Q R hx hy hp=>by
 unfold dSame at hp
 cases e:peek μ x with
 | none=>rw[e] at hp;exact hp.elim
 | some d =>
  rw[e] at hp
  simp only[Option.bind_some] at hp
  cases e2:toPyK d with
  | none=>rw[e2] at hp;exact hp.elim
  | some p =>
   simp only[e2] at hp
   by_cases c:(peek μ y).bind toPyK=some p∧p.depth≤64
   ·rw[if_pos c] at hp
    obtain⟨c1,c2⟩:=c
    cases e3:peek μ y with
    | none=>rw[e3] at c1;cases c1
    | some d' =>
     rw[e3] at c1
     exact⟨d,d',p,peek_ok R hx e,peek_ok R hy e3,e2,c1,c2,hp.okD R (.bl _)⟩
   ·rw[if_neg c] at hp;exact hp.elim
end DL
namespace DL
open PySem PySem.Spec PyProof.Rows L2 DR
def altR {α:Type}(a b:Res α):Res α:=match a with
 | .bad=>b
 | r=>r
def alt2 (g g':DV→DV→Mem→Res R)(x y:DV)(μ:Mem):Res R:=altR (g x y μ) (g' x y μ)
def alt1 (g g':List DV→Mem→Res R)(xs:List DV)(μ:Mem):Res R:=altR (g xs μ) (g' xs μ)
theorem OpD.alt {K:PySem.W.Frag}{r r':R2}{g g':DV→DV→Mem→Res R}(h:OpD K r g)(h':OpD K r' g'):OpD K (fun x y H Q=>r x y H Q∨r' x y H Q) (alt2 g g'):=fun W ρ G H σ μ v w x y Q R hx hy hp=>by
 unfold alt2 altR at hp
 cases e:g x y μ with
 | bad=>rw[e] at hp;exact .inr (h' W ρ G H σ μ v w x y Q R hx hy hp)
 | ok a m=>rw[e] at hp;exact .inl (h W ρ G H σ μ v w x y Q R hx hy (by rw[e];exact hp))
 | exc a m=>rw[e] at hp;exact .inl (h W ρ G H σ μ v w x y Q R hx hy (by rw[e];exact hp))
theorem CallD.alt {K:PySem.W.Frag}{r r':List V→Hp→VK→Prop}{g g':List DV→Mem→Res R}(h:CallD K r g)(h':CallD K r' g'):CallD K (fun x H Q=>r x H Q∨r' x H Q) (alt1 g g'):=fun W ρ G H σ μ vs xs Q R hx hp=>by
 unfold alt1 altR at hp
 cases e:g xs μ with
 | bad=>rw[e] at hp;exact .inr (h' W ρ G H σ μ vs xs Q R hx hp)
 | ok a m=>rw[e] at hp;exact .inl (h W ρ G H σ μ vs xs Q R hx (by rw[e];exact hp))
 | exc a m=>rw[e] at hp;exact .inl (h W ρ G H σ μ vs xs Q R hx (by rw[e];exact hp))
theorem IxR.or {X:Cx}{r r':R2}(h:IxR X r)(h':IxR X r'):IxR X (fun x y H Q=>r x y H Q∨r' x y H Q) :=
 fun a b pins s σ H x y v u Q I rx ry q=>q.elim (h a b pins s σ H x y v u Q I rx ry) (h' a b pins s σ H x y v u Q I rx ry)
def rDG:R2:=fun x y H Q=>∃ a v,x=.ref a∧DGet H a y (some v)∧Q v H
theorem ix_dict {X:Cx}(hu:X.A.units+1<cLine):IxR X rDG:=by
 intro value slice pins s σ H x y v u Q I rx ry h hs
 obtain⟨a,z,rfl,g,q⟩:=h
 obtain rfl:v=Value.ref a:=rx
 have hT:=dict_typeIs I g
 unfold subscriptTail
 refine wpAny_bind ?_
 rw[getitemInPython_of_ne hT.not_modules]
 refine wpAny_bind (wpAny_specialOf hT PySem.F.slot_dict_getitem.lookup ?_)
 have last:wpAny (model X.prog X.w) X.A (subscripted slice false (.ref a) u) (fun r s3=>wpAny (model X.prog X.w) X.A (letTemporaryGo value (.ref a) r >>= fun _=>pure r) (EP X pins σ Q) X.xe s3) X.xe s:=by
  rw[hs]
  exact wpAny_operating (wpAny_mono (d_getItem hu I g ry fun w' s3 I3 rw'=>⟨z,H,I3,rw',q⟩) (fun r s3 h3=>wpAny_bind (wpAny_letTemporaryGo (wpAny_pure h3))) fun _ _ x=>x)
 first
  | exact wpAny_pure (wpAny_bind last)
  | exact wpAny_bind (wpAny_pure (wpAny_bind last))
  | exact wpAny_bind last
theorem od_dget {K:PySem.W.Frag}:OpD K rDG dGet:=fun W ρ G H σ μ v w x y Q R hx hy hp=>by
 unfold dGet at hp
 match e1:dctOf x μ,e2:keyD y with
 | none,_=>simp only[e1] at hp;exact hp.elim
 | some _,none=>simp only[e1,e2] at hp;exact hp.elim
 | some kvs,some k =>
  simp only[e1,e2] at hp
  by_cases hk:allK kvs=true
  case neg=>rw[if_neg hk] at hp;exact hp.elim
  rw[if_pos hk] at hp
  obtain⟨a,o,vs,rfl,h1,h2,h3⟩:=dctOf_ok R hx e1
  obtain⟨ls,rfl,hl⟩:=dK_of h2 h3 hk
  rcases prl_val (k:=k) hl with⟨_,q⟩|⟨v,z,q1,q2,q3⟩
  ·rw[q] at hp;exact hp.elim
  ·rw[q2] at hp
   exact⟨a,v,rfl,.inl ⟨ls,k,h1,keyD_ok hy e2,q1.symm⟩,hp.okV R q3⟩
def dIxA:DV→DV→Mem→Res R:=alt2 dIx dGet
theorem pm_idxA (K:PySem.W.Frag){X:Cx}{W:WX}{a b:Expr}{ta tb:TE}{fa fb:EM}{pos:Pos}(hu:X.A.units+64<cLine)(ha:PM X W a ta fa)(hb:PM X W b tb fb)(hs:PlainIx b)(hK:X.K=K:=by rfl) :
  PM X W (.Subscript a b pos) (tOp (fun x y H Q=>rIx K x y H Q∨rDG x y H Q) ta tb) (eOp dIxA fa fb):=by
 subst hK;exact pm_ix (IxR.or ix_seq (ix_dict (by omega))) (OpD.alt od_ix od_dget) ha hb hs
def rDI (neg:Bool):R2:=fun y x H Q=>∃ a o,x=.ref a∧DGet H a y o∧Q (.bl (o.isSome != neg)) H
theorem op_din {X:Cx}(hu:X.A.units+1<cLine):OpR X (compareOp .In) (rDI false):=by
 intro pins s σ H x y v u Q I rx ry h
 obtain⟨a,o,rfl,g,q⟩:=h
 obtain rfl:u=Value.ref a:=ry
 exact d_in hu I g rx fun s3 I3=>⟨.bl o.isSome,H,I3,rfl,by simpa using q⟩
theorem op_dnin {X:Cx}(hu:X.A.units+1<cLine):OpR X (compareOp .NotIn) (rDI true):=by
 intro pins s σ H x y v u Q I rx ry h
 obtain⟨a,o,rfl,g,q⟩:=h
 obtain rfl:u=Value.ref a:=ry
 exact d_notIn hu I g rx fun s3 I3=>⟨.bl (!o.isSome),H,I3,rfl,by simpa using q⟩
theorem od_din {K:PySem.W.Frag}(neg:Bool):OpD K (rDI neg) (dInD neg):=fun W ρ G H σ μ v w x y Q R hx hy hp=>inD_ok R hx hy hp
def rSgn (neg:Bool):R2:=fun x y H Q=>∃ (c:Nat) (z:Str),x=.str ⟨#[c]⟩∧y=.str z∧Q (.bl (decide (c∈z.cps.toList) != neg)) H
theorem op_sgn {X:Cx}:OpR X (compareOp .In) (rSgn false):=fun pins s σ H x y v u Q I rx ry ⟨c,z,h1,h2,q⟩=>op_in_sign pins s σ H x y v u Q I rx ry ⟨c,z,h1,h2,by simpa using q⟩
theorem op_nsgn {X:Cx}:OpR X (compareOp .NotIn) (rSgn true):=fun pins s σ H x y v u Q I rx ry ⟨c,z,h1,h2,q⟩=>op_notIn_sign pins s σ H x y v u Q I rx ry ⟨c,z,h1,h2,by simpa using q⟩
def sgn:Str→Option Nat
 | ⟨⟨[c]⟩⟩=>some c
 | _=>none
def dSgn (neg:Bool)(x y:DV)(μ:Mem):Res R:=match (asStr x).bind sgn,asStr y with
 | some c,some z=>.ok (.dat (.bl (decide (c∈z.cps.toList) != neg))) μ
 | _,_=>.bad
theorem sgn_ok {x:Str}{c:Nat}(h:sgn x=some c):x=⟨#[c]⟩:=by
 unfold sgn at h
 split at h
 ·cases h;rfl
 ·cases h
theorem od_sgn {K:PySem.W.Frag}(neg:Bool):OpD K (rSgn neg) (dSgn neg):=fun W ρ G H σ μ v w x y Q R hx hy hp=>by
 unfold dSgn at hp
 cases e1:asStr x with
 | none=>rw[e1] at hp;exact hp.elim
 | some a =>
  rw[e1] at hp
  simp only[Option.bind_some] at hp
  cases e3:sgn a with
  | none=>rw[e3] at hp;exact hp.elim
  | some c =>
   cases e2:asStr y with
   | none=>rw[e3,e2] at hp;exact hp.elim
   | some z =>
    rw[e3,e2] at hp
    have:=asStr_ok hx e1
    rw[sgn_ok e3] at this
    exact⟨c,z,this,asStr_ok hy e2,hp.okD R (.bl _)⟩
def dInA (neg:Bool):DV→DV→Mem→Res R:=alt2 (dIn neg) (alt2 (dInD neg) (dSgn neg))
def rInA (K:PySem.W.Frag)(neg:Bool):R2:=fun x y H Q=>rIn K neg x y H Q∨(fun x y H Q=>rDI neg x y H Q∨rSgn neg x y H Q) x y H Q
theorem od_inA {K:PySem.W.Frag}(neg:Bool):OpD K (rInA K neg) (dInA neg):=OpD.alt (od_in neg) (OpD.alt (od_din neg) (od_sgn neg))
theorem op_inA (K:PySem.W.Frag){X:Cx}(hu:X.A.units+64<cLine)(hK:X.K=K:=by rfl):OpR X (compareOp .In) (rInA K false):=by subst hK;exact OpR.or op_in_seq (OpR.or (op_din (by omega)) op_sgn)
theorem op_ninA (K:PySem.W.Frag){X:Cx}(hu:X.A.units+64<cLine)(hK:X.K=K:=by rfl):OpR X (compareOp .NotIn) (rInA K true):=by subst hK;exact OpR.or op_notIn_seq (OpR.or (op_dnin (by omega)) op_nsgn)
noncomputable def dEqA:DV→DV→Mem→Res R:=alt2 dEq dSame
theorem od_eqA {K:PySem.W.Frag}:OpD K (fun x y H Q=>rEqQ K x y H Q∨rSame K x y H Q) dEqA:=OpD.alt od_eq od_same
theorem op_eqA (K:PySem.W.Frag){X:Cx}(h:X.A.units+64<cLine)(hK:X.K=K:=by rfl):OpR X (compareOp .Eq) (fun x y H Q=>rEqQ K x y H Q∨rSame K x y H Q):=by subst hK;exact OpR.or (op_eqQ h) (op_same h)
def dLenA:List DV→Mem→Res R:=alt1 (d1 dLen) (d1 dLenK)
theorem call_lenA (K:PySem.W.Frag){X:Cx}(hK:X.K=K:=by rfl):CallR X (.builtin "len") (fun xs H Q=>(∃ x n,xs=[x]∧LenV K x H n∧Q (V.int ↑n) H)∨rLenK xs H Q):=CallR.or (call_lenK K hK) cr_lenK
theorem cd_lenA {K:PySem.W.Frag}:CallD K (fun xs H Q=>(∃ x n,xs=[x]∧LenV K x H n∧Q (V.int (n:Nat)) H)∨rLenK xs H Q) dLenA:=CallD.alt cd_len cd_lenK
def dReprA:List DV→Mem→Res R:=alt1 (d1 dRepr) (d1 dReprD)
theorem cr_reprA (K:PySem.W.Frag){X:Cx}{k:Nat}(h:Room k X.A)(hg:X.A.guards=some [])(hK:X.K=K:=by rfl):CallR X (.builtin "repr") (fun xs H Q=>rRepr K xs H Q∨rReprD K xs H Q):=CallR.or (cr_reprK K h hg hK) (cr_reprDK K h hg hK)
theorem cd_reprA {K:PySem.W.Frag}:CallD K (fun xs H Q=>rRepr K xs H Q∨rReprD K xs H Q) dReprA:=CallD.alt cd_repr cd_reprD
def dListA:List DV→Mem→Res R:=alt1 (d1 dList) (d1 dListK)
theorem call_listA (K:PySem.W.Frag){X:Cx}(hc:X.calm=true)(hK:X.K=K:=by rfl):CallR X (.type "list") (fun xs H Q=>(∃ p ys,xs=[V.ref p]∧(SqL K H p ys∨SqT K H p ys)∧∀ (l:Addr),H l=none→Q (V.ref l) (upd H l (HO.lst ys)))∨rListK xs H Q):=CallR.or (call_list_ofK K hK) (call_listDK hc)
theorem cd_listA {K:PySem.W.Frag}:CallD K (fun xs H Q=>(∃ p ys,xs=[V.ref p]∧(SqL K H p ys∨SqT K H p ys)∧∀ (l:Addr),H l=none→Q (V.ref l) (upd H l (HO.lst ys)))∨rListK xs H Q) dListA:=CallD.alt cd_list cd_listK
def dPow:DV→DV→Mem→Res R:=d2I (fun i j=>decide (0≤j∧j≤1000000∧i.natAbs<2^64)) fun i j=>.int (i^j.toNat)
theorem od_pow {K:PySem.W.Frag}:OpD K (rI (fun i j=>0≤j∧j≤1000000∧i.natAbs<2^64) fun i j=>V.int (i^j.toNat)) dPow:=od_I (fun i j h=>of_decide_eq_true h) fun _ _ _=>.int _
theorem sm_dpt {X:Cx}{W:WX}{o i e:Expr}{to ti te:TE}{fo fi fe:EM}{pos pos':Pos}(hu:X.A.units+64<cLine)(ho:PM X W o to fo)(hi:PM X W i ti fi)(hv:PM X W e te fe)(hs:swapsWith e (some (.Subscript o i pos')) pos.line X.env=pure false:=by rfl) :
  PSM X W (.Assign [.Subscript o i pos'] e pos) (sDPut to ti te) (gDPut fo fi fe):=sm_dput (by omega) ho hi hv hs
end DL
namespace DL
open PySem PySem.Spec PyProof.Rows L2
def Sat {α:Type}(r:Res α)(Q:α→Mem→Prop)(E:Xc→Mem→Prop):Prop:=match r with
 | .ok a μ=>Q a μ
 | .exc x μ=>E x μ
 | .bad=>False
structure PO where
 nx:Env→Mem→Prop
 rt:R→Mem→Prop
 bk:Env→Mem→Prop
 ct:Env→Mem→Prop
 ex:Xc→Env→Mem→Prop
def SatS (o:Out)(P:PO):Prop:=match o with
 | .next δ μ=>P.nx δ μ
 | .ret r μ=>P.rt r μ
 | .brk δ μ=>P.bk δ μ
 | .cnt δ μ=>P.ct δ μ
 | .exc x δ μ=>P.ex x δ μ
 | .bad=>False
def TupK (xs:List DV)(Q:D→Prop):Prop:=∃ ds,allDat xs=some ds∧ds.length≤sizeLine∧Q (.tup ds)
def SeqK (x:DV)(Q:List D→Prop):Prop:=∃ ds,seqD x=some ds∧Q ds
def IntK (x:DV)(Q:Int→Prop):Prop:=∃ i,asI x=some i∧Q i
def StrK (x:DV)(Q:Str→Prop):Prop:=∃ i,asStr x=some i∧Q i
def ParK (xs:List DV)(Q:DV→DV→Prop):Prop:=∃ x y,xs=[x,y]∧Q x y
def TgtK (h:D→Env→Option Env)(δ:Env)(x:DV)(Q:Env→Prop):Prop:=∃ d δ',x=.dat d∧h d δ=some δ'∧Q δ'
section
variable {α β:Type}{Q:α→Mem→Prop}{QR:R→Mem→Prop}{QV:DV→Mem→Prop}{QA:List DV→Mem→Prop}{QB:Bool→Mem→Prop}{QO:Option Int→Mem→Prop}{QI:List D→Mem→Prop}{E:Xc→Mem→Prop}{P:PO}{δ:Env}{μ:Mem}{N:Nat}
theorem Sat.mono {r:Res α}{Q':α→Mem→Prop}{E':Xc→Mem→Prop}(h:Sat r Q E)(hq:∀ a μ,Q a μ→Q' a μ)(he:∀ x μ,E x μ→E' x μ):Sat r Q' E':=by
 cases r with
 | ok a μ=>exact hq a μ h
 | exc x μ=>exact he x μ h
 | bad=>exact h
theorem Sat.of_eq {r:Res α}{a:α}(e:r=.ok a μ)(h:Q a μ):Sat r Q E:=by rw[e];exact h
theorem Sat.eq {r:Res α}{a:α}(h:Sat r (fun x μ'=>x=a∧μ'=μ) (fun _ _=>False)):r=.ok a μ:=by
 cases r with
 | ok b μ1=>obtain⟨rfl,rfl⟩:=h;rfl
 | exc x μ1=>exact h.elim
 | bad=>exact h.elim
theorem sat_bind {r:Res α}{k:α→Mem→Res β}{Q':β→Mem→Prop}(h:Sat r (fun a μ=>Sat (k a μ) Q' E) E):Sat (r.bind k) Q' E:=by
 cases r with
 | ok a μ=>exact h
 | exc x μ=>exact h
 | bad=>exact h
theorem sat_lift {r:Res α}{k:α→Mem→Out}(h:Sat r (fun a μ=>SatS (k a μ) P) (fun x μ=>P.ex x δ μ)):SatS (lift r δ k) P:=by
 cases r with
 | ok a μ=>exact h
 | exc x μ=>exact h
 | bad=>exact h
def FzK (r:R)(μ:Mem)(QV:DV→Mem→Prop):Prop:=match frz r with
 | some x=>QV x μ
 | none=>False
theorem x_fz {f:EM}(h:Sat (f δ μ) (fun r μ'=>FzK r μ' QV) E):Sat (frzV f δ μ) QV E:=by
 refine sat_bind (h.mono (fun r μ' q=>?_) fun _ _ q=>q)
 unfold FzK at q
 cases e:frz r with
 | none=>rw[e] at q;exact q.elim
 | some x=>rw[e] at q;exact q
theorem z_dat {d:D}(h:QV (.dat d) μ):FzK (.dat d) μ QV:=h
theorem z_loc {n:Nat}(h:QV (.loc n) μ):FzK (.loc n) μ QV:=h
theorem z_nl {xs:List DV}{ds:List D}(e:allDat xs=some ds)(h:QV (.dat (.lst ds)) μ):FzK (.nl xs) μ QV:=by unfold FzK frz;simp only;rw[e];exact h
theorem z_nlm {ds:List D}(h:QV (.dat (.lst ds)) μ):FzK (.nl (ds.map DV.dat)) μ QV:=z_nl (allDat_map ds) h
theorem allDat_mapf {γ:Type}(f:γ→D)(ys:List γ):allDat (ys.map fun y=>.dat (f y))=some (ys.map f):=by
 have:=allDat_map (ys.map f);rw[List.map_map] at this;exact this
theorem z_nlf {γ:Type}{f:γ→D}{ys:List γ}(h:QV (.dat (.lst (ys.map f))) μ):FzK (.nl (ys.map fun y=>.dat (f y))) μ QV:=z_nl (allDat_mapf f ys) h
theorem z_nlc {γ:Type}{f:γ→D}{ys:List γ}(h:QV (.dat (.lst (ys.map f))) μ):FzK (.nl (ys.map (DV.dat∘f))) μ QV:=z_nl (allDat_mapf f ys) h
theorem v_var {i:Nat}{x:DV}(e:δ[i]?=some (some x))(h:QV x μ):Sat (frzV (eVar i) δ μ) QV E:=by rw[fz_var e];exact h
theorem v_D {d:D}(h:QV (.dat d) μ):Sat (frzV (eD d) δ μ) QV E:=h
theorem x_var {i:Nat}{x:DV}(e:δ[i]?=some (some x))(h:QR (ofV x) μ):Sat (eVar i δ μ) QR E:=by rw[ev_var e];exact h
theorem x_D {d:D}(h:QR (.dat d) μ):Sat (eD d δ μ) QR E:=h
theorem a_nilK (h:QA [] μ):Sat (aNil δ μ) QA E:=h
theorem a_consK {f:EM}{g:AM}(h:Sat (frzV f δ μ) (fun x μ1=>Sat (g δ μ1) (fun xs μ2=>QA (x::xs) μ2) E) E):Sat (aCons f g δ μ) QA E :=
 sat_bind (h.mono (fun x μ1 q=>sat_bind q) fun _ _ q=>q)
theorem x_tup {g:AM}(h:Sat (g δ μ) (fun xs μ1=>TupK xs fun d=>QR (.dat d) μ1) E):Sat (eTup g δ μ) QR E:=by
 refine sat_bind (h.mono (fun xs μ1 q=>?_) fun _ _ q=>q)
 obtain⟨ds,e,hl,q⟩:=q
 rw[e];simp only;rw[if_pos hl];exact q
theorem x_lst {g:AM}(h:Sat (g δ μ) (fun xs μ1=>xs.length≤sizeLine∧QR (.nl xs) μ1) E):Sat (eLst g δ μ) QR E:=by
 refine sat_bind (h.mono (fun xs μ1 q=>?_) fun _ _ q=>q)
 rw[if_pos q.1];exact q.2
theorem x_op {g:DV→DV→Mem→Res R}{fa fb:EM}(h:Sat (frzV fa δ μ) (fun x μ1=>Sat (frzV fb δ μ1) (fun y μ2=>Sat (g x y μ2) QR E) E) E):Sat (eOp g fa fb δ μ) QR E :=
 sat_bind (h.mono (fun x μ1 q=>sat_bind q) fun _ _ q=>q)
theorem x_cb {g:List DV→Mem→Res R}{fa:AM}(h:Sat (fa δ μ) (fun xs μ1=>Sat (g xs μ1) QR E) E):Sat (eCB g fa δ μ) QR E:=sat_bind h
theorem x_un {g:DV→Mem→Res R}{f:EM}(h:Sat (frzV f δ μ) (fun x μ1=>Sat (g x μ1) QR E) E):Sat (eUn g f δ μ) QR E:=sat_bind h
theorem x_bm {c:DV→Mem→Bool}{g:DV→List DV→Mem→Res R}{f:EM}{fa:AM}(h:Sat (frzV f δ μ) (fun x μ1=>c x μ1=true∧Sat (fa δ μ1) (fun xs μ2=>Sat (g x xs μ2) QR E) E) E):Sat (eBM c g f fa δ μ) QR E:=by
 refine sat_bind (h.mono (fun x μ1 q=>?_) fun _ _ q=>q)
 rw[if_pos q.1];exact sat_bind q.2
theorem x_bm0 {c:DV→Mem→Bool}{g:DV→List DV→Mem→Res R}{f:EM}(h:Sat (frzV f δ μ) (fun x μ1=>c x μ1=true∧Sat (g x [] μ1) QR E) E):Sat (eBM0 c g f δ μ) QR E:=by
 refine sat_bind (h.mono (fun x μ1 q=>?_) fun _ _ q=>q)
 rw[if_pos q.1];exact q.2
def BlK (r:R)(μ:Mem)(QB:Bool→Mem→Prop):Prop:=match asB r with
 | some b=>QB b μ
 | none=>False
theorem b_bl {b:Bool}(h:QB b μ):BlK (.dat (.bl b)) μ QB:=h
theorem BlK.ex {r:R}(h:BlK r μ QB):∃ b,r=.dat (.bl b)∧asB r=some b∧QB b μ:=by
 unfold BlK at h
 match r with
 | .dat (.bl b)=>exact⟨b,rfl,rfl,h⟩
 | .dat .non=>exact h.elim
 | .dat (.int _)=>exact h.elim
 | .dat (.str _)=>exact h.elim
 | .dat (.ty _)=>exact h.elim
 | .dat (.ref _)=>exact h.elim
 | .dat (.tup _)=>exact h.elim
 | .dat (.lst _)=>exact h.elim
 | .dat (.fro _)=>exact h.elim
 | .dat (.dct _)=>exact h.elim
 | .dat (.ins _ _)=>exact h.elim
 | .loc _=>exact h.elim
 | .nl _=>exact h.elim
 | .nk _=>exact h.elim
theorem t_B {f:EM}(h:Sat (f δ μ) (fun r μ'=>BlK r μ' QB) E):Sat (tmB f δ μ) QB E:=by
 refine sat_bind (h.mono (fun r μ1 q=>?_) fun _ _ q=>q)
 obtain⟨b,rfl,_,q⟩:=q.ex;exact q
theorem t_not {f:TM}(h:Sat (f δ μ) (fun b μ'=>QB (!b) μ') E):Sat (tmNot f δ μ) QB E:=sat_bind h
theorem t_and {f g:TM}(h:Sat (f δ μ) (fun b μ'=>if b=true then Sat (g δ μ') QB E else QB false μ') E):Sat (tmAnd f g δ μ) QB E:=by
 refine sat_bind (h.mono (fun b μ1 q=>?_) fun _ _ q=>q)
 cases b <;> exact q
theorem t_or {f g:TM}(h:Sat (f δ μ) (fun b μ'=>if b=true then QB true μ' else Sat (g δ μ') QB E) E):Sat (tmOr f g δ μ) QB E:=by
 refine sat_bind (h.mono (fun b μ1 q=>?_) fun _ _ q=>q)
 cases b <;> exact q
theorem t_yes (h:QB true μ):Sat (tmYes δ μ) QB E:=h
theorem x_and {f g:EM}(h:Sat (f δ μ) (fun r μ'=>BlK r μ' fun b μ'=>if b=true then Sat (g δ μ') QR E else QR (.dat (.bl false)) μ') E):Sat (eAnd f g δ μ) QR E:=by
 refine sat_bind (h.mono (fun r μ1 q=>?_) fun _ _ q=>q)
 obtain⟨b,rfl,_,q⟩:=q.ex;cases b <;> exact q
theorem x_or {f g:EM}(h:Sat (f δ μ) (fun r μ'=>BlK r μ' fun b μ'=>if b=true then QR (.dat (.bl true)) μ' else Sat (g δ μ') QR E) E):Sat (eOr f g δ μ) QR E:=by
 refine sat_bind (h.mono (fun r μ1 q=>?_) fun _ _ q=>q)
 obtain⟨b,rfl,_,q⟩:=q.ex;cases b <;> exact q
theorem x_not {f:EM}(h:Sat (f δ μ) (fun r μ'=>BlK r μ' fun b μ'=>QR (.dat (.bl (!b))) μ') E):Sat (eNot f δ μ) QR E:=by
 refine sat_bind (h.mono (fun r μ1 q=>?_) fun _ _ q=>q)
 obtain⟨b,rfl,_,q⟩:=q.ex;exact q
theorem x_if {f:TM}{g h:EM}(k:Sat (f δ μ) (fun b μ'=>if b=true then Sat (g δ μ') QR E else Sat (h δ μ') QR E) E):Sat (eIf f g h δ μ) QR E:=by
 refine sat_bind (k.mono (fun b μ1 q=>?_) fun _ _ q=>q)
 cases b <;> exact q
theorem x_isN {f:EM}(h:Sat (frzV f δ μ) (fun x μ'=>QR (.dat (.bl (isNon x))) μ') E):Sat (eIsN f δ μ) QR E:=sat_bind h
theorem x_notN {f:EM}(h:Sat (frzV f δ μ) (fun x μ'=>QR (.dat (.bl (!isNon x))) μ') E):Sat (eNotN f δ μ) QR E:=sat_bind h
theorem o_noneK (h:QO none μ):Sat (oNone δ μ) QO E:=h
theorem o_someK {f:EM}(h:Sat (frzV f δ μ) (fun x μ'=>IntK x fun i=>QO (some i) μ') E):Sat (oSome f δ μ) QO E:=by
 refine sat_bind (h.mono (fun x μ1 q=>?_) fun _ _ q=>q)
 obtain⟨i,e,q⟩:=q;rw[e];exact q
theorem x_sl {f:EM}{lo hi:OM}(h:Sat (frzV f δ μ) (fun x μ1=>Sat (lo δ μ1) (fun l μ2=>Sat (hi δ μ2) (fun u μ3=>Sat (dSl x l u μ3) QR E) E) E) E):Sat (eSl f lo hi δ μ) QR E :=
 sat_bind (h.mono (fun _ _ q=>sat_bind (q.mono (fun _ _ q=>sat_bind q) fun _ _ q=>q)) fun _ _ q=>q)
theorem x_chain {g g':DV→DV→Mem→Res R}{fa fb fc:EM}(h:Sat (frzV fa δ μ) (fun x μ1=>Sat (frzV fb δ μ1) (fun y μ2=>Sat (g x y μ2) (fun r μ3=>BlK r μ3 fun b μ3=>if b=true then Sat (frzV fc δ μ3) (fun z μ4=>Sat (g' y z μ4) QR E) E else QR (.dat (.bl false)) μ3) E) E) E) :
  Sat (eChain g g' fa fb fc δ μ) QR E:=by
 refine sat_bind (h.mono (fun _ _ q=>sat_bind (q.mono (fun _ _ q=>sat_bind (q.mono (fun r _ q=>?_) fun _ _ q=>q)) fun _ _ q=>q)) fun _ _ q=>q)
 obtain⟨b,rfl,_,q⟩:=q.ex;cases b
 ·exact q
 ·exact sat_bind q
theorem x_inK {neg:Bool}{ks:List Str}{f:EM}(h:Sat (frzV f δ μ) (fun x μ'=>StrK x fun z=>QR (.dat (.bl (if neg=true then !(ks.any fun k=>decide (k=z)) else ks.any fun k=>decide (k=z)))) μ') E):Sat (eInK neg ks f δ μ) QR E:=by
 refine sat_bind (h.mono (fun x μ1 q=>?_) fun _ _ q=>q)
 obtain⟨i,e,q⟩:=q;rw[e];exact q
theorem i_seq {f:EM}(h:Sat (frzV f δ μ) (fun x μ'=>SeqK x fun ds=>QI ds μ') E):Sat (imSeq f δ μ) QI E:=by
 refine sat_bind (h.mono (fun x μ1 q=>?_) fun _ _ q=>q)
 obtain⟨ds,e,q⟩:=q;rw[e];exact q
theorem i_enum {f:EM}(h:Sat (frzV f δ μ) (fun x μ'=>SeqK x fun ds=>QI (enumD 0 ds) μ') E):Sat (imEnum (aCons f aNil) δ μ) QI E:=by
 refine sat_bind (sat_bind (h.mono (fun x μ1 q=>?_) fun _ _ q=>q))
 obtain⟨ds,e,q⟩:=q
 show Sat (match seqD x with|some ds=>_|none=>_) _ _
 rw[e];exact q
theorem i_rng {f:EM}(h:Sat (frzV f δ μ) (fun x μ'=>IntK x fun j=>(-2^62≤j∧j<2^62)∧QI (rngD 0 j.toNat) μ') E):Sat (imRng (aCons f aNil) δ μ) QI E:=by
 refine sat_bind (sat_bind (h.mono (fun x μ1 q=>?_) fun _ _ q=>q))
 obtain⟨j,e,hj,q⟩:=q
 show Sat (match asI x with|some j=>_|none=>_) _ _
 rw[e];simp only;rw[if_pos hj];exact q
theorem i_rng2 {f g:EM}(h:Sat (frzV f δ μ) (fun x μ1=>Sat (frzV g δ μ1) (fun y μ'=>IntK x fun i=>IntK y fun j=>(-2^62≤i∧i<2^62∧-2^62≤j∧j<2^62)∧QI (rngD i (j-i).toNat) μ') E) E):Sat (imRng2 (aCons f (aCons g aNil)) δ μ) QI E:=by
 refine sat_bind (sat_bind (h.mono (fun x μ1 q=>sat_bind (sat_bind (q.mono (fun y μ2 q=>?_) fun _ _ q=>q))) fun _ _ q=>q))
 obtain⟨i,e,j,e2,hj,q⟩:=q
 show Sat (match asI x,asI y with|some i,some j=>_|_,_=>_) _ _
 rw[e,e2];simp only;rw[if_pos hj];exact q
theorem x_lc {fi:IM}{h:D→Env→Option Env}{ft:TM}{fe:EM}{vs:List Nat}(k:Sat (fi δ μ) (fun ds μ1=>ds.length≤sizeLine∧Sat (lcL h ft fe (wipeE δ vs) ds μ1) (fun ys μ2=>QR (.nl ys) μ2) E) E):Sat (eLc fi h ft fe vs δ μ) QR E:=by
 refine sat_bind (k.mono (fun ds μ1 q=>?_) fun _ _ q=>q)
 rw[if_pos q.1];exact sat_bind q.2
theorem lc_mapK {γ:Type}{h:D→Env→Option Env}{fe:EM}{xs:List γ}{enc:γ→D}(y:γ→D)(hx:∀ x∈xs,∃ δ1,h (enc x) δ=some δ1∧Sat (frzV fe δ1 μ) (fun r μ'=>r=.dat (y x)∧μ'=μ) (fun _ _=>False))(hq:QA (xs.map fun x=>.dat (y x)) μ):Sat (lcL h tmYes fe δ (xs.map enc) μ) QA E:=by
 have:lcL h tmYes fe δ (xs.map enc) μ=.ok (xs.map fun x=>.dat (y x)) μ:=by
  clear hq
  induction xs with
  | nil=>rfl
  | cons x xs ih =>
   obtain⟨δ1,h1,h2⟩:=hx x List.mem_cons_self
   have h2:=h2.eq
   simp only[List.map_cons,lcL,h1,tmYes,h2,ih fun z hz=>hx z (List.mem_cons_of_mem _ hz),Res.bind]
 rw[this];exact hq
theorem lc_filK {γ:Type}{h:D→Env→Option Env}{ft:TM}{fe:EM}{xs:List γ}{enc:γ→D}(c:γ→Bool)(y:γ→D)(hx:∀ x∈xs,∃ δ1,h (enc x) δ=some δ1∧Sat (ft δ1 μ) (fun b μ'=>b=c x∧μ'=μ) (fun _ _=>False)∧(c x=true→Sat (frzV fe δ1 μ) (fun r μ'=>r=.dat (y x)∧μ'=μ) (fun _ _=>False)))(hq:QA ((xs.filter c).map fun x=>.dat (y x)) μ):Sat (lcL h ft fe δ (xs.map enc) μ) QA E:=by
 have:lcL h ft fe δ (xs.map enc) μ=.ok ((xs.filter c).map fun x=>.dat (y x)) μ:=by
  clear hq
  induction xs with
  | nil=>rfl
  | cons x xs ih =>
   obtain⟨δ1,h1,h2,h3⟩:=hx x List.mem_cons_self
   have h2:=h2.eq
   have ih:=ih fun z hz=>hx z (List.mem_cons_of_mem _ hz)
   cases hc:c x with
   | true =>
    have h3:=(h3 hc).eq
    simp only[List.map_cons,lcL,h1,h2,hc,h3,ih,Res.bind,List.filter_cons,if_pos]
   | false=>simp[lcL,h1,h2,hc,ih,List.filter_cons]
 rw[this];exact hq
theorem s_seq {g h:SM}(k:SatS (g N δ μ) { P with nx:=fun δ μ=>SatS (h N δ μ) P }):SatS (gSeq g h N δ μ) P:=by
 unfold gSeq
 cases e:g N δ μ <;> rw[e] at k <;> exact k
theorem s_next (h:P.nx δ μ):SatS (gNext N δ μ) P:=h
theorem s_asg {i:Nat}{f:EM}(h:Sat (frzV f δ μ) (fun x μ'=>P.nx (δ.set i (some x)) μ') (fun x μ=>P.ex x δ μ)):SatS (gAsg i f N δ μ) P:=sat_lift h
theorem s_drop {f:EM}(h:Sat (f δ μ) (fun _ μ'=>P.nx δ μ') (fun x μ=>P.ex x δ μ)):SatS (gDrop f N δ μ) P:=sat_lift h
theorem s_ret {f:EM}(h:Sat (f δ μ) (fun r μ'=>P.rt r μ') (fun x μ=>P.ex x δ μ)):SatS (gRet f N δ μ) P:=sat_lift h
theorem s_if {f:TM}{g h:SM}(k:Sat (f δ μ) (fun b μ'=>if b=true then SatS (g N δ μ') P else SatS (h N δ μ') P) (fun x μ=>P.ex x δ μ)):SatS (gIf f g h N δ μ) P:=by
 refine sat_lift (k.mono (fun b μ' q=>?_) fun _ _ q=>q)
 cases b <;> exact q
theorem s_new {i:Nat}{f:EM}(h:Sat (f δ μ) (fun r μ'=>SatS (bindR N i r δ μ') P) (fun x μ=>P.ex x δ μ)):SatS (gNew i f N δ μ) P:=sat_lift h
theorem r_dat {i:Nat}{d:D}(h:P.nx (δ.set i (some (.dat d))) μ):SatS (bindR N i (.dat d) δ μ) P:=h
theorem r_loc {i n:Nat}(h:P.nx (δ.set i (some (.loc n))) μ):SatS (bindR N i (.loc n) δ μ) P:=h
theorem r_nl {i:Nat}{xs:List DV}(hN:N≤μ.length)(h:P.nx (δ.set i (some (.loc μ.length))) (μ++[.lst xs])):SatS (bindR N i (.nl xs) δ μ) P:=by
 unfold bindR;simp only;rw[if_pos hN];exact h
theorem s_tgt {h:D→Env→Option Env}{f:EM}(k:Sat (frzV f δ μ) (fun x μ'=>TgtK h δ x fun δ'=>P.nx δ' μ') (fun x μ=>P.ex x δ μ)):SatS (gTgt h f N δ μ) P:=by
 refine sat_lift (k.mono (fun x μ' q=>?_) fun _ _ q=>q)
 obtain⟨d,δ',rfl,e,q⟩:=q
 simp only;rw[e];exact q
theorem s_par {i j:Nat}{fa:AM}(h:Sat (fa δ μ) (fun xs μ'=>ParK xs fun x y=>P.nx ((δ.set i (some x)).set j (some y)) μ') (fun x μ=>P.ex x δ μ)):SatS (gPar i j fa N δ μ) P:=by
 refine sat_lift (h.mono (fun xs μ' q=>?_) fun _ _ q=>q)
 obtain⟨x,y,rfl,q⟩:=q;exact q
theorem s_par2 {i j:Nat}{f g:EM}(h:Sat (f δ μ) (fun r μ1=>∃ δ1 μ2,bindR N i r δ μ1=.next δ1 μ2∧Sat (g δ μ2) (fun r2 μ3=>SatS (bindR N j r2 δ1 μ3) P) (fun x μ=>P.ex x δ μ)) (fun x μ=>P.ex x δ μ)):SatS (gPar2 i j f g N δ μ) P:=by
 refine sat_lift (h.mono (fun r μ' q=>?_) fun _ _ q=>q)
 obtain⟨δ1,μ2,e,q⟩:=q
 rw[e];exact sat_lift q
theorem s_aug {i:Nat}{op:Int→Int→Int}{fe:EM}{a:Int}(e:δ[i]?=some (some (.dat (.int a))))(h:Sat (frzV fe δ μ) (fun y μ'=>IntK y fun b=>P.nx (δ.set i (some (.dat (.int (op a b))))) μ') (fun x μ=>P.ex x δ μ)):SatS (gAug i op fe N δ μ) P:=by
 unfold gAug;rw[e]
 show SatS (lift (frzV fe δ μ) δ fun y μ'=>match asI y with|some b=>Out.next (δ.set i (some (.dat (.int (op a b))))) μ' | none=>.bad) P
 refine sat_lift (h.mono (fun y μ' q=>?_) fun _ _ q=>q)
 obtain⟨b,e,q⟩:=q;rw[e];exact q
theorem s_set {fo fi fe:EM}(h:Sat (frzV fe δ μ) (fun y μ1=>Sat (frzV fo δ μ1) (fun x μ2=>Sat (frzV fi δ μ2) (fun i μ3=>∃ μ4,setPl μ3 x i y=some μ4∧P.nx δ μ4) (fun x μ=>P.ex x δ μ)) (fun x μ=>P.ex x δ μ)) (fun x μ=>P.ex x δ μ)):SatS (gSet fo fi fe N δ μ) P:=by
 refine sat_lift (sat_bind (h.mono (fun y μ1 q=>sat_bind (q.mono (fun x μ2 q=>sat_bind (q.mono (fun i μ3 q=>?_) fun _ _ q=>q)) fun _ _ q=>q)) fun _ _ q=>q))
 obtain⟨μ4,e,q⟩:=q;rw[e];exact q
theorem s_disp {i:Nat}{f:NM}(h:Sat (f N δ μ) (fun xs μ1=>xs.length≤sizeLine∧SatS (bindR N i (.nl xs) δ μ1) P) (fun x μ=>P.ex x δ μ)):SatS (gDisp i f N δ μ) P:=by
 unfold gDisp
 cases e:f N δ μ with
 | ok xs μ1=>rw[e] at h;simp only;rw[if_pos h.1];exact h.2
 | exc x μ1=>rw[e] at h;exact h
 | bad=>rw[e] at h;exact h.elim
def NpK (N:Nat)(r:R)(μ:Mem)(QV:DV→Mem→Prop):Prop:=match newPl N r μ with
 | none=>False
 | some (x,μ2)=>QV x μ2
theorem n_nilK (h:QA [] μ):Sat (nNil N δ μ) QA E:=h
theorem n_consK {f:EM}{g:NM}(h:Sat (f δ μ) (fun r μ1=>NpK N r μ1 fun x μ2=>Sat (g N δ μ2) (fun xs μ3=>QA (x::xs) μ3) E) E):Sat (nCons f g N δ μ) QA E:=by
 refine sat_bind (h.mono (fun r μ1 q=>?_) fun _ _ q=>q)
 unfold NpK at q
 cases e:newPl N r μ1 with
 | none=>rw[e] at q;exact q.elim
 | some p=>rw[e] at q;exact sat_bind q
theorem p_dat {d:D}(h:QV (.dat d) μ):NpK N (.dat d) μ QV:=h
theorem p_loc {n:Nat}(h:QV (.loc n) μ):NpK N (.loc n) μ QV:=h
def ClK (N:Nat)(r:R)(μ:Mem)(QR:R→Mem→Prop)(E:Xc→Mem→Prop):Prop:=Sat (closeR N r μ) QR E
abbrev endP (N:Nat)(QR:R→Mem→Prop)(E:Xc→Mem→Prop):PO :=
 { nx:=fun _ μ'=>QR (.dat .non) (μ'.take N),rt:=fun r μ'=>ClK N r μ' QR E,bk:=fun _ _=>False,ct:=fun _ _=>False,ex:=fun x _ μ'=>E x (μ'.take N) }
theorem x_call {g:SM}{n m:Nat}{args:List DV}(hn:args.length=n)(h:SatS (g μ.length (args.map some++List.replicate m none) μ) (endP μ.length QR E)):Sat (callD g n m args μ) QR E:=by
 unfold callD;rw[if_pos hn];unfold callF
 cases e:g μ.length (args.map some++List.replicate m none) μ <;> rw[e] at h <;> exact h
theorem k_dat {d:D}{μ':Mem}(e:μ'.take N=μ)(h:QR (.dat d) μ):ClK N (.dat d) μ' QR E:=by unfold ClK;rw[close_dat e];exact h
theorem k_nl {xs:List DV}{μ':Mem}(e:μ'.take N=μ)(hb:belowA N xs=true)(h:QR (.nl xs) μ):ClK N (.nl xs) μ' QR E:=by
 unfold ClK closeR;simp only;rw[if_pos hb,e];exact h
theorem below_map (ds:List D):belowA N (ds.map DV.dat)=true:=by
 unfold belowA;rw[List.all_eq_true];intro x hx
 obtain⟨d,_,rfl⟩:=List.mem_map.mp hx;rfl
theorem below_mapf {γ:Type}(f:γ→D)(ys:List γ):belowA N (ys.map fun y=>.dat (f y))=true:=by
 unfold belowA;rw[List.all_eq_true];intro x hx
 obtain⟨d,_,rfl⟩:=List.mem_map.mp hx;rfl
theorem k_nlf {γ:Type}{f:γ→D}{ys:List γ}{μ':Mem}(e:μ'.take N=μ)(h:QR (.nl (ys.map fun y=>.dat (f y))) μ):ClK N (.nl (ys.map fun y=>.dat (f y))) μ' QR E:=k_nl e (below_mapf f ys) h
theorem k_locN {n:Nat}{xs:List DV}{μ':Mem}(e:μ'.take N=μ)(hn:N≤n)(hx:μ'[n]?=some (.lst xs))(hb:belowA N xs=true)(h:QR (.nl xs) μ):ClK N (.loc n) μ' QR E:=by
 unfold ClK closeR;simp only;rw[if_neg (by omega),hx];simp only;rw[if_pos hb,e];exact h
theorem s_for {ks:List Bool}{fi:IM}{h:D→Env→Option Env}{gb:SM}(k:Sat (fi δ μ) (fun ds μ'=>SatS (forL μ'.length ks h gb N ds δ μ') P) (fun x μ=>P.ex x δ μ)):SatS (gFor ks fi h gb N δ μ) P:=sat_lift k
theorem for_inv {M:Nat}{ks:List Bool}{h:D→Env→Option Env}{gb:SM}{ds:List D}(I:Nat→Env→Mem→Prop)(h0:I 0 δ μ)
  (ht:∀ i d,ds[i]?=some d→∀ δ μ,I i δ μ→∃ δ1,h d δ=some δ1∧SatS (gb N δ1 μ) { nx:=fun δ' μ'=>I (i+1) (cut M ks δ') (μ'.take M),ct:=fun δ' μ'=>I (i+1) (cut M ks δ') (μ'.take M),bk:=fun δ' μ'=>P.nx (cut M ks δ') (μ'.take M),rt:=P.rt,ex:=P.ex })
  (he:∀ δ μ,I ds.length δ μ→P.nx δ μ):SatS (forL M ks h gb N ds δ μ) P:=by
 have key:∀ (n:Nat) (i:Nat) (δ:Env) (μ:Mem),i+n=ds.length→I i δ μ→SatS (forL M ks h gb N (ds.drop i) δ μ) P:=by
  intro n
  induction n with
  | zero =>
   intro i δ μ hi hI
   rw[List.drop_of_length_le (by omega)]
   have:i=ds.length:=by omega
   subst this
   exact he δ μ hI
  | succ n ih =>
   intro i δ μ hi hI
   have hl:i<ds.length:=by omega
   rw[List.drop_eq_getElem_cons hl]
   obtain⟨δ1,h1,h2⟩:=ht i ds[i] (List.getElem?_eq_getElem hl) δ μ hI
   simp only[forL,h1]
   cases e:gb N δ1 μ with
   | next δ' μ'=>rw[e] at h2;exact ih (i+1) _ _ (by omega) h2
   | cnt δ' μ'=>rw[e] at h2;exact ih (i+1) _ _ (by omega) h2
   | brk δ' μ'=>rw[e] at h2;exact h2
   | ret r μ'=>rw[e] at h2;exact h2
   | exc x δ' μ'=>rw[e] at h2;exact h2
   | bad=>rw[e] at h2;exact h2
 have:=key ds.length 0 δ μ (by omega) h0
 rw[List.drop_zero] at this;exact this
theorem s_wh {fuel:Nat}{ks:List Bool}{ft:TM}{gb:SM}(k:SatS (whL μ.length ks ft gb N fuel δ μ) P):SatS (gWh fuel ks ft gb N δ μ) P:=k
end
section
variable {QR:R→Mem→Prop}{E:Xc→Mem→Prop}{P:PO}{δ:Env}{μ:Mem}{N n:Nat}{i j:Int}{s t:Str}{ds es:List D}{xs ys:List DV}{Q Q':Prop}
theorem sl_sz {α:Type}{l:List α}(h:l.length≤1000000):l.length≤sizeLine:=Nat.le_trans h (by decide)
theorem sz_lit {n:Nat}(h:Nat.ble n 1000000=true):n≤sizeLine:=Nat.le_trans (Nat.le_of_ble_eq_true h) (by decide)
theorem if_T (h:Q):if true=true then Q else Q':=h
theorem if_F (h:Q'):if false=true then Q else Q':=h
theorem if_dec {p:Prop}[Decidable p](h1:p→Q)(h2:¬p→Q'):if decide p=true then Q else Q':=by
 by_cases h:p
 ·rw[if_pos (decide_eq_true h)];exact h1 h
 ·rw[if_neg (by simpa using h)];exact h2 h
theorem if_ndec {p:Prop}[Decidable p](h1:¬p→Q)(h2:p→Q'):if(!decide p)=true then Q else Q':=by
 by_cases h:p
 ·rw[if_neg (by simpa using h)];exact h2 h
 ·rw[if_pos (by simpa using h)];exact h1 h
theorem tk {ds:List D}{Q:D→Prop}(e:allDat xs=some ds)(hl:ds.length≤sizeLine)(h:Q (.tup ds)):TupK xs Q:=⟨ds,e,hl,h⟩
theorem sk_l {Q:List D→Prop}(h:Q ds):SeqK (.dat (.lst ds)) Q:=⟨ds,rfl,h⟩
theorem sk_f {Q:List D→Prop}(h:Q ds):SeqK (.dat (.fro ds)) Q:=⟨ds,rfl,h⟩
theorem sk_t {Q:List D→Prop}(h:Q ds):SeqK (.dat (.tup ds)) Q:=⟨ds,rfl,h⟩
theorem ik {Q:Int→Prop}(h:Q i):IntK (.dat (.int i)) Q:=⟨i,rfl,h⟩
theorem stk {Q:Str→Prop}(h:Q s):StrK (.dat (.str s)) Q:=⟨s,rfl,h⟩
theorem pk {x y:DV}{Q:DV→DV→Prop}(h:Q x y):ParK [x,y] Q:=⟨x,y,rfl,h⟩
theorem gk {h:D→Env→Option Env}{d:D}{δ':Env}{Q:Env→Prop}(e:h d δ=some δ')(k:Q δ'):TgtK h δ (.dat d) Q:=⟨d,δ',rfl,e,k⟩
theorem l_addI (h:QR (.dat (.int (i+j))) μ):Sat (dAdd (.dat (.int i)) (.dat (.int j)) μ) QR E:=h
theorem l_addL (hl:ds.length+es.length≤sizeLine)(h:QR (.nl ((ds++es).map DV.dat)) μ):Sat (dAdd (.dat (.lst ds)) (.dat (.lst es)) μ) QR E:=by
 rw[add_lst hl];exact h
theorem l_sub (h:QR (.dat (.int (i-j))) μ):Sat (dSub (.dat (.int i)) (.dat (.int j)) μ) QR E:=h
theorem l_lt (h:QR (.dat (.bl (decide (i<j)))) μ):Sat (dLt (.dat (.int i)) (.dat (.int j)) μ) QR E:=h
theorem l_le (h:QR (.dat (.bl (decide (i≤j)))) μ):Sat (dLe (.dat (.int i)) (.dat (.int j)) μ) QR E:=h
theorem l_gt (h:QR (.dat (.bl (decide (j<i)))) μ):Sat (dGt (.dat (.int i)) (.dat (.int j)) μ) QR E:=h
theorem l_ge (h:QR (.dat (.bl (decide (j≤i)))) μ):Sat (dGe (.dat (.int i)) (.dat (.int j)) μ) QR E:=h
theorem l_neg (h:QR (.dat (.int (-i))) μ):Sat (dNeg (.dat (.int i)) μ) QR E:=h
theorem int_beq (i j:Int):(i==j)=decide (i=j):=by
 by_cases h:i=j
 ·subst h;simp
 ·rw[decide_eq_false h];exact beq_false_of_ne h
theorem l_eqI (h:QR (.dat (.bl (decide (i=j)))) μ):Sat (dEq (.dat (.int i)) (.dat (.int j)) μ) QR E:=by
 rw[show dEq (.dat (.int i)) (.dat (.int j)) μ=.ok (.dat (.bl (decide (i=j)))) μ from(dEqB_int true i j μ).trans (by rw[int_beq];cases decide (i=j) <;> rfl)];exact h
theorem l_neI (h:QR (.dat (.bl (!decide (i=j)))) μ):Sat (dNe (.dat (.int i)) (.dat (.int j)) μ) QR E:=by
 rw[show dNe (.dat (.int i)) (.dat (.int j)) μ=.ok (.dat (.bl (!decide (i=j)))) μ from(dEqB_int false i j μ).trans (by rw[int_beq];cases decide (i=j) <;> rfl)];exact h
theorem l_eqS (h:QR (.dat (.bl (decide (s=t)))) μ):Sat (dEq (.dat (.str s)) (.dat (.str t)) μ) QR E:=by
 rw[show dEq (.dat (.str s)) (.dat (.str t)) μ=.ok (.dat (.bl (decide (s=t)))) μ from eq_str.trans (by cases decide (s=t) <;> rfl)];exact h
theorem l_neS (h:QR (.dat (.bl (!decide (s=t)))) μ):Sat (dNe (.dat (.str s)) (.dat (.str t)) μ) QR E:=by
 rw[show dNe (.dat (.str s)) (.dat (.str t)) μ=.ok (.dat (.bl (!decide (s=t)))) μ from eq_str.trans (by cases decide (s=t) <;> rfl)];exact h
theorem l_ixT {d:D}(e:atI ds i=some d)(h:QR (.dat d) μ):Sat (dIx (.dat (.tup ds)) (.dat (.int i)) μ) QR E:=by rw[dIx_tup e];exact h
theorem l_ixL {d:D}(e:atI ds i=some d)(h:QR (.dat d) μ):Sat (dIx (.dat (.lst ds)) (.dat (.int i)) μ) QR E:=by rw[dIx_lst e];exact h
theorem l_ixM {x:DV}(e:μ[n]?=some (.lst xs))(e2:atI xs i=some x)(h:QR (ofV x) μ):Sat (dIx (.loc n) (.dat (.int i)) μ) QR E:=by rw[dIx_loc e e2];exact h
theorem l_slT {lo hi:Option Int}(h:QR (.dat (.tup (cutL ds lo hi))) μ):Sat (dSl (.dat (.tup ds)) lo hi μ) QR E:=h
theorem l_slL {lo hi:Option Int}(h:QR (.nl ((cutL ds lo hi).map DV.dat)) μ):Sat (dSl (.dat (.lst ds)) lo hi μ) QR E:=by rw[sl_lst];exact h
theorem l_lenT (h:QR (.dat (.int ds.length)) μ):Sat (d1 dLen [.dat (.tup ds)] μ) QR E:=by
 have:d1 dLen [.dat (.tup ds)] μ=.ok (.dat (.int ds.length)) μ:=by simp[d1,dLen,asS,asL,asT]
 rw[this];exact h
theorem l_lenL (h:QR (.dat (.int ds.length)) μ):Sat (d1 dLen [.dat (.lst ds)] μ) QR E:=by rw[len_lst];exact h
theorem l_lenS (hl:s.length≤sizeLine)(h:QR (.dat (.int s.length)) μ):Sat (d1 dLen [.dat (.str s)] μ) QR E:=by
 unfold d1;simp only;unfold dLen;simp only[asS,asL,asT,Option.map,asStr];rw[if_pos hl];exact h
theorem l_int (h:QR (.dat (.int i)) μ):Sat (d1 dInt [.dat (.int i)] μ) QR E:=h
theorem l_intB {b:Bool}(h:QR (.dat (.int (if b=true then 1 else 0))) μ):Sat (d1 dInt [.dat (.bl b)] μ) QR E:=h
theorem l_listT (h:QR (.nl (ds.map DV.dat)) μ):Sat (d1 dList [.dat (.tup ds)] μ) QR E:=h
theorem l_listL (h:QR (.nl (ds.map DV.dat)) μ):Sat (d1 dList [.dat (.lst ds)] μ) QR E:=h
theorem l_tupL (h:QR (.dat (.tup ds)) μ):Sat (d1 dTuple [.dat (.lst ds)] μ) QR E:=by rw[tuple_lst];exact h
theorem l_tupT (h:QR (.dat (.tup ds)) μ):Sat (d1 dTuple [.dat (.tup ds)] μ) QR E:=h
theorem l_tupM (e:μ[n]?=some (.lst xs))(e2:allDat xs=some ds)(h:QR (.dat (.tup ds)) μ):Sat (d1 dTuple [.loc n] μ) QR E:=by
 unfold d1;simp only;unfold dTuple;rw[asL_loc e];simp only;rw[e2];exact h
theorem bools_map {γ:Type}(f:γ→Bool)(xs:List γ):bools (xs.map fun x=>.dat (.bl (f x)))=some (xs.map f):=by
 induction xs with
 | nil=>rfl
 | cons x xs ih=>simp[bools,asBl,ih]
theorem l_all {γ:Type}{f:γ→Bool}{g:List Bool→Bool}{xs:List γ}(h:QR (.dat (.bl (g (xs.map f)))) μ):Sat (d1 (dAll g) [.dat (.lst (xs.map fun x=>.bl (f x)))] μ) QR E:=by
 have:asL μ (.dat (.lst (xs.map fun x=>.bl (f x))))=some (xs.map fun x=>.dat (.bl (f x))):=by simp[asL]
 unfold d1;simp only;unfold dAll;rw[this];simp only;rw[bools_map];exact h
theorem l_app {y:DV}(e:μ[n]?=some (.lst xs))(hl:xs.length<sizeLine)(hb:belowB n y=true)(h:QR (.dat .non) (μ.set n (.lst (xs++[y])))):Sat (dAppend (.loc n) [y] μ) QR E:=by rw[app_ok e hl hb];exact h
theorem l_extT (e:μ[n]?=some (.lst xs))(hl:xs.length+ds.length≤sizeLine)(h:QR (.dat .non) (μ.set n (.lst (xs++ds.map DV.dat)))):Sat (dExtend (.loc n) [.dat (.tup ds)] μ) QR E:=by rw[ext_tup e hl];exact h
theorem l_split (hb:(t.length==0)=false∧s.length+2≤sizeLine)(h:QR (.nl ((Txt.split s t).map fun s=>.dat (.str s))) μ):Sat (dSplit (.dat (.str s)) [.dat (.str t)] μ) QR E:=by
 unfold dSplit;simp only[asStr];rw[if_pos hb];exact h
theorem l_inT {ss:List Str}(h:QR (.dat (.bl (decide (s∈ss)))) μ):Sat (dIn false (.dat (.str s)) (.dat (.tup (ss.map D.str))) μ) QR E:=by rw[in_tup];exact h
theorem l_ninT {ss:List Str}(h:QR (.dat (.bl (!decide (s∈ss)))) μ):Sat (dIn true (.dat (.str s)) (.dat (.tup (ss.map D.str))) μ) QR E:=by rw[in_tup];exact h
theorem in_lst {neg:Bool}{s:Str}{ss:List Str}{μ:Mem}:dIn neg (.dat (.str s)) (.dat (.lst (ss.map D.str))) μ=.ok (.dat (.bl (if neg=true then !decide (s∈ss) else decide (s∈ss)))) μ:=by
 have:(ss.map D.str).map DV.dat=ss.map fun s=>.dat (.str s):=by simp
 simp only[dIn,flat,asS,asL,asT,Option.map,this,flats_str,inV_str]
theorem l_inL {ss:List Str}(h:QR (.dat (.bl (decide (s∈ss)))) μ):Sat (dIn false (.dat (.str s)) (.dat (.lst (ss.map D.str))) μ) QR E:=by rw[in_lst];exact h
theorem l_ninL {ss:List Str}(h:QR (.dat (.bl (!decide (s∈ss)))) μ):Sat (dIn true (.dat (.str s)) (.dat (.lst (ss.map D.str))) μ) QR E:=by rw[in_lst];exact h
theorem ty_l:tyL (.dat (.lst ds)) μ=true:=rfl
theorem ty_s:tyS (.dat (.str s)) μ=true:=rfl
theorem d_take {B:Bg}{ν:Mem}{m:Int}(hB:B.ok)(hm:0<m)(hm':m<1073741824)(h:∀ (r:Nat) (B':Bg),B'.ok→(r:Int)<m→QR (.dat (.int r)) (B'.pl::ν)):Sat (callD gTake 2 5 [.loc 0,.dat (.int m)] (B.pl::ν)) QR E:=by
 obtain⟨o1,o2,o3⟩:=takeB_ok hB hm
 rw[take_spec (n:=0) (μ:=B.pl::ν) hB rfl hm hm']
 generalize (takeB B m).1=t at *
 generalize (takeB B m).2=B2 at *
 obtain⟨k,rfl⟩:=Int.eq_ofNat_of_zero_le o2
 exact h k B2 o1 o3
theorem d_one {B:Bg}{ν:Mem}(hB:B.ok)(h0:0<ds.length)(hs:ds.length<1073741824)(h:∀ (d:D) (B':Bg),B'.ok→d∈ds→QR (.dat d) (B'.pl::ν)):Sat (callD gOne 2 0 [.loc 0,.dat (.lst ds)] (B.pl::ν)) QR E:=by
 obtain⟨d,B',o,hd,e⟩:=one_spec (n:=0) (μ:=B.pl::ν) hB rfl h0 hs
 rw[e];exact h d B' o hd
theorem d_mixed {B:Bg}{ν:Mem}{k w:Nat}(hk:k<64)(hB:B.ok)(hs:ds.length<100000)(hd:∀ d∈ds,∃ p,toPy d=some p∧Fit k w p)(h:∀ (ys:List D) (B':Bg),B'.ok→ys.Perm ds→QR (.nl (ys.map DV.dat)) (B'.pl::ν)):Sat (callD gMixed 2 2 [.loc 0,.dat (.lst ds)] (B.pl::ν)) QR E:=by
 obtain⟨ys,B',o,pm,e⟩:=mixed_spec (n:=0) (μ:=B.pl::ν) hk hB rfl hs hd
 rw[e];exact h ys B' o pm
end
section
variable {QR:R→Mem→Prop}{QV:DV→Mem→Prop}{QB:Bool→Mem→Prop}{E:Xc→Mem→Prop}{P:PO}{δ δ':Env}{μ μ':Mem}{N n i:Nat}{x:Option DV}{d:D}{ds:List D}{xs:List DV}
theorem al_nil:allDat []=some []:=rfl
theorem al_cons (h:allDat xs=some ds):allDat (.dat d::xs)=some (d::ds):=by simp only[allDat,h];rfl
theorem set_now {g:SM}(e:δ.set i x=δ')(h:SatS (g N δ' μ) P):SatS (g N (δ.set i x) μ) P:=e▸h
theorem x_varD (e:δ[i]?=some (some (.dat d)))(h:QR (.dat d) μ):Sat (eVar i δ μ) QR E:=x_var e h
theorem x_varL (e:δ[i]?=some (some (.loc n)))(h:QR (.loc n) μ):Sat (eVar i δ μ) QR E:=x_var e h
theorem z_ofD (h:QV (.dat d) μ):FzK (ofV (.dat d)) μ QV:=h
theorem b_ofD {b:Bool}(h:QB b μ):BlK (ofV (.dat (.bl b))) μ QB:=h
end
def MkK (N:Nat)(QR:R→Mem→Prop):R→Mem→Prop:=fun r μ2=>∃ nm' gs ds,r=.dat .non∧μ2[N+1]?=some (.ins nm' gs)∧allDat (gs.map (·.2))=some ds∧QR (.dat (.ins nm' ((gs.map (·.1)).zip ds))) (μ2.take N)
section
variable {QR:R→Mem→Prop}{E:Xc→Mem→Prop}{P:PO}{δ:Env}{μ:Mem}{N n:Nat}{nm m:Str}{F:List DV→Mem→Res R}{f fa fb fo fe:EM}{g:AM}{x:DV}{d:D}{fs:List (Str×D)}{gs:List (Str×DV)}{tab:Kd→Option Bool}{i j:Int}{ds:List D}{xs:List DV}
theorem x_fld {nms:List Str}(h:Sat (frzV f δ μ) (fun x μ1=>∃ nm fs y,insAt μ1 x=some (nm,fs)∧nm∈nms∧fs.lookup m=some y∧QR (ofV y) μ1) E):Sat (eFld nms m f δ μ) QR E:=by
 refine sat_bind (h.mono (fun x μ1 q=>?_) fun _ _ q=>q)
 obtain⟨nm,fs,y,e1,e2,e3,q⟩:=q
 rw[e1];simp only;rw[if_pos e2,e3];exact q
theorem x_meth (h:Sat (frzV f δ μ) (fun x μ1=>isI nm m x μ1=true∧Sat (g δ μ1) (fun xs μ2=>Sat (F (x::xs) μ2) QR E) E) E):Sat (eMeth nm m F f g δ μ) QR E:=by
 refine sat_bind (h.mono (fun x μ1 q=>?_) fun _ _ q=>q)
 rw[if_pos q.1];exact sat_bind q.2
theorem x_make (h:Sat (g δ μ) (fun xs μ1=>Sat (F (.loc (μ1.length+1)::xs) (μ1++[.own]++[.ins nm []])) (MkK μ1.length QR) (fun x μ2=>E x (μ2.take μ1.length))) E):Sat (eMake nm F g δ μ) QR E:=by
 refine sat_bind (h.mono (fun xs μ1 q=>?_) fun _ _ q=>q)
 unfold mkRun
 cases e:F (.loc (μ1.length+1)::xs) (μ1++[.own]++[.ins nm []]) with
 | ok r μ2 =>
  rw[e] at q
  obtain⟨nm',gs,ds,rfl,e1,e2,q⟩:=q
  simp only[mkEnd,e1,e2];exact q
 | exc x μ2=>rw[e] at q;exact q
 | bad=>rw[e] at q;exact q
theorem x_lenO (h:Sat (frzV f δ μ) (fun x μ1=>isI nm "" x μ1=true∧Sat (F [x] μ1) (fun r μ2=>∃ n:Int,r=.dat (.int n)∧(0≤n∧n<2^63)∧QR (.dat (.int n)) μ2) (fun _ _=>False)) E):Sat (eLenO nm F f δ μ) QR E:=by
 refine sat_bind (h.mono (fun x μ1 q=>?_) fun _ _ q=>q)
 rw[if_pos q.1]
 have q:=q.2
 cases e:F [x] μ1 with
 | ok r μ2=>rw[e] at q;obtain⟨n,rfl,hn,q⟩:=q;simp only;rw[if_pos hn];exact q
 | exc x μ2=>rw[e] at q;exact q.elim
 | bad=>rw[e] at q;exact q.elim
theorem x_eqO {others:List Str} (h:Sat (frzV fa δ μ) (fun x μ1=>Sat (frzV fb δ μ1) (fun y μ2=>(isI nm "" x μ2=true∧((kindOf μ2 y).bind (tabC nm others)).isSome=true)∧Sat (F [x,y] μ2) (fun r μ3=>BlK r μ3 fun b μ3=>QR (.dat (.bl b)) μ3) (fun _ _=>False)) E) E):Sat (eEqO nm others F fa fb δ μ) QR E:=by
 refine sat_bind (h.mono (fun x μ1 q=>sat_bind (q.mono (fun y μ2 q=>?_) fun _ _ q=>q)) fun _ _ q=>q)
 rw[if_pos q.1]
 have q:=q.2
 cases e:F [x,y] μ2 with
 | ok r μ3=>rw[e] at q;obtain⟨b,rfl,_,q⟩:=BlK.ex q;exact q
 | exc x μ2=>rw[e] at q;exact q.elim
 | bad=>rw[e] at q;exact q.elim
theorem x_inO {neg:Bool} (h:Sat (frzV fa δ μ) (fun y μ1=>Sat (frzV fb δ μ1) (fun x μ2=>isI nm "" x μ2=true∧Sat (F [x,y] μ2) (fun r μ3=>BlK r μ3 fun b μ3=>QR (.dat (.bl (b != neg))) μ3) (fun _ _=>False)) E) E):Sat (eInO nm neg F fa fb δ μ) QR E:=by
 refine sat_bind (h.mono (fun y μ1 q=>sat_bind (q.mono (fun x μ2 q=>?_) fun _ _ q=>q)) fun _ _ q=>q)
 rw[if_pos q.1]
 have q:=q.2
 cases e:F [x,y] μ2 with
 | ok r μ3=>rw[e] at q;obtain⟨b,rfl,_,q⟩:=BlK.ex q;exact q
 | exc x μ2=>rw[e] at q;exact q.elim
 | bad=>rw[e] at q;exact q.elim
theorem l_isi {kd:Kd}{b:Bool}(e:kindOf μ x=some kd)(e2:tab kd=some b)(h:QR (.dat (.bl b)) μ):Sat (dIsi tab x μ) QR E:=by
 unfold dIsi;rw[e];simp only;rw[e2];exact h
theorem s_fld {nms:List Str}(h:Sat (frzV fe δ μ) (fun y μ1=>Sat (frzV fo δ μ1) (fun x μ2=>∃ μ3,setFld nms μ2 x m y=some μ3∧P.nx δ μ3) (fun x μ=>P.ex x δ μ)) (fun x μ=>P.ex x δ μ)):SatS (gFld nms m fo fe N δ μ) P:=by
 refine sat_lift (sat_bind (h.mono (fun y μ1 q=>sat_bind (q.mono (fun x μ2 q=>?_) fun _ _ q=>q)) fun _ _ q=>q))
 obtain⟨μ3,e,q⟩:=q;rw[e];exact q
theorem l_rep {xs:List DV}(e:asM μ x=some xs)(ei:asI x=none)(hj:-(2^63)≤j∧j<2^63∧xs.length*j.toNat≤sizeLine)(h:QR (.nl (List.replicate j.toNat xs).flatten) μ):Sat (dMulX x (.dat (.int j)) μ) QR E:=by
 unfold dMulX;simp only[asI.eq_1];rw[ei,e];simp only;rw[if_pos hj];exact h
theorem l_mm {f:Int→Int→Int}(h:QR (.dat (.int (f i j))) μ):Sat (d2 (dMM f) [.dat (.int i),.dat (.int j)] μ) QR E:=h
end
section
variable {QR:R→Mem→Prop}{QV:DV→Mem→Prop}{E:Xc→Mem→Prop}{P:PO}{δ δ':Env}{μ μ':Mem}{N n i:Nat}{nm m m':Str}{f:EM}{x:DV}{d:D}{ds:List D}{xs:List DV}{nms:List Str}
def FldK (nms:List Str)(m:Str)(x:DV)(μ:Mem)(Q:DV→Prop):Prop:=∃ nm fs y,insAt μ x=some (nm,fs)∧nm∈nms∧fs.lookup m=some y∧Q y
theorem x_fldK (h:Sat (frzV f δ μ) (fun x μ1=>FldK nms m x μ1 fun y=>QR (ofV y) μ1) E):Sat (eFld nms m f δ μ) QR E:=x_fld h
theorem fk1 {Q:DV→Prop}(hn:nm∈nms)(h:Q (.dat d)):FldK nms m (.dat (.ins nm [(m,d)])) μ Q:=⟨nm,_,.dat d,rfl,hn,by simp[List.lookup],h⟩
theorem isI_one (h:(m==m')=false):isI nm m (.dat (.ins nm [(m',d)])) μ=true:=by
 unfold isI;simp[insAt,List.lookup,h]
end
theorem mem_here {μ:Mem}{p:Pl}{X:Mem}:(μ++p::X)[μ.length]?=some p:=by simp
theorem mem_set {μ:Mem}{p q:Pl}{X:Mem}:(μ++p::X).set μ.length q=μ++q::X:=by simp
theorem mem_take {μ X:Mem}:(μ++X).take μ.length=μ:=by simp
section
variable {QR:R→Mem→Prop}{E:Xc→Mem→Prop}{P:PO}{δ δ':Env}{μ μ':Mem}{N n:Nat}{cls others:List Str}{nm:Str}{d:D}{x:DV}
theorem kb_NoneType_int:kitB "NoneType" "int"=some false:=by decide +kernel
theorem kb_NoneType_bool:kitB "NoneType" "bool"=some false:=by decide +kernel
theorem kb_NoneType_str:kitB "NoneType" "str"=some false:=by decide +kernel
theorem kb_NoneType_tuple:kitB "NoneType" "tuple"=some false:=by decide +kernel
theorem kb_NoneType_list:kitB "NoneType" "list"=some false:=by decide +kernel
theorem kb_NoneType_dict:kitB "NoneType" "dict"=some false:=by decide +kernel
theorem kb_bool_int:kitB "bool" "int"=some true:=by decide +kernel
theorem kb_bool_bool:kitB "bool" "bool"=some true:=by decide +kernel
theorem kb_bool_str:kitB "bool" "str"=some false:=by decide +kernel
theorem kb_bool_tuple:kitB "bool" "tuple"=some false:=by decide +kernel
theorem kb_bool_list:kitB "bool" "list"=some false:=by decide +kernel
theorem kb_bool_dict:kitB "bool" "dict"=some false:=by decide +kernel
theorem kb_int_int:kitB "int" "int"=some true:=by decide +kernel
theorem kb_int_bool:kitB "int" "bool"=some false:=by decide +kernel
theorem kb_int_str:kitB "int" "str"=some false:=by decide +kernel
theorem kb_int_tuple:kitB "int" "tuple"=some false:=by decide +kernel
theorem kb_int_list:kitB "int" "list"=some false:=by decide +kernel
theorem kb_int_dict:kitB "int" "dict"=some false:=by decide +kernel
theorem kb_str_int:kitB "str" "int"=some false:=by decide +kernel
theorem kb_str_bool:kitB "str" "bool"=some false:=by decide +kernel
theorem kb_str_str:kitB "str" "str"=some true:=by decide +kernel
theorem kb_str_tuple:kitB "str" "tuple"=some false:=by decide +kernel
theorem kb_str_list:kitB "str" "list"=some false:=by decide +kernel
theorem kb_str_dict:kitB "str" "dict"=some false:=by decide +kernel
theorem kb_tuple_int:kitB "tuple" "int"=some false:=by decide +kernel
theorem kb_tuple_bool:kitB "tuple" "bool"=some false:=by decide +kernel
theorem kb_tuple_str:kitB "tuple" "str"=some false:=by decide +kernel
theorem kb_tuple_tuple:kitB "tuple" "tuple"=some true:=by decide +kernel
theorem kb_tuple_list:kitB "tuple" "list"=some false:=by decide +kernel
theorem kb_tuple_dict:kitB "tuple" "dict"=some false:=by decide +kernel
theorem kb_list_int:kitB "list" "int"=some false:=by decide +kernel
theorem kb_list_bool:kitB "list" "bool"=some false:=by decide +kernel
theorem kb_list_str:kitB "list" "str"=some false:=by decide +kernel
theorem kb_list_tuple:kitB "list" "tuple"=some false:=by decide +kernel
theorem kb_list_list:kitB "list" "list"=some true:=by decide +kernel
theorem kb_list_dict:kitB "list" "dict"=some false:=by decide +kernel
theorem kb_dict_int:kitB "dict" "int"=some false:=by decide +kernel
theorem kb_dict_bool:kitB "dict" "bool"=some false:=by decide +kernel
theorem kb_dict_str:kitB "dict" "str"=some false:=by decide +kernel
theorem kb_dict_tuple:kitB "dict" "tuple"=some false:=by decide +kernel
theorem kb_dict_list:kitB "dict" "list"=some false:=by decide +kernel
theorem kb_dict_dict:kitB "dict" "dict"=some true:=by decide +kernel
theorem is_non_int (h:QR (.dat (.bl false)) μ):Sat (dIsi (tabT "int" cls) (.dat .non) μ) QR E:=l_isi rfl (show tabT "int" cls (.b "NoneType")=some false from kb_NoneType_int) h
theorem is_non_bool (h:QR (.dat (.bl false)) μ):Sat (dIsi (tabT "bool" cls) (.dat .non) μ) QR E:=l_isi rfl (show tabT "bool" cls (.b "NoneType")=some false from kb_NoneType_bool) h
theorem is_non_str (h:QR (.dat (.bl false)) μ):Sat (dIsi (tabT "str" cls) (.dat .non) μ) QR E:=l_isi rfl (show tabT "str" cls (.b "NoneType")=some false from kb_NoneType_str) h
theorem is_non_tuple (h:QR (.dat (.bl false)) μ):Sat (dIsi (tabT "tuple" cls) (.dat .non) μ) QR E:=l_isi rfl (show tabT "tuple" cls (.b "NoneType")=some false from kb_NoneType_tuple) h
theorem is_non_list (h:QR (.dat (.bl false)) μ):Sat (dIsi (tabT "list" cls) (.dat .non) μ) QR E:=l_isi rfl (show tabT "list" cls (.b "NoneType")=some false from kb_NoneType_list) h
theorem is_non_dict (h:QR (.dat (.bl false)) μ):Sat (dIsi (tabT "dict" cls) (.dat .non) μ) QR E:=l_isi rfl (show tabT "dict" cls (.b "NoneType")=some false from kb_NoneType_dict) h
theorem is2_non_list_tuple (h:QR (.dat (.bl false)) μ):Sat (dIsi (tabT2 "list" "tuple" cls) (.dat .non) μ) QR E:=l_isi rfl (show tabT2 "list" "tuple" cls (.b "NoneType")=some false from by simp only[tabT2,kb_NoneType_list,kb_NoneType_tuple]) h
theorem isC_non (h:QR (.dat (.bl false)) μ):Sat (dIsi (tabC nm others) (.dat .non) μ) QR E:=l_isi rfl (show tabC nm others (.b "NoneType")=some false from by simp[tabC]) h
theorem is_bl_int {b:Bool} (h:QR (.dat (.bl true)) μ):Sat (dIsi (tabT "int" cls) (.dat (.bl b)) μ) QR E:=l_isi rfl (show tabT "int" cls (.b "bool")=some true from kb_bool_int) h
theorem is_bl_bool {b:Bool} (h:QR (.dat (.bl true)) μ):Sat (dIsi (tabT "bool" cls) (.dat (.bl b)) μ) QR E:=l_isi rfl (show tabT "bool" cls (.b "bool")=some true from kb_bool_bool) h
theorem is_bl_str {b:Bool} (h:QR (.dat (.bl false)) μ):Sat (dIsi (tabT "str" cls) (.dat (.bl b)) μ) QR E:=l_isi rfl (show tabT "str" cls (.b "bool")=some false from kb_bool_str) h
theorem is_bl_tuple {b:Bool} (h:QR (.dat (.bl false)) μ):Sat (dIsi (tabT "tuple" cls) (.dat (.bl b)) μ) QR E:=l_isi rfl (show tabT "tuple" cls (.b "bool")=some false from kb_bool_tuple) h
theorem is_bl_list {b:Bool} (h:QR (.dat (.bl false)) μ):Sat (dIsi (tabT "list" cls) (.dat (.bl b)) μ) QR E:=l_isi rfl (show tabT "list" cls (.b "bool")=some false from kb_bool_list) h
theorem is_bl_dict {b:Bool} (h:QR (.dat (.bl false)) μ):Sat (dIsi (tabT "dict" cls) (.dat (.bl b)) μ) QR E:=l_isi rfl (show tabT "dict" cls (.b "bool")=some false from kb_bool_dict) h
theorem is2_bl_list_tuple {b:Bool} (h:QR (.dat (.bl false)) μ):Sat (dIsi (tabT2 "list" "tuple" cls) (.dat (.bl b)) μ) QR E:=l_isi rfl (show tabT2 "list" "tuple" cls (.b "bool")=some false from by simp only[tabT2,kb_bool_list,kb_bool_tuple]) h
theorem isC_bl {b:Bool}(h:QR (.dat (.bl false)) μ):Sat (dIsi (tabC nm others) (.dat (.bl b)) μ) QR E:=l_isi rfl (show tabC nm others (.b "bool")=some false from by simp[tabC]) h
theorem is_int_int {i:Int} (h:QR (.dat (.bl true)) μ):Sat (dIsi (tabT "int" cls) (.dat (.int i)) μ) QR E:=l_isi rfl (show tabT "int" cls (.b "int")=some true from kb_int_int) h
theorem is_int_bool {i:Int} (h:QR (.dat (.bl false)) μ):Sat (dIsi (tabT "bool" cls) (.dat (.int i)) μ) QR E:=l_isi rfl (show tabT "bool" cls (.b "int")=some false from kb_int_bool) h
theorem is_int_str {i:Int} (h:QR (.dat (.bl false)) μ):Sat (dIsi (tabT "str" cls) (.dat (.int i)) μ) QR E:=l_isi rfl (show tabT "str" cls (.b "int")=some false from kb_int_str) h
theorem is_int_tuple {i:Int} (h:QR (.dat (.bl false)) μ):Sat (dIsi (tabT "tuple" cls) (.dat (.int i)) μ) QR E:=l_isi rfl (show tabT "tuple" cls (.b "int")=some false from kb_int_tuple) h
theorem is_int_list {i:Int} (h:QR (.dat (.bl false)) μ):Sat (dIsi (tabT "list" cls) (.dat (.int i)) μ) QR E:=l_isi rfl (show tabT "list" cls (.b "int")=some false from kb_int_list) h
theorem is_int_dict {i:Int} (h:QR (.dat (.bl false)) μ):Sat (dIsi (tabT "dict" cls) (.dat (.int i)) μ) QR E:=l_isi rfl (show tabT "dict" cls (.b "int")=some false from kb_int_dict) h
theorem is2_int_list_tuple {i:Int} (h:QR (.dat (.bl false)) μ):Sat (dIsi (tabT2 "list" "tuple" cls) (.dat (.int i)) μ) QR E:=l_isi rfl (show tabT2 "list" "tuple" cls (.b "int")=some false from by simp only[tabT2,kb_int_list,kb_int_tuple]) h
theorem isC_int {i:Int}(h:QR (.dat (.bl false)) μ):Sat (dIsi (tabC nm others) (.dat (.int i)) μ) QR E:=l_isi rfl (show tabC nm others (.b "int")=some false from by simp[tabC]) h
theorem is_str_int {s:Str} (h:QR (.dat (.bl false)) μ):Sat (dIsi (tabT "int" cls) (.dat (.str s)) μ) QR E:=l_isi rfl (show tabT "int" cls (.b "str")=some false from kb_str_int) h
theorem is_str_bool {s:Str} (h:QR (.dat (.bl false)) μ):Sat (dIsi (tabT "bool" cls) (.dat (.str s)) μ) QR E:=l_isi rfl (show tabT "bool" cls (.b "str")=some false from kb_str_bool) h
theorem is_str_str {s:Str} (h:QR (.dat (.bl true)) μ):Sat (dIsi (tabT "str" cls) (.dat (.str s)) μ) QR E:=l_isi rfl (show tabT "str" cls (.b "str")=some true from kb_str_str) h
theorem is_str_tuple {s:Str} (h:QR (.dat (.bl false)) μ):Sat (dIsi (tabT "tuple" cls) (.dat (.str s)) μ) QR E:=l_isi rfl (show tabT "tuple" cls (.b "str")=some false from kb_str_tuple) h
theorem is_str_list {s:Str} (h:QR (.dat (.bl false)) μ):Sat (dIsi (tabT "list" cls) (.dat (.str s)) μ) QR E:=l_isi rfl (show tabT "list" cls (.b "str")=some false from kb_str_list) h
theorem is_str_dict {s:Str} (h:QR (.dat (.bl false)) μ):Sat (dIsi (tabT "dict" cls) (.dat (.str s)) μ) QR E:=l_isi rfl (show tabT "dict" cls (.b "str")=some false from kb_str_dict) h
theorem is2_str_list_tuple {s:Str} (h:QR (.dat (.bl false)) μ):Sat (dIsi (tabT2 "list" "tuple" cls) (.dat (.str s)) μ) QR E:=l_isi rfl (show tabT2 "list" "tuple" cls (.b "str")=some false from by simp only[tabT2,kb_str_list,kb_str_tuple]) h
theorem isC_str {s:Str}(h:QR (.dat (.bl false)) μ):Sat (dIsi (tabC nm others) (.dat (.str s)) μ) QR E:=l_isi rfl (show tabC nm others (.b "str")=some false from by simp[tabC]) h
theorem is_tup_int {ds:List D} (h:QR (.dat (.bl false)) μ):Sat (dIsi (tabT "int" cls) (.dat (.tup ds)) μ) QR E:=l_isi rfl (show tabT "int" cls (.b "tuple")=some false from kb_tuple_int) h
theorem is_tup_bool {ds:List D} (h:QR (.dat (.bl false)) μ):Sat (dIsi (tabT "bool" cls) (.dat (.tup ds)) μ) QR E:=l_isi rfl (show tabT "bool" cls (.b "tuple")=some false from kb_tuple_bool) h
theorem is_tup_str {ds:List D} (h:QR (.dat (.bl false)) μ):Sat (dIsi (tabT "str" cls) (.dat (.tup ds)) μ) QR E:=l_isi rfl (show tabT "str" cls (.b "tuple")=some false from kb_tuple_str) h
theorem is_tup_tuple {ds:List D} (h:QR (.dat (.bl true)) μ):Sat (dIsi (tabT "tuple" cls) (.dat (.tup ds)) μ) QR E:=l_isi rfl (show tabT "tuple" cls (.b "tuple")=some true from kb_tuple_tuple) h
theorem is_tup_list {ds:List D} (h:QR (.dat (.bl false)) μ):Sat (dIsi (tabT "list" cls) (.dat (.tup ds)) μ) QR E:=l_isi rfl (show tabT "list" cls (.b "tuple")=some false from kb_tuple_list) h
theorem is_tup_dict {ds:List D} (h:QR (.dat (.bl false)) μ):Sat (dIsi (tabT "dict" cls) (.dat (.tup ds)) μ) QR E:=l_isi rfl (show tabT "dict" cls (.b "tuple")=some false from kb_tuple_dict) h
theorem is2_tup_list_tuple {ds:List D} (h:QR (.dat (.bl true)) μ):Sat (dIsi (tabT2 "list" "tuple" cls) (.dat (.tup ds)) μ) QR E:=l_isi rfl (show tabT2 "list" "tuple" cls (.b "tuple")=some true from by simp only[tabT2,kb_tuple_list,kb_tuple_tuple]) h
theorem isC_tup {ds:List D}(h:QR (.dat (.bl false)) μ):Sat (dIsi (tabC nm others) (.dat (.tup ds)) μ) QR E:=l_isi rfl (show tabC nm others (.b "tuple")=some false from by simp[tabC]) h
theorem is_lst_int {ds:List D} (h:QR (.dat (.bl false)) μ):Sat (dIsi (tabT "int" cls) (.dat (.lst ds)) μ) QR E:=l_isi rfl (show tabT "int" cls (.b "list")=some false from kb_list_int) h
theorem is_lst_bool {ds:List D} (h:QR (.dat (.bl false)) μ):Sat (dIsi (tabT "bool" cls) (.dat (.lst ds)) μ) QR E:=l_isi rfl (show tabT "bool" cls (.b "list")=some false from kb_list_bool) h
theorem is_lst_str {ds:List D} (h:QR (.dat (.bl false)) μ):Sat (dIsi (tabT "str" cls) (.dat (.lst ds)) μ) QR E:=l_isi rfl (show tabT "str" cls (.b "list")=some false from kb_list_str) h
theorem is_lst_tuple {ds:List D} (h:QR (.dat (.bl false)) μ):Sat (dIsi (tabT "tuple" cls) (.dat (.lst ds)) μ) QR E:=l_isi rfl (show tabT "tuple" cls (.b "list")=some false from kb_list_tuple) h
theorem is_lst_list {ds:List D} (h:QR (.dat (.bl true)) μ):Sat (dIsi (tabT "list" cls) (.dat (.lst ds)) μ) QR E:=l_isi rfl (show tabT "list" cls (.b "list")=some true from kb_list_list) h
theorem is_lst_dict {ds:List D} (h:QR (.dat (.bl false)) μ):Sat (dIsi (tabT "dict" cls) (.dat (.lst ds)) μ) QR E:=l_isi rfl (show tabT "dict" cls (.b "list")=some false from kb_list_dict) h
theorem is2_lst_list_tuple {ds:List D} (h:QR (.dat (.bl true)) μ):Sat (dIsi (tabT2 "list" "tuple" cls) (.dat (.lst ds)) μ) QR E:=l_isi rfl (show tabT2 "list" "tuple" cls (.b "list")=some true from by simp only[tabT2,kb_list_list]) h
theorem isC_lst {ds:List D}(h:QR (.dat (.bl false)) μ):Sat (dIsi (tabC nm others) (.dat (.lst ds)) μ) QR E:=l_isi rfl (show tabC nm others (.b "list")=some false from by simp[tabC]) h
theorem is_fro_int {ds:List D} (h:QR (.dat (.bl false)) μ):Sat (dIsi (tabT "int" cls) (.dat (.fro ds)) μ) QR E:=l_isi rfl (show tabT "int" cls (.b "list")=some false from kb_list_int) h
theorem is_fro_bool {ds:List D} (h:QR (.dat (.bl false)) μ):Sat (dIsi (tabT "bool" cls) (.dat (.fro ds)) μ) QR E:=l_isi rfl (show tabT "bool" cls (.b "list")=some false from kb_list_bool) h
theorem is_fro_str {ds:List D} (h:QR (.dat (.bl false)) μ):Sat (dIsi (tabT "str" cls) (.dat (.fro ds)) μ) QR E:=l_isi rfl (show tabT "str" cls (.b "list")=some false from kb_list_str) h
theorem is_fro_tuple {ds:List D} (h:QR (.dat (.bl false)) μ):Sat (dIsi (tabT "tuple" cls) (.dat (.fro ds)) μ) QR E:=l_isi rfl (show tabT "tuple" cls (.b "list")=some false from kb_list_tuple) h
theorem is_fro_list {ds:List D} (h:QR (.dat (.bl true)) μ):Sat (dIsi (tabT "list" cls) (.dat (.fro ds)) μ) QR E:=l_isi rfl (show tabT "list" cls (.b "list")=some true from kb_list_list) h
theorem is_fro_dict {ds:List D} (h:QR (.dat (.bl false)) μ):Sat (dIsi (tabT "dict" cls) (.dat (.fro ds)) μ) QR E:=l_isi rfl (show tabT "dict" cls (.b "list")=some false from kb_list_dict) h
theorem is2_fro_list_tuple {ds:List D} (h:QR (.dat (.bl true)) μ):Sat (dIsi (tabT2 "list" "tuple" cls) (.dat (.fro ds)) μ) QR E:=l_isi rfl (show tabT2 "list" "tuple" cls (.b "list")=some true from by simp only[tabT2,kb_list_list]) h
theorem isC_fro {ds:List D}(h:QR (.dat (.bl false)) μ):Sat (dIsi (tabC nm others) (.dat (.fro ds)) μ) QR E:=l_isi rfl (show tabC nm others (.b "list")=some false from by simp[tabC]) h
theorem is_dct_int {kvs:List (Ky×D)} (h:QR (.dat (.bl false)) μ):Sat (dIsi (tabT "int" cls) (.dat (.dct kvs)) μ) QR E:=l_isi rfl (show tabT "int" cls (.b "dict")=some false from kb_dict_int) h
theorem is_dct_bool {kvs:List (Ky×D)} (h:QR (.dat (.bl false)) μ):Sat (dIsi (tabT "bool" cls) (.dat (.dct kvs)) μ) QR E:=l_isi rfl (show tabT "bool" cls (.b "dict")=some false from kb_dict_bool) h
theorem is_dct_str {kvs:List (Ky×D)} (h:QR (.dat (.bl false)) μ):Sat (dIsi (tabT "str" cls) (.dat (.dct kvs)) μ) QR E:=l_isi rfl (show tabT "str" cls (.b "dict")=some false from kb_dict_str) h
theorem is_dct_tuple {kvs:List (Ky×D)} (h:QR (.dat (.bl false)) μ):Sat (dIsi (tabT "tuple" cls) (.dat (.dct kvs)) μ) QR E:=l_isi rfl (show tabT "tuple" cls (.b "dict")=some false from kb_dict_tuple) h
theorem is_dct_list {kvs:List (Ky×D)} (h:QR (.dat (.bl false)) μ):Sat (dIsi (tabT "list" cls) (.dat (.dct kvs)) μ) QR E:=l_isi rfl (show tabT "list" cls (.b "dict")=some false from kb_dict_list) h
theorem is_dct_dict {kvs:List (Ky×D)} (h:QR (.dat (.bl true)) μ):Sat (dIsi (tabT "dict" cls) (.dat (.dct kvs)) μ) QR E:=l_isi rfl (show tabT "dict" cls (.b "dict")=some true from kb_dict_dict) h
theorem is2_dct_list_tuple {kvs:List (Ky×D)} (h:QR (.dat (.bl false)) μ):Sat (dIsi (tabT2 "list" "tuple" cls) (.dat (.dct kvs)) μ) QR E:=l_isi rfl (show tabT2 "list" "tuple" cls (.b "dict")=some false from by simp only[tabT2,kb_dict_list,kb_dict_tuple]) h
theorem isC_dct {kvs:List (Ky×D)}(h:QR (.dat (.bl false)) μ):Sat (dIsi (tabC nm others) (.dat (.dct kvs)) μ) QR E:=l_isi rfl (show tabC nm others (.b "dict")=some false from by simp[tabC]) h
theorem isC_own {fs:List (Str×D)}(h:QR (.dat (.bl true)) μ):Sat (dIsi (tabC nm others) (.dat (.ins nm fs)) μ) QR E:=l_isi rfl (show tabC nm others (.c nm)=some true from by simp[tabC]) h
theorem is_ins_int {fs:List (Str×D)} (hn:nm∈cls) (h:QR (.dat (.bl false)) μ):Sat (dIsi (tabT "int" cls) (.dat (.ins nm fs)) μ) QR E:=l_isi rfl (show tabT "int" cls (.c nm)=some false from by simp[tabT,tabT2,hn]) h
theorem is_ins_bool {fs:List (Str×D)} (hn:nm∈cls) (h:QR (.dat (.bl false)) μ):Sat (dIsi (tabT "bool" cls) (.dat (.ins nm fs)) μ) QR E:=l_isi rfl (show tabT "bool" cls (.c nm)=some false from by simp[tabT,tabT2,hn]) h
theorem is_ins_str {fs:List (Str×D)} (hn:nm∈cls) (h:QR (.dat (.bl false)) μ):Sat (dIsi (tabT "str" cls) (.dat (.ins nm fs)) μ) QR E:=l_isi rfl (show tabT "str" cls (.c nm)=some false from by simp[tabT,tabT2,hn]) h
theorem is_ins_tuple {fs:List (Str×D)} (hn:nm∈cls) (h:QR (.dat (.bl false)) μ):Sat (dIsi (tabT "tuple" cls) (.dat (.ins nm fs)) μ) QR E:=l_isi rfl (show tabT "tuple" cls (.c nm)=some false from by simp[tabT,tabT2,hn]) h
theorem is_ins_list {fs:List (Str×D)} (hn:nm∈cls) (h:QR (.dat (.bl false)) μ):Sat (dIsi (tabT "list" cls) (.dat (.ins nm fs)) μ) QR E:=l_isi rfl (show tabT "list" cls (.c nm)=some false from by simp[tabT,tabT2,hn]) h
theorem is_ins_dict {fs:List (Str×D)} (hn:nm∈cls) (h:QR (.dat (.bl false)) μ):Sat (dIsi (tabT "dict" cls) (.dat (.ins nm fs)) μ) QR E:=l_isi rfl (show tabT "dict" cls (.c nm)=some false from by simp[tabT,tabT2,hn]) h
theorem is2_ins {T U:String}{fs:List (Str×D)}(hn:nm∈cls)(h:QR (.dat (.bl false)) μ):Sat (dIsi (tabT2 T U cls) (.dat (.ins nm fs)) μ) QR E:=l_isi rfl (show tabT2 T U cls (.c nm)=some false from by simp[tabT,tabT2,hn]) h
theorem e_dat (e:μ'.take N=μ)(h:QR (.dat d) μ):(endP N QR E).rt (.dat d) μ':=k_dat (E:=E) e h
theorem e_ofD (e:μ'.take N=μ)(h:QR (.dat d) μ):(endP N QR E).rt (ofV (.dat d)) μ':=k_dat (E:=E) e h
theorem e_nlf {γ:Type}{f:γ→D}{ys:List γ}(e:μ'.take N=μ)(h:QR (.nl (ys.map fun y=>.dat (f y))) μ):(endP N QR E).rt (.nl (ys.map fun y=>.dat (f y))) μ':=k_nlf (E:=E) e h
theorem e_nlm {ds:List D}(e:μ'.take N=μ)(h:QR (.nl (ds.map DV.dat)) μ):(endP N QR E).rt (.nl (ds.map DV.dat)) μ':=k_nl (E:=E) e (below_map ds) h
theorem e_nl {xs:List DV}(e:μ'.take N=μ)(hb:belowA N xs=true)(h:QR (.nl xs) μ):(endP N QR E).rt (.nl xs) μ':=k_nl (E:=E) e hb h
theorem e_nx (e:μ'.take N=μ)(h:QR (.dat .non) μ):(endP N QR E).nx δ μ':=by show QR (.dat .non) (μ'.take N);rw[e];exact h
theorem take_cons {p q:Pl}{ν:Mem}:(p::ν).take (q::ν).length=p::ν:=List.take_of_length_le (by simp)
theorem take_consA {p q:Pl}{ν X:Mem}:(p::(ν++X)).take (q::ν).length=p::ν:=by simp
end
end DL
namespace DL
section
variable {Q Q':Prop}{b:Bool}
theorem if_bT (e:b=true)(h:Q):if b=true then Q else Q':=by rw[if_pos e];exact h
theorem if_bF (e:b=false)(h:Q'):if b=true then Q else Q':=by rw[if_neg (by rw[e];exact Bool.false_ne_true)];exact h
end
end DL
namespace DL
open PySem PySem.Spec PyProof.Rows L2
section
variable {E:Xc→Mem→Prop}{P:PO}{δ δ':Env}{μ μ':Mem}{N:Nat}{nm m:Str}{d:D}{nms:List Str}
theorem gS {o:Out}(h:SatS o P):SatS o P:=h
theorem gR {r:Res R}{Q:R→Mem→Prop}(h:Sat r Q E):Sat r Q E:=h
theorem gV {r:Res DV}{Q:DV→Mem→Prop}(h:Sat r Q E):Sat r Q E:=h
theorem gA {r:Res (List DV)}{Q:List DV→Mem→Prop}(h:Sat r Q E):Sat r Q E:=h
theorem gT {r:Res Bool}{Q:Bool→Mem→Prop}(h:Sat r Q E):Sat r Q E:=h
theorem gO {r:Res (Option Int)}{Q:Option Int→Mem→Prop}(h:Sat r Q E):Sat r Q E:=h
theorem gI {r:Res (List D)}{Q:List D→Mem→Prop}(h:Sat r Q E):Sat r Q E:=h
theorem gF {r:R}{Q:DV→Mem→Prop}(h:FzK r μ Q):FzK r μ Q:=h
theorem gC {b:Bool}{Q Q':Prop}(h:if b=true then Q else Q'):if b=true then Q else Q':=h
theorem gRt {r:R}{QR:R→Mem→Prop}(h:(endP N QR E).rt r μ):(endP N QR E).rt r μ:=h
end
def FitD (k w:Nat)(d:D):Prop:=∃ p,toPy d=some p∧Fit k w p
section
variable {k k' w w' n:Nat}{d:D}{ds:List D}{i:Int}{s:Str}{μ:Mem}{x y:DV}{QR:R→Mem→Prop}{E:Xc→Mem→Prop}
theorem FitD.mono (h:FitD k w d)(hk:k≤k')(hw:w≤w'):FitD k' w' d:=let ⟨p,a,b⟩:=h;⟨p,a,b.mono hk hw⟩
theorem fit_int (h:i.natAbs<10^12):Fit 0 40 (.int i):=by
 refine⟨rfl,Nat.zero_le _,?_,?_,?_⟩
 ·simp only[PyData.weight]
  split
  ·exact Nat.zero_le _
  ·rename_i h0
   have h1:i.natAbs≠0:=by simpa using h0
   have:=(Nat.log2_lt h1 (k:=40)).mpr (Nat.lt_of_lt_of_le h (by decide))
   omega
 ·simp only[PyData.showable,decide_eq_true_eq]
  by_cases h1:i.natAbs=0
  ·rw[h1];decide
  ·have:=(Nat.log2_lt h1 (k:=40)).mpr (Nat.lt_of_lt_of_le h (by decide))
   omega
 ·simp only[PyData.intsShort,decide_eq_true_eq];exact PyData.shown_int_le h
theorem pk_dat:peek μ (.dat d)=some d:=peekK_dat 5 μ d
end
end DL
namespace DX
open PySem PySem.W PySem.Calls PyProof.Rows PySem.HandSPX
theorem errTxt_mk {prog:Program}{K:Frag}{mg:Str→Option Value}{nm f:Str}{C fI:Addr}{nm' q':Str}{N:Addr}{bs bm:List Value}{sn:List Str}{sub:List Value}{ab:Bool}{col:Option Bool}{dd:Option Addr}{k0 k1 k2 k3 k5:Option Value}
  {oc:Value} {od:Option Addr} {doc pm:Value} {an:Option Addr} {ct:Value} {osl:Array (Option Value)} {qual:Str} {p1 p2 q1 q2 q3 q4 q5 q6 q7 q8 q9 q10:Pos} {cda cc:Addr} {ccl cl:Value} {cdd cld:Option Addr} {vs:Array Value} {ccs csl:Array (Option Value)} {file:Str} {tf:Tok} {pl:Sem Bool}
  (gC:mg nm=some (.ref C)) (lk:K.lookup C=some (excClassObj nm' q' C N bs bm true sn sub ab col dd k0 k1 k2 k3 k5 "ValueError.__new__"))
  (sa:findIn K (.ref C) "__setattr__"=some (some (.builtin "object.__setattr__")))
  (ga:findIn K (.ref C) "__getattribute__"=some (some (.builtin "BaseException.__getattribute__")))
  (gg:findIn K (.ref C) "__getattr__"=some none) (noN:findIn K (.ref C) f=some none) (iC:findIn K (.ref C) "__init__"=some (some (.ref fI)))
  (tC:typeIn K (.ref fI)=some (.type "function")) (kC:keepIn K (.ref C)=true) (exC:subIn K (.ref C) (.type "BaseException")=some true)
  (exV:subIn K (.ref C) (.type "ValueError")=some true) (tyC:typeIn K (.ref C)=some (.type "type")) (hdC:hasDictIn K C=true)
  (su:ks_superIn K C C "__init__"=some (some (.builtin "ValueError.__init__"))) (mr:mroIn K C (.ref C)=some true)
  (op:nsIn K cStatics "thirdparty.any"=some none) (ms:mg "super"=none)
  (lfn:K.lookup fI=some ⟨oc,od,.func (ksFn "__init__" qual (eArgs f p1 p2) (eBody f q1 q2 q3 q4 q5 q6 q7 q8 q9 q10) (eScope f) .none .none doc pm an (.ref cda) ct cc),osl⟩)
  (cod:codeIn K (.ref cda) qual=true) (lcd:K.lookup cda=some ⟨ccl,cdd,.fields vs,ccs⟩) (lcc:K.lookup cc=some ⟨cl,cld,.cell (some (.ref C)),csl⟩)
  (rv:refsVE bm=true) (top:(prog.main.scope.names.lookup ("super":Str)).isSome=false) (fs:(f==("self":Str))=false) (fd:(f==("__debug__":Str))=false)
  (lf:(eScope f).names.lookup f=some .local) (lc:(eScope f).names.lookup ("__class__":Str)=some .free) (ls:(eScope f).names.lookup ("super":Str)=some .globalImplicit)
  (bd:∀ (qual:Str) (p1 p2:Pos) (bo:List Stmt) (doc pm:Value) (an:Option Addr) (cd ct:Value) (cc:Addr) (a b:Value),bindArgs (ksFn "__init__" qual (eArgs f p1 p2) bo (eScope f) .none .none doc pm an cd ct cc) ⟨[a,b],[]⟩=pure [(PySem.Str.ofString "self",a),(f,b)])
  (v2:vs[2]?=some (.str file tf)) (fl:((prog.main.file:Str)==file)=true)
  (ev:∀ env:Env,eval (.Call (.Attribute (.Call (.Name "super" q1) [] [] q2) "__init__" q3) [.Name f q4] [] q5) env=(do
   let ov ←attributeBase (.Call (.Name "super" q1) [] [] q2) "__init__" env (eval (.Call (.Name "super" q1) [] [] q2) env)
   standAt q3.atName
   let (f1,first) ←holding [ov] (getMethod ov "__init__" pl)
   callWith q5 f1 first (backTo q5 (starEach [.Name f q4] env)) []))
  (s1:∀ env:Env,swapsWith (.Call (.Attribute (.Call (.Name "super" q1) [] [] q2) "__init__" q3) [.Name f q4] [] q5) none q6.line env=pure false)
  (s2:∀ env:Env,swapsWith (.Name f q9) (some (.Attribute (.Name "self" q7) f q8)) q10.line env=pure false):ErrTxt prog K mg nm f C fI :=
 ⟨gC,⟨nm',q',N,bs,bm,sn,sub,ab,col,dd,k0,k1,k2,k3,k5,lk,rv⟩,sa,ga,gg,noN,iC,tC,kC,exC,exV,tyC,hdC,su,mr,op,ms,top,fs,fd,lf,lc,ls,bd,
  ⟨oc,od,doc,pm,an,ct,osl,qual,p1,p2,q1,q2,q3,q4,q5,q6,q7,q8,q9,q10,cda,cc,ccl,cl,cdd,cld,vs,ccs,csl,file,tf,pl,lfn,cod,lcd,v2,fl,lcc,ev,s1,s2⟩⟩
end DX
namespace DL
open PySem PySem.Spec PyProof.Rows L2 DR
section
variable {α:Type}{Q:α→Mem→Prop}{QR:R→Mem→Prop}{QI:List D→Mem→Prop}{E:Xc→Mem→Prop}{μ ν:Mem}{δ:Env}{N:Nat}{P:PO}
theorem sat_alt {a b:Res α}(h:Sat a Q E):Sat (altR a b) Q E:=by
 cases a with
 | bad=>exact h.elim
 | ok x m=>exact h
 | exc x m=>exact h
theorem sat_altR {a b:Res α}(e:a=.bad)(h:Sat b Q E):Sat (altR a b) Q E:=by subst e;exact h
theorem w_ix {x y:DV}(h:Sat (dIx x y μ) QR E):Sat (dIxA x y μ) QR E:=sat_alt h
theorem w_in {neg:Bool}{x y:DV}(h:Sat (dIn neg x y μ) QR E):Sat (dInA neg x y μ) QR E:=sat_alt h
theorem w_eq {x y:DV}(h:Sat (dEq x y μ) QR E):Sat (dEqA x y μ) QR E:=sat_alt h
theorem w_len {xs:List DV}(h:Sat (d1 dLen xs μ) QR E):Sat (dLenA xs μ) QR E:=sat_alt h
theorem w_list {xs:List DV}(h:Sat (d1 dList xs μ) QR E):Sat (dListA xs μ) QR E:=sat_alt h
theorem s_raise {nm f:Str}{fe:EM}(h:Sat (frzV fe δ μ) (fun x μ'=>∃ d,x=.dat d∧P.ex ⟨nm,[(f,d)]⟩ δ μ') (fun x μ=>P.ex x δ μ)):SatS (gRaise nm f fe N δ μ) P:=by
 refine sat_lift (Sat.mono h (fun x m ⟨d,e,q⟩=>?_) fun _ _ q=>q)
 subst e;exact q
abbrev IsP (o:Out):PO:=⟨fun δ μ=>o=.next δ μ,fun r μ=>o=.ret r μ,fun δ μ=>o=.brk δ μ,fun δ μ=>o=.cnt δ μ,fun x δ μ=>o=.exc x δ μ⟩
theorem isP {o o':Out}(h:SatS o' (IsP o)):o'=o:=by
 cases o' with
 | next δ μ=>exact(show o=_ from h).symm
 | ret r μ=>exact(show o=_ from h).symm
 | brk δ μ=>exact(show o=_ from h).symm
 | cnt δ μ=>exact(show o=_ from h).symm
 | exc x δ μ=>exact(show o=_ from h).symm
 | bad=>exact h.elim
def TryK (cat:List (Str×Bool))(i:Nat)(gs:Addr→Addr→Addr→SM)(N:Nat)(P:PO)(x:Xc)(δ:Env)(μ:Mem):Prop :=
 (cat.lookup x.nm=some true∧x.fs≠[])∧∃ o,(∀ a C d,SatS (gs a C d N (δ.set i (some (.dat (.err a C d x.nm x.fs)))) μ) (IsP o))∧SatS (unset i o) P
theorem s_try {cat:List (Str×Bool)}{i:Nat}{gb:SM}{gs:Addr→Addr→Addr→SM}(h:SatS (gb N δ μ) { P with ex:=fun x δ' μ'=>TryK cat i gs N P x δ' μ' }):SatS (gTry cat i gb gs N δ μ) P:=by
 unfold gTry
 cases e:gb N δ μ with
 | exc x δ' μ' =>
  rw[e] at h
  obtain⟨⟨h1,h2⟩,o,h3,h4⟩:=h
  simp only[h1,if_pos h2]
  rw[suiteOut_of fun a C d=>isP (h3 a C d)]
  exact h4
 | next _ _=>rw[e] at h;exact h
 | ret _ _=>rw[e] at h;exact h
 | brk _ _=>rw[e] at h;exact h
 | cnt _ _=>rw[e] at h;exact h
 | bad=>rw[e] at h;exact h
theorem x_isE {i:Nat}{a C d:Addr}{tab:List (Str×Bool)}{nm:Str}{fs:List (Str×D)}{p0:Str×D}{b:Bool}(e:δ[i]?=some (some (.dat (.err a C d nm (p0::fs)))))(hb:tab.lookup nm=some b)(h:QR (.dat (.bl b)) μ):Sat (eIsE i a C d tab δ μ) QR E:=by
 unfold eIsE errAt
 simp only[e,true_and,if_true,hb]
 exact h
theorem x_xf {i:Nat}{a C d:Addr}{nm f:Str}{fs:List (Str×D)}{p0:Str×D}{v:D}(e:δ[i]?=some (some (.dat (.err a C d nm (p0::fs)))))(hb:(p0::fs).lookup f=some v)(h:QR (.dat v) μ):Sat (eXf i a C d nm f δ μ) QR E:=by
 unfold eXf errAt
 simp only[e,true_and,if_true,hb]
 exact h
theorem x_kget {tab:List (Str×Str)}{f:EM}(h:Sat (frzV f δ μ) (fun x μ'=>StrK x fun z=>QR (.dat (match tab.lookup z with|some y=>.str y|none=>.non)) μ') E):Sat (eKGet tab f δ μ) QR E:=by
 unfold eKGet
 refine sat_bind (Sat.mono h (fun x m ⟨z,e,q⟩=>?_) fun _ _ q=>q)
 rw[e]
 cases e2:tab.lookup z with
 | none=>simp only[e2] at q ⊢;exact q
 | some y=>simp only[e2] at q ⊢;exact q
theorem x_lk {f:EM}(h:Sat (f δ μ) (fun r μ1=>∃ kvs ds,r=.nk kvs∧allDatK kvs=some ds∧QR (.dat (.dct ds)) μ1) E):Sat (eLk f δ μ) QR E:=by
 unfold eLk
 refine sat_bind (Sat.mono h (fun r m ⟨kvs,ds,e,e2,q⟩=>?_) fun _ _ q=>q)
 subst e
 simp only[e2]
 exact q
theorem x_disK {f:PsM}(h:Sat (f δ μ) (fun ps μ1=>ps.length≤15∧QR (.nk (mergeD [] ps)) μ1) E):Sat (eDisK f δ μ) QR E:=by
 unfold eDisK
 refine sat_bind (Sat.mono h (fun ps m ⟨hl,q⟩=>?_) fun _ _ q=>q)
 rw[if_pos hl];exact q
theorem x_dnew (h:QR (.nk []) μ):Sat (eDNew δ μ) QR E:=h
theorem p_nilK {QP:List (Ky×DV)→Mem→Prop}(h:QP [] μ):Sat (psNil δ μ) QP E:=h
theorem p_consK {QP:List (Ky×DV)→Mem→Prop}{fk fv:EM}{r:PsM}(h:Sat (frzV fk δ μ) (fun k μ1=>Sat (frzV fv δ μ1) (fun v μ2=>Sat (r δ μ2) (fun ps μ3=>∃ key,keyD k=some key∧QP ((.k key,v)::ps) μ3) E) E) E):Sat (psCons fk fv r δ μ) QP E:=by
 unfold psCons
 refine sat_bind (Sat.mono h (fun k m1 h1=>?_) fun _ _ q=>q)
 refine sat_bind (Sat.mono h1 (fun v m2 h2=>?_) fun _ _ q=>q)
 refine sat_bind (Sat.mono h2 (fun ps m3 ⟨key,e,q⟩=>?_) fun _ _ q=>q)
 rw[e];exact q
theorem l_pow {i j:Int}(hc:0≤j∧j≤1000000∧i.natAbs<2^64)(h:QR (.dat (.int (i^j.toNat))) μ):Sat (dPow (.dat (.int i)) (.dat (.int j)) μ) QR E:=by
 unfold dPow d2I
 simp only[asI,decide_eq_true hc,if_true]
 exact h
end
end DL
namespace DL
open PySem PySem.Spec PyProof.Rows L2
mutual
def lnodes:D→List (List D)
 | .lst xs=>xs::lnodesL xs
 | .fro xs=>xs::lnodesL xs
 | .tup xs=>lnodesL xs
 | .dct kvs=>lnodesK kvs
 | .ins _ fs=>lnodesF fs
 | .err _ _ _ _ fs=>lnodesF fs
 | .eo _=>[]
 | .non=>[]
 | .bl _=>[]
 | .int _=>[]
 | .str _=>[]
 | .ty _=>[]
 | .ref _=>[]
def lnodesL:List D→List (List D)
 | []=>[]
 | x::xs=>lnodes x++lnodesL xs
def lnodesK:List (Ky×D)→List (List D)
 | []=>[]
 | (_,x)::xs=>lnodes x++lnodesK xs
def lnodesF:List (Str×D)→List (List D)
 | []=>[]
 | (_,x)::xs=>lnodes x++lnodesF xs
end
theorem lnodesK_eq:∀ kvs:List (Ky×D),lnodesK kvs=lnodesL (kvs.map (·.2))
 | []=>rfl
 | (_,x)::xs=>by simp only[lnodesK,List.map_cons,lnodesL,lnodesK_eq xs]
theorem lnodesF_eq:∀ kvs:List (Str×D),lnodesF kvs=lnodesL (kvs.map (·.2))
 | []=>rfl
 | (_,x)::xs=>by simp only[lnodesF,List.map_cons,lnodesL,lnodesF_eq xs]
def vk:D→Nat
 | .non=>0
 | .bl _=>1
 | .int _=>2
 | .str _=>3
 | .ty _=>4
 | _=>5
def vkV:V→Nat
 | .non=>0
 | .bl _=>1
 | .int _=>2
 | .str _=>3
 | .ty _=>4
 | .ref _=>5
 | _=>6
theorem Rp.vk {K:PySem.W.Frag}{G:Hp}{v:V}{d:D}(h:Rp K G v d):vkV v=vk d:=by cases h <;> rfl
def apart (ds es:List D):Bool:=decide (ds.length≠es.length)||match ds,es with
 | d::_,e::_=>decide (vk d≠vk e)
 | _,_=>false
open Classical in
noncomputable def only (K:PySem.W.Frag)(L:List (List D))(G:Hp):Hp:=fun a=>match G a with
 | some (.lst vs)=>if ∃ es∈L,RpL K G vs es then some (.lst vs) else none
 | o=>o
theorem only_at {K:PySem.W.Frag}{L:List (List D)}{G:Hp}{a:Addr}{o:HO}(h:G a=some o)(hn:∀ vs,o≠.lst vs):only K L G a=some o:=by
 unfold only
 rw[h]
 split
 ·rename_i vs e;cases e;exact absurd rfl (hn vs)
 ·rfl
theorem only_lst {K:PySem.W.Frag}{L:List (List D)}{G:Hp}{a:Addr}{vs:List V}{es:List D}(h:G a=some (.lst vs))(hm:es∈L)(r:RpL K G vs es):only K L G a=some (.lst vs):=by
 unfold only
 rw[h]
 simp only
 rw[if_pos ⟨es,hm,r⟩]
mutual
theorem Rp.only {K:PySem.W.Frag}{L:List (List D)}{G:Hp}:∀ {v:V} {d:D},Rp K G v d→(∀ es∈lnodes d,es∈L)→Rp K (DL.only K L G) v d
 | _,_,.non,_=>.non
 | _,_,.bl b,_=>.bl b
 | _,_,.int i,_=>.int i
 | _,_,.str s,_=>.str s
 | _,_,.ty n,_=>.ty n
 | _,_,.ref a,_=>.ref a
 | _,_,.tup h r,hl=>.tup (by
   rcases h with (h|⟨o,h⟩)|h
   ·exact .inl (.inl (only_at h fun _ z=>by cases z))
   ·exact .inl (.inr ⟨o,only_at h fun _ z=>by cases z⟩)
   ·exact .inr h) (RpL.only r (by simpa only[lnodes] using hl))
 | _,_,.lst h r,hl=>.lst (only_lst h (hl _ (by simp only[lnodes];exact List.mem_cons_self)) r) (RpL.only r fun es he=>hl es (by simp only[lnodes];exact List.mem_cons_of_mem _ he))
 | _,_,.fro h r,hl=>.fro (by
   rcases h with (h|⟨o,h⟩)|h
   ·exact .inl (.inl (only_lst h (hl _ (by simp only[lnodes];exact List.mem_cons_self)) r))
   ·exact .inl (.inr ⟨o,only_at h fun _ z=>by cases z⟩)
   ·exact .inr h) (RpL.only r fun es he=>hl es (by simp only[lnodes];exact List.mem_cons_of_mem _ he))
 | _,_,.dct h k r,hl=>.dct (only_at h fun _ z=>by cases z) (k.map fun b xs h=>by
   rcases h with (h|⟨o,h⟩)|h
   ·exact .inl (.inl (only_at h fun _ z=>by cases z))
   ·exact .inl (.inr ⟨o,only_at h fun _ z=>by cases z⟩)
   ·exact .inr h) (RpL.only r (by simpa only[lnodes,lnodesK_eq] using hl))
 | _,_,.ins c h o k r,hl=>.ins c (only_at h fun _ z=>by cases z) (only_at o fun _ z=>by cases z) k (RpL.only r (by simpa only[lnodes,lnodesF_eq] using hl))
 | _,_,.er0 c,hl=>.er0 c
 | _,_,.eo c h o,hl=>.eo c (only_at h fun _ z=>by cases z) (only_at o fun _ z=>by cases z)
 | _,_,.err c h k r,hl=>.err c (only_at h fun _ z=>by cases z) k (RpL.only r (by simpa only[lnodes,lnodesF_eq] using hl))
theorem RpL.only {K:PySem.W.Frag}{L:List (List D)}{G:Hp}:∀ {vs:List V} {ds:List D},RpL K G vs ds→(∀ es∈lnodesL ds,es∈L)→RpL K (DL.only K L G) vs ds
 | _,_,.nil,_=>.nil
 | _,_,.cons a b,hl=>.cons (Rp.only a fun es he=>hl es (by simp only[lnodesL];exact List.mem_append_left _ he)) (RpL.only b fun es he=>hl es (by simp only[lnodesL];exact List.mem_append_right _ he))
end
noncomputable def both (G G':Hp)(a:Option Addr):Hp:=fun b=>if some b=a then none else match G b with
 | some o=>some o
 | none=>G' b
section
variable {K:PySem.W.Frag}{G G':Hp}{a:Addr}{oa:Option Addr}{us:List V}
theorem both_r {b:Addr}{o:HO}(hc:∀ b o,G b=some o→∀ o',G' b=some o'→o=o')(hb:some b≠oa)(e:G' b=some o):both G G' oa b=some o:=by
 unfold both
 rw[if_neg hb]
 cases q:G b with
 | none=>exact e
 | some u=>simp only;rw[hc b u q o e]
mutual
theorem Rp.off (hc:∀ b o,G b=some o→∀ o',G' b=some o'→o=o')(ha:G' a=some (.lst us)):∀ {v:V} {d:D},Rp K G' v d→lnodes d=[]→Rp K (both G G' (some a)) v d
 | _,_,.non,_=>.non
 | _,_,.bl b,_=>.bl b
 | _,_,.int i,_=>.int i
 | _,_,.str s,_=>.str s
 | _,_,.ty n,_=>.ty n
 | _,_,.ref a,_=>.ref a
 | _,_,.tup h r,hl=>.tup (by
   rcases h with (h|⟨o,h⟩)|h
   ·exact .inl (.inl (both_r hc (fun z=>by cases z;rw[ha] at h;cases h) h))
   ·exact .inl (.inr ⟨o,both_r hc (fun z=>by cases z;rw[ha] at h;cases h) h⟩)
   ·exact .inr h) (RpL.off hc ha r (by simpa only[lnodes] using hl))
 | _,_,.lst h r,hl=>by simp only[lnodes] at hl;cases hl
 | _,_,.fro h r,hl=>by simp only[lnodes] at hl;cases hl
 | _,_,.dct h k r,hl=>.dct (both_r hc (fun z=>by cases z;rw[ha] at h;cases h) h) (k.map fun b xs h=>by
   rcases h with (h|⟨o,h⟩)|h
   ·exact .inl (.inl (both_r hc (fun z=>by cases z;rw[ha] at h;cases h) h))
   ·exact .inl (.inr ⟨o,both_r hc (fun z=>by cases z;rw[ha] at h;cases h) h⟩)
   ·exact .inr h) (RpL.off hc ha r (by simpa only[lnodes,lnodesK_eq] using hl))
 | _,_,.ins c h o k r,hl=>.ins c (both_r hc (fun z=>by cases z;rw[ha] at h;cases h) h) (both_r hc (fun z=>by cases z;rw[ha] at o;cases o) o) k (RpL.off hc ha r (by simpa only[lnodes,lnodesF_eq] using hl))
 | _,_,.er0 c,hl=>.er0 c
 | _,_,.eo c h o,hl=>.eo c (both_r hc (fun z=>by cases z;rw[ha] at h;cases h) h) (both_r hc (fun z=>by cases z;rw[ha] at o;cases o) o)
 | _,_,.err c h k r,hl=>.err c (both_r hc (fun z=>by cases z;rw[ha] at h;cases h) h) k (RpL.off hc ha r (by simpa only[lnodes,lnodesF_eq] using hl))
theorem RpL.off (hc:∀ b o,G b=some o→∀ o',G' b=some o'→o=o')(ha:G' a=some (.lst us)):∀ {vs:List V} {ds:List D},RpL K G' vs ds→lnodesL ds=[]→RpL K (both G G' (some a)) vs ds
 | _,_,.nil,_=>.nil
 | _,_,.cons x y,hl=>by
  simp only[lnodesL,List.append_eq_nil_iff] at hl
  exact .cons (Rp.off hc ha x hl.1) (RpL.off hc ha y hl.2)
end
end
def thaw (args:List D)(μ:Mem):Res R→Res R
 | .ok (.dat (.lst ds)) _=>if(lnodesL args).all (apart ds)=true∧(lnodesL ds).isEmpty=true then .ok (.nl (ds.map DV.dat)) μ else .bad
 | .ok (.dat .non) _=>.ok (.dat .non) μ
 | .ok (.dat (.bl b)) _=>.ok (.dat (.bl b)) μ
 | .ok (.dat (.int b)) _=>.ok (.dat (.int b)) μ
 | .ok (.dat (.str b)) _=>.ok (.dat (.str b)) μ
 | .exc x _=>if x.fs.all (fun p=>(lnodes p.2).isEmpty)=true then .exc x μ else .bad
 | _=>.bad
def eCBT (F:List DV→Mem→Res R)(fa:AM):EM:=fun δ μ=>(fa δ μ).bind fun xs μ1=>match allDat xs with
 | some ds=>thaw ds μ1 (F xs [])
 | none=>.bad
section
variable {K:PySem.W.Frag}{W:WX}{ρ:Pm}{G H:Hp}{μ:Mem}{σ:Slots}{δ:Env}
end
def ltS (a b:Str):Bool:=ltCps a.cps.toList b.cps.toList
theorem ltC_irrefl:∀ a:List Nat,ltCps a a=false
 | []=>rfl
 | x::r=>by simp[ltCps,ltC_irrefl r]
theorem ltC_trans:∀ {a b c:List Nat},ltCps a b=true→ltCps b c=true→ltCps a c=true
 | [],[],_,h,_=>by cases h
 | [],_::_,[],_,h=>by cases h
 | [],_::_,_::_,_,_=>rfl
 | _::_,[],_,h,_=>by cases h
 | _::_,_::_,[],_,h=>by cases h
 | x::a,y::b,z::c,h,h'=>by
  simp only[ltCps,Bool.or_eq_true,decide_eq_true_eq,Bool.and_eq_true,beq_iff_eq] at h h' ⊢
  rcases h with h|⟨rfl,h⟩
  ·rcases h' with h' | ⟨rfl,h'⟩
   ·exact .inl (Nat.lt_trans h h')
   ·exact .inl h
  ·rcases h' with h' | ⟨rfl,h'⟩
   ·exact .inl h'
   ·exact .inr ⟨rfl,ltC_trans h h'⟩
theorem ltC_total:∀ {a b:List Nat},ltCps a b=false→ltCps b a=false→a=b
 | [],[],_,_=>rfl
 | [],_::_,h,_=>by cases h
 | _::_,[],_,h=>by cases h
 | x::a,y::b,h,h'=>by
  simp only[ltCps,Bool.or_eq_false_iff,decide_eq_false_iff_not,Bool.and_eq_false_iff] at h h'
  obtain rfl:x=y:=by omega
  have h1:ltCps a b=false:=h.2.elim (fun z=>by simp at z) id
  have h2:ltCps b a=false:=h'.2.elim (fun z=>by simp at z) id
  rw[ltC_total h1 h2]
theorem str_ext {a b:Str}(h:a.cps.toList=b.cps.toList):a=b:=by
 cases a;cases b
 have:(_:Array Nat)=_:=Array.toList_inj.mp h
 simp_all
theorem ltS_irrefl (a:Str):ltS a a=false:=ltC_irrefl _
theorem ltS_trans {a b c:Str}(h:ltS a b=true)(h':ltS b c=true):ltS a c=true:=ltC_trans h h'
theorem ltS_total {a b:Str}(h:ltS a b=false)(h':ltS b a=false):a=b:=str_ext (ltC_total h h')
def insU (x:Str):List Str→List Str
 | []=>[x]
 | y::ys=>if ltS x y=true then x::y::ys else if ltS y x=true then y::insU x ys else y::ys
def sortU:List Str→List Str
 | []=>[]
 | x::xs=>insU x (sortU xs)
theorem insU_mem (x y:Str):∀ ys:List Str,y∈insU x ys↔y=x∨y∈ys
 | []=>by simp[insU]
 | z::zs=>by
  unfold insU
  split
  ·simp
  ·split
   ·rw[List.mem_cons,insU_mem x y zs,List.mem_cons]
    constructor
    ·rintro (h|h|h) <;> simp[h]
    ·rintro (h|h|h) <;> simp[h]
   ·rename_i h1 h2
    have e:x=z:=ltS_total (by simpa using h1) (by simpa using h2)
    rw[e,List.mem_cons]
    constructor
    ·exact .inr
    ·rintro (h|h)
     ·exact .inl h
     ·exact h
theorem insU_rises {x:Str}:∀ {ys:List Str},ys.Pairwise (fun a b=>ltS a b=true)→(insU x ys).Pairwise (fun a b=>ltS a b=true)
 | [],_=>by simp[insU]
 | z::zs,h=>by
  obtain⟨h1,h2⟩:=List.pairwise_cons.mp h
  unfold insU
  split
  ·rename_i c
   exact List.pairwise_cons.mpr ⟨fun y hy=>(List.mem_cons.mp hy).elim (fun e=>e▸c) fun q=>ltS_trans c (h1 y q),h⟩
  ·split
   ·rename_i c
    exact List.pairwise_cons.mpr ⟨fun y hy=>((insU_mem x y zs).1 hy).elim (fun e=>e▸c) (h1 y),insU_rises h2⟩
   ·exact h
theorem sortU_mem (y:Str):∀ xs:List Str,y∈sortU xs↔y∈xs
 | []=>Iff.rfl
 | x::xs=>by rw[sortU,insU_mem,sortU_mem y xs,List.mem_cons]
theorem sortU_rises:∀ xs:List Str,(sortU xs).Pairwise (fun a b=>ltS a b=true)
 | []=>.nil
 | x::xs=>insU_rises (sortU_rises xs)
theorem rises_one:∀ {xs ys:List Str},xs.Pairwise (fun a b=>ltS a b=true)→ys.Pairwise (fun a b=>ltS a b=true)→(∀ z,z∈xs↔z∈ys)→xs=ys
 | [],[],_,_,_=>rfl
 | [],y::ys,_,_,h=>absurd ((h y).2 List.mem_cons_self) (fun z=>nomatch z)
 | x::xs,[],_,_,h=>absurd ((h x).1 List.mem_cons_self) (fun z=>nomatch z)
 | x::xs,y::ys,hx,hy,h=>by
  obtain⟨x1,x2⟩:=List.pairwise_cons.mp hx
  obtain⟨y1,y2⟩:=List.pairwise_cons.mp hy
  have e:x=y:=by
   rcases List.mem_cons.mp ((h x).1 List.mem_cons_self) with e|q
   ·exact e
   ·rcases List.mem_cons.mp ((h y).2 List.mem_cons_self) with e|q'
    ·exact e.symm
    ·have a:=y1 x q
     have b:=x1 y q'
     have c:=ltS_trans a b
     rw[ltS_irrefl] at c;cases c
  subst e
  rw[rises_one x2 y2 fun z=>?_]
  constructor
  ·intro hz
   rcases List.mem_cons.mp ((h z).1 (List.mem_cons_of_mem _ hz)) with e|q
   ·have:=x1 z hz
    rw[e,ltS_irrefl] at this;cases this
   ·exact q
  ·intro hz
   rcases List.mem_cons.mp ((h z).2 (List.mem_cons_of_mem _ hz)) with e|q
   ·have:=y1 z hz
    rw[e,ltS_irrefl] at this;cases this
   ·exact q
theorem rises_of_sortedS {ss:List Str}(h:sortedS ss=true)(nd:ss.Nodup):ss.Pairwise (fun a b=>ltS a b=true):=by
 have key:∀ (r:List Str) (x:Str),risingS x r=true→(x::r).Nodup→(x::r).Pairwise (fun a b=>ltS a b=true):=by
  intro r
  induction r with
  | nil=>intro x _ _;simp
  | cons y r ih =>
   intro x h nd
   simp only[risingS,Bool.and_eq_true] at h
   obtain⟨n1,n2⟩:=List.nodup_cons.mp nd
   have q:=ih y h.2 n2
   obtain⟨q1,q2⟩:=List.pairwise_cons.mp q
   have hxy:ltS x y=true:=by
    cases e:ltS x y with
    | true=>rfl
    | false =>
     have e2:ltS y x=false:=by
      have h1:=h.1
      simp only[Bool.not_eq_true'] at h1
      exact h1
     exact absurd (ltS_total e e2) (fun z=>n1 (by rw[z];exact List.mem_cons_self))
   exact List.pairwise_cons.mpr ⟨fun z hz=>(List.mem_cons.mp hz).elim (fun e=>e▸hxy) fun q=>ltS_trans hxy (q1 z q),q⟩
 cases ss with
 | nil=>exact .nil
 | cons x r=>exact key r x h nd
section
variable {K:PySem.W.Frag}{W:WX}{ρ:Pm}{G H:Hp}{μ:Mem}{σ:Slots}{δ:Env}
def eListRng (f:EM):EM:=fun δ μ=>(frzV f δ μ).bind fun x μ'=>match asI x with
 | some n=>if 0≤n∧n≤1000000 then .ok (.nl ((List.range n.toNat).map fun i=>.dat (.int (i:Nat)))) μ' else .bad
 | none=>.bad
theorem rises_perm {α:Type}{le:α→α→Prop}(anti:∀ a b,le a b→le b a→a=b):∀ {xs ys:List α},xs.Pairwise le→ys.Pairwise le→xs.Perm ys→xs=ys
 | [],ys,_,_,h=>by rw[h.symm.eq_nil]
 | x::xs,[],_,_,h=>by cases h.eq_nil
 | x::xs,y::ys,hx,hy,h=>by
  obtain⟨hx1,hx2⟩:=List.pairwise_cons.mp hx
  obtain⟨hy1,hy2⟩:=List.pairwise_cons.mp hy
  have e:x=y:=by
   rcases List.mem_cons.mp (h.mem_iff.mp (List.mem_cons_self:x∈x::xs)) with e|e
   ·exact e
   ·rcases List.mem_cons.mp (h.symm.mem_iff.mp (List.mem_cons_self:y∈y::ys)) with e2|e2
    ·exact e2.symm
    ·exact anti x y (hx1 y e2) (hy1 x e)
  subst e
  rw[rises_perm anti hx2 hy2 (List.Perm.cons_inv h)]
def leS (a b:Str):Prop:=ltS b a=false
theorem leS_anti (a b:Str)(h:leS a b)(h':leS b a):a=b:=ltS_total h' h
def insS (x:Str):List Str→List Str
 | []=>[x]
 | y::ys=>if ltS y x=true then y::insS x ys else x::y::ys
def sortS:List Str→List Str
 | []=>[]
 | x::xs=>insS x (sortS xs)
theorem insS_perm (x:Str):∀ ys:List Str,(insS x ys).Perm (x::ys)
 | []=>.refl _
 | y::ys=>by
  unfold insS
  split
  ·exact((insS_perm x ys).cons y).trans (.swap _ _ _)
  ·exact .refl _
theorem sortS_perm:∀ xs:List Str,(sortS xs).Perm xs
 | []=>.refl _
 | x::xs=>(insS_perm x _).trans ((sortS_perm xs).cons x)
theorem leS_of_lt {a b:Str}(h:ltS a b=true):leS a b:=by
 unfold leS
 cases e:ltS b a with
 | false=>rfl
 | true=>exact absurd (ltS_trans h e) (by rw[ltS_irrefl];exact Bool.false_ne_true)
theorem leS_trans {a b c:Str}(h:leS a b)(h':leS b c):leS a c:=by
 unfold leS at *
 cases e:ltS c a with
 | false=>rfl
 | true =>
  cases e2:ltS a b with
  | true=>rw[ltS_trans e e2] at h';cases h'
  | false=>have:=ltS_total e2 h;subst this;rw[e] at h';cases h'
theorem insS_rises (x:Str):∀ {ys:List Str},ys.Pairwise leS→(insS x ys).Pairwise leS
 | [],_=>by simp[insS]
 | y::ys,h=>by
  unfold insS
  split
  ·rename_i hlt
   refine List.Pairwise.cons (fun z hz=>?_) (insS_rises x (List.pairwise_cons.mp h).2)
   rcases List.mem_cons.mp ((insS_perm x ys).mem_iff.mp hz) with rfl|hz
   ·exact leS_of_lt hlt
   ·exact(List.pairwise_cons.mp h).1 z hz
  ·rename_i hlt
   have hle:leS x y:=by unfold leS;cases e:ltS y x with
    | true=>exact absurd e hlt
    | false=>rfl
   refine List.Pairwise.cons (fun z hz=>?_) h
   rcases List.mem_cons.mp hz with rfl|hz
   ·exact hle
   ·exact leS_trans hle ((List.pairwise_cons.mp h).1 z hz)
theorem sortS_rises:∀ xs:List Str,(sortS xs).Pairwise leS
 | []=>.nil
 | x::xs=>insS_rises x (sortS_rises xs)
end
section
variable {K:PySem.W.Frag}{W:WX}{ρ:Pm}{G H:Hp}{μ:Mem}{σ:Slots}{δ:Env}
end
section
variable {X:Cx}{W:WX}{e:Expr}{te:TE}{f:EM}{p p2 pos pos2:Pos}
end
theorem u1 {n m:Nat}(h:n+64<m):n+1<m:=by omega
section
variable {K:PySem.W.Frag}{W:WX}{N:Nat}{ρ:Pm}{G H G0 H0:Hp}{μ:Mem}{σ:Slots}{δ:Env}{Q:VK}
end
end DL
noncomputable section
namespace DL
open PySem PySem.Spec PyProof.Rows L2 DR
section
variable {QR:R→Mem→Prop}{E:Xc→Mem→Prop}{μ ν:Mem}{δ:Env}{N:Nat}{P:PO}{d:D}{x y:DV}{k w:Nat}
theorem gP {r:Res (List (Ky×DV))}{Q:List (Ky×DV)→Mem→Prop}(h:Sat r Q E):Sat r Q E:=h
def Fk (k w:Nat)(d:D):Prop:=∃ p,toPyK d=some p∧p.showable=true∧p.depth≤k∧p.shown.length≤w
theorem l_same (hx:peek μ x=some d)(hy:peek μ y=some d)(h:Fk k w d)(hk:k≤64)(q:QR (.dat (.bl true)) μ):Sat (dSame x y μ) QR E:=by
 obtain⟨p,e,_,h2,_⟩:=h
 unfold dSame
 rw[hx,hy]
 simp only[Option.bind_some,e]
 rw[if_pos ⟨trivial,by omega⟩]
 exact q
theorem l_reprD {p:PyData}(hx:peek μ x=some d)(hp:toPyK d=some p)(h1:p.showable=true)(h2:p.depth≤64)(h3:p.shown.length≤2^20)(q:QR (.dat (.str p.shown)) μ):Sat (d1 dReprD [x] μ) QR E:=by
 show Sat (dReprD x μ) QR E
 unfold dReprD
 rw[hx]
 simp only[Option.bind_some,hp]
 rw[if_pos ⟨h1,h2,Nat.le_trans h3 (by decide)⟩]
 exact q
theorem peek_str {t:Str}(h:peek μ y=some (.str t)):y=.dat (.str t):=by
 cases y with
 | dat d=>rw[pk_dat] at h;cases h;rfl
 | loc n =>
  unfold peek peekK at h
  split at h
  ·rename_i xs _
   cases e:peekL (peekK 4 μ) xs <;> rw[e] at h <;> cases h
  ·rename_i xs _
   cases e:peekL (peekK 4 μ) xs <;> rw[e] at h <;> cases h
  ·cases h
theorem eqA_same (hx:peek μ x=some d)(hy:peek μ y=some d)(h:Fk k w d)(hk:k≤64)(q:QR (.dat (.bl true)) μ):Sat (dEqA x y μ) QR E:=by
 unfold dEqA alt2
 have key:dEq x y μ=.bad∨dEq x y μ=.ok (.dat (.bl true)) μ:=by
  unfold dEq dEqS
  cases e:asStr x with
  | some s =>
   have ex:x=.dat (.str s):=by unfold asStr at e;split at e <;> cases e;rfl
   subst ex
   rw[pk_dat] at hx;cases hx
   have ey:=peek_str hy
   subst ey
   right
   simp[asStr]
  | none =>
   simp only
   unfold dEqB peekPy
   rw[hx,hy]
   simp only[Option.bind_some]
   cases e2:toPy d with
   | none=>left;rfl
   | some p =>
    simp only
    by_cases c:SeqAt.shaped p=true
    ·right
     rw[if_pos ⟨c,c⟩,SeqAt.eqv_refl p (SeqAt.canLay_of_shaped c)];rfl
    ·left
     rw[if_neg (fun z=>c z.1)]
 rcases key with e|e
 ·rw[e];exact l_same hx hy h hk q
 ·rw[e];exact q
def gAlikeA:SM:=(gRet (eAnd (eOp dEqA (eVar 0) (eVar 1)) (eOp dEqA (eCB dReprA (aCons (eVar 0) aNil)) (eCB dReprA (aCons (eVar 1) aNil)))))
mutual
theorem toPyK_of:∀ (d:D) (p:PyData),toPy d=some p→toPyK d=some p
 | .non,_,h=>by simp only[toPy] at h;cases h;rfl
 | .bl _,_,h=>by simp only[toPy] at h;cases h;rfl
 | .int _,_,h=>by simp only[toPy] at h;cases h;rfl
 | .str _,_,h=>by simp only[toPy] at h;cases h;rfl
 | .tup xs,_,h=>by
  simp only[toPy] at h
  cases e:toPyL xs with
  | none=>rw[e] at h;cases h
  | some ps=>rw[e] at h;cases h;simp only[toPyK,toPyKL_of xs ps e];rfl
 | .lst xs,_,h=>by
  simp only[toPy] at h
  cases e:toPyL xs with
  | none=>rw[e] at h;cases h
  | some ps=>rw[e] at h;cases h;simp only[toPyK,toPyKL_of xs ps e];rfl
 | .fro xs,_,h=>by
  simp only[toPy] at h
  cases e:toPyL xs with
  | none=>rw[e] at h;cases h
  | some ps=>rw[e] at h;cases h;simp only[toPyK,toPyKL_of xs ps e];rfl
 | .ty _,_,h=>by simp only[toPy] at h;cases h
 | .ref _,_,h=>by simp only[toPy] at h;cases h
 | .dct _,_,h=>by simp only[toPy] at h;cases h
 | .ins _ _,_,h=>by simp only[toPy] at h;cases h
 | .err _ _ _ _ _,_,h=>by simp only[toPy] at h;cases h
 | .eo _,_,h=>by simp only[toPy] at h;cases h
theorem toPyKL_of:∀ (ds:List D) (ps:List PyData),toPyL ds=some ps→toPyKL ds=some ps
 | [],_,h=>by simp only[toPyL] at h;cases h;rfl
 | d::ds,_,h=>by
  simp only[toPyL] at h
  cases e:toPy d with
  | none=>rw[e] at h;cases h
  | some p =>
   rw[e] at h
   cases e2:toPyL ds with
   | none=>rw[e2] at h;cases h
   | some ps=>rw[e2] at h;cases h;simp only[toPyKL,toPyK_of d p e,toPyKL_of ds ps e2];rfl
end
theorem reprA_ok {p:PyData}(hx:peek μ x=some d)(hp:toPyK d=some p)(h1:p.showable=true)(h2:p.depth≤64)(h3:p.shown.length≤2^20)(q:QR (.dat (.str p.shown)) μ):Sat (dReprA [x] μ) QR E:=by
 unfold dReprA alt1
 have key:d1 dRepr [x] μ=.bad∨d1 dRepr [x] μ=.ok (.dat (.str p.shown)) μ:=by
  show dRepr x μ=.bad∨dRepr x μ=_
  unfold dRepr peekPy
  rw[hx]
  simp only[Option.bind_some]
  cases e:toPy d with
  | none=>left;rfl
  | some p' =>
   have e2:=toPyK_of d p' e
   rw[hp] at e2;cases e2
   simp only
   by_cases c:p.showable=true∧SeqAt.shaped p=true∧p.shown.length≤sizeLine
   ·right;rw[if_pos c]
   ·left;rw[if_neg c]
 rcases key with e|e
 ·rw[e];exact l_reprD hx hp h1 h2 h3 q
 ·rw[e];exact q
theorem alikeA (hx:peek μ x=some d)(hy:peek μ y=some d)(h:Fk k w d)(hk:k≤64)(hw:w≤2^20)(q:QR (.dat (.bl true)) μ):Sat (callD gAlikeA 2 0 [x,y] μ) QR E:=by
 obtain⟨p,hp,h1,h2,h3⟩:=h
 have h:Fk k w d:=⟨p,hp,h1,h2,h3⟩
 refine x_call rfl ?_
 show SatS (gAlikeA μ.length [some x,some y] μ) _
 unfold gAlikeA
 refine s_ret (x_and (x_op (v_var rfl (v_var rfl (eqA_same hx hy h hk (b_bl (if_T ?_)))))))
 refine x_op (x_fz (x_cb (a_consK (v_var rfl (a_nilK (reprA_ok hx hp h1 (by omega) (by omega) (z_dat ?_)))))))
 refine x_fz (x_cb (a_consK (v_var rfl (a_nilK (reprA_ok hy hp h1 (by omega) (by omega) (z_dat (w_eq (l_eqS ?_))))))))
 rw[decide_eq_true rfl]
 exact e_dat List.take_length q
theorem ne_nilL {ds:List D}(hk:k<64)(h:∀ d∈ds,∃ p,toPy d=some p∧Fit k w p)(q:QR (.dat (.bl (!ds.isEmpty))) μ):Sat (dNe (.dat (.lst ds)) (.dat (.lst [])) μ) QR E:=by
 obtain⟨ps,e1,e2,e3⟩:=toPyL_fit ds h
 have f1:Fit (k+1) (ps.length*(w+1)) (.list ps):=fit_list e3 (Nat.le_refl _)
 have f0:Fit (k+1) 0 (.list []):=(fit_list (k:=k) (w:=0) (n:=0) (ps:=[]) (fun _ h=>by cases h) (Nat.le_refl _)).mono (Nat.le_refl _) (Nat.le_refl _)
 have:=eq_any (μ:=μ) false (x:=.dat (.lst ds)) (y:=.dat (.lst [])) (p:=.list ps) (q:=.list []) (by unfold peekPy;rw[pk_dat];simp only[Option.bind_some,toPy,e1];rfl) (by unfold peekPy;rw[pk_dat];rfl) f1 f0 (by omega) (by omega)
 rw[show dNe (.dat (.lst ds)) (.dat (.lst [])) μ=dEqS false (.dat (.lst ds)) (.dat (.lst [])) μ from rfl,this]
 cases ds with
 | nil=>cases e1;exact q
 | cons d ds =>
  cases ps with
  | nil=>simp at e2
  | cons p ps=>exact q
theorem eq_nilL {ds:List D}(hk:k<64)(h:∀ d∈ds,∃ p,toPy d=some p∧Fit k w p)(q:QR (.dat (.bl ds.isEmpty)) μ):Sat (dEqA (.dat (.lst ds)) (.dat (.lst [])) μ) QR E:=by
 obtain⟨ps,e1,e2,e3⟩:=toPyL_fit ds h
 have f1:Fit (k+1) (ps.length*(w+1)) (.list ps):=fit_list e3 (Nat.le_refl _)
 have f0:Fit (k+1) 0 (.list []):=(fit_list (k:=k) (w:=0) (n:=0) (ps:=[]) (fun _ h=>by cases h) (Nat.le_refl _)).mono (Nat.le_refl _) (Nat.le_refl _)
 have:=eq_any (μ:=μ) true (x:=.dat (.lst ds)) (y:=.dat (.lst [])) (p:=.list ps) (q:=.list []) (by unfold peekPy;rw[pk_dat];simp only[Option.bind_some,toPy,e1];rfl) (by unfold peekPy;rw[pk_dat];rfl) f1 f0 (by omega) (by omega)
 refine w_eq ?_
 rw[show dEq (.dat (.lst ds)) (.dat (.lst [])) μ=dEqS true (.dat (.lst ds)) (.dat (.lst [])) μ from rfl,this]
 cases ds with
 | nil=>cases e1;exact q
 | cons d ds =>
  cases ps with
  | nil=>simp at e2
  | cons p ps=>exact q
theorem Fk.mono {k' w':Nat}(h:Fk k w d)(hk:k≤k')(hw:w≤w'):Fk k' w' d:=let ⟨p,a,b,c,e⟩:=h;⟨p,a,b,Nat.le_trans c hk,Nat.le_trans e hw⟩
theorem fk_bl {b:Bool}:Fk 0 5 (.bl b):=⟨.bool b,rfl,rfl,Nat.le_refl _,by cases b <;> decide⟩
theorem fk_all {ds:List D}(h:∀ d∈ds,Fk k w d):∃ ps,toPyKL ds=some ps∧ps.length=ds.length∧PyData.showableAll ps=true∧PyData.depthAll ps≤k∧((PyData.shownAll ps).map (·.length)).sum≤ds.length*w∧(PyData.shownAll ps).length=ds.length:=by
 induction ds with
 | nil=>exact⟨[],rfl,rfl,rfl,Nat.zero_le _,Nat.zero_le _,rfl⟩
 | cons d ds ih =>
  obtain⟨ps,a1,a2,a3,a4,a5,a6⟩:=ih fun x hx=>h x (List.mem_cons_of_mem _ hx)
  obtain⟨p,b1,b2,b3,b4⟩:=h d List.mem_cons_self
  refine⟨p::ps,by simp only[toPyKL,b1,a1];rfl,by simp[a2],by simp[PyData.showableAll,b2,a3],by simp only[PyData.depthAll];omega,?_,by simp[PyData.shownAll,a6]⟩
  simp only[PyData.shownAll,List.map_cons,List.sum_cons,List.length_cons,Nat.succ_mul]
  omega
theorem fk_lst {ds:List D}{n:Nat}(h:∀ d∈ds,Fk k w d)(hn:ds.length≤n):Fk (k+1) (n*(w+2)+3) (.lst ds):=by
 obtain⟨ps,a1,a2,a3,a4,a5,a6⟩:=fk_all h
 refine⟨.list ps,by simp only[toPyK,a1];rfl,by simpa [PyData.showable] using a3,by simp only[PyData.depth];omega,?_⟩
 have:=listText_len_le (PyData.shownAll ps)
 simp only[PyData.shown]
 have:ds.length*(w+2)≤n*(w+2):=Nat.mul_le_mul_right _ hn
 have e:ds.length*(w+2)=ds.length*w+2*ds.length:=by rw[Nat.mul_add,Nat.mul_comm ds.length 2]
 omega
end
end DL
namespace DL
open PySem PySem.Spec PyProof.Rows L2 DR
section
variable {QR:R→Mem→Prop}{E:Xc→Mem→Prop}{μ ν:Mem}{δ:Env}{N n:Nat}{P:PO}{d:D}{x y:DV}{k:Key}{kvs:List (Ky×DV)}{ds:List D}
theorem s_dput {fo fi fe:EM}(h:Sat (frzV fe δ μ) (fun y μ1=>Sat (frzV fo δ μ1) (fun x μ2=>Sat (frzV fi δ μ2) (fun i μ3=>∃ μ4,setDct μ3 x i y=some μ4∧P.nx δ μ4) (fun x μ=>P.ex x δ μ)) (fun x μ=>P.ex x δ μ)) (fun x μ=>P.ex x δ μ)):SatS (gDPut fo fi fe N δ μ) P:=by
 refine sat_lift (sat_bind (h.mono (fun y μ1 q=>sat_bind (q.mono (fun x μ2 q=>sat_bind (q.mono (fun i μ3 q=>?_) fun _ _ q=>q)) fun _ _ q=>q)) fun _ _ q=>q))
 obtain⟨μ4,e,q⟩:=q;rw[e];exact q
theorem set_dct (hn:μ[n]?=some (.dct kvs))(hy:keyD y=some k)(hk:allK kvs=true)(hl:kvs.length<sizeLine)(hb:belowB n x=true):setDct μ (.loc n) y x=some (μ.set n (.dct (dput kvs (.k k) x))):=by
 unfold setDct;simp only[hn,hy];rw[if_pos ⟨hk,hl,hb⟩]
theorem x_dget1 {fd fy:EM}(h:Sat (frzV fd δ μ) (fun x μ1=>isDct x μ1=true∧Sat (frzV fy δ μ1) (fun y μ2=>Sat (dGet1 x y μ2) QR E) E) E):Sat (eDGet1 fd fy δ μ) QR E:=by
 unfold eDGet1
 refine sat_bind (h.mono (fun x m ⟨e,q⟩=>?_) fun _ _ q=>q)
 rw[if_pos e]
 exact sat_bind q
theorem isDct_dat {ds:List (Ky×D)}(hk:allKD ds=true):isDct (.dat (.dct ds)) μ=true:=by
 show allK (datP ds)=true
 unfold allKD at hk;unfold allK datP;rw[List.all_map];exact hk
def ThawK (args:List D)(r:R)(Q:R→Prop):Prop:=match r with
 | .dat (.lst ds)=>((lnodesL args).all (apart ds)=true∧(lnodesL ds).isEmpty=true)∧Q (.nl (ds.map DV.dat))
 | .dat .non=>Q (.dat .non)
 | .dat (.bl b)=>Q (.dat (.bl b))
 | .dat (.int b)=>Q (.dat (.int b))
 | .dat (.str b)=>Q (.dat (.str b))
 | _=>False
theorem x_cbT {F:List DV→Mem→Res R}{fa:AM}(h:Sat (fa δ μ) (fun xs μ1=>∃ ds,allDat xs=some ds∧Sat (F xs []) (fun r _=>ThawK ds r fun r'=>QR r' μ1) (fun x _=>x.fs.all (fun p=>(lnodes p.2).isEmpty)=true∧E x μ1)) E):Sat (eCBT F fa δ μ) QR E:=by
 unfold eCBT
 refine sat_bind (h.mono (fun xs m ⟨ds,e,q⟩=>?_) fun _ _ q=>q)
 rw[e]
 simp only
 cases e2:F xs [] with
 | bad=>rw[e2] at q;exact q.elim
 | exc x m' =>
  rw[e2] at q
  have q:_∧_:=q
  simp only[thaw]
  rw[if_pos q.1];exact q.2
 | ok r m' =>
  rw[e2] at q
  have q:ThawK ds r fun r'=>QR r' m:=q
  unfold ThawK at q
  split at q
  ·simp only[thaw];rw[if_pos q.1];exact q.2
  ·exact q
  ·exact q
  ·exact q
  ·exact q
  ·exact q.elim
theorem x_listRng {f:EM}(h:Sat (frzV f δ μ) (fun x μ'=>IntK x fun n=>(0≤n∧n≤1000000)∧QR (.nl ((List.range n.toNat).map fun i=>.dat (.int (i:Nat)))) μ') E):Sat (eListRng f δ μ) QR E:=by
 unfold eListRng
 refine sat_bind (h.mono (fun x m ⟨i,e,q⟩=>?_) fun _ _ q=>q)
 rw[e];simp only;rw[if_pos q.1];exact q.2
theorem e_locN {xs:List DV}{μ':Mem}(e:μ'.take N=μ)(hn:N≤n)(hx:μ'[n]?=some (.lst xs))(hb:belowA N xs=true)(h:QR (.nl xs) μ):(endP N QR E).rt (.loc n) μ':=k_locN (E:=E) e hn hx hb h
end
end DL
namespace DL
open PySem PySem.Spec PyProof.Rows L2
def bindB (b:Bool)(N i:Nat)(r:R)(δ:Env)(μ:Mem):Out:=if b=true then bindR N i r δ μ else match frz r with
 | some x=>.next (δ.set i (some x)) μ
 | none=>.bad
def gPar3 (b1 b2 b3:Bool)(i j l:Nat)(f g h:EM):SM:=fun N δ μ=>lift (f δ μ) δ fun r1 μ1=>match bindB b1 N i r1 δ μ1 with
 | .next δ1 μ2=>lift (g δ μ2) δ fun r2 μ3=>match bindB b2 N j r2 δ1 μ3 with
  | .next δ2 μ4=>lift (h δ μ4) δ fun r3 μ5=>bindB b3 N l r3 δ2 μ5
  | _=>.bad
 | _=>.bad
section
variable {K:PySem.W.Frag}{W:WX}{N:Nat}{ρ:Pm}{G H:Hp}{μ:Mem}{σ:Slots}{δ:Env}{v:V}
theorem bindB_next {b:Bool}{r:R}{i:Nat}:(∃ δ1 μ2,bindB b N i r δ μ=.next δ1 μ2)∨bindB b N i r δ μ=.bad:=by
 unfold bindB
 cases b with
 | true=>exact bindR_next
 | false =>
  simp only[Bool.false_eq_true,if_false]
  cases frz r with
  | none=>exact .inr rfl
  | some x=>exact .inl ⟨_,_,rfl⟩
theorem bindB_ok {b:Bool}{r:R}{i:Nat}{G0 H0:Hp}{δ1:Env}{μ2:Mem}(R':Rel K ρ G H μ)(t':Tr ρ G0 H0 G H)(d:RpR K ρ G H0 H v r)(e:bindB b N i r δ μ=.next δ1 μ2) :
  ∃ ρ1 G1 x,TrS N ρ G0 H0 ρ1 G1 H∧Rel K ρ1 G1 H μ2∧(∀ n b,ρ n=some b→ρ1 n=some b)∧Ex G G1∧DvOk K ρ1 G1 v x∧δ1=δ.set i (some x):=by
 unfold bindB at e
 cases b with
 | true =>
  simp only[if_true] at e
  obtain⟨ρ1,x,T1,R2,up,dx,rfl⟩:=bindR_ok R' (t'.toS (N:=N)) d e
  exact⟨ρ1,G,x,T1,R2,up,Ex.refl _,dx,rfl⟩
 | false =>
  simp only[Bool.false_eq_true,if_false] at e
  cases q:frz r with
  | none=>rw[q] at e;cases e
  | some x =>
   rw[q] at e;cases e
   obtain⟨G2,t2,R2,d2,ex⟩:=RpR.frz d R' t' q
   exact⟨ρ,G2,x,t2.toS,R2,fun _ _ q=>q,ex,d2,rfl⟩
theorem snd_par3 {b1 b2 b3:Bool}{t u w:TE}{f g h:EM}(i j l:Nat)(h1:SndE K W t f)(h2:SndE K W u g)(h3:SndE K W w h):SndS K W (tPar3 i j l (tCons t (tCons u (tCons w tNil)))) (gPar3 b1 b2 b3 i j l f g h):=fun N ρ G H σ δ μ Dn R E hp=>by
 refine SndG.stm (t:=t) h1 R E hp fun r μ1 G1 H1 v t1 R1 E1 d1 hp1=>?_
 rcases bindB_next (b:=b1) (N:=N) (r:=r) (i:=i) (δ:=δ) (μ:=μ1) with⟨δ1,μ2,e⟩|e
 case inr=>rw[e] at hp1;exact hp1.elim
 rw[e] at hp1
 obtain⟨ρ1,Ga,x,T1,R2,up,ex1,dx,rfl⟩:=bindB_ok R1 t1 d1 e
 have E2:EnvOk K ρ1 Ga σ δ:=E1.up ex1 up
 refine SndG.stm (t:=u) h2 R2 E2 (PostS.shift T1 hp1) fun r2 μ3 G3 H3 v2 t3 R3 E3 d3 hp3=>?_
 rcases bindB_next (b:=b2) (N:=N) (r:=r2) (i:=j) (δ:=δ.set i (some x)) (μ:=μ3) with⟨δ2,μ4,e⟩|e
 case inr=>rw[e] at hp3;exact hp3.elim
 rw[e] at hp3
 obtain⟨ρ2,Gb,y,T2,R4,up2,ex2,dy,rfl⟩:=bindB_ok R3 t3 d3 e
 have E4:EnvOk K ρ2 Gb σ δ:=E3.up ex2 up2
 refine SndG.stm (t:=w) h3 R4 E4 (PostS.shift T2 hp3) fun r3 μ5 G5 H5 v3 t5 R5 E5 d5 hp5=>?_
 rcases bindB_next (b:=b3) (N:=N) (r:=r3) (i:=l) (δ:=(δ.set i (some x)).set j (some y)) (μ:=μ5) with⟨δ3,μ6,e⟩|e
 case inr=>rw[e] at hp5;exact hp5.elim
 rw[e] at hp5
 obtain⟨ρ3,Gc,z,T3,R6,up3,ex3,dz,rfl⟩:=bindB_ok R5 t5 d5 e
 refine⟨v,v2,v3,rfl,?_⟩
 have dx2:DvOk K ρ3 Gc v x:=((dx.mono t3.exG fun _ _ q=>q).mono ex2 up2).mono (t5.exG.trans ex3) up3
 have dy2:DvOk K ρ3 Gc v2 y:=dy.mono (t5.exG.trans ex3) up3
 exact hp5 ρ3 Gc H5 _ T3 R6 ((((E5.up ex3 up3).set i dx2).set j dy2).set l dz)
end
section
variable {X:Cx}{W:WX}{pos px py pz pt pt2:Pos}{a b c:Expr}{ta tb tc:TE}{fa fb fc:EM}
theorem sm_par3 {x y z:Str}{kt k2:Nat}(b1 b2 b3:Bool)(n m l:Nat)(hc:X.calm=true)(hN:X.N.Nodup)(ha:PM X W a ta fa)(hb:PM X W b tb fb)(hcc:PM X W c tc fc)(hi:X.N[n]?=some x:=by rfl)(hj:X.N[m]?=some y:=by rfl)(hl:X.N[l]?=some z:=by rfl)(h12:n≠m:=by decide)(h13:n≠l:=by decide)(h23:m≠l:=by decide)
  (hx:X.env.scope.names.lookup x=some .local:=by rfl) (hy:X.env.scope.names.lookup y=some .local:=by rfl) (hz:X.env.scope.names.lookup z=some .local:=by rfl)
  (hs:swappedStores [Expr.Tuple [Expr.Name x px,Expr.Name y py,Expr.Name z pz] kt pt] (Expr.Tuple [a,b,c] k2 pt2) X.env=pure (some [x,y,z]):=by rfl)
  (hs2:swapsWithSole [Expr.Tuple [Expr.Name x px,Expr.Name y py,Expr.Name z pz] kt pt] (Expr.Tuple [a,b,c] k2 pt2) pos.line X.env=pure false:=by rfl)
  (h1:starEach [a,b,c] X.env=(false,eval a X.env)::starEach [b,c] X.env:=by rfl) (h2:starEach [b,c] X.env=(false,eval b X.env)::starEach [c] X.env:=by rfl) (h3:starEach [c] X.env=(false,eval c X.env)::starEach [] X.env:=by rfl) :
  PSM X W (.Assign [Expr.Tuple [Expr.Name x px,Expr.Name y py,Expr.Name z pz] kt pt] (Expr.Tuple [a,b,c] k2 pt2) pos) (tPar3 n m l (tCons ta (tCons tb (tCons tc tNil)))) (gPar3 b1 b2 b3 n m l fa fb fc) :=
 ⟨ps_par3 hc hN hi hj hl h12 h13 h23 hx hy hz (pa_cons ha.pe (pa_cons hb.pe (pa_cons hcc.pe pa_nil h3) h2) h1) hs hs2,snd_par3 n m l ha.sd hb.sd hcc.sd⟩
end
section
variable {δ:Env}{μ:Mem}{QR:R→Mem→Prop}{E:Xc→Mem→Prop}{N n:Nat}{P:PO}{x y:DV}{k:List Int}
def BindK (b:Bool)(N i:Nat)(r:R)(δ:Env)(μ:Mem)(k:Env→Mem→Prop):Prop:=∃ δ1 μ2,bindB b N i r δ μ=.next δ1 μ2∧k δ1 μ2
theorem bk_dat {b:Bool}{i:Nat}{d:D}{k:Env→Mem→Prop}(h:k (δ.set i (some (.dat d))) μ):BindK b N i (.dat d) δ μ k:=⟨_,_,by cases b <;> rfl,h⟩
theorem bk_loc {b:Bool}{i:Nat}{m:Nat}{k:Env→Mem→Prop}(h:k (δ.set i (some (.loc m))) μ):BindK b N i (.loc m) δ μ k:=⟨_,_,by cases b <;> rfl,h⟩
theorem bk_nlT {i:Nat}{xs:List DV}{k:Env→Mem→Prop}(hN:N≤μ.length)(h:k (δ.set i (some (.loc μ.length))) (μ++[.lst xs])):BindK true N i (.nl xs) δ μ k:=⟨_,_,if_pos hN,h⟩
theorem bk_nlF {i:Nat}{xs:List DV}{ds:List D}{k:Env→Mem→Prop}(e:allDat xs=some ds)(h:k (δ.set i (some (.dat (.lst ds)))) μ):BindK false N i (.nl xs) δ μ k:=by
 refine⟨_,_,?_,h⟩
 simp[bindB,frz,e]
theorem s_par3 {b1 b2 b3:Bool}{i j l:Nat}{f g h:EM}(hh:Sat (f δ μ) (fun r1 μ1=>BindK b1 N i r1 δ μ1 fun δ1 μ2=>Sat (g δ μ2) (fun r2 μ3=>BindK b2 N j r2 δ1 μ3 fun δ2 μ4=>Sat (h δ μ4) (fun r3 μ5=>BindK b3 N l r3 δ2 μ5 P.nx) (fun x μ=>P.ex x δ μ)) (fun x μ=>P.ex x δ μ)) (fun x μ=>P.ex x δ μ)) :
  SatS (gPar3 b1 b2 b3 i j l f g h N δ μ) P:=by
 refine sat_lift (hh.mono (fun r μ1 q=>?_) fun _ _ q=>q)
 obtain⟨δ1,μ2,e,q⟩:=q
 rw[e]
 refine sat_lift (q.mono (fun r μ1 q=>?_) fun _ _ q=>q)
 obtain⟨δ1,μ2,e,q⟩:=q
 rw[e]
 refine sat_lift (q.mono (fun r μ1 q=>?_) fun _ _ q=>q)
 obtain⟨δ1,μ2,e,q⟩:=q
 rw[e];exact q
theorem x_tget {fd fy:EM}(h:Sat (frzV fd δ μ) (fun x μ1=>Sat (frzV fy δ μ1) (fun y μ2=>Sat (dGetT x y μ2) QR E) E) E):Sat (eTGet fd fy δ μ) QR E:=x_op h
theorem x_tin {neg:Bool}{fd fy:EM}(h:Sat (frzV fy δ μ) (fun y μ1=>Sat (frzV fd δ μ1) (fun x μ2=>Sat (dInT neg y x μ2) QR E) E) E):Sat (eTIn neg fy fd δ μ) QR E:=x_op h
theorem s_tput {fo fi fe:EM}(h:Sat (frzV fe δ μ) (fun y μ1=>Sat (frzV fo δ μ1) (fun x μ2=>Sat (frzV fi δ μ2) (fun i μ3=>∃ μ4,setDctT μ3 x i y=some μ4∧P.nx δ μ4) (fun x μ=>P.ex x δ μ)) (fun x μ=>P.ex x δ μ)) (fun x μ=>P.ex x δ μ)):SatS (gTPut fo fi fe N δ μ) P:=by
 unfold gTPut
 refine sat_lift (sat_bind (h.mono (fun y m q=>?_) fun _ _ q=>q))
 refine sat_bind (q.mono (fun x m q=>?_) fun _ _ q=>q)
 refine sat_bind (q.mono (fun i m q=>?_) fun _ _ q=>q)
 obtain⟨μ4,e,q⟩:=q
 rw[e];exact q
theorem x_disT {fk fv:EM}(h:Sat (frzV fk δ μ) (fun y μ1=>Sat (frzV fv δ μ1) (fun v μ2=>∃ k,keyT y=some k∧QR (.nk [(.t (kI k),v)]) μ2) E) E):Sat (eDisT fk fv δ μ) QR E:=by
 unfold eDisT fPair
 refine sat_bind (sat_bind (h.mono (fun y m q=>?_) fun _ _ q=>q))
 refine sat_bind (q.mono (fun v m q=>?_) fun _ _ q=>q)
 obtain⟨k,e,q⟩:=q
 show Sat (match keyT y with|some kk=>Res.ok (R.nk [(.t (kI kk),v)]) m|none=>.bad) QR E
 rw[e];exact q
theorem r_nk {i:Nat}{kvs:List (Ky×DV)}(hN:N≤μ.length)(h:P.nx (δ.set i (some (.loc μ.length))) (μ++[.dct kvs])):SatS (bindR N i (.nk kvs) δ μ) P:=by
 unfold bindR;simp only;rw[if_pos hN];exact h
theorem i_keysT {f:EM}{Q:List D→Mem→Prop}(h:Sat (frzV f δ μ) (fun x μ'=>∃ ds,x=.dat (.dct ds)∧isT ds=true∧Q (keysD ds) μ') E):Sat (imKeysT f δ μ) Q E:=by
 unfold imKeysT
 refine sat_bind (h.mono (fun x m ⟨ds,e,ht,q⟩=>?_) fun _ _ q=>q)
 subst e;simp only;rw[if_pos ht];exact q
theorem i_itemsT {f:EM}{Q:List D→Mem→Prop}(h:Sat (frzV f δ μ) (fun x μ'=>∃ ds,x=.dat (.dct ds)∧isT ds=true∧Q (pairsOf ds) μ') E):Sat (imItemsT f δ μ) Q E:=by
 unfold imItemsT
 refine sat_bind (h.mono (fun x m ⟨ds,e,ht,q⟩=>?_) fun _ _ q=>q)
 subst e;simp only;rw[if_pos ht];exact q
theorem i_keysK {f:EM}{Q:List D→Mem→Prop}(h:Sat (frzV f δ μ) (fun x μ'=>∃ ds,x=.dat (.dct ds)∧allKD ds=true∧Q (keysD ds) μ') E):Sat (imKeys f δ μ) Q E:=by
 unfold imKeys
 refine sat_bind (h.mono (fun x m ⟨ds,e,ht,q⟩=>?_) fun _ _ q=>q)
 subst e;simp only;rw[if_pos ht];exact q
theorem i_itemsK {f:EM}{Q:List D→Mem→Prop}(h:Sat (frzV f δ μ) (fun x μ'=>∃ ds,x=.dat (.dct ds)∧allKD ds=true∧Q (pairsOf ds) μ') E):Sat (imItems f δ μ) Q E:=by
 unfold imItems
 refine sat_bind (h.mono (fun x m ⟨ds,e,ht,q⟩=>?_) fun _ _ q=>q)
 subst e;simp only;rw[if_pos ht];exact q
end
set_option maxHeartbeats 2000000
section
variable {prog:Program}{w:World}{A:Around}{E:Value→Shared→Prop}{s:Shared}
end
set_option maxHeartbeats 1000000
section
variable {K:PySem.W.Frag}{W:WX}{ρ:Pm}{G H G0 H0:Hp}{μ:Mem}{σ:Slots}{δ:Env}
end
section
variable {K:PySem.W.Frag}{W:WX}{ρ:Pm}{G H H' G0 H0:Hp}{μ:Mem}{σ:Slots}{δ:Env}
end
section
variable {δ:Env}{μ:Mem}{QR:R→Mem→Prop}{E:Xc→Mem→Prop}
end
section
variable {prog:Program}{w:World}{K:Type}[DecidableEq K]{knd:PySem.KeyKind prog w K}{A:Around}{E:Value→Shared→Prop}{s:Shared}
end
section
variable {prog:Program}{w:World}{A:Around}{E:Value→Shared→Prop}{s:Shared}
end
section
variable {prog:Program}{w:World}{A:Around}{E:Value→Shared→Prop}{s:Shared}
end
def eDisU (f:EM)(g:PsM):EM:=fun δ μ=>(frzV f δ μ).bind fun x μ1=>match x with
 | .dat (.dct ds)=>if allKD ds=true∧ds.length≤1000 then(g δ μ1).bind fun ps μ2=>if ps.length≤15 then .ok (.nk (mergeD (mergeD [] (datP ds)) (mergeD [] ps))) μ2 else .bad else .bad
 | _=>.bad
section
variable {K:PySem.W.Frag}{W:WX}{ρ:Pm}{G H G0 H0:Hp}{μ:Mem}{σ:Slots}{δ:Env}
end
section
variable {X:Cx}{W:WX}{e k v:Expr}{te tk tv:TE}{f fk fv:EM}{pos:Pos}
end
section
variable {prog:Program}{w:World}{A:Around}{E:Value→Shared→Prop}{s:Shared}{K:PySem.W.Frag}{x C L f:Addr}{h₀:Heap}{m:Str→Option Value}{ox:Obj}{od:Option Obj}{b tb:Value}
end
structure NoNe (K:PySem.W.Frag)(C:Addr):Prop where
 ne:PySem.W.findIn K (.ref C) "__ne__"=some (some (.builtin "object.__ne__"))
 mro:PySem.W.mroIn K C (.type "object")=some true
section
variable {X:Cx}{k:Nat}{f C:Addr}{fd:FuncData}{ps:List Str}{sp:Sp}
end
def notR:Res R→Res R
 | .ok (.dat (.bl b)) μ=>.ok (.dat (.bl (!b))) μ
 | _=>.bad
def eNeO (nm:Str)(others:List Str)(F:List DV→Mem→Res R)(fa fb:EM):EM:=fun δ μ=>(frzV fa δ μ).bind fun x μ1=>(frzV fb δ μ1).bind fun y μ2=>if isI nm "" x μ2=true∧((kindOf μ2 y).bind (tabC nm others)).isSome=true then notR (F [x,y] μ2) else .bad
section
variable {K:PySem.W.Frag}{W:WX}{ρ:Pm}{G H:Hp}{σ:Slots}{δ:Env}{μ:Mem}{nm:Str}{C:Addr}{n:Nat}{F:List DV→Mem→Res R}
end
section
variable {X:Cx}{W:WX}{P:Program}{w:World}{K:PySem.W.Frag}{mg:Str→Option Value}{base:Heap}{k n:Nat}{nm:Str}{F:List DV→Mem→Res R}{a b e:Expr}{ta tb te:TE}{fa fb f:EM}{p pos:Pos}
end
section
variable {K:PySem.W.Frag}{W:WX}{ρ:Pm}{G H:Hp}{σ:Slots}{δ:Env}{μ:Mem}
def imVals (f:EM):IM:=fun δ μ=>(frzV f δ μ).bind fun x μ'=>match x with
 | .dat (.dct ds)=>if allKD ds=true then .ok (ds.map (·.2)) μ' else .bad
 | _=>.bad
def dwnD (i:Int)(n:Nat):List D:=(List.range n).map fun k=>.int (i-(k:Nat))
def imDwn (f:AM):IM:=fun δ μ=>(f δ μ).bind fun xs μ'=>match xs with
 | [x,y,z]=>match asI x,asI y,asI z with
  | some i,some j,some c=>if -(2^62)≤i∧i<2^62∧-(2^62)≤j∧j<2^62∧c=-1 then .ok (dwnD i (i-j).toNat) μ' else .bad
  | _,_,_=>.bad
 | _=>.bad
end
section
variable {X:Cx}{W:WX}{tg e a b c:Expr}{te:TE}{ta:TA}{f:EM}{fa:AM}{apos cpos p pos:Pos}
end
inductive Pth where
 | s (i:Nat)|f (p:Pth) (m:Str)|k (p:Pth) (key:Key)
def Pth.at (δ:Env)(μ:Mem):Pth→Option Nat
 | .s i=>match δ[i]? with
  | some (some (.loc n))=>some n
  | _=>none
 | .f p m=>match p.at δ μ with
  | some n=>match μ[n]? with
   | some (.ins _ fs)=>match fs.lookup m with
    | some (.loc c)=>some c
    | _=>none
   | _=>none
  | none=>none
 | .k p key=>match p.at δ μ with
  | some n=>match dctOf (.loc n) μ with
   | some kvs=>match dval kvs (.k key) with
    | some (.loc c)=>some c
    | _=>none
   | none=>none
  | none=>none
def unlk (c:Nat)(μ:Mem):Option Mem:=match μ[c]? with
 | some (.lkd kvs)=>some (μ.set c (.dct kvs))
 | _=>none
section
variable {K:PySem.W.Frag}{W:WX}{N:Nat}{ρ ρ':Pm}{G H G' H' G0 H0:Hp}{μ μ':Mem}{σ:Slots}{δ:Env}{n c:Nat}{d:Addr}{od:Obj}{u:HO}{Dn:Ends}
def lkdOf (x:DV)(μ:Mem):Option (List (Ky×D)):=match x with
 | .dat (.dct ds)=>some ds
 | .dat _=>none
 | .loc c=>match μ[c]? with
  | some (.lkd kvs)=>allDatK kvs
  | _=>none
def imKeysL (f:EM):IM:=fun δ μ=>(frzV f δ μ).bind fun x μ'=>match lkdOf x μ' with
 | some ds=>if allKD ds=true then .ok (keysD ds) μ' else .bad
 | none=>.bad
def imItemsL (f:EM):IM:=fun δ μ=>(frzV f δ μ).bind fun x μ'=>match lkdOf x μ' with
 | some ds=>if allKD ds=true then .ok (pairsOf ds) μ' else .bad
 | none=>.bad
end
section
variable {X:Cx}{W:WX}{tg e:Expr}{te:TE}{f:EM}{apos cpos:Pos}{st:Stmt}{ts:TS}{g:SM}
end
section
variable {K:PySem.W.Frag}{W:WX}{N M:Nat}{ρ ρ1:Pm}{G H G1 H1:Hp}{σ:Slots}{δ:Env}{μ:Mem}{Dn:Ends}
theorem TrS.low (t:TrS M ρ G H ρ1 G1 H1)(h:N≤M):TrS N ρ G H ρ1 G1 H1 :=
 ⟨fun n hn=>t.pre n (Nat.lt_of_lt_of_le hn h),t.exG,t.keep,t.th,fun a q=>(t.nG a q).imp_right fun z=>z.imp_right fun⟨n,hn,e⟩=>⟨n,Nat.le_trans h hn,e⟩,fun n a q=>(t.nρ n a q).imp_left fun z=>z.imp_right fun⟨m,hm,w⟩=>⟨m,Nat.le_trans h hm,w⟩,t.fz⟩
end
abbrev XM:=Env→Mem→Res DV
def PostX (K:PySem.W.Frag)(W:WX)(M:Nat)(ρ:Pm)(G H:Hp)(σ:Slots)(Q:VK):Res DV→Prop
 | .ok x μ'=>∀ ρ' G' H' v,TrS M ρ G H ρ' G' H'→Rel K ρ' G' H' μ'→DvOk K ρ' G' v x→Q v H'
 | .exc x μ'=>∀ ρ' G' H' cls d,TrS M ρ G H ρ' G' H'→Rel K ρ' G' H' μ'→XcOk K G' H' x cls d→W cls d σ H'
 | .bad=>False
def SndX (K:PySem.W.Frag)(W:WX)(t:TE)(f:XM):Prop:=∀ (ρ:Pm) (G H:Hp) (σ:Slots) (δ:Env) (μ:Mem) (Q:VK),Rel K ρ G H μ→EnvOk K ρ G σ δ →
 PostX K W μ.length ρ G H σ Q (f δ μ)→t σ H Q
structure PMX (X:Cx)(W:WX)(e:Expr)(te:TE)(f:XM):Prop where
 pe:PE X e te
 sd:SndX X.K W te f
def xOf (f:EM):XM:=fun δ μ=>(f δ μ).bind fun r μ'=>match newPl μ.length r μ' with
 | some (x,μ'')=>.ok x μ''
 | none=>.bad
section
variable {K:PySem.W.Frag}{W:WX}{N M:Nat}{ρ ρ1:Pm}{G H G1 H1 G0 H0:Hp}{σ:Slots}{δ:Env}{μ:Mem}{te:TE}{ta:TA}{f:EM}{fa:AM}{fx:XM}{Dn:Ends}
theorem up_of (R:Rel K ρ G H μ)(t:TrS μ.length ρ G H ρ1 G1 H1):∀ n b,ρ n=some b→ρ1 n=some b:=fun n b q=>(t.pre n (R.lt n b q)).trans q
abbrev XA:=Env→Mem→Res (List DV)
def SndXA (K:PySem.W.Frag)(W:WX)(t:TA)(f:XA):Prop:=∀ (ρ:Pm) (G H:Hp) (σ:Slots) (δ:Env) (μ:Mem) (Q:List V→Hp→Prop),Rel K ρ G H μ→EnvOk K ρ G σ δ →
 (match f δ μ with
  | .ok xs μ'=>∀ ρ' G' H' vs,TrS μ.length ρ G H ρ' G' H'→Rel K ρ' G' H' μ'→DvL K ρ' G' vs xs→Q vs H'
  | .exc x μ'=>∀ ρ' G' H' cls d,TrS μ.length ρ G H ρ' G' H'→Rel K ρ' G' H' μ'→XcOk K G' H' x cls d→W cls d σ H'
  | .bad=>False)→t σ H Q
def xaNil:XA:=fun _ μ=>.ok [] μ
def xaCons (f:XM)(g:XA):XA:=fun δ μ=>(f δ μ).bind fun x μ1=>if μ.length≤μ1.length then(g δ μ1).bind fun xs μ2=>.ok (x::xs) μ2 else .bad
def spX (K:PySem.W.Frag)(n:Nat)(F:List DV→Mem→Res DV):Sp:=fun vs H Q E=>vs.length=n∧∃ ρ G μ xs,Rel K ρ G H μ∧DvL K ρ G vs xs ∧
 PostX K (fun cls d _ H=>E cls d H) μ.length ρ G H [] Q (F xs μ)
def xCall (F:List DV→Mem→Res DV)(fa:AM):XM:=fun δ μ=>(fa δ μ).bind fun xs μ1=>if μ.length≤μ1.length then F xs μ1 else .bad
def xMeth (nm m:Str)(F:List DV→Mem→Res DV)(f:EM)(fa:AM):XM:=fun δ μ=>(frzV f δ μ).bind fun x μ1=>if isI nm m x μ1=true then(fa δ μ1).bind fun xs μ2=>if μ.length≤μ2.length then F (x::xs) μ2 else .bad else .bad
abbrev Fds:=List (Str×DV)
structure Hid (K:PySem.W.Frag)(ρ:Pm)(G H:Hp)(C x dx:Addr)(fs:Fds):Prop where
 vs:∃ vs:List (Str×V),H x=some (.ins C dx vs)∧vs.map (·.1)=fs.map (·.1)∧DvL K ρ G (vs.map (·.2)) (fs.map (·.2))
 own:H dx=some (.own x)
 nx:∀ n,ρ n≠some x
 nd:∀ n,ρ n≠some dx
 gx:G x=none
 gd:G dx=none
theorem Hid.ne {C x dx:Addr}{fs:Fds}(h:Hid K ρ G H C x dx fs):dx≠x:=fun e=>by
 obtain⟨vs,h1,_⟩:=h.vs
 have:=h.own
 rw[e,h1] at this;cases this
theorem Hid.step {C x dx:Addr}{fs:Fds}(h:Hid K ρ G H C x dx fs)(R:Rel K ρ G H μ)(t:TrS N ρ G H ρ1 G1 H1)(up:∀ n b,ρ n=some b→ρ1 n=some b):Hid K ρ1 G1 H1 C x dx fs:=by
 obtain⟨vs,h1,h2,h3⟩:=h.vs
 refine⟨⟨vs,t.keep _ _ h.nx h1,h2,DvL.mono t.exG up h3⟩,t.keep _ _ h.nd h.own,fun n q=>?_,fun n q=>?_,?_,?_⟩
 ·rcases t.nρ n x q with (z|⟨m,_,z⟩)|z
  ·exact h.nx n z
  ·exact h.nx m z
  ·rw[h1] at z;cases z
 ·rcases t.nρ n dx q with (z|⟨m,_,z⟩)|z
  ·exact h.nd n z
  ·exact h.nd m z
  ·rw[h.own] at z;cases z
 ·cases q:G1 x with
  | none=>rfl
  | some o =>
   rcases t.nG x (by rw[q];simp) with z|z|⟨m,_,z⟩
   ·exact absurd h.gx z
   ·rw[h1] at z;cases z
   ·exact absurd z (h.nx m)
 ·cases q:G1 dx with
  | none=>rfl
  | some o =>
   rcases t.nG dx (by rw[q];simp) with z|z|⟨m,_,z⟩
   ·exact absurd h.gd z
   ·rw[h.own] at z;cases z
   ·exact absurd z (h.nd m)
abbrev BM:=Env→Mem→Fds→Res Fds
structure Bld (K:PySem.W.Frag)(nm:Str)(i N:Nat)(ρ0:Pm)(G0 H0:Hp)(C x dx:Addr)(ρ:Pm)(G H:Hp)(σ:Slots)(δ:Env)(μ:Mem)(fs:Fds):Prop where
 hN:N≤μ.length
 t:TrS N ρ0 G0 H0 ρ G H
 zx:H0 x=none
 zd:H0 dx=none
 R:Rel K ρ G H μ
 E:EnvOk K ρ G σ δ
 di:δ[i]?=some none
 si:σ[i]?=some (some (.ref x))
 hid:Hid K ρ G H C x dx fs
 cl:Cls K C
 at_:ClsAt K nm C
def PostB (K:PySem.W.Frag)(W:WX)(nm:Str)(i N:Nat)(ρ0:Pm)(G0 H0:Hp)(C x dx:Addr)(σ:Slots)(δ:Env)(Q:Hp→Prop):Res Fds→Prop
 | .ok fs' μ'=>∀ ρ' G' H',Bld K nm i N ρ0 G0 H0 C x dx ρ' G' H' σ δ μ' fs'→Q H'
 | .exc e μ'=>∀ ρ' G' H' cls d,TrS N ρ0 G0 H0 ρ' G' H'→Rel K ρ' G' H' μ'→EnvOk K ρ' G' σ δ→XcOk K G' H' e cls d→W cls d σ H'
 | .bad=>False
def SndB (K:PySem.W.Frag)(W:WX)(nm:Str)(i:Nat)(ts:TS)(g:BM):Prop:=∀ (N:Nat) (ρ0:Pm) (G0 H0:Hp) (C x dx:Addr) (ρ:Pm) (G H:Hp) (σ:Slots) (δ:Env) (μ:Mem) (fs:Fds) (D:Ends),
 Bld K nm i N ρ0 G0 H0 C x dx ρ G H σ δ μ fs→PostB K W nm i N ρ0 G0 H0 C x dx σ δ (D.nx σ) (g δ μ fs)→ts D σ H
def bNil:BM:=fun _ μ fs=>.ok fs μ
def bSeq (g h:BM):BM:=fun δ μ fs=>(g δ μ fs).bind fun fs' μ'=>h δ μ' fs'
def bFld (m:Str)(f:EM):BM:=fun δ μ fs=>(xOf f δ μ).bind fun y μ1=>if μ.length≤μ1.length∧fs.length<1000 then .ok (putD m y fs) μ1 else .bad
def spB (K:PySem.W.Frag)(nm:Str)(n:Nat)(F:List DV→Mem→Res Fds):Sp:=fun vs H Q E=>vs.length=n∧∃ N ρ0 G0 H0 C x dx ρ G μ xs ws,vs=.ref x::ws ∧
 (N≤μ.length∧TrS N ρ0 G0 H0 ρ G H∧H0 x=none∧H0 dx=none∧Rel K ρ G H μ∧DvL K ρ G ws xs∧Hid K ρ G H C x dx []∧Cls K C∧ClsAt K nm C) ∧
 (match F xs μ with
 | .ok fs' μ'=>∀ ρ' G' H',TrS N ρ0 G0 H0 ρ' G' H'→Rel K ρ' G' H' μ'→N≤μ'.length→Hid K ρ' G' H' C x dx fs'→Q .non H'
 | .exc e μ'=>∀ ρ' G' H' cls d,TrS N ρ0 G0 H0 ρ' G' H'→Rel K ρ' G' H' μ'→XcOk K G' H' e cls d→E cls d H'
 | .bad=>False)
def xMake (nm:Str)(F:List DV→Mem→Res Fds)(fa:AM):XM:=fun δ μ=>(fa δ μ).bind fun xs μ1=>if μ.length≤μ1.length then(F xs μ1).bind fun fs μ2=>.ok (.loc (μ2.length+1)) (μ2++[.own]++[.ins nm fs]) else .bad
def SndBS (K:PySem.W.Frag)(W:WX)(nm:Str)(i:Nat)(ts:TS)(g:Fds→SM):Prop:=∀ (N:Nat) (ρ0:Pm) (G0 H0:Hp) (C x dx:Addr) (ρ:Pm) (G H:Hp) (σ:Slots) (δ:Env) (μ:Mem) (fs:Fds) (D:Ends),
 Bld K nm i N ρ0 G0 H0 C x dx ρ G H σ δ μ fs→PostS K W N ρ0 G0 H0 D (g fs N δ μ)→ts D σ H
def gPub (nm:Str)(i:Nat)(g:SM):Fds→SM:=fun fs N δ μ=>g N (δ.set i (some (.loc (μ.length+1)))) (μ++[.own]++[.ins nm fs])
def gBSeq (b:BM)(g:Fds→SM):Fds→SM:=fun fs N δ μ=>lift (b δ μ fs) δ fun fs' μ'=>g fs' N δ μ'
def gBld (i:Nat)(F:List DV→Mem→Res Fds)(fa:AM)(g:Fds→SM):SM:=fun N δ μ=>lift (fa δ μ) δ fun xs μ1=>if N≤μ1.length∧i<δ.length then lift (F xs μ1) δ fun fs μ2=>g fs N (δ.set i none) μ2 else .bad
end
structure PMXA (X:Cx)(W:WX)(es:List Expr)(ta:TA)(f:XA):Prop where
 pe:PA X es ta
 sd:SndXA X.K W ta f
def setsE:List Nat→List DV→Env→Env
 | i::is,x::xs,δ=>setsE is xs (δ.set i (some x))
 | _,_,δ=>δ
def gNames:List Nat→TGs
 | []=>gNil
 | i::is=>gCons (gName i) (gNames is)
section
variable {K:PySem.W.Frag}{W:WX}{N M:Nat}{ρ ρ1:Pm}{G H G1 H1 G0 H0:Hp}{σ:Slots}{δ:Env}{μ:Mem}{te:TE}{ta:TA}{f:EM}{fa:AM}{fx:XM}{fs:XA}{Dn:Ends}
theorem SndXA.stm (h:SndXA K W ta fs)(R:Rel K ρ G H μ)(E:EnvOk K ρ G σ δ)(hN:N≤μ.length){k:List DV→Mem→Out}(hp:PostS K W N ρ G H Dn (lift (fs δ μ) δ k)){Q:List V→Hp→Prop}
  (go:∀ xs μ' ρ' G' H' vs,TrS N ρ G H ρ' G' H'→Rel K ρ' G' H' μ'→EnvOk K ρ' G' σ δ→DvL K ρ' G' vs xs→PostS K W N ρ G H Dn (k xs μ')→Q vs H'):ta σ H Q:=by
 refine h ρ G H σ δ μ Q R E ?_
 cases e:fs δ μ with
 | bad=>rw[e] at hp;exact hp
 | exc x μ'=>rw[e] at hp;exact fun ρ' G' H' cls d t R' q=>hp ρ' G' H' σ cls d (t.low hN) R' (E.up t.exG (up_of R t)) q
 | ok xs μ'=>rw[e] at hp;exact fun ρ' G' H' vs t R' q=>go xs μ' ρ' G' H' vs (t.low hN) R' (E.up t.exG (up_of R t)) q hp
theorem names_ok:∀ {is:List Nat} {xs:List DV} {vs:List V} {σ:Slots} {δ:Env} {Q:Slots→Hp→Prop},EnvOk K ρ G σ δ→DvL K ρ G vs xs→xs.length=is.length→(∀ σ',EnvOk K ρ G σ' (setsE is xs δ)→Q σ' H)→gNames is vs σ H Q
 | [],[],_,σ,δ,Q,E,.nil,_,h=>⟨rfl,h σ E⟩
 | i::is,x::xs,_,σ,δ,Q,E,.cons a b,e,h=>by
  refine⟨_,_,rfl,?_⟩
  show gNames is _ _ H Q
  exact names_ok (E.set i a) b (by simpa using e) h
end
structure FnDX (P:Program)(w:World)(K:PySem.W.Frag)(mg:Str→Option Value)(base:Heap)(cx:CXT)(k:Nat)(x:Str)(n:Nat)(F:List DV→Mem→Res DV):Prop where
 ar:∀ xs μ,F xs μ≠.bad→xs.length=n
 ex:∃ (f:Addr) (fd:FuncData) (ps:List Str),ps.length=n∧FnG P w K mg base cx k f fd ps (spX K n F)∧mg x=some (.ref f)∧PySem.W.keepIn K (.ref f)=true∧Binds K fd ps []
structure MthDX (P:Program)(w:World)(K:PySem.W.Frag)(mg:Str→Option Value)(base:Heap)(cx:CXT)(k:Nat)(nm m:Str)(n:Nat)(F:List DV→Mem→Res DV):Prop where
 ar:∀ xs μ,F xs μ≠.bad→xs.length=n
 ex:∃ (C f:Addr) (fd:FuncData) (ps:List Str),ps.length=n∧ClsAt K nm C∧FnG P w K mg base cx k f fd ps (spX K n F)∧Cls K C∧Meth K C m f∧Binds K fd ps []
structure MakDB (P:Program)(w:World)(K:PySem.W.Frag)(mg:Str→Option Value)(base:Heap)(cx:CXT)(k:Nat)(nm:Str)(n:Nat)(F:List DV→Mem→Res Fds):Prop where
 ar:∀ xs μ,F xs μ≠.bad→xs.length+1=n
 ex:∃ (C f:Addr) (fd:FuncData) (ps:List Str),ps.length=n∧ClsAt K nm C∧Cls K C∧mg nm=some (.ref C)∧FnG P w K mg base cx k f fd ps (spB K nm n F)∧Mk K C f∧Binds K fd ps []
structure PMB (X:Cx)(W:WX)(nm:Str)(i:Nat)(ss:List Stmt)(ts:TS)(g:BM):Prop where
 ps:PSs X ss ts
 sd:SndB X.K W nm i ts g
structure PMBS (X:Cx)(W:WX)(nm:Str)(i:Nat)(ss:List Stmt)(ts:TS)(g:Fds→SM):Prop where
 ps:PSs X ss ts
 sd:SndBS X.K W nm i ts g
section
variable {X:Cx}{W:WX}{P:Program}{w:World}{K:PySem.W.Frag}{mg:Str→Option Value}{base:Heap}{cx:CXT}{k n:Nat}{nm m x:Str}{F:List DV→Mem→Res DV}{FB:List DV→Mem→Res Fds}{e o:Expr}{es:List Expr}{tA:TA}{fA:AM}{xA:XA}{to te:TE}{fo fe f:EM}{fx:XM}{p pos apos:Pos}{t u:TS}{ss:List Stmt}{st:Stmt}
end
section
variable {K:PySem.W.Frag}{W:WX}{N:Nat}{ρ ρ1:Pm}{G H G1 H1 G0 H0:Hp}{σ:Slots}{δ:Env}{μ:Mem}{n c:Nat}{a:Addr}{nm m:Str}{fs:Fds}{d:D}{o':HO}
end
section
variable {X:Cx}{W:WX}{ss:List Stmt}{t:TS}{g:SM}
end
def ddrop {α:Type}(kvs:List (Ky×α))(k:Ky):List (Ky×α):=kvs.filter fun p=>decide (p.1≠k)
def dPopK (x y:DV)(z:Option DV)(μ:Mem):Res R:=match x with
 | .dat _=>.bad
 | .loc n=>match μ[n]?,keyD y with
  | some (.dct kvs),some k=>if allK kvs=true then match dval kvs (.k k) with
    | some v=>.ok (ofV v) (μ.set n (.dct (ddrop kvs (.k k))))
    | none=>match z with
     | some w=>.ok (ofV w) μ
     | none=>.bad
   else .bad
  | _,_=>.bad
def eDPop1 (fd fy:EM):EM:=fun δ μ=>(frzV fd δ μ).bind fun x μ1=>if isDct x μ1=true then(frzV fy δ μ1).bind fun y μ2=>dPopK x y none μ2 else .bad
def eDPop2 (fd fy fz:EM):EM:=fun δ μ=>(frzV fd δ μ).bind fun x μ1=>if isDct x μ1=true then(frzV fy δ μ1).bind fun y μ2=>(frzV fz δ μ2).bind fun z μ3=>dPopK x y (some z) μ3 else .bad
section
variable {K:PySem.W.Frag}{W:WX}{N:Nat}{ρ:Pm}{G H:Hp}{σ:Slots}{δ:Env}{μ:Mem}{td ty tz te to ti:TE}{fd fy fz fe fo fi:EM}{Q:VK}
def gDAug (fo fi fe:EM):SM:=fun _ δ μ=>lift ((frzV fo δ μ).bind fun x μ1=>(frzV fi δ μ1).bind fun i μ2=>(dGet x i μ2).bind fun r μ3=>(frzV fe δ μ3).bind fun y μ4=>match r,y with
 | .dat (.int a),.dat (.int b)=>match setDct μ4 x i (.dat (.int (a+b))) with
  | some μ5=>.ok () μ5
  | none=>.bad
 | _,_=>.bad) δ fun _ μ5=>.next δ μ5
def fldI (nms:List Str)(m:Str)(x:DV)(μ:Mem):Option Int:=match insAt μ x with
 | some (nm,fs)=>if nm∈nms then match fs.lookup m with
   | some (.dat (.int a))=>some a
   | _=>none
  else none
 | none=>none
def gFldAug (nms:List Str)(m:Str)(fo fe:EM):SM:=fun _ δ μ=>lift ((frzV fo δ μ).bind fun x μ1=>match fldI nms m x μ1 with
 | some a=>(frzV fe δ μ1).bind fun y μ2=>match y with
  | .dat (.int b)=>if(insAt μ2 x).map (·.1)=(insAt μ1 x).map (·.1) then match setFld nms μ2 x m (.dat (.int (a+b))) with
   | some μ3=>.ok () μ3
   | none=>.bad
   else .bad
  | _=>.bad
 | none=>.bad) δ fun _ μ3=>.next δ μ3
end
end DL
set_option maxHeartbeats 1000000
namespace DL
open PySem PySem.Spec PyProof.Rows L2 StX
section
variable {K:PySem.W.Frag}{W:WX}{N:Nat}{ρ:Pm}{G H:Hp}{σ:Slots}{δ:Env}{μ:Mem}{td ty tz te to ti:TE}{fd fy fz fe fo fi:EM}{Q:VK}{ts:TA}{g:AM}
def seqOf:DV→Option (List D)
 | .dat (.tup ds)=>some ds
 | .dat (.lst ds)=>some ds
 | _=>none
def aStar (f:EM)(g:AM):AM:=fun δ μ=>(frzV f δ μ).bind fun x μ1=>match seqOf x with
 | some ds=>(g δ μ1).bind fun xs μ2=>.ok (ds.map DV.dat++xs) μ2
 | none=>.bad
abbrev TGM:=DV→Env→Mem→Res Env
def hName (i:Nat):TGM:=fun x δ μ=>.ok (δ.set i (some x)) μ
def hFld (nms:List Str)(m:Str)(fo:EM):TGM:=fun y δ μ=>(frzV fo δ μ).bind fun x μ1=>match setFld nms μ1 x m y with
 | some μ2=>.ok δ μ2
 | none=>.bad
def hDPut (fo fi:EM):TGM:=fun y δ μ=>(frzV fo δ μ).bind fun x μ1=>(frzV fi δ μ1).bind fun i μ2=>match setDct μ2 x i y with
 | some μ3=>.ok δ μ3
 | none=>.bad
def hNil:List DV→Env→Mem→Res Env:=fun xs δ μ=>match xs with
 | []=>.ok δ μ
 | _=>.bad
def hCons (h:TGM)(r:List DV→Env→Mem→Res Env):List DV→Env→Mem→Res Env:=fun xs δ μ=>match xs with
 | x::xs=>(h x δ μ).bind fun δ1 μ1=>r xs δ1 μ1
 | []=>.bad
def TgMs (K:PySem.W.Frag)(g:TGs)(h:List DV→Env→Mem→Res Env):Prop:=∀ (ρ:Pm) (G H:Hp) (μ:Mem) (σ:Slots) (δ δ':Env) (μ':Mem) (vs:List V) (xs:List DV) (Q:Slots→Hp→Prop),Rel K ρ G H μ→EnvOk K ρ G σ δ→DvL K ρ G vs xs →
 h xs δ μ=.ok δ' μ'→(∀ G' H' σ',Tr ρ G H G' H'→Rel K ρ G' H' μ'→EnvOk K ρ G' σ' δ'→Q σ' H')→g vs σ H Q
def gTgtM (n:Nat)(h:List DV→Env→Mem→Res Env)(f:EM):SM:=fun _ δ μ=>lift (frzV f δ μ) δ fun x μ1=>match x with
 | .dat (.tup ds)=>if ds.length=n then match h (ds.map DV.dat) δ μ1 with
   | .ok δ' μ'=>.next δ' μ'
   | _=>.bad
  else .bad
 | _=>.bad
end
section
variable {X:Cx}{W:WX}{pos p tpos apos cpos:Pos}{e o i:Expr}{te to ti:TE}{f fo fi:EM}{tA:TA}{fA:AM}{es:List Expr}{m:Str}
end
structure PMHs (X:Cx)(es:List Expr)(g:TGs)(h:List DV→Env→Mem→Res Env):Prop where
 pg:PGs X es g
 ok:TgMs X.K g h
section
variable {X:Cx}{W:WX}{pos p tpos apos cpos:Pos}{e o i:Expr}{te to ti:TE}{f fo fi:EM}{es:List Expr}{m x:Str}{g:TGs}{h:List DV→Env→Mem→Res Env}
end
end DL
set_option maxHeartbeats 1000000
namespace DL
open PySem PySem.Spec PyProof.Rows L2 StX
section
variable {P:Program}{w:World}{K:PySem.W.Frag}{mg:Str→Option Value}{base:Heap}
end
section
variable {X:Cx}{W:WX}{P:Program}{w:World}{K:PySem.W.Frag}{mg:Str→Option Value}{base:Heap}{cx:CXT}{k n:Nat}{nm m x:Str}{FB:List DV→Mem→Res Fds}{e o:Expr}{es:List Expr}{tA:TA}{fA:AM}{to te:TE}{fo fe f:EM}{p pos pos2 apos:Pos}{t u:TS}{ss:List Stmt}{st:Stmt}{g:Fds→SM}
end
structure PrpD (P:Program)(w:World)(K:PySem.W.Frag)(mg:Str→Option Value)(base:Heap)(k:Nat)(nm f m:Str):Prop where
 ex:∃ (C p g:Addr) (fd:FuncData) (ps:List Str),ClsAt K nm C∧Cls K C∧PropOf K C f p g∧FnOk P w K mg base CX0 k g fd ps (getSp C m)∧Binds K fd ps []
section
variable {X:Cx}{W:WX}{P:Program}{w:World}{K:PySem.W.Frag}{mg:Str→Option Value}{base:Heap}{k:Nat}{nm f m:Str}{o:Expr}{to:TE}{fo:EM}{pos:Pos}
end
end DL
set_option maxHeartbeats 1000000
namespace DL
open PySem PySem.Spec PyProof.Rows L2 StX
section
variable {K:PySem.W.Frag}{W:WX}{N n:Nat}{ρ:Pm}{G H:Hp}{σ:Slots}{δ:Env}{μ:Mem}
end
end DL
namespace DL
open PySem PySem.Spec PyProof.Rows L2
def keyAt (e:Int×Value):Key:=match e.2 with
 | .int k _=>.inl k
 | .str x _=>.inr x
 | _=>.inl 0
def Good (w:World)(e:Int×Value):Prop:=keyIs (keyAt e) e.2=true∧e.1=keyH w (keyAt e)
theorem good_of (w:World){k:Key}{v:Value}(h:keyIs k v=true):Good w (keyH w k,v)∧keyAt (keyH w k,v)=k:=by
 rcases keyIs_shape h with⟨i,t,rfl,rfl⟩|⟨x,t,rfl,rfl⟩
 ·exact⟨⟨keyIs_int i t,rfl⟩,rfl⟩
 ·exact⟨⟨keyIs_str x t,rfl⟩,rfl⟩
theorem key_scan {k:Key}{v:Value}(h:keyIs k v=true):v.scannable=true:=by
 rcases keyIs_shape h with⟨i,t,rfl,rfl⟩|⟨x,t,rfl,rfl⟩ <;> rfl
theorem key_one {k j:Key}{v:Value}(h:keyIs k v=true):keyIs j v=true↔k=j:=by
 rcases keyIs_shape h with⟨i,t,rfl,rfl⟩|⟨x,t,rfl,rfl⟩
 ·constructor
  ·intro q
   rcases keyIs_shape q with⟨i',t',rfl,e⟩|⟨y,u,_,e⟩
   ·cases e;rfl
   ·cases e
  ·rintro rfl;exact h
 ·constructor
  ·intro q
   rcases keyIs_shape q with⟨i',t',_,e⟩|⟨y,u,rfl,e⟩
   ·cases e
   ·cases e;rfl
  ·rintro rfl;exact h
structure SetW (w:World)(h:Heap)(a:Addr)(S:Key→Bool)(n:Nat)(o:Obj)(es:Array (Int×Value))(ep:Nat)(t:SetTable):Prop where
 ob:h.get? a=some o
 ex:o.ExactSet
 da:o.data=.set es ep t
 gd:∀ e∈es.toList,Good w e
 nd:(es.toList.map keyAt).Nodup
 mb:∀ k,S k=true↔k∈es.toList.map keyAt
 bd:es.size<scanBound
 ft:t.fits es.size=true
 sz:es.size=n
 rs:Ris t.place.toList
 ld:w.params.followText "set-order"=true∨t.led=true
def SetX (w:World)(h:Heap)(a:Addr)(S:Key→Bool)(n:Nat):Prop:=∃ o es ep t,SetW w h a S n o es ep t
section
variable {P:Program}{w:World}{A:Around}{E:Value→Shared→Prop}{s:Shared}{a:Addr}{S:Key→Bool}{n:Nat}{h h':Heap}
theorem SetX.at (R:SetX w h a S n)(k:∀ o,h.get? a=some o→h'.get? a=some o):SetX w h' a S n:=by
 obtain⟨o,es,ep,t,r⟩:=R
 exact⟨o,es,ep,t,⟨k o r.ob,r.ex,r.da,r.gd,r.nd,r.mb,r.bd,r.ft,r.sz,r.rs,r.ld⟩⟩
theorem SetX.congr {S':Key→Bool}(R:SetX w h a S n)(e:∀ k,S' k=S k):SetX w h a S' n:=by
 rw[show S'=S from funext e];exact R
theorem SetW.elems {o:Obj}{es:Array (Int×Value)}{ep:Nat}{t:SetTable}(r:SetW w h a S n o es ep t):ElemsOf (mixKind P w) es.toList:=fun e he =>
 ⟨⟨keyAt e,(r.gd e he).1,(r.gd e he).2⟩,key_scan (r.gd e he).1⟩
theorem mem_keys {es:List (Int×Value)}(g:∀ e∈es,Good w e)(k:Key):k∈es.map keyAt↔∃ e∈es,(mixKind P w).is k e.2=true:=by
 rw[List.mem_map]
 constructor
 ·rintro ⟨e,he,q⟩;exact⟨e,he,(key_one (g e he).1).2 q⟩
 ·rintro ⟨e,he,q⟩;exact⟨e,he,(key_one (g e he).1).1 q⟩
theorem set_put {g:Bool→Sem Unit}(hg:∀ (b:Bool) (s₁:Shared) (Q':Unit→Shared→Prop),Q' () s₁→wpAny (model P w) A (g b) Q' E s₁){o:Obj}{es es1:Array (Int×Value)}{ep:Nat}{t t2:SetTable}{S':Key→Bool}
  (ho:s.heap.get? a=some o) (hex:o.ExactSet) (hd:o.data=.set es ep t) (g1:∀ e∈es1.toList,Good w e) (nd1:(es1.toList.map keyAt).Nodup) (m1:∀ k,S' k=true↔k∈es1.toList.map keyAt)
  (hb1:es1.size<scanBound) (hf2:t2.fits es1.size=true) (hr:Ris t2.place.toList) (hl:w.params.followText "set-order"=true∨t2.led=true) {wd:Bool} {R:Option Bool→Shared→Prop}
  (hR:∀ h',Heap.SameBut a s.heap h'→SetX w h' a S' es1.size→R (some true) { s with heap:=h' }) :
  wpAny (model P w) A (do
    storeSet a es1 t2
    if(!wd&&t2.tooFull)=true then do
      g (relayAll t2 es1 (SetTable.grown es1.size)).2.2
      storeSet a (relayAll t2 es1 (SetTable.grown es1.size)).1 (relayAll t2 es1 (SetTable.grown es1.size)).2.1
      pure (some true)
     else pure (some true)) R E s:=by
 refine wpAny_bind (wpAny_storeSet_of ho hd ?_ (fits_of_scanBound hb1))
 have ho1:=store_at (es':=es1) (t':=t2) ho hd
 have sb1:=Heap.SameBut.update s.heap a (Obj.putSet es1 t2)
 split
 ·have pm:=relayAll_perm t2 es1 (SetTable.grown es1.size)
  have f3:=relayAll_fits t2 es1 (SetTable.grown es1.size)
  have r3:=relayAll_ris t2 es1 (SetTable.grown es1.size)
  have l3:=relayAll_led t2 es1 (SetTable.grown es1.size)
  generalize relayAll t2 es1 (SetTable.grown es1.size)=Z at pm f3 r3 l3 ⊢
  obtain⟨es2,t3,gave⟩:=Z
  dsimp only at pm f3 r3 l3 ⊢
  have hsz:es2.size=es1.size:=by rw[←Array.length_toList,pm.length_eq,Array.length_toList]
  have hb2:es2.size<scanBound:=hsz▸hb1
  refine wpAny_bind (hg _ _ _ (wpAny_bind (wpAny_storeSet_of ho1 rfl ?_ (fits_of_scanBound hb2))))
  have pk:=pm.map keyAt
  exact wpAny_pure (hR _ (sb1.trans (Heap.SameBut.update _ a _)) ⟨_,es2,_,t3,⟨store_at (es':=es2) (t':=t3) ho1 rfl,hex,rfl,fun e he=>g1 e (pm.mem_iff.mp he),pk.nodup_iff.mpr nd1,fun k=>(m1 k).trans pk.mem_iff.symm,hb2,f3,hsz,r3,hl.imp id fun z=>l3.trans z⟩⟩)
 ·exact wpAny_pure (hR _ sb1 ⟨_,es1,_,t2,⟨ho1,hex,rfl,g1,nd1,m1,hb1,hf2,rfl,hr,hl⟩⟩)
theorem set_add {k:Key}{v:Value}{Q:Bool→Shared→Prop}(hk:keyIs k v=true)(R:SetX w s.heap a S n)(room:n+1<scanBound)
  (hQ:∀ h',Heap.SameBut a s.heap h'→SetX w h' a (fun j=>S j||decide (j=k)) (if S k=true then n else n+1)→Q (!S k) { s with heap:=h' }) :
  wpAny (model P w) A (setAddHashed a v (keyH w k)) Q E s:=by
 obtain⟨o,es,ep,t,r⟩:=R
 have hsc:=key_scan hk
 have hel:ElemsOf (mixKind P w) es.toList:=r.elems
 have hkm:(mixKind P w).is k v=true:=hk
 unfold setAddHashed setAddHashedIn
 refine wpAny_holding (wpAny_bind (wpAny_setState_of r.ob r.da r.ft ?_))
 dsimp only
 rw[byScan_of hsc r.bd hel]
 simp only[↓reduceIte]
 unfold setAddByScan
 refine wpAny_bind (wpAny_bind (wpAny_rule (wpAny_bind (wpAny_setScan_of (knd:=mixKind P w) hkm r.ob r.da r.ft hel ?_))))
 cases hfi:List.findIdx? (fun e=>(mixKind P w).is k e.2) es.toList with
 | some j =>
  dsimp only
  obtain⟨hj,pj,_⟩:=List.findIdx?_eq_some_iff_getElem.mp hfi
  have hSk:S k=true:=(r.mb k).2 ((mem_keys (P:=P) r.gd k).2 ⟨es.toList[j],List.getElem_mem hj,pj⟩)
  have q:=hQ s.heap (Heap.SameBut.refl a s.heap) ⟨o,es,ep,t,⟨r.ob,r.ex,r.da,r.gd,r.nd,fun i=>by
   rw[Bool.or_eq_true,decide_eq_true_eq,←r.mb i]
   exact⟨fun z=>z.elim id (fun e=>e▸hSk),.inl⟩,r.bd,r.ft,by rw[if_pos hSk];exact r.sz,r.rs,r.ld⟩⟩
  rw[hSk] at q
  exact wpAny_pure (wpAny_pure q)
 | none =>
  dsimp only
  have hnk:k∉es.toList.map keyAt:=fun z=>by
   obtain⟨e,he,q⟩:=(mem_keys (P:=P) r.gd k).1 z
   have c:=List.findIdx?_eq_none_iff.mp hfi e he
   rw[q] at c;cases c
  have hSk:S k=false:=by
   cases q:S k with
   | false=>rfl
   | true=>exact absurd ((r.mb k).1 q) hnk
  have pm:=layNew_perm t es (keyH w k) v
  have f1:=layNew_fits t es (keyH w k) v
  have r1:=layNew_ris t es (keyH w k) v r.rs
  have l1:=layNew_led t es (keyH w k) v
  show wpAny (model P w) A _ _ E s
  have eH:(mixKind P w).hash k=keyH w k:=rfl
  try rw[eH]
  generalize layNew t es (keyH w k) v=Z at pm f1 r1 l1 ⊢
  obtain⟨es1,t1,wd,gave⟩:=Z
  dsimp only at pm f1 r1 l1 ⊢
  rw[Array.toList_push] at pm
  have pc:es1.toList.Perm ((keyH w k,v)::es.toList):=pm.trans (List.perm_append_singleton _ _)
  have pk:(es1.toList.map keyAt).Perm (k::es.toList.map keyAt):=by
   have q:=pc.map keyAt
   rw[List.map_cons,(good_of w hk).2] at q
   exact q
  have g1:∀ e∈es1.toList,Good w e:=fun e he=>(List.mem_cons.mp (pc.mem_iff.mp he)).elim (fun z=>z▸(good_of w hk).1) (r.gd e)
  have nd1:(es1.toList.map keyAt).Nodup:=pk.nodup_iff.mpr (List.nodup_cons.mpr ⟨hnk,r.nd⟩)
  have m1:∀ i,(S i||decide (i=k))=true↔i∈es1.toList.map keyAt:=fun i=>by
   rw[Bool.or_eq_true,decide_eq_true_eq,r.mb i,pk.mem_iff,List.mem_cons]
   exact Or.comm
  have hsz:es1.size=n+1:=by rw[←Array.length_toList,pc.length_eq,List.length_cons,Array.length_toList,r.sz]
  have hb1:es1.size<scanBound:=hsz▸room
  have hled:w.params.followText "set-order"=true∨t1.led=true:=r.ld.imp id fun z=>l1.trans z
  have fin:∀ h',Heap.SameBut a s.heap h'→SetX w h' a (fun j=>S j||decide (j=k)) es1.size→Q true { s with heap:=h' }:=fun h' sb x=>by
   have q:=hQ h' sb
   rw[hSk] at q
   exact q (hsz▸x)
  have gw:∀ (b:Bool) {s₁:Shared} {Q':Unit→Shared→Prop},Q' () s₁→wpAny (model P w) A (match b with|true=>rule "set.scan.the-table-gave-way" | false=>pure ()) Q' E s₁:=fun b s₁ Q' q=>by
   cases b
   ·exact wpAny_pure q
   ·exact wpAny_rule q
  refine wpAny_bind (gw _ ?_)
  split
  ·refine wpAny_bind ?_
   rw[hashByValue_scannable 8 hsc]
   refine wpAny_pure (set_put ?_ r.ob r.ex r.da g1 nd1 m1 hb1 ?_ ?_ ?_ ?_)
   ·intro b s₁ Q' q
    cases b <;> first|exact wpAny_pure q|exact wpAny_rule q
   ·first|(split <;> first|exact f1|exact SetTable.fits_plain_off f1)|exact f1
   ·first|(split <;> exact r1)|exact r1
   ·first|(split <;> exact hled)|exact hled
   ·intro h' sb x;dsimp only;exact wpAny_pure (fin h' sb x)
  ·refine wpAny_bind (wpAny_pure ?_)
   simp only[↓reduceIte]
   refine set_put ?_ r.ob r.ex r.da g1 nd1 m1 hb1 f1 r1 hled ?_
   ·intro b s₁ Q' q
    cases b <;> first|exact wpAny_pure q|exact wpAny_rule q
   ·intro h' sb x;dsimp only;exact wpAny_pure (fin h' sb x)
end
def kIn (ks:List Key)(j:Key):Bool:=ks.any fun k=>decide (j=k)
theorem kIn_iff {ks:List Key}{j:Key}:kIn ks j=true↔j∈ks:=by
 unfold kIn
 rw[List.any_eq_true]
 exact⟨fun⟨k,h,e⟩=>of_decide_eq_true e▸h,fun h=>⟨j,h,decide_eq_true rfl⟩⟩
abbrev KeysAre:List Value→List Key→Prop:=Paired fun v k=>keyIs k v=true
section
variable {P:Program}{w:World}{A:Around}{E:Value→Shared→Prop}{s:Shared}
theorem setX_fresh {h:Heap}{a:Addr}{ks:List Key}(ho:h.get? a=some { cls:=.type "set",dict:=none,data:=.set #[] 0 (.fresh 0 0 (!w.params.followText "set-order")) }):SetX w h a (kIn (ks.take 0)) 0 :=
 ⟨_,#[],0,_,⟨ho,⟨rfl,rfl,rfl⟩,rfl,(fun e he=>by simp at he),(by simp),(fun k=>by simp[kIn]),(by decide),(by rfl),rfl,List.Pairwise.nil,by
  show _∨(!w.params.followText "set-order")=true
  cases w.params.followText "set-order"
  ·exact .inr rfl
  ·exact .inl rfl⟩⟩
theorem key_hash {k:Key}{v:Value}{Q:Int→Shared→Prop}(h:keyIs k v=true)(q:Q (keyH w k) { s with toks:=s.toks+1 }):wpAny (model P w) A (pyHash v) Q E s:=(mixKind P w).pyHash (k:=k) h q
theorem set_update_keys {I:Addr}{fp wr:List Addr}{G:Array GenState→Array GenState→Prop}{n:Nat}{Pv:Nat→Value→Prop}{St:Nat→Shared→Prop}{R:Result→Shared→Prop}
  (W:WalksS P w A.in1 I fp wr G n Pv St) (S:Addr) (hSf:S∉fp) (ks:List Key) (hn:n=ks.length) (hb:ks.length+1<scanBound) (hval:∀ i v,Pv i v→∃ k,ks[i]?=some k∧keyIs k v=true) :
  ∀ (m i:Nat) (s:Shared),n-i=m→i≤n→St i s→(∃ c,c≤i∧SetX w s.heap S (kIn (ks.take i)) c) →
   (∀ s' c,Moved (S::wr) G s s'→c≤n→SetX w s'.heap S (kIn ks) c→R (.ok (.ret .none)) s') →
   codeAny (model P w) A (.builtin "set.update.loop" ⟨[.ref S,.ref I],[]⟩) R s:=by
 have hSw:S∉wr:=fun h=>hSf (W.sub _ h)
 have hsub:∀ b∈wr,b∈S::wr:=fun b hb=>List.mem_cons_of_mem _ hb
 intro m
 induction m with
 | zero =>
  rintro i s hk' hi hst ⟨c,hc,hS⟩ hR
  obtain rfl:i=n:=by omega
  refine codeAny_builtin PyProof.Rows.F.entry_set_update_loop ?_
  rw[Around.under_plainId PyProof.Rows.F.plain_set_update_loop _]
  show wpAny _ A.in1 (pyNext (.ref I) >>= _) _ _ s
  refine wpAny_bind (W.done s _ _ hst fun s' hm=>?_)
  show wpAny _ A.in1 (ret Value.none) _ _ s'
  rw[List.take_of_length_le (by omega)] at hS
  exact wpAny_pure (hR s' c (hm.mono hsub) hc (hS.at fun o e=>hm.heap S o hSw e))
 | succ m ih =>
  rintro i s hk' hi hst ⟨c,hc,hS⟩ hR
  have hlt:i<n:=by omega
  refine codeAny_builtin PyProof.Rows.F.entry_set_update_loop ?_
  rw[Around.under_plainId PyProof.Rows.F.plain_set_update_loop _]
  show wpAny _ A.in1 (pyNext (.ref I) >>= _) _ _ s
  refine wpAny_bind (W.item i s _ _ hlt hst fun v s' hP hst' hm=>?_)
  obtain⟨z,hz,hkz⟩:=hval i v hP
  have hS':SetX w s'.heap S (kIn (ks.take i)) c:=hS.at fun o e=>hm.heap S o hSw e
  show wpAny _ A.in1 (holding [v] (setAdd S v) >>= _) _ _ s'
  refine wpAny_bind (wpAny_holding ?_)
  unfold setAdd
  refine wpAny_holding (wpAny_bind (key_hash hkz ?_))
  refine set_add (s:={ s' with toks:=s'.toks+1 }) hkz hS' (by omega) fun h' hsb hS2=>?_
  have hS3:SetX w h' S (kIn (ks.take (i+1))) (if kIn (ks.take i) z=true then c else c+1):=hS2.congr fun j=>by
   unfold kIn
   rw[List.take_add_one,hz,List.any_append]
   simp
  have hc3:(if kIn (ks.take i) z=true then c else c+1)≤i+1:=by split <;> omega
  refine wpAny_pure ⟨plainId_quiet PyProof.Rows.F.plain_set_update_loop _,ih (i+1) _ (by omega) hlt (W.frame _ s' _ _ hst' (Nat.le_succ _) fun b hb o e=>?_) ⟨_,hc3,hS3⟩ fun s'' c2 hm'' hc'' hS''=>?_⟩
  ·rw[hsb.2 b (fun h:b=S=>hSf (h▸hb))];exact e
  ·refine hR s'' c2 (Moved.trans W.gtrans ((hm.mono hsub).then_heap (Nat.le_succ _) fun b o hb e=>?_) hm'') hc'' hS''
   rw[hsb.2 b (fun h:b=S=>hb (by rw[h];exact List.mem_cons_self))];exact e
theorem keys_get:∀ {vs:List Value} {ks:List Key} {i:Nat} {v:Value},KeysAre vs ks→vs[i]?=some v→∃ k,ks[i]?=some k∧keyIs k v=true
 | _,_,_,_,.nil,h=>by simp at h
 | _,_,0,_,.cons a _,h=>by cases h;exact⟨_,rfl,a⟩
 | _,_,i+1,_,.cons _ b,h=>keys_get (i:=i) b h
set_option maxHeartbeats 3200000 in
theorem call_set_tup {l:Addr}{items:Array Value}(ks:List Key){Q:Value→Shared→Prop}(hh:A.handled=none)(hl:s.heap.IsTuple l items)(hit:KeysAre items.toList ks)(hb:ks.length+1<scanBound)
  (h:∀ (h':Heap) (tk c:Nat),SetX w h' s.heap.objs.size (kIn ks) c→(∀ b o,s.heap.get? b=some o→h'.get? b=some o)→Q (.ref s.heap.objs.size) { s with heap:=h',toks:=tk }) :
  wpAny (model P w) A (call (.type "set") [.ref l]) Q E s:=by
 have hisz:items.size=ks.length:=by rw[←paired_len hit,Array.length_toList]
 obtain⟨c,tl,hmro⟩:=F.called_set.mro
 have hmade:=F.called_set.made
 have hsub:=F.called_set.sub
 refine wpAny_call (codeAny_of_tree ?_)
 show wpAny _ _ (callAny (.type "set") _) _ _ _
 refine wpAny_pure ⟨Code.quiet_builtin _ (by decide +kernel),codeAny_builtin F.entry_type_call ?_⟩
 rw[Around.under_plain (weight_type_call_type "set" [.ref l] []) rfl]
 have h1:=F.called_set.notType
 have h2:=F.called_set.canCreate
 have hct:=F.typeCall_set_1 (.ref l)
 repeat (any_goals (first|assumption|wp_step))
 let so:Obj:={ cls:=.type "set",dict:=none,data:=.set #[] 0 (.fresh 0 0 (!w.params.followText "set-order")) }
 refine codeAny_mono (code_set_led1 (.ref l) (E:=E) (Q₁:=fun obj s₁=>obj=.ref s.heap.objs.size∧s₁={ s with heap:=s.heap.push so }) ⟨rfl,rfl⟩) fun r s₁ hr=>?_
 match r,hr with
 | .error e,hr=>exact hr
 | .ok .next,hr=>exact hr.elim
 | .ok .brk,hr=>exact hr.elim
 | .ok .cont,hr=>exact hr.elim
 | .ok (.ret obj),hr =>
  obtain⟨rfl,rfl⟩:=hr
  have hS:(s.heap.push so).get? s.heap.objs.size=some so:=Heap.get?_push_size _ rfl
  have hT:Shared.TypeIs { s with heap:=s.heap.push so } (.ref s.heap.objs.size) "set":=⟨_,hS,rfl⟩
  have hli:=F.called_set.init.lookup
  have hbi:=F.called_set.init.bind (.ref s.heap.objs.size)
  repeat (any_goals (first|assumption|wp_step))
  refine codeAny_mono (codeAny_call_builtin (R:=wants (fun r s₂=>r=.none∧∃ h' tk c,s₂={ s with heap:=h',toks:=tk }∧SetX w h' s.heap.objs.size (kIn ks) c ∧
    (∀ b o,s.heap.get? b=some o→h'.get? b=some o)) E) F.called_set.init.plain F.entry_set_init (check_set_init_1 hT ?_)) fun r₂ s₂ hr₂=>?_
  ·obtain⟨⟨ocls,odict,odata,oslots⟩,hol,hcl,nl,hdl⟩:=hl
   obtain rfl:ocls=.type "tuple":=hcl
   obtain rfl:odata=.seq items nl:=hdl
   have hol':(s.heap.push so).get? l=some { cls:=.type "tuple",dict:=odict,data:=.seq items nl,slots:=oslots }:=Heap.get?_push_of_some _ hol
   have hsls:=F.sub_tuple_set
   have hslf:=F.sub_tuple_frozenset
   have hne:(Value.type "tuple"==Value.type "dict")=false:=by decide
   have hl1:(s.heap.push so).IsTuple l items:=⟨_,hol',rfl,nl,rfl⟩
   unfold Builtin.«set.__init__» noKeywords Builtin.Frozenset.updateFrom
   generalize hPI:pyIter=PI
   wp_walk
   subst hPI
   refine wpAny_pyIter_tuple hl1 (wpAny_bind (wpAny_runValue ?_))
   have hlS:l<s.heap.objs.size:=Heap.lt_size hol
   have hh3:A.in1.in1.in1.handled=none:=by simp[hh]
   have hz1:(s.heap.push so).objs.size=s.heap.objs.size+1:=Heap.size_push ..
   have hneI:l≠(s.heap.push so).objs.size:=by rw[hz1];exact Nat.ne_of_lt (Nat.lt_succ_of_lt hlS)
   have hSf:s.heap.objs.size∉[(s.heap.push so).objs.size,l]:=by
    rw[hz1]
    simp only[List.mem_cons,List.not_mem_nil,or_false,not_or]
    exact⟨Nat.ne_of_lt (Nat.lt_succ_self _),Nat.ne_of_gt hlS⟩
   have hval:∀ (i:Nat) (v:Value),items[i]?=some v→∃ k,ks[i]?=some k∧keyIs k v=true:=fun i v hv=>keys_get hit (by rw[Array.getElem?_toList];exact hv)
   refine set_update_keys ((Walks.tuple hh3 _ l hneI items).toS) s.heap.objs.size hSf ks hisz hb hval (items.size-0) 0 _ (by omega) (Nat.zero_le _)
    ⟨⟨_,Heap.get?_push_size _ rfl,rfl,rfl⟩,(hl1.push _)⟩ ⟨0,Nat.le_refl 0,setX_fresh (Heap.get?_push_of_some _ hS)⟩ fun s' c' hm hc' hS'=>?_
   obtain⟨h',g2,d',tk',os'⟩:=s'
   obtain rfl:g2=s.gens:=hm.gens
   obtain rfl:d'=s.drawn:=hm.drawn
   obtain rfl:os'=s.os:=hm.os
   show wpAny _ _ _ _ _ _
   refine wpAny_pure ?_
   show wpAny _ _ (ret Value.none) _ _ _
   refine wpAny_pure ⟨rfl,h',tk',c',rfl,hS',fun b o e=>?_⟩
   have hb0:b<s.heap.objs.size:=Heap.lt_size e
   refine hm.heap b o ?_ (Heap.get?_push_of_some _ (Heap.get?_push_of_some _ e))
   rw[hz1]
   simp only[List.mem_cons,List.not_mem_nil,or_false,not_or]
   exact⟨Nat.ne_of_lt hb0,Nat.ne_of_lt (Nat.lt_succ_of_lt hb0)⟩
  ·match r₂,hr₂ with
   | .error e,hr₂=>exact hr₂
   | .ok .next,hr₂=>exact hr₂.elim
   | .ok .brk,hr₂=>exact hr₂.elim
   | .ok .cont,hr₂=>exact hr₂.elim
   | .ok (.ret r),hr₂ =>
    obtain⟨rfl,h',tk,c',rfl,hS',hk'⟩:=hr₂
    repeat (any_goals (first|assumption|wp_step))
    exact h _ _ _ hS' hk'
set_option maxHeartbeats 3200000 in
theorem call_set_lst {l:Addr}{items:Array Value}(ks:List Key){Q:Value→Shared→Prop}(hh:A.handled=none)(hl:s.heap.IsList l items)(hit:KeysAre items.toList ks)(hb:ks.length+1<scanBound)
  (h:∀ (h':Heap) (tk c:Nat),SetX w h' s.heap.objs.size (kIn ks) c→(∀ b o,s.heap.get? b=some o→h'.get? b=some o)→Q (.ref s.heap.objs.size) { s with heap:=h',toks:=tk }) :
  wpAny (model P w) A (call (.type "set") [.ref l]) Q E s:=by
 have hisz:items.size=ks.length:=by rw[←paired_len hit,Array.length_toList]
 obtain⟨c,tl,hmro⟩:=F.called_set.mro
 have hmade:=F.called_set.made
 have hsub:=F.called_set.sub
 refine wpAny_call (codeAny_of_tree ?_)
 show wpAny _ _ (callAny (.type "set") _) _ _ _
 refine wpAny_pure ⟨Code.quiet_builtin _ (by decide +kernel),codeAny_builtin F.entry_type_call ?_⟩
 rw[Around.under_plain (weight_type_call_type "set" [.ref l] []) rfl]
 have h1:=F.called_set.notType
 have h2:=F.called_set.canCreate
 have hct:=F.typeCall_set_1 (.ref l)
 repeat (any_goals (first|assumption|wp_step))
 let so:Obj:={ cls:=.type "set",dict:=none,data:=.set #[] 0 (.fresh 0 0 (!w.params.followText "set-order")) }
 refine codeAny_mono (code_set_led1 (.ref l) (E:=E) (Q₁:=fun obj s₁=>obj=.ref s.heap.objs.size∧s₁={ s with heap:=s.heap.push so }) ⟨rfl,rfl⟩) fun r s₁ hr=>?_
 match r,hr with
 | .error e,hr=>exact hr
 | .ok .next,hr=>exact hr.elim
 | .ok .brk,hr=>exact hr.elim
 | .ok .cont,hr=>exact hr.elim
 | .ok (.ret obj),hr =>
  obtain⟨rfl,rfl⟩:=hr
  have hS:(s.heap.push so).get? s.heap.objs.size=some so:=Heap.get?_push_size _ rfl
  have hT:Shared.TypeIs { s with heap:=s.heap.push so } (.ref s.heap.objs.size) "set":=⟨_,hS,rfl⟩
  have hli:=F.called_set.init.lookup
  have hbi:=F.called_set.init.bind (.ref s.heap.objs.size)
  repeat (any_goals (first|assumption|wp_step))
  refine codeAny_mono (codeAny_call_builtin (R:=wants (fun r s₂=>r=.none∧∃ h' tk c,s₂={ s with heap:=h',toks:=tk }∧SetX w h' s.heap.objs.size (kIn ks) c ∧
    (∀ b o,s.heap.get? b=some o→h'.get? b=some o)) E) F.called_set.init.plain F.entry_set_init (check_set_init_1 hT ?_)) fun r₂ s₂ hr₂=>?_
  ·obtain⟨⟨ocls,odict,odata,oslots⟩,hol,hcl,nl,hdl⟩:=hl
   obtain rfl:ocls=.type "list":=hcl
   obtain rfl:odata=.seq items nl:=hdl
   have hol':(s.heap.push so).get? l=some { cls:=.type "list",dict:=odict,data:=.seq items nl,slots:=oslots }:=Heap.get?_push_of_some _ hol
   have hsls:=F.sub_list_set
   have hslf:=F.sub_list_frozenset
   have hne:(Value.type "list"==Value.type "dict")=false:=by decide
   have hl1:(s.heap.push so).IsList l items:=⟨_,hol',rfl,nl,rfl⟩
   unfold Builtin.«set.__init__» noKeywords Builtin.Frozenset.updateFrom
   generalize hPI:pyIter=PI
   wp_walk
   subst hPI
   refine wpAny_pyIter_list hl1 (wpAny_bind (wpAny_runValue ?_))
   have hlS:l<s.heap.objs.size:=Heap.lt_size hol
   have hh3:A.in1.in1.in1.handled=none:=by simp[hh]
   have hz1:(s.heap.push so).objs.size=s.heap.objs.size+1:=Heap.size_push ..
   have hneI:l≠(s.heap.push so).objs.size:=by rw[hz1];exact Nat.ne_of_lt (Nat.lt_succ_of_lt hlS)
   have hSf:s.heap.objs.size∉[(s.heap.push so).objs.size,l]:=by
    rw[hz1]
    simp only[List.mem_cons,List.not_mem_nil,or_false,not_or]
    exact⟨Nat.ne_of_lt (Nat.lt_succ_self _),Nat.ne_of_gt hlS⟩
   have hval:∀ (i:Nat) (v:Value),items[i]?=some v→∃ k,ks[i]?=some k∧keyIs k v=true:=fun i v hv=>keys_get hit (by rw[Array.getElem?_toList];exact hv)
   refine set_update_keys ((Walks.list hh3 _ l hneI items).toS) s.heap.objs.size hSf ks hisz hb hval (items.size-0) 0 _ (by omega) (Nat.zero_le _)
    ⟨⟨_,Heap.get?_push_size _ rfl,rfl,rfl⟩,(hl1.push _)⟩ ⟨0,Nat.le_refl 0,setX_fresh (Heap.get?_push_of_some _ hS)⟩ fun s' c' hm hc' hS'=>?_
   obtain⟨h',g2,d',tk',os'⟩:=s'
   obtain rfl:g2=s.gens:=hm.gens
   obtain rfl:d'=s.drawn:=hm.drawn
   obtain rfl:os'=s.os:=hm.os
   show wpAny _ _ _ _ _ _
   refine wpAny_pure ?_
   show wpAny _ _ (ret Value.none) _ _ _
   refine wpAny_pure ⟨rfl,h',tk',c',rfl,hS',fun b o e=>?_⟩
   have hb0:b<s.heap.objs.size:=Heap.lt_size e
   refine hm.heap b o ?_ (Heap.get?_push_of_some _ (Heap.get?_push_of_some _ e))
   rw[hz1]
   simp only[List.mem_cons,List.not_mem_nil,or_false,not_or]
   exact⟨Nat.ne_of_lt hb0,Nat.ne_of_lt (Nat.lt_succ_of_lt hb0)⟩
  ·match r₂,hr₂ with
   | .error e,hr₂=>exact hr₂
   | .ok .next,hr₂=>exact hr₂.elim
   | .ok .brk,hr₂=>exact hr₂.elim
   | .ok .cont,hr₂=>exact hr₂.elim
   | .ok (.ret r),hr₂ =>
    obtain⟨rfl,h',tk,c',rfl,hS',hk'⟩:=hr₂
    repeat (any_goals (first|assumption|wp_step))
    exact h _ _ _ hS' hk'
end
section
variable {P:Program}{w:World}{A:Around}{E:Value→Shared→Prop}{s:Shared}{a:Addr}{S:Key→Bool}{n:Nat}
theorem strs_of_keys:∀ (vs:List Value),(∀ v∈vs,∃ x t,v=Value.str x t)→∃ ss,StrsAre vs ss∧∀ (f:Value→Key),(∀ x t,f (.str x t)=.inr x)→vs.map f=ss.map Sum.inr
 | [],_=>⟨[],.nil,fun _ _=>rfl⟩
 | v::vs,h=>by
  obtain⟨x,t,rfl⟩:=h v List.mem_cons_self
  obtain⟨ss,h1,h2⟩:=strs_of_keys vs fun u hu=>h u (List.mem_cons_of_mem _ hu)
  exact⟨x::ss,.cons x t h1,fun f hf=>by rw[List.map_cons,List.map_cons,hf,h2 f hf]⟩
theorem sorted_setS {zs:List Str}{Q:Value→Shared→Prop}(R:SetX w s.heap a S n)(hS:∀ k,S k=true↔k∈zs.map Sum.inr)(hh:A.handled=none)
  (hQ:∀ s' p (out:Array Value) (c:Nat),(∀ b o,s.heap.get? b=some o→s'.heap.get? b=some o)→s'.gens=s.gens→s'.os=s.os→s.heap.objs.size≤p →
   s'.heap.get? p=some (seqObj "list" out c)→StrsAre out.toList (sortU zs)→(sortU zs).length<scanBound→Q (.ref p) s') :
  wpAny (model P w) A (call (.builtin "sorted") [.ref a]) Q E s:=by
 obtain⟨o,es,ep,t,r⟩:=R
 refine Calls.call_function_entry kind_sorted plain_sorted entry_sorted (args_sorted1 _) ?_
 unfold Builtin.«sorted»
 refine wpAny_bind (m:=checkCount "sorted" 1 1 _) (wpAny_pure ?_)
 refine wpAny_bind (collect_set (A:=A.in1) hh ⟨o,r.ob,r.ex.1,r.da⟩ r.ft r.bd r.rs r.ld fun s1 vs k1 hz g1 o1 pm=>?_)
 have hvl:vs.length=n:=by rw[pm.length_eq,List.length_map,Array.length_toList];exact r.sz
 have hbd:vs.length<scanBound:=by rw[hvl,←r.sz];exact r.bd
 let kv:Value→Key:=fun v=>keyAt (0,v)
 have hmap:(vs.map kv).Perm (es.toList.map keyAt):=by
  have q:=pm.map kv
  rw[List.map_map] at q
  exact q
 have hstr:∀ v∈vs,∃ x t,v=Value.str x t:=fun v hv=>by
  obtain⟨e,he,rfl⟩:=List.mem_map.mp (pm.mem_iff.mp hv)
  have hk:keyAt e∈zs.map Sum.inr:=(hS _).1 ((r.mb _).2 (List.mem_map.mpr ⟨e,he,rfl⟩))
  obtain⟨x,_,ex⟩:=List.mem_map.mp hk
  rcases keyIs_shape (r.gd e he).1 with⟨i,t,e1,_⟩|⟨y,t,_,e2⟩
  ·rw[e1] at ex;cases ex
  ·exact⟨y,t,e2⟩
 obtain⟨ss,hss,hk⟩:=strs_of_keys vs hstr
 have eqm:vs.map kv=ss.map Sum.inr:=hk kv fun _ _=>rfl
 have hL:vs.length≤sizeLine:=Nat.le_trans (Nat.le_of_lt hbd) (by decide)
 refine wpAny_bind (wpAny_newList ?_ hL)
 have hoL:(s1.heap.push (seqObj "list" vs.toArray 0)).get? s1.heap.objs.size=some (seqObj "list" vs.toArray 0):=Heap.get?_push_size _ rfl
 refine wpAny_bind (wpAny_holding (wpAny_call_entry slot_list_sort ⟨_,hoL,rfl⟩ entry_list_sort
  (list_sort_treeKAny strKind_oneLt hoL hss.keysOf (fun v₁ v₂ rest e=>keyKind_strs (by rw[←e];exact hss)) hL fun st' hp hs=>⟨_,rfl,?_⟩) (args_list_sort _)))
 obtain⟨ss',q1,q2,q3⟩:=sorted_out_str hss hp hs
 obtain⟨c,hc⟩:=sortedHeap_at (vs:=vs) (out:=(arrOf st').map (·.2)) hoL
 have nd:ss.Nodup:=by
  have z:(ss.map (Sum.inr:Str→Key)).Nodup:=by rw[←eqm];exact hmap.nodup_iff.mpr r.nd
  exact List.Pairwise.of_map _ (fun _ _ hne e=>hne (congrArg _ e)) z
 have es':ss'=sortU zs:=rises_one (rises_of_sortedS q3 (q2.nodup_iff.mpr nd)) (sortU_rises zs) fun z=>by
  rw[q2.mem_iff,sortU_mem]
  have m1:(Sum.inr z:Key)∈ss.map Sum.inr↔(Sum.inr z:Key)∈zs.map Sum.inr:=by
   rw[←eqm,hmap.mem_iff,←r.mb,hS]
  have inj:∀ l:List Str,(Sum.inr z:Key)∈l.map Sum.inr↔z∈l:=fun l=>by
   rw[List.mem_map]
   exact⟨fun⟨y,h,e⟩=>Sum.inr.inj e▸h,fun h=>⟨z,h,rfl⟩⟩
  rw[inj,inj] at m1
  exact m1
 subst es'
 refine wpAny_pure ⟨_,rfl,hQ _ s1.heap.objs.size _ c (fun b u e=>?_) g1 o1 hz hc q1 ?_⟩
 ·have q:=k1 b u e
  have hlt:=Heap.lt_size q
  show(sortedHeap (s1.heap.push (seqObj "list" vs.toArray 0)) s1.heap.objs.size vs _).get? b=some u
  rw[sortedHeap_old (Nat.ne_of_lt hlt) (by rw[size_push'];exact Nat.lt_succ_of_lt hlt)]
  exact Heap.get?_push_of_some _ q
 ·rw[q2.length_eq,←hss.length];exact hbd
end
def SetH (w:World)(a:Addr)(S:Key→Bool):HO:=.ext fun h=>∃ n,SetX w h a S n
theorem setH_ok {P:Program}{w:World}{H:Hp}{h:Heap}{a:Addr}{S:Key→Bool}{n:Nat}(R:SetX w h a S n):ObjOk P w H h a (SetH w a S) :=
 ⟨⟨n,R⟩,by obtain⟨o,_,_,_,r⟩:=R;exact⟨o,r.ob⟩,fun h1 h2 ⟨m,x⟩ k=>⟨m,x.at k⟩⟩
section
variable {X:Cx}
def rSetK (K:PySem.W.Frag)(w:World):List V→Hp→VK→Prop:=fun xs H Q=>∃ l ys ks,xs=[.ref l]∧(SqL K H l ys∨SqT K H l ys)∧ys=(ks:List Key).map kV∧ks.length+1<scanBound ∧
 ∀ a,H a=none→Q (.ref a) (upd H a (SetH w a (kIn ks)))
theorem keys_of_vals:∀ {ks:List Key} {us:List Value},Vals (ks.map kV) us→KeysAre us ks
 | [],_,r=>by cases r;exact .nil
 | .inl i::ks,_,r=>by
  cases r with
  | cons r1 r2=>obtain⟨t,rfl⟩:=r1;exact .cons (keyIs_int i t) (keys_of_vals r2)
 | .inr x::ks,_,r=>by
  cases r with
  | cons r1 r2=>obtain⟨t,rfl⟩:=r1;exact .cons (keyIs_str x t) (keys_of_vals r2)
theorem cr_setK (hc:X.calm=true):CallR X (.type "set") (rSetK X.K X.w):=by
 intro pins s σ H vs us Q I r h
 obtain⟨l,ys,ks,rfl,hs,rfl,hb,q⟩:=h
 rw[Vals.ref1 r]
 have fin:∀ (h':Heap) (tk c:Nat),SetX X.w h' s.heap.objs.size (kIn ks) c→(∀ b o,s.heap.get? b=some o→h'.get? b=some o)→EP X pins σ Q (.ref s.heap.objs.size) { s with heap:=h',toks:=tk }:=fun h' tk c R kp =>
  ⟨.ref s.heap.objs.size,_,I.laid (o:=SetH X.w s.heap.objs.size (kIn ks)) kp (Nat.le_refl _) (setH_ok R),rfl,q _ (I.hok.fresh (Nat.le_refl _))⟩
 rcases hs with hs|hs
 ·obtain⟨its,rv,pl,_⟩:=I.list hs
  exact call_set_lst ks (I.ok.hd hc) pl.isList (by simpa using keys_of_vals rv) hb fin
 ·obtain⟨its,rv,pl,_⟩:=I.tuple hs
  exact call_set_tup ks (I.ok.hd hc) (show s.heap.IsTuple l its.toArray from pl) (by simpa using keys_of_vals rv) hb fin
def rSortedS' (w:World):List V→Hp→VK→Prop:=fun xs H Q=>∃ a S zs,xs=[.ref a]∧H a=some (SetH w a S)∧(∀ k,S k=true↔k∈(zs:List Str).map Sum.inr) ∧
 ∀ p,H p=none→Q (.ref p) (upd H p (.lst ((sortU zs).map V.str)))
theorem cr_sortedU (hc:X.calm=true):CallR X (.builtin "sorted") (rSortedS' X.w):=by
 intro pins s σ H vs us Q I r h
 obtain⟨a,S,zs,rfl,ha,hS,q⟩:=h
 rw[Vals.ref1 r]
 obtain⟨⟨n,R⟩,_⟩:=I.hok a _ ha
 refine sorted_setS R hS (I.ok.hd hc) fun s' p out c k g o hp hg hi hl=>?_
 have hlen:((sortU zs).map V.str).length≤sizeLine:=by rw[List.length_map];exact Nat.le_trans (Nat.le_of_lt hl) (by decide)
 have hn:H p=none:=I.hok.fresh hp
 have J:L2.Inv X pins σ (upd H p (.lst ((sortU zs).map V.str))) { s with heap:=s'.heap,gens:=s'.gens,drawn:=s'.drawn,toks:=s'.toks } :=
  I.call (ch:=[]) (Un.laid k hp hn) (I.hok.laid k hp ⟨hlen,out.toList,c,vals_of_strs hi,hg⟩) (by rw[g];exact I.bare) (fun _ z=>nomatch z)
 have e:s'={ s with heap:=s'.heap,gens:=s'.gens,drawn:=s'.drawn,toks:=s'.toks }:=by
  cases s';cases s;cases o;rfl
 rw[e]
 exact⟨.ref p,_,J,rfl,q p hn⟩
end
def asStrs:List DV→Option (List Str)
 | []=>some []
 | x::xs=>match asStr x with
  | none=>none
  | some s=>(asStrs xs).map (s::·)
section
variable {K:PySem.W.Frag}{W:WX}{ρ:Pm}{G H:Hp}{w:World}
theorem asStrs_ok:∀ {xs:List DV} {vs:List V} {ss:List Str},DvL K ρ G vs xs→asStrs xs=some ss→vs=ss.map V.str
 | [],_,_,h,e=>by cases e;cases h;rfl
 | x::xs,_,_,h,e=>by
  cases h with
  | cons r1 r2 =>
   simp only[asStrs] at e
   cases q:asStr x with
   | none=>rw[q] at e;cases e
   | some b =>
    rw[q] at e
    cases q2:asStrs xs with
    | none=>rw[q2] at e;cases e
    | some bs=>rw[q2] at e;cases e;rw[asStr_ok r1 q,asStrs_ok r2 q2];rfl
def strsR (ss:List Str):R:=.nl (ss.map fun s=>.dat (.str s))
def eSortSet (f:EM):EM:=fun δ μ=>(frzV f δ μ).bind fun x μ'=>match asS μ' x with
 | none=>.bad
 | some xs=>match asStrs xs with
  | none=>.bad
  | some ss=>if ss.length+1<scanBound then .ok (strsR (sortU ss)) μ' else .bad
theorem snd_sortset {te:TE}{f:EM}(h:SndE K W te f):SndE K W (tCB (rSortedS' w) (tCons (tCB (rSetK K w) (tCons te tNil)) tNil)) (eSortSet f):=fun ρ G H σ δ μ Q R E hp=>by
 refine SndG.seq (t:=te) h.toV R E hp fun x μ1 G1 H1 v t1 R1 E1 d1 hp1=>?_
 cases e:asS μ1 x with
 | none=>rw[e] at hp1;exact hp1.elim
 | some xs =>
  simp only[e] at hp1
  cases e2:asStrs xs with
  | none=>rw[e2] at hp1;exact hp1.elim
  | some ss =>
   simp only[e2] at hp1
   by_cases c:ss.length+1<scanBound
   case neg=>rw[if_neg c] at hp1;exact hp1.elim
   rw[if_pos c] at hp1
   obtain⟨a,vs,rfl,h2,h3⟩:=asS_ok R1 d1 e
   have ev:=asStrs_ok h3 e2
   refine⟨a,vs,ss.map Sum.inr,rfl,h2,by rw[ev,List.map_map];rfl,by rw[List.length_map];exact c,fun b hb=>?_⟩
   obtain⟨R2,t2⟩:=R1.lay (o:=SetH w b (kIn (ss.map Sum.inr))) hb
   refine⟨b,_,ss,rfl,upd_same,fun k=>kIn_iff,fun p hpn=>?_⟩
   exact new_list R2 (t1.trans t2) hpn (dvl_strs _) hp1
end
theorem pm_sortset {X:Cx} {W:WX} {p p2 q pos:Pos} {e:Expr} {te:TE} {f:EM} (hc:X.calm=true) (hg:Gl X "sorted") (hm:X.mg "sorted"=none) (hg2:Gl X "set") (hm2:X.mg "set"=none) (he:PM X W e te f)
  (h1:starEach [e] X.env=(false,eval e X.env)::starEach [] X.env:=by rfl) (h2:(backTo q (starEach [] X.env)).any (·.1)=false:=by rfl)
  (h3:starEach [Expr.Call (.Name "set" p2) [e] [] q] X.env=(false,eval (Expr.Call (.Name "set" p2) [e] [] q) X.env)::starEach [] X.env:=by rfl) (h4:(backTo pos (starEach [] X.env)).any (·.1)=false:=by rfl) :
  PM X W (.Call (.Name "sorted" p) [.Call (.Name "set" p2) [e] [] q] [] pos) (tCB (rSortedS' X.w) (tCons (tCB (rSetK X.K X.w) (tCons te tNil)) tNil)) (eSortSet f) :=
 ⟨pe_callB (cr_sortedU hc) hg hm (by decide +kernel) (pa_cons (pe_callTy (cr_setK hc) hg2 hm2 (by decide +kernel) (pa_cons he.pe pa_nil h1) (by decide) (by decide) h1 h2) pa_nil h3) (by decide) (by decide) h3 h4,snd_sortset he.sd⟩
section
variable {X:Cx}{W:WX}{pos p p2 q tpos apos cpos:Pos}{a b e o i:Expr}{es:List Expr}{lo hi:Option Expr}{te ta tb to ti:TE}{tA:TA}{fA:AM}{tl th:TO}{f fa fb fo fi:EM}{fl fh:OM}
theorem pm_sortsetK (K:PySem.W.Frag) (w:World) (hc:X.calm=true) (hg:Gl X "sorted") (hm:X.mg "sorted"=none) (hg2:Gl X "set") (hm2:X.mg "set"=none) (he:PM X W e te f) (hK:X.K=K:=by rfl) (hw:X.w=w:=by rfl)
  (h1:starEach [e] X.env=(false,eval e X.env)::starEach [] X.env:=by rfl) (h2:(backTo q (starEach [] X.env)).any (·.1)=false:=by rfl)
  (h3:starEach [Expr.Call (.Name "set" p2) [e] [] q] X.env=(false,eval (Expr.Call (.Name "set" p2) [e] [] q) X.env)::starEach [] X.env:=by rfl) (h4:(backTo pos (starEach [] X.env)).any (·.1)=false:=by rfl) :
  PM X W (.Call (.Name "sorted" p) [.Call (.Name "set" p2) [e] [] q] [] pos) (tCB (rSortedS' w) (tCons (tCB (rSetK K w) (tCons te tNil)) tNil)) (eSortSet f):=by subst hK hw;exact pm_sortset hc hg hm hg2 hm2 he h1 h2 h3 h4
end
theorem asStrs_map:∀ ss:List Str,asStrs (ss.map fun s=>.dat (.str s))=some ss
 | []=>rfl
 | s::ss=>by simp[asStrs,asStr,asStrs_map ss]
section
variable {QR:R→Mem→Prop}{E:Xc→Mem→Prop}{δ:Env}{μ:Mem}
theorem x_sortset {f:EM}(h:Sat (frzV f δ μ) (fun x μ'=>∃ xs ss,asS μ' x=some xs∧asStrs xs=some ss∧ss.length+1<scanBound∧QR (.nl ((sortU ss).map fun s=>.dat (.str s))) μ') E):Sat (eSortSet f δ μ) QR E:=by
 refine sat_bind (h.mono (fun x μ1 q=>?_) fun _ _ q=>q)
 obtain⟨xs,ss,e,e2,hl,q⟩:=q;rw[e];simp only;rw[e2];simp only;rw[if_pos hl];exact q
end
end DL
set_option maxHeartbeats 2500000
namespace DL
open PySem PySem.Spec PyProof.Rows L2 PpSet
section
variable {X:Cx}
end
end DL
namespace DL
open PySem PySem.Spec PyProof.Rows L2
section
variable {K:PySem.W.Frag}{W:WX}{ρ:Pm}{G H G0 H0:Hp}{μ:Mem}{σ:Slots}{δ:Env}
def signs (s:Str):List D:=s.cps.toList.map fun c=>.str ⟨#[c]⟩
def imStr (f:EM):IM:=fun δ μ=>(frzV f δ μ).bind fun x μ'=>match asStr x with
 | some s=>.ok (signs s) μ'
 | none=>.bad
theorem it_str {H0:Hp}(s:Str):ItOk K G H0 (Its s) (signs s):=fun ρ' G1 H μ R x _=>by
 refine⟨fun i d e=>?_,fun i hi=>?_⟩
 ·unfold signs at e
  rw[List.getElem?_map] at e
  obtain⟨c,hc,rfl⟩:=Option.map_eq_some_iff.mp e
  rw[Array.getElem?_toList] at hc
  refine⟨(Array.getElem?_eq_some_iff.mp hc).1,fun v' H' hy=>?_⟩
  obtain⟨rfl,c',h1,rfl⟩:=hy
  rw[hc] at h1;cases h1
  exact⟨G1,Tr.refl _ _ _,R,.str _⟩
 ·unfold signs at hi
  rw[List.length_map,Array.length_toList] at hi
  exact hi
theorem snd_istr {te:TE}{f:EM}(h:SndE K W te f):SndI K W (iStr te) (imStr f):=fun ρ G H σ δ μ Q R E hp=>by
 refine SndG.seq (t:=te) h.toV R E hp fun x μ1 G1 H1 v t1 R1 E1 d1 hp1=>?_
 cases e:asStr x with
 | none=>rw[e] at hp1;exact hp1.elim
 | some s=>rw[e] at hp1;exact⟨s,asStr_ok d1 e,hp1 G1 H1 _ t1 R1 (it_str s)⟩
def dcL (h:D→Env→Option Env)(ft:TM)(fk fv:EM)(δ:Env):List D→List (Ky×DV)→Mem→Res (List (Ky×DV))
 | [],acc,μ=>.ok acc μ
 | d::ds,acc,μ=>match h d δ with
  | none=>.bad
  | some δ1=>match ft δ1 μ with
   | .ok true μ1=>match frzV fk δ1 μ1 with
    | .ok k μ2=>match keyD k,frzV fv δ1 μ2 with
     | some kk,.ok y μ3=>dcL h ft fk fv δ ds (dput acc (.k kk) y) μ3
     | _,_=>.bad
    | _=>.bad
   | .ok false μ1=>dcL h ft fk fv δ ds acc μ1
   | _=>.bad
def eDc (fi:IM)(h:D→Env→Option Env)(ft:TM)(fk fv:EM)(vs:List Nat):EM:=fun δ μ=>(fi δ μ).bind fun xs μ' =>
 if xs.length≤sizeLine then(dcL h ft fk fv (wipeE δ vs) xs [] μ').bind fun ys μ2=>.ok (.nk ys) μ2 else .bad
def lc2L (h:D→Env→Option Env)(ft:TM)(fi1:IM)(h1:D→Env→Option Env)(ft1:TM)(fe:EM)(vs1:List Nat)(δ:Env):List D→Nat→Mem→Res (List DV)
 | [],_,μ=>.ok [] μ
 | d::ds,c,μ=>match h d δ with
  | none=>.bad
  | some δ1=>match ft δ1 μ with
   | .ok true μ1=>match fi1 δ1 μ1 with
    | .ok xs1 μ2=>if c+xs1.length≤sizeLine then(lcL h1 ft1 fe (wipeE δ1 vs1) xs1 μ2).bind fun ys μ3=>(lc2L h ft fi1 h1 ft1 fe vs1 δ ds (c+ys.length) μ3).bind fun zs μ4=>.ok (ys++zs) μ4 else .bad
    | _=>.bad
   | .ok false μ1=>lc2L h ft fi1 h1 ft1 fe vs1 δ ds c μ1
   | _=>.bad
def eLc2 (fi:IM)(h:D→Env→Option Env)(ft:TM)(fi1:IM)(h1:D→Env→Option Env)(ft1:TM)(fe:EM)(vs vs1:List Nat):EM:=fun δ μ=>(fi δ μ).bind fun xs μ' =>
 (lc2L h ft fi1 h1 ft1 fe vs1 (wipeE δ vs) xs 0 μ').bind fun ys μ2=>.ok (.nl ys) μ2
end
def DatK (x:DV)(Q:D→Prop):Prop:=∃ d,x=.dat d∧Q d
theorem dkk {d:D}{Q:D→Prop}(h:Q d):DatK (.dat d) Q:=⟨d,rfl,h⟩
theorem s_raiseK {nm f:Str}{fe:EM}{P:DL.PO}{δ:DL.Env}{μ:Mem}{N:Nat}(h:Sat (frzV fe δ μ) (fun x μ'=>DatK x fun d=>P.ex ⟨nm,[(f,d)]⟩ δ μ') (fun x μ=>P.ex x δ μ)):SatS (gRaise nm f fe N δ μ) P:=s_raise h
theorem at0 {α:Type}{x:α}{xs:List α}:atI (x::xs) 0=some x:=DL.atI_nat (k:=0) rfl
theorem l_ix0T {d:D}{ds:List D}{QR:R→Mem→Prop}{E:Xc→Mem→Prop}{μ:Mem}(h:QR (.dat d) μ):Sat (dIx (.dat (.tup (d::ds))) (.dat (.int 0)) μ) QR E:=l_ixT at0 h
theorem l_ix0L {d:D}{ds:List D}{QR:R→Mem→Prop}{E:Xc→Mem→Prop}{μ:Mem}(h:QR (.dat d) μ):Sat (dIx (.dat (.lst (d::ds))) (.dat (.int 0)) μ) QR E:=l_ixL at0 h
theorem lc_ix {h:D→DL.Env→Option DL.Env}{ft:TM}{fe:EM}{ds:List D}{δ:DL.Env}{μ:Mem}{QA:List DV→Mem→Prop}{E:Xc→Mem→Prop}(I:Nat→List DV→Mem→Prop)(h0:I 0 [] μ)
  (ht:∀ (i:Nat) d,ds[i]?=some d→∀ ys μ,I i ys μ→∃ δ1,h d δ=some δ1∧Sat (ft δ1 μ) (fun b μ1=>if b=true then Sat (frzV fe δ1 μ1) (fun y μ2=>I (i+1) (ys++[y]) μ2) (fun _ _=>False) else I (i+1) ys μ1) (fun _ _=>False))
  (hq:∀ ys μ,I ds.length ys μ→QA ys μ):Sat (lcL h ft fe δ ds μ) QA E:=by
 have key:∀ (n i:Nat),i+n=ds.length→∀ zs μ,I i zs μ→Sat (lcL h ft fe δ (ds.drop i) μ) (fun ys μ'=>I ds.length (zs++ys) μ') (fun _ _=>False):=by
  intro n
  induction n with
  | zero =>
   intro i hi zs μ hz
   rw[List.drop_of_length_le (by omega)]
   have:i=ds.length:=by omega
   subst this
   show I ds.length (zs++[]) μ
   rw[List.append_nil];exact hz
  | succ n ih =>
   intro i hi zs μ hz
   have hl:i<ds.length:=by omega
   rw[List.drop_eq_getElem_cons hl]
   obtain⟨δ1,h1,h2⟩:=ht i ds[i] (List.getElem?_eq_getElem hl) zs μ hz
   simp only[lcL,h1]
   cases e:ft δ1 μ with
   | ok b μ1 =>
    rw[e] at h2
    cases b with
    | true =>
     simp only at h2 ⊢
     have h2:Sat (frzV fe δ1 μ1) (fun y μ2=>I (i+1) (zs++[y]) μ2) (fun _ _=>False):=h2
     cases e2:frzV fe δ1 μ1 with
     | ok y μ2 =>
      rw[e2] at h2
      refine sat_bind ((ih (i+1) (by omega) (zs++[y]) μ2 h2).mono (fun ys μ3 q=>?_) fun _ _ q=>q)
      show I ds.length (zs++y::ys) μ3
      rw[List.append_cons];exact q
     | exc x μ2=>rw[e2] at h2;exact h2.elim
     | bad=>rw[e2] at h2;exact h2.elim
    | false=>exact ih (i+1) (by omega) zs μ1 h2
   | exc x μ1=>rw[e] at h2;exact h2.elim
   | bad=>rw[e] at h2;exact h2.elim
 have:=key ds.length 0 (by omega) [] μ h0
 rw[List.drop_zero] at this
 exact this.mono (fun ys m q=>hq ys m q) fun _ _ q=>q.elim
theorem sl_sz2 {n:Nat}(h:n≤1000000):n≤sizeLine:=Nat.le_trans h (by decide)
theorem rng_len (k:Int)(n:Nat):(rngD k n).length=n:=by unfold rngD;simp
def menu:List Str:=["a","ab","end","l","more","new","share","write","x","zzzzzzzz"]
def louds:List Str:=["new","share","share","end","write","write"]
def quiets:List Str:=["hold","leave","more","less"]
theorem menu_fit:∀ s∈menu,PyData.strOk s=true∧s.cps.size≤16:=by decide +kernel
theorem split_menu:Txt.split "a ab end l more new share write x zzzzzzzz" " "=menu:=by decide +kernel
theorem menu_cut:∀ at_:Fin 10,∀ m:Fin 6,(((menu++menu).drop at_.1).take m.1).Nodup∧(((menu++menu).drop at_.1).take m.1).length=m.1:=by decide +kernel
theorem menu_mem {s:Str}(h:s∈menu++menu):s∈menu:=by simpa using h
abbrev Sp1:=Str×List Str
abbrev stD (x:Sp1):D:=.tup (.str x.1::x.2.map D.str)
abbrev deedD (as:List Str)(xs:List Sp1):D:=.tup [.tup (as.map D.str),.tup (xs.map stD)]
def two (w:Str):Bool:=decide (w="share")||decide (w="hold")
structure StOk (b:Bool)(ss:List Str)(x:Sp1):Prop where
 w:x.1∈(if b=true then louds else louds++quiets)
 sh:two x.1=true→∃ a c,x.2=[a,c]∧a≠c∧a∈ss∧c∈ss
 ot:two x.1=false→∃ a,x.2=[a]∧a∈ss
structure DeedOk (b:Bool)(as os:List Str)(xs:List Sp1):Prop where
 nd:(as++os).Nodup
 me:∀ s∈as++os,s∈menu
 a1:1≤as.length
 a3:as.length≤3
 o2:os.length≤2
 x1:1≤xs.length
 x8:xs.length≤8
 st:∀ x∈xs,StOk b (as++os) x
theorem StOk.word {b:Bool}{ss:List Str}{x:Sp1}(h:StOk b ss x):x.1∈louds++quiets:=by
 have:=h.w
 by_cases e:b=true
 ·rw[if_pos e] at this;exact List.mem_append_left _ this
 ·rw[if_neg e] at this;exact this
theorem StOk.mem {b:Bool}{ss:List Str}{x:Sp1}(h:StOk b ss x):∀ s∈x.2,s∈ss:=by
 intro s hs
 cases e:two x.1 with
 | true=>obtain⟨a,c,e2,_,h1,h2⟩:=h.sh e;rw[e2] at hs;simp at hs;rcases hs with rfl|rfl <;> assumption
 | false=>obtain⟨a,e2,h1⟩:=h.ot e;rw[e2] at hs;simp at hs;subst hs;exact h1
theorem StOk.len {b:Bool}{ss:List Str}{x:Sp1}(h:StOk b ss x):1≤x.2.length∧x.2.length≤2:=by
 cases e:two x.1 with
 | true=>obtain⟨a,c,e2,_⟩:=h.sh e;rw[e2];simp
 | false=>obtain⟨a,e2,_⟩:=h.ot e;rw[e2];simp
theorem perm_map' {α β:Type}{f:α→β}{l l':List β}(h:l.Perm l'):∀ xs:List α,l'=xs.map f→∃ zs:List α,l=zs.map f∧zs.Perm xs:=by
 induction h with
 | nil=>intro xs e;cases xs with
  | nil=>exact⟨[],rfl,.nil⟩
  | cons a xs=>cases e
 | cons x p ih =>
  intro xs e
  cases xs with
  | nil=>cases e
  | cons a xs =>
   simp only[List.map_cons,List.cons.injEq] at e
   obtain⟨zs,e2,p2⟩:=ih xs e.2
   exact⟨a::zs,by simp[e.1,e2],p2.cons a⟩
 | swap x y l =>
  intro xs e
  match xs,e with
  | [],e=>cases e
  | [_],e=>simp at e
  | a::c::xs,e =>
   simp only[List.map_cons,List.cons.injEq] at e
   exact⟨c::a::xs,by simp[e.1,e.2.1,e.2.2],List.Perm.swap _ _ _⟩
 | trans p1 p2 ih1 ih2 =>
  intro xs e
  obtain⟨zs,e2,p3⟩:=ih2 xs e
  obtain⟨ws,e4,p5⟩:=ih1 zs e2
  exact⟨ws,e4,p5.trans p3⟩
theorem perm_map {α β:Type}{f:α→β}{ys:List β}{xs:List α}(h:ys.Perm (xs.map f)):∃ zs:List α,ys=zs.map f∧zs.Perm xs:=perm_map' h xs rfl
theorem cutL_map {α β:Type}(f:α→β)(xs:List α)(l u:Option Int):cutL (xs.map f) l u=(cutL xs l u).map f:=by
 unfold cutL;rw[List.length_map,List.map_take,List.map_drop]
def quietT:List (Str×Str):=[("share","hold"),("end","leave")]
def loudT:List (Str×Str):=[("hold","share"),("leave","end")]
def tabW (q:Bool):List (Str×Str):=if q=true then quietT else loudT
def other (q:Bool)(xs:List Sp1)(i:Nat):Option Sp1:=match xs[i]? with
 | some x=>match (tabW q).lookup x.1 with
  | some w=>some (w,x.2)
  | none=>none
 | none=>none
def ixOf:D→Option Nat
 | .int i=>if 0≤i then some i.toNat else none
 | _=>none
def good (q:Bool)(xs:List Sp1)(d:D):Option (Nat×Sp1):=match ixOf d with
 | some i=>match other q xs i with
  | some y=>some (i,y)
  | none=>none
 | none=>none
def putAll (q:Bool)(xs:List Sp1):List Sp1→List D→List Sp1
 | zs,[]=>zs
 | zs,d::ds=>match good q xs d with
  | some (i,y)=>putAll q xs (zs.set i y) ds
  | none=>zs
def badOf (q:Bool)(xs:List Sp1)(ds:List D):Option D:=ds.find? fun d=>(good q xs d).isNone
theorem putAll_len (q:Bool)(xs:List Sp1):∀ (ds:List D) (zs:List Sp1),(putAll q xs zs ds).length=zs.length
 | [],zs=>rfl
 | d::ds,zs=>by
  unfold putAll
  cases good q xs d with
  | none=>rfl
  | some p=>rw[putAll_len q xs ds];simp
theorem good_lt {q:Bool}{xs:List Sp1}{d:D}{i:Nat}{y:Sp1}(h:good q xs d=some (i,y)):d=.int i∧other q xs i=some y∧i<xs.length:=by
 unfold good at h
 cases e:ixOf d with
 | none=>rw[e] at h;cases h
 | some j =>
  rw[e] at h
  simp only at h
  cases e2:other q xs j with
  | none=>rw[e2] at h;cases h
  | some z =>
   rw[e2] at h;cases h
   refine⟨?_,e2,?_⟩
   ·unfold ixOf at e
    split at e
    ·rename_i k
     split at e
     ·cases e;rw[Int.toNat_of_nonneg (by assumption)]
     ·cases e
    ·cases e
   ·unfold other at e2
    cases e3:xs[i]? with
    | none=>rw[e3] at e2;cases e2
    | some x=>exact(List.getElem?_eq_some_iff.mp e3).1
theorem putAll_at (q:Bool)(xs:List Sp1):∀ (ds:List D) (zs:List Sp1) (i:Nat) (z:Sp1),(putAll q xs zs ds)[i]?=some z→zs[i]?=some z∨other q xs i=some z
 | [],zs,i,z,h=>.inl h
 | d::ds,zs,i,z,h=>by
  unfold putAll at h
  cases e:good q xs d with
  | none=>rw[e] at h;exact .inl h
  | some p =>
   obtain⟨j,y⟩:=p
   rw[e] at h
   rcases putAll_at q xs ds _ i z h with h1|h1
   ·by_cases ej:j=i
    ·subst ej
     obtain⟨_,h2,_⟩:=good_lt e
     rw[List.getElem?_set] at h1
     split at h1
     ·split at h1
      ·cases h1;exact .inr h2
      ·cases h1
     ·exact .inl h1
    ·rw[List.getElem?_set_ne ej] at h1;exact .inl h1
   ·exact .inr h1
theorem take_snoc {α:Type}{ts:List α}{k:Nat}{t:α}(h:ts[k]?=some t):ts.take (k+1)=ts.take k++[t]:=by
 rw[List.take_succ,h];rfl
theorem at_map {α β:Type}{f:α→β}{xs:List α}{k:Nat}{x:α}(h:xs[k]?=some x):atI (xs.map f) (k:Int)=some (f x):=DL.atI_nat (by rw[List.getElem?_map,h];rfl)
theorem lt_of_at {α:Type}{xs:List α}{k:Nat}{x:α}(h:xs[k]?=some x):k<xs.length:=(List.getElem?_eq_some_iff.mp h).1
theorem setPl_at {μ:Mem}{zs:List DV}{k:Nat}{y:DV}{X:Mem}(hk:k<zs.length)(hb:belowB μ.length y=true):setPl (μ++.lst zs::X) (.loc μ.length) (.dat (.int k)) y=some (μ++.lst (zs.set k y)::X):=by
 unfold setPl atPl
 simp only[mem_here,asI,ixN_nat hk,hb,mem_set];rfl
structure DeedSh (as:List Str)(xs:List Sp1):Prop where
 a3:as.length≤3
 am:∀ s∈as,s∈menu
 x8:xs.length≤8
 xw:∀ x∈xs,x.1∈louds++quiets
 x2:∀ x∈xs,x.2.length≤2
 xm:∀ x∈xs,∀ s∈x.2,s∈menu
theorem DeedOk.sh {b:Bool}{as os:List Str}{xs:List Sp1}(h:DeedOk b as os xs):DeedSh as xs :=
 ⟨h.a3,fun s hs=>h.me s (List.mem_append_left _ hs),h.x8,fun x hx=>(h.st x hx).word,fun x hx=>(h.st x hx).len.2,fun x hx s hs=>h.me s ((h.st x hx).mem s hs)⟩
theorem tab_cases {q:Bool}{w c:Str}(h:(tabW q).lookup w=some c):(w,c)∈tabW q:=by
 have key:∀ (t:List (Str×Str)),t.lookup w=some c→(w,c)∈t:=by
  intro t
  induction t with
  | nil=>intro h;cases h
  | cons p t ih =>
   obtain⟨a,z⟩:=p
   intro h
   rw[List.lookup_cons] at h
   cases e:w==a with
   | true=>rw[e] at h;cases h;rw[eq_of_beq e];exact List.mem_cons_self
   | false=>rw[e] at h;exact List.mem_cons_of_mem _ (ih h)
 exact key _ h
theorem tab_word {q:Bool}{w c:Str}(h:(tabW q).lookup w=some c):c∈louds++quiets:=by
 have:=tab_cases h
 cases q with
 | true =>
  have this:(w,c)∈quietT:=this
  simp only[quietT,List.mem_cons,List.not_mem_nil,or_false,Prod.mk.injEq] at this
  rcases this with⟨rfl,rfl⟩|⟨rfl,rfl⟩ <;> decide
 | false =>
  have this:(w,c)∈loudT:=this
  simp only[loudT,List.mem_cons,List.not_mem_nil,or_false,Prod.mk.injEq] at this
  rcases this with⟨rfl,rfl⟩|⟨rfl,rfl⟩ <;> decide
def isC (w:Str):Bool:=((tabW true).lookup w).isSome
def cnt (xs:List Sp1):List Nat:=(xs.zipIdx.filter fun p=>isC p.1.1).map (·.2)
structure Mk where
 a:Int
 l:Option Int
 c:Bool
def MkOk (n:Int)(m:Mk):Prop:=(0≤m.a∧m.a<n)∧∀ i,m.l=some i→0≤i∧i<n
structure MsOk (ms:List Mk):Prop where
 h1:1≤ms.length
 h6:ms.length≤6
 ok:∀ m∈ms,MkOk ms.length m
def stepM (m:Mk)(b:Bool):Option Int:=if b=true then some m.a else m.l
def stepO (ms:List Mk)(o:Option Int)(b:Bool):Option Int:=match o with
 | none=>none
 | some i=>match ms[i.toNat]? with
  | some m=>stepM m b
  | none=>none
variable {ms:List Mk}{n k:Nat}{b:Bool}
theorem sz_lit' {n:Nat}(h:n≤1000):n≤sizeLine:=Nat.le_trans h (by decide)
abbrev Ws:=List (Int×List Bool)
def wget (W:Ws)(k:Int):Option (List Bool):=(W.find? fun p=>decide (p.1=k)).map (·.2)
def stq (ms:List Mk)(x:Int)(b:Bool)(s:Ws×List Int):Ws×List Int:=match stepO ms (some x) b with
 | none=>s
 | some y=>if(wget s.1 y).isSome=true then s else(s.1++[(y,(wget s.1 x).getD []++[b])],s.2++[y])
def proc (ms:List Mk)(x:Int)(s:Ws×List Int):Ws×List Int:=stq ms x true (stq ms x false s)
def stepS (ms:List Mk)(s:Ws×List Int):Ws×List Int:=match s.2 with
 | []=>s
 | x::q=>proc ms x (s.1,q)
def runS (ms:List Mk):Nat→Ws×List Int
 | 0=>([(0,[])],[0])
 | k+1=>stepS ms (runS ms k)
def Fin (ms:List Mk)(W:Ws):Prop:=∃ k,runS ms k=(W,[])
structure Gd (ms:List Mk)(s:Ws×List Int):Prop where
 nd:(s.1.map (·.1)).Nodup
 lt:∀ p∈s.1,0≤p.1∧p.1<ms.length
 q:∀ x∈s.2,x∈s.1.map (·.1)
 ln:∀ p∈s.1,p.2.length+1≤s.1.length
 ne:1≤s.1.length
 z:(0,([]:List Bool))∈s.1
theorem nodup_le:∀ (n:Nat) (l:List Int),l.Nodup→(∀ x∈l,0≤x∧x<(n:Int))→l.length≤n
 | 0,[],_,_=>Nat.le_refl _
 | 0,x::l,_,h=>by have:=h x List.mem_cons_self;omega
 | n+1,l,nd,h=>by
  have e:(l.filter fun x=>decide (x≠(n:Int))).length≤n:=nodup_le n _ (nd.filter _) fun x hx=>by
   obtain⟨h1,h2⟩:=List.mem_filter.mp hx
   have:=h x h1
   have h2:x≠n:=by simpa using h2
   omega
  have e2:l.length≤(l.filter fun x=>decide (x≠(n:Int))).length+1:=by
   clear h e
   induction l with
   | nil=>simp
   | cons x l ih =>
    obtain⟨n1,n2⟩:=List.nodup_cons.mp nd
    by_cases c:x=(n:Int)
    ·subst c
     have:(l.filter fun x=>decide (x≠(n:Int)))=l:=List.filter_eq_self.mpr fun y hy=>by
      have:y≠(n:Int):=fun z=>n1 (z▸hy)
      simpa using this
     rw[List.filter_cons_of_neg (by simp),this];simp
    ·rw[List.filter_cons_of_pos (by simpa using c)]
     have:=ih n2
     simp only[List.length_cons];omega
  omega
theorem Gd.le {s:Ws×List Int}(g:Gd ms s):s.1.length≤ms.length:=by
 have:=nodup_le ms.length (s.1.map (·.1)) g.nd fun x hx=>by
  obtain⟨p,hp,rfl⟩:=List.mem_map.mp hx
  exact g.lt p hp
 rwa [List.length_map] at this
end DL
namespace DL
open PySem PySem.Spec PyProof.Rows L2
section
variable {δ:Env}{μ:Mem}{QR:R→Mem→Prop}{E:Xc→Mem→Prop}{a b:Bool}{o o':Option Int}
end
section
variable {K:PySem.W.Frag}{W:WX}{ρ:Pm}{G H G0 H0:Hp}{μ:Mem}{σ:Slots}{δ:Env}
def rLenSet (w:World):List V→Hp→VK→Prop:=fun xs H Q=>∃ (a:Addr) (S:Key→Bool) (zs:List Str),xs=[.ref a]∧H a=some (SetH w a S)∧(∀ k,S k=true↔k∈zs.map Sum.inr)∧Q (.int (sortU zs).length) H
theorem nodup_len {α:Type}[DecidableEq α]:∀ {l m:List α},l.Nodup→m.Nodup→(∀ x,x∈l↔x∈m)→l.length=m.length
 | [],[],_,_,_=>rfl
 | [],y::m,_,_,h=>by have:=(h y).mpr List.mem_cons_self;cases this
 | x::l,m,h1,h2,h=>by
  have hx:x∈m:=(h x).mp List.mem_cons_self
  obtain⟨n1,n2⟩:=List.nodup_cons.mp h1
  have ih:=nodup_len (l:=l) (m:=m.erase x) n2 (h2.erase x) fun y=>by
   rw[h2.mem_erase_iff,←h y]
   constructor
   ·exact fun hy=>⟨fun e=>n1 (e▸hy),List.mem_cons_of_mem _ hy⟩
   ·rintro ⟨hne,hy⟩
    rcases List.mem_cons.mp hy with e|e
    ·exact absurd e hne
    ·exact e
  have:=List.length_erase_of_mem hx
  have hp:0<m.length:=List.length_pos_of_mem hx
  rw[List.length_cons];omega
theorem sortU_nodup (zs:List Str):(sortU zs).Nodup:=(sortU_rises zs).imp fun {a b} h e=>by subst e;rw[ltS_irrefl] at h;cases h
theorem cr_lenSet {X:Cx}:CallR X (.builtin "len") (rLenSet X.w):=by
 intro pins s σ H vs us Q I r h
 obtain⟨a,S,zs,rfl,ha,hS,q⟩:=h
 rw[Vals.ref1 r]
 obtain⟨⟨n,o,es,ep,t,R⟩,_⟩:=I.hok a _ ha
 have hbd:=R.bd
 have e:es.size=(sortU zs).length:=by
  have h1:(es.toList.map keyAt).length=((sortU zs).map (Sum.inr:Str→Key)).length:=by
   refine nodup_len R.nd ?_ fun k=>?_
   ·unfold List.Nodup
    rw[List.pairwise_map]
    exact(sortU_nodup zs).imp fun h e=>h (Sum.inr.inj e)
   ·rw[←R.mb,hS]
    simp only[List.mem_map,sortU_mem]
  rw[List.length_map,List.length_map,Array.length_toList] at h1
  exact h1
 exact call_len_set R.ob R.ex R.da R.ft (by have:scanBound=4096:=rfl;omega) ⟨.int _,H,I.tok _,⟨_,by rw[e]⟩,q⟩
def eLenSet (f:EM):EM:=fun δ μ=>(frzV f δ μ).bind fun x μ'=>match asS μ' x with
 | none=>.bad
 | some xs=>match asStrs xs with
  | none=>.bad
  | some ss=>if ss.length+1<scanBound then .ok (.dat (.int (sortU ss).length)) μ' else .bad
theorem snd_lenset {w:World}{te:TE}{f:EM}(h:SndE K W te f):SndE K W (tCB (rLenSet w) (tCons (tCB (rSetK K w) (tCons te tNil)) tNil)) (eLenSet f):=fun ρ G H σ δ μ Q R E hp=>by
 refine SndG.seq (t:=te) h.toV R E hp fun x μ1 G1 H1 v t1 R1 E1 d1 hp1=>?_
 cases e:asS μ1 x with
 | none=>rw[e] at hp1;exact hp1.elim
 | some xs =>
  simp only[e] at hp1
  cases e2:asStrs xs with
  | none=>rw[e2] at hp1;exact hp1.elim
  | some ss =>
   simp only[e2] at hp1
   by_cases c:ss.length+1<scanBound
   case neg=>rw[if_neg c] at hp1;exact hp1.elim
   rw[if_pos c] at hp1
   obtain⟨a,vs,rfl,h2,h3⟩:=asS_ok R1 d1 e
   have ev:=asStrs_ok h3 e2
   refine⟨a,vs,ss.map Sum.inr,rfl,h2,by rw[ev,List.map_map];rfl,by rw[List.length_map];exact c,fun b hb=>?_⟩
   obtain⟨R2,t2⟩:=R1.lay (o:=SetH w b (kIn (ss.map Sum.inr))) hb
   refine⟨b,_,ss,rfl,upd_same,fun k=>kIn_iff,?_⟩
   exact hp1 G1 _ _ (t1.trans t2) R2 (.int _)
def eqKv (ps qs:List (Key×PyData)):Bool:=ps.length==qs.length&&ps.all fun p=>match (qs.find? fun q=>decide (q.1=p.1)) with
 | some q=>PyData.eqv p.2 q.2
 | none=>false
end
section
variable {X:Cx}{pins:List (Addr×Obj)}{σ:L2.St}{H:Hp}{s:Shared}
end
def pyKd:List (Ky×D)→Option (List (Key×PyData))
 | []=>some []
 | (.k k,d)::r=>match toPy d,pyKd r with
  | some p,some ps=>if SeqAt.shaped p=true then some ((k,p)::ps) else none
  | _,_=>none
 | (.t _,_)::_=>none
def dctD (x:DV)(μ:Mem):Option (List (Ky×D)):=(dctOf x μ).bind allDatK
def dEqK (x y:DV)(μ:Mem):Res R:=match (dctD x μ).bind pyKd,(dctD y μ).bind pyKd with
 | some ps,some qs=>.ok (.dat (.bl (eqKv ps qs))) μ
 | _,_=>.bad
section
variable {K:PySem.W.Frag}{W:WX}{ρ:Pm}{G H G0 H0:Hp}{μ:Mem}{σ:Slots}{δ:Env}
end
noncomputable def dEqC:DV→DV→Mem→Res R:=alt2 dEqA dEqK
section
variable {X:Cx}{W:WX}{p p2 q pos:Pos}{e:Expr}{te:TE}{f:EM}
theorem pm_lenset (K:PySem.W.Frag) (w:World) (hc:X.calm=true) (hg:Gl X "len") (hm:X.mg "len"=none) (hg2:Gl X "set") (hm2:X.mg "set"=none) (he:PM X W e te f) (hK:X.K=K:=by rfl) (hw:X.w=w:=by rfl)
  (h1:starEach [e] X.env=(false,eval e X.env)::starEach [] X.env:=by rfl) (h2:(backTo q (starEach [] X.env)).any (·.1)=false:=by rfl)
  (h3:starEach [Expr.Call (.Name "set" p2) [e] [] q] X.env=(false,eval (Expr.Call (.Name "set" p2) [e] [] q) X.env)::starEach [] X.env:=by rfl) (h4:(backTo pos (starEach [] X.env)).any (·.1)=false:=by rfl) :
  PM X W (.Call (.Name "len" p) [.Call (.Name "set" p2) [e] [] q] [] pos) (tCB (rLenSet w) (tCons (tCB (rSetK K w) (tCons te tNil)) tNil)) (eLenSet f):=by
 subst hK hw
 exact⟨pe_callB cr_lenSet hg hm PySem.boot_len (pa_cons (pe_callTy (cr_setK hc) hg2 hm2 (by decide +kernel) (pa_cons he.pe pa_nil h1) (by decide) (by decide) h1 h2) pa_nil h3) (by decide) (by decide) h3 h4,snd_lenset he.sd⟩
theorem pi_strM {tg:Expr}(h:PM X W e te f):PMI X W tg e (iStr te) (imStr f):=⟨pi_str h.pe,snd_istr h.sd⟩
end
section
variable {K:PySem.W.Frag}{W:WX}{ρ:Pm}{G H:Hp}{σ:Slots}{δ:Env}{μ:Mem}{w:World}
end
section
variable {X:Cx}{W:WX}
end
section
variable {X:Cx}{W:WX}{e:Expr}{te:TE}{p p2 q pos:Pos}
end
section
variable {K:PySem.W.Frag}{W:WX}{ρ:Pm}{G H:Hp}
end
def rLen (K:PySem.W.Frag)(b:Bool):R2:=fun x y H Q=>∃ a c xs ys,x=.ref a∧y=.ref c∧SqL K H a xs∧SqL K H c ys∧xs.length≠ys.length∧Q (.bl b) H
theorem op_neL {X:Cx}(hu:X.A.units<cLine):OpR X (compareOp .NotEq) (rLen X.K true):=by
 intro pins s σ H x y v u Q I rx ry h
 obtain⟨a,c,xs,ys,rfl,rfl,h1,h2,hl,q⟩:=h
 cases rx
 cases ry
 obtain⟨i1,r1,p1,_⟩:=I.list h1
 obtain⟨i2,r2,p2,_⟩:=I.list h2
 have l1:=r1.length
 have l2:=r2.length
 exact SeqAt.RcNeAt.lists_lengths p1.isList p2.isList (by simp;omega) hu X.prog X.w _ _ ⟨.bl true,H,I,rfl,q⟩
theorem op_eqL {X:Cx}(hu:X.A.units<cLine):OpR X (compareOp .Eq) (rLen X.K false):=by
 intro pins s σ H x y v u Q I rx ry h
 obtain⟨a,c,xs,ys,rfl,rfl,h1,h2,hl,q⟩:=h
 cases rx
 cases ry
 obtain⟨i1,r1,p1,_⟩:=I.list h1
 obtain⟨i2,r2,p2,_⟩:=I.list h2
 have l1:=r1.length
 have l2:=r2.length
 exact SeqAt.RcAt.lists_lengths p1.isList p2.isList (by simp;omega) hu X.prog X.w _ _ ⟨.bl false,H,I,rfl,q⟩
def dLens (b:Bool)(x y:DV)(μ:Mem):Res R:=match asL μ x,asL μ y with
 | some xs,some ys=>if xs.length≠ys.length then .ok (.dat (.bl b)) μ else .bad
 | _,_=>.bad
theorem od_lens {K:PySem.W.Frag}(b:Bool):OpD K (rLen K b) (dLens b):=fun W ρ G H σ μ v w x y Q R hx hy hp=>by
 unfold dLens at hp
 cases e1:asL μ x with
 | none=>rw[e1] at hp;exact hp.elim
 | some xs =>
  rw[e1] at hp
  cases e2:asL μ y with
  | none=>rw[e2] at hp;exact hp.elim
  | some ys =>
   rw[e2] at hp
   simp only at hp
   by_cases c:xs.length≠ys.length
   case neg=>rw[if_neg c] at hp;exact hp.elim
   rw[if_pos c] at hp
   obtain⟨a,vs,rfl,h2,h3⟩:=asL_ok R hx e1
   obtain⟨a',vs',rfl,h2',h3'⟩:=asL_ok R hy e2
   exact⟨a,a',vs,vs',rfl,rfl,h2,h2',by rw[paired_len h3,paired_len h3'];exact c,hp.okD R (.bl _)⟩
def dNeW:DV→DV→Mem→Res R:=alt2 dNe (dLens true)
noncomputable def dEqW:DV→DV→Mem→Res R:=alt2 dEqA (dLens false)
theorem od_neW {K:PySem.W.Frag}:OpD K (fun x y H Q=>rNeQ K x y H Q∨rLen K true x y H Q) dNeW:=OpD.alt od_ne (od_lens true)
theorem od_eqW {K:PySem.W.Frag}:OpD K (fun x y H Q=>(rEqQ K x y H Q∨rSame K x y H Q)∨rLen K false x y H Q) dEqW:=OpD.alt od_eqA (od_lens false)
theorem op_neW (K:PySem.W.Frag){X:Cx}(h:X.A.units+64<cLine)(hK:X.K=K:=by rfl):OpR X (compareOp .NotEq) (fun x y H Q=>rNeQ K x y H Q∨rLen K true x y H Q):=by subst hK;exact OpR.or (op_neQ h) (op_neL (by omega))
theorem op_eqW (K:PySem.W.Frag){X:Cx}(h:X.A.units+64<cLine)(hK:X.K=K:=by rfl):OpR X (compareOp .Eq) (fun x y H Q=>(rEqQ K x y H Q∨rSame K x y H Q)∨rLen K false x y H Q):=by subst hK;exact OpR.or (op_eqA X.K h) (op_eqL (by omega))
end DL
set_option maxHeartbeats 1000000
namespace DL
open PySem PySem.Spec PyProof.Rows L2 RZ
section
variable {prog:Program}{w:World}{A:Around}{E:Value→Shared→Prop}{s:Shared}{z tin tout p i j a b:Addr}{fl:Bool}{op:Obj}{m n:Nat}{us vs:Array Value}
end
section
variable {prog:Program}{w:World}
end
section
variable {X:Cx}{W:WX}{e e2:Expr}{ta:TA}{p p2 q pos:Pos}
end
end DL
set_option maxHeartbeats 1000000
namespace DL
open PySem PySem.Spec PyProof.Rows L2
def pairsZ:List D→List D→Option (List (Ky×DV))
 | [],[]=>some []
 | a::as,b::bs=>match keyD (.dat a),pairsZ as bs with
  | some k,some ps=>some ((.k k,.dat b)::ps)
  | _,_=>none
 | _,_=>none
def zipOf (xs:List DV):Option (List (Ky×DV)):=match xs with
 | [.dat (.tup as),.dat (.tup bs)]=>pairsZ as bs
 | [.dat (.lst as),.dat (.lst bs)]=>pairsZ as bs
 | _=>none
def eDictZip (fa:AM):EM:=fun δ μ=>(fa δ μ).bind fun xs μ1=>match zipOf xs with
 | some ps=>.ok (.nk (mergeD [] ps)) μ1
 | none=>.bad
section
variable {K:PySem.W.Frag}{W:WX}{ρ:Pm}{G H:Hp}{μ:Mem}{ta:TA}{fa:AM}
end
section
variable {X:Cx}{W:WX}{e e2:Expr}{ta:TA}{fa:AM}{p p2 q pos px py pz pt pt2:Pos}
end
def unlkL (c:Nat)(μ:Mem):Option Mem:=match μ[c]? with
 | some (.lkl xs)=>some (μ.set c (.lst xs))
 | _=>none
section
variable {K:PySem.W.Frag}{W:WX}{N:Nat}{ρ ρ':Pm}{G H G' H' G0 H0:Hp}{μ μ':Mem}{σ:Slots}{δ:Env}{n c:Nat}{d:Addr}{od:Obj}{u:HO}{Dn:Ends}
def lklOf (x:DV)(μ:Mem):Option (List D):=match x with
 | .dat d=>seqD (.dat d)
 | .loc c=>match μ[c]? with
  | some (.lkl xs)=>allDat xs
  | _=>none
def imEnumL (f:AM):IM:=fun δ μ=>(f δ μ).bind fun xs μ'=>match xs with
 | [x]=>match lklOf x μ' with
  | some ds=>.ok (enumD 0 ds) μ'
  | none=>.bad
 | _=>.bad
end
section
variable {X:Cx}{W:WX}{tg e a b:Expr}{te ta tb:TE}{f fa fb:EM}{tA:TA}{fA:AM}{pos p tpos:Pos}
end
section
variable {X:Cx}{cx:CXT}{k n:Nat}{f:Addr}{fd:FuncData}{ps ks:List Str}{sp:Sp}{E:L2.St→XK}{x:Str}{p pos:Pos}{e:Expr}{es:List Expr}{kws:List Keyword}{t tk:TA}
abbrev appL {α:Type}(a b:List α):List α:=a++b
def tCallNG (n m:Nat)(sp:Sp)(E:L2.St→XK)(t tk:TA):TE:=fun σ H Q=>t σ H fun vs H1=>tk σ H1 fun zs H2=>vs.length=n∧zs.length=m∧sp (vs++zs) H2 Q (E σ)
end
structure FnDK (P:Program)(w:World)(K:PySem.W.Frag)(mg:Str→Option Value)(base:Heap)(cx:CXT)(k:Nat)(x:Str)(n:Nat)(kw:Str)(F:List DV→Mem→Res R):Prop where
 ar:∀ xs μ,F xs μ≠.bad→xs.length=n+1
 ex:∃ (f:Addr) (fd:FuncData) (ps:List Str),ps.length=n+1∧FnG P w K mg base cx k f fd ps (spF K (n+1) F)∧mg x=some (.ref f)∧PySem.W.keepIn K (.ref f)=true∧KBn K fd ps n [kw] appL appL
section
variable {X:Cx}{W:WX}{P:Program}{w:World}{K:PySem.W.Frag}{mg:Str→Option Value}{base:Heap}{cx:CXT}{k n m:Nat}{x kw:Str}{F:List DV→Mem→Res R}{e e2 ke:Expr}{p pos kpos:Pos}{t1 t2 tk:TE}{f1 f2 fk:EM}
theorem nG1 {sp:Sp}{E:L2.St→XK}:tCallNG 1 [kw].length sp E (tCons t1 tNil) (tCons tk tNil)=tCallSD sp [] E (tCons t1 (tCons tk tNil)):=by
 funext σ H Q
 simp[tCallNG,tCallSD,tCons,tNil]
theorem nG2 {sp:Sp}{E:L2.St→XK}:tCallNG 2 [kw].length sp E (tCons t1 (tCons t2 tNil)) (tCons tk tNil)=tCallSD sp [] E (tCons t1 (tCons t2 (tCons tk tNil))):=by
 funext σ H Q
 simp[tCallNG,tCallSD,tCons,tNil]
end
section
variable {K:PySem.W.Frag}{W:WX}{ρ ρ1:Pm}{G H G1 H1 G0 H0:Hp}{v:V}{r:R}
theorem RpR.base (h:∀ a,H1 a=none→H0 a=none)(q:RpR K ρ G H1 H v r):RpR K ρ G H0 H v r:=by
 cases r with
 | dat d=>exact q
 | loc n=>exact q
 | nl xs=>obtain⟨a,vs,h1,h2,h3,h4,h5,h6⟩:=q;exact⟨a,vs,h1,h2,h3,h4,h5,h _ h6⟩
 | nk xs=>obtain⟨a,o,vs,h1,h2,h3,h4,h5,h6,h7⟩:=q;exact⟨a,o,vs,h1,h2,h3,h4,h5,h6,h _ h7⟩
end
section
variable {X:Cx}{W:WX}{P:Program}{w:World}{K:PySem.W.Frag}{mg:Str→Option Value}{base:Heap}{cx:CXT}{k n:Nat}{nm m:Str}{F:List DV→Mem→Res R}{o:Expr}{to:TE}{fo:XM}{pos apos:Pos}
end
def gSwp (fo fi go gi f:EM):SM:=fun _ δ μ=>lift ((frzV f δ μ).bind fun x μ1=>match x with
 | .dat (.tup [a,b])=>(frzV fo δ μ1).bind fun o μ2=>(frzV fi δ μ2).bind fun i μ3=>match setPl μ3 o i (.dat a) with
  | some μ4=>(frzV go δ μ4).bind fun o2 μ5=>(frzV gi δ μ5).bind fun i2 μ6=>match setPl μ6 o2 i2 (.dat b) with
   | some μ7=>.ok () μ7
   | none=>.bad
  | none=>.bad
 | _=>.bad) δ fun _ μ7=>.next δ μ7
section
variable {K:PySem.W.Frag}{W:WX}{N:Nat}{ρ:Pm}{G H:Hp}{σ:Slots}{δ:Env}{μ:Mem}
end
section
variable {X:Cx}{W:WX}{pos p p2 pt:Pos}{e o i o2 i2:Expr}{te to ti uo ui:TE}{f fo fi go gi:EM}{k:Nat}
end
section
variable {δ:Env}{μ:Mem}{QR:R→Mem→Prop}{E:Xc→Mem→Prop}{QA:List DV→Mem→Prop}{QK:List (Ky×DV)→Mem→Prop}
theorem i_str {f:EM}{Q:List D→Mem→Prop}(h:Sat (frzV f δ μ) (fun x μ'=>∃ s,asStr x=some s∧Q (signs s) μ') E):Sat (imStr f δ μ) Q E:=by
 unfold imStr
 refine sat_bind (h.mono (fun x m ⟨s,e,q⟩=>?_) fun _ _ q=>q)
 rw[e];exact q
theorem x_dc {fi:IM}{h:D→Env→Option Env}{ft:TM}{fk fv:EM}{vs:List Nat}(k:Sat (fi δ μ) (fun ds μ1=>ds.length≤sizeLine∧Sat (dcL h ft fk fv (wipeE δ vs) ds [] μ1) (fun ys μ2=>QR (.nk ys) μ2) E) E):Sat (eDc fi h ft fk fv vs δ μ) QR E:=by
 refine sat_bind (k.mono (fun ds μ1 q=>?_) fun _ _ q=>q)
 rw[if_pos q.1];exact sat_bind q.2
theorem dput_new {α:Type}{kvs:List (Ky×α)}{k:Ky}{v:α}(h:∀ p∈kvs,p.1≠k):dput kvs k v=kvs++[(k,v)]:=by
 unfold dput
 rw[if_neg]
 rw[List.any_eq_true];rintro ⟨p,hp,e⟩;exact h p hp (by simpa using e)
theorem x_lc2 {fi fi1:IM}{h h1:D→Env→Option Env}{ft ft1:TM}{fe:EM}{vs vs1:List Nat}(k:Sat (fi δ μ) (fun ds μ1=>Sat (lc2L h ft fi1 h1 ft1 fe vs1 (wipeE δ vs) ds 0 μ1) (fun ys μ2=>QR (.nl ys) μ2) E) E):Sat (eLc2 fi h ft fi1 h1 ft1 fe vs vs1 δ μ) QR E:=by
 refine sat_bind (k.mono (fun ds μ1 q=>?_) fun _ _ q=>q)
 exact sat_bind q
theorem x_lenset {f:EM}(h:Sat (frzV f δ μ) (fun x μ'=>∃ xs ss,asS μ' x=some xs∧asStrs xs=some ss∧ss.length+1<scanBound∧QR (.dat (.int (sortU ss).length)) μ') E):Sat (eLenSet f δ μ) QR E:=by
 refine sat_bind (h.mono (fun x μ1 q=>?_) fun _ _ q=>q)
 obtain⟨xs,ss,e,e2,hl,q⟩:=q;rw[e];simp only;rw[e2];simp only;rw[if_pos hl];exact q
theorem w_eqC {x y:DV}(h:Sat (dEqA x y μ) QR E):Sat (dEqC x y μ) QR E:=sat_alt h
end
section
variable {δ:Env}{μ:Mem}{QR:R→Mem→Prop}{E:Xc→Mem→Prop}{ds:List (Ky×D)}{kvs:List (Ky×DV)}{n:Nat}
theorem l_lenKl (e:μ[n]?=some (.dct kvs))(hk:allK kvs=true)(h:QR (.dat (.int kvs.length)) μ):Sat (dLenA [.loc n] μ) QR E:=by
 have e0:d1 dLen [.loc n] μ=.bad:=by show dLen (.loc n) μ=_;unfold dLen asS asL;simp only[e];rfl
 refine sat_altR e0 ?_
 show Sat (dLenK (.loc n) μ) QR E
 have e:dctOf (.loc n) μ=some kvs:=by unfold dctOf;simp only;rw[e]
 unfold dLenK
 rw[e];simp only
 rw[if_pos hk];exact h
theorem l_sgn {c:Nat}{z:Str}(h:QR (.dat (.bl (decide (c∈z.cps.toList)))) μ):Sat (dInA false (.dat (.str ⟨#[c]⟩)) (.dat (.str z)) μ) QR E:=by
 have e1:dIn false (.dat (.str ⟨#[c]⟩)) (.dat (.str z)) μ=.bad:=rfl
 have e2:dInD false (.dat (.str ⟨#[c]⟩)) (.dat (.str z)) μ=.bad:=rfl
 refine sat_altR e1 (sat_altR e2 ?_)
 show Sat (dSgn false (.dat (.str ⟨#[c]⟩)) (.dat (.str z)) μ) QR E
 have e:dSgn false (.dat (.str ⟨#[c]⟩)) (.dat (.str z)) μ=.ok (.dat (.bl (decide (c∈z.cps.toList)))) μ:=by
  show Res.ok (R.dat (.bl (decide (c∈z.cps.toList) != false))) μ=_
  cases decide (c∈z.cps.toList) <;> rfl
 rw[e];exact h
end
section
variable {δ:Env}{μ:Mem}{QR:R→Mem→Prop}{QI:List D→Mem→Prop}{E:Xc→Mem→Prop}{QK:List (Ky×DV)→Mem→Prop}{fa fb:EM}{nm:Str}{F:List DV→Mem→Res R}
theorem x_disU {f:EM}{g:PsM}(h:Sat (frzV f δ μ) (fun x μ1=>∃ ds,x=.dat (.dct ds)∧(allKD ds=true∧ds.length≤1000)∧Sat (g δ μ1) (fun ps μ2=>ps.length≤15∧QR (.nk (mergeD (mergeD [] (datP ds)) (mergeD [] ps))) μ2) E) E):Sat (eDisU f g δ μ) QR E:=by
 unfold eDisU
 refine sat_bind (h.mono (fun x m ⟨ds,e,hk,q⟩=>?_) fun _ _ q=>q)
 subst e;simp only;rw[if_pos hk]
 refine sat_bind (q.mono (fun ps m2 q=>?_) fun _ _ q=>q)
 rw[if_pos q.1];exact q.2
theorem s_swp {P:DL.PO}{N:Nat}{fo fi go gi f:EM}(h:Sat (frzV f δ μ) (fun x μ1=>∃ a b,x=.dat (.tup [a,b])∧Sat (frzV fo δ μ1) (fun o μ2=>Sat (frzV fi δ μ2) (fun i μ3=>∃ μ4,setPl μ3 o i (.dat a)=some μ4∧Sat (frzV go δ μ4) (fun o2 μ5=>Sat (frzV gi δ μ5) (fun i2 μ6=>∃ μ7,setPl μ6 o2 i2 (.dat b)=some μ7∧P.nx δ μ7) (fun x μ=>P.ex x δ μ)) (fun x μ=>P.ex x δ μ)) (fun x μ=>P.ex x δ μ)) (fun x μ=>P.ex x δ μ)) (fun x μ=>P.ex x δ μ)):SatS (gSwp fo fi go gi f N δ μ) P:=by
 refine sat_lift (sat_bind (h.mono (fun x μ1 q=>?_) fun _ _ q=>q))
 obtain⟨a,b,rfl,q⟩:=q
 refine sat_bind (q.mono (fun o μ2 q=>sat_bind (q.mono (fun i μ3 q=>?_) fun _ _ q=>q)) fun _ _ q=>q)
 obtain⟨μ4,e,q⟩:=q
 rw[e]
 refine sat_bind (q.mono (fun o μ2 q=>sat_bind (q.mono (fun i μ3 q=>?_) fun _ _ q=>q)) fun _ _ q=>q)
 obtain⟨μ7,e,q⟩:=q
 rw[e];exact q
theorem x_neO {others:List Str} (h:Sat (frzV fa δ μ) (fun x μ1=>Sat (frzV fb δ μ1) (fun y μ2=>(isI nm "" x μ2=true∧((kindOf μ2 y).bind (tabC nm others)).isSome=true)∧Sat (F [x,y] μ2) (fun r μ3=>BlK r μ3 fun b μ3=>QR (.dat (.bl (!b))) μ3) (fun _ _=>False)) E) E):Sat (eNeO nm others F fa fb δ μ) QR E:=by
 refine sat_bind (h.mono (fun x μ1 q=>sat_bind (q.mono (fun y μ2 q=>?_) fun _ _ q=>q)) fun _ _ q=>q)
 rw[if_pos q.1]
 have q:=q.2
 cases e:F [x,y] μ2 with
 | ok r μ3=>rw[e] at q;obtain⟨b,rfl,_,q⟩:=BlK.ex q;exact q
 | exc x μ2=>rw[e] at q;exact q.elim
 | bad=>rw[e] at q;exact q.elim
theorem i_vals {f:EM}(h:Sat (frzV f δ μ) (fun x μ'=>∃ ds,x=.dat (.dct ds)∧allKD ds=true∧QI (ds.map (·.2)) μ') E):Sat (imVals f δ μ) QI E:=by
 unfold imVals
 refine sat_bind (h.mono (fun x m ⟨ds,e,ht,q⟩=>?_) fun _ _ q=>q)
 subst e;simp only;rw[if_pos ht];exact q
theorem i_dwn {f:AM}(h:Sat (f δ μ) (fun xs μ'=>∃ i j:Int,xs=[.dat (.int i),.dat (.int j),.dat (.int (-1))]∧(-(2^62)≤i∧i<2^62∧-(2^62)≤j∧j<2^62)∧QI (dwnD i (i-j).toNat) μ') E):Sat (imDwn f δ μ) QI E:=by
 unfold imDwn
 refine sat_bind (h.mono (fun x m ⟨i,j,e,hb,q⟩=>?_) fun _ _ q=>q)
 subst e
 show Sat (if -(2^62)≤i∧i<2^62∧-(2^62)≤j∧j<2^62∧(-1:Int)=-1 then _ else _) _ _
 rw[if_pos ⟨hb.1,hb.2.1,hb.2.2.1,hb.2.2.2,rfl⟩];exact q
end
section
variable {δ:Env}{μ:Mem}{QR:R→Mem→Prop}{E:Xc→Mem→Prop}{P:DL.PO}{N:Nat}
end
section
variable {X:Cx}{W:WX}
end
section
variable {δ:Env}{μ:Mem}{QR:R→Mem→Prop}{E:Xc→Mem→Prop}{ds:List D}{d:D}
theorem eqS_nil (b:Bool)(d:D)(ds:List D):dEqS b (.dat (.lst (d::ds))) (.dat (.lst [])) μ=.bad∨dEqS b (.dat (.lst (d::ds))) (.dat (.lst [])) μ=.ok (.dat (.bl (!b))) μ:=by
 show dEqB b (.dat (.lst (d::ds))) (.dat (.lst [])) μ=.bad∨dEqB b (.dat (.lst (d::ds))) (.dat (.lst [])) μ=_
 unfold dEqB peekPy
 rw[pk_dat,pk_dat]
 simp only[Option.bind_some]
 have e2:toPy (.lst [])=some (.list []):=rfl
 rw[e2]
 cases e:toPy (.lst (d::ds)) with
 | none=>exact .inl rfl
 | some p =>
  have hp:∃ q qs,p=.list (q::qs):=by
   simp only[toPy,toPyL] at e
   cases h1:toPy d with
   | none=>rw[h1] at e;cases e
   | some q =>
    rw[h1] at e
    cases h2:toPyL ds with
    | none=>rw[h2] at e;cases e
    | some qs=>rw[h2] at e;cases e;exact⟨q,qs,rfl⟩
  obtain⟨q,qs,rfl⟩:=hp
  simp only
  by_cases c:SeqAt.shaped (.list (q::qs))=true∧SeqAt.shaped (.list [])=true
  ·rw[if_pos c]
   right
   have:PyData.eqv (.list (q::qs)) (.list [])=false:=by simp[PyData.eqv,PyData.eqvAll]
   rw[this];cases b <;> rfl
  ·rw[if_neg c];exact .inl rfl
theorem neW_nil (h:QR (.dat (.bl (!ds.isEmpty))) μ):Sat (dNeW (.dat (.lst ds)) (.dat (.lst [])) μ) QR E:=by
 cases ds with
 | nil=>exact sat_alt (b:=dLens true (.dat (.lst [])) (.dat (.lst [])) μ) (ne_nilL (ds:=[]) (k:=0) (w:=0) (by decide) (fun d hd=>by cases hd) h)
 | cons d ds =>
  rcases eqS_nil (μ:=μ) false d ds with e|e
  ·refine sat_altR e ?_
   show Sat (dLens true (.dat (.lst (d::ds))) (.dat (.lst [])) μ) QR E
   have:dLens true (.dat (.lst (d::ds))) (.dat (.lst [])) μ=.ok (.dat (.bl true)) μ:=by
    unfold dLens;simp[asL]
   rw[this];exact h
  ·refine sat_alt ?_
   rw[show dNe (.dat (.lst (d::ds))) (.dat (.lst [])) μ=_ from e];exact h
theorem eqW_nil (h:QR (.dat (.bl ds.isEmpty)) μ):Sat (dEqW (.dat (.lst ds)) (.dat (.lst [])) μ) QR E:=by
 cases ds with
 | nil=>exact sat_alt (b:=dLens false (.dat (.lst [])) (.dat (.lst [])) μ) (eq_nilL (ds:=[]) (k:=0) (w:=0) (by decide) (fun d hd=>by cases hd) h)
 | cons d ds =>
  rcases eqS_nil (μ:=μ) true d ds with e|e
  ·have e2:dSame (.dat (.lst (d::ds))) (.dat (.lst [])) μ=.bad:=by
    unfold dSame
    rw[pk_dat,pk_dat]
    simp only[Option.bind_some]
    cases e3:toPyK (.lst (d::ds)) with
    | none=>rfl
    | some p =>
     simp only
     rw[if_neg]
     rintro ⟨z,_⟩
     have e4:toPyK (.lst [])=some (.list []):=by simp[toPyK,toPyKL]
     rw[e4] at z
     cases z
     simp only[toPyK,toPyKL] at e3
     cases h1:toPyK d with
     | none=>rw[h1] at e3;cases e3
     | some q =>
      rw[h1] at e3
      cases h2:toPyKL ds with
      | none=>rw[h2] at e3;cases e3
      | some qs=>rw[h2] at e3;cases e3
   refine sat_altR (by simp only[dEqA,alt2,show dEq (.dat (.lst (d::ds))) (.dat (.lst [])) μ=.bad from e,e2,altR]) ?_
   show Sat (dLens false (.dat (.lst (d::ds))) (.dat (.lst [])) μ) QR E
   have:dLens false (.dat (.lst (d::ds))) (.dat (.lst [])) μ=.ok (.dat (.bl false)) μ:=by
    unfold dLens;simp[asL]
   rw[this];exact h
  ·refine sat_alt (sat_alt ?_)
   rw[show dEq (.dat (.lst (d::ds))) (.dat (.lst [])) μ=_ from e];exact h
end
section
variable {μ:Mem}{δ:Env}{N:Nat}{QR:R→Mem→Prop}{E:Xc→Mem→Prop}
theorem gTup {xs:List DV}{Q:D→Prop}(h:TupK xs Q):TupK xs Q:=h
theorem gTgt' {f:D→Env→Option Env}{x:DV}{Q:Env→Prop}(h:TgtK f δ x Q):TgtK f δ x Q:=h
theorem gFld' {nms:List Str}{m:Str}{x:DV}{Q:DV→Prop}(h:FldK nms m x μ Q):FldK nms m x μ Q:=h
theorem gNxt {μ':Mem}(h:(endP N QR E).nx δ μ'):(endP N QR E).nx δ μ':=h
theorem gAnd {a b:Prop}(h:a∧b):a∧b:=h
theorem gBind {b:Bool}{i:Nat}{r:R}{k:Env→Mem→Prop}(h:BindK b N i r δ μ k):BindK b N i r δ μ k:=h
theorem gBlK {r:R}{QB:Bool→Mem→Prop}(h:BlK r μ QB):BlK r μ QB:=h
end
section
variable {QR:R→Mem→Prop}{QV:DV→Mem→Prop}{QA:List DV→Mem→Prop}{QI:List D→Mem→Prop}{QF:Fds→Mem→Prop}{QE:Env→Mem→Prop}{E:Xc→Mem→Prop}{μ ν:Mem}{δ:Env}{N n c:Nat}{P:PO}{x y:DV}{kvs:List (Ky×DV)}{ds:List (Ky×D)}{fs:Fds}
theorem gBb {r:Res Fds}{QF:Fds→Mem→Prop}{E:Xc→Mem→Prop}(h:Sat r QF E):Sat r QF E:=h
theorem gHh {r:Res Env}{QF:Env→Mem→Prop}{E:Xc→Mem→Prop}(h:Sat r QF E):Sat r QF E:=h
def UnK (c:Nat)(μ:Mem)(Q:Mem→Prop):Prop:=∃ kvs,μ[c]?=some (.lkd kvs)∧Q (μ.set c (.dct kvs))
theorem UnK.of {Q:Mem→Prop}(h:UnK c μ Q):∃ μ',unlk c μ=some μ'∧Q μ':=by
 obtain⟨kvs,e,q⟩:=h
 exact⟨_,by unfold unlk;rw[e],q⟩
def LkK (x:DV)(μ:Mem)(Q:List (Ky×D)→Prop):Prop:=∃ ds,lkdOf x μ=some ds∧allKD ds=true∧Q ds
theorem i_keysL {f:EM}(h:Sat (frzV f δ μ) (fun x μ'=>LkK x μ' fun ds=>QI (keysD ds) μ') E):Sat (imKeysL f δ μ) QI E:=by
 refine sat_bind (h.mono (fun x m ⟨ds,e,hk,q⟩=>?_) fun _ _ q=>q)
 rw[e];simp only[hk,if_true];exact q
theorem i_itemsL {f:EM}(h:Sat (frzV f δ μ) (fun x μ'=>LkK x μ' fun ds=>QI (pairsOf ds) μ') E):Sat (imItemsL f δ μ) QI E:=by
 refine sat_bind (h.mono (fun x m ⟨ds,e,hk,q⟩=>?_) fun _ _ q=>q)
 rw[e];simp only[hk,if_true];exact q
theorem x_xof {f:EM}(h:Sat (f δ μ) (fun r μ'=>NpK μ.length r μ' QV) E):Sat (xOf f δ μ) QV E:=by
 refine sat_bind (h.mono (fun r m q=>?_) fun _ _ q=>q)
 unfold NpK at q
 cases e:newPl μ.length r m with
 | none=>rw[e] at q;exact q.elim
 | some p=>rw[e] at q;exact q
theorem xa_nilK (h:QA [] μ):Sat (xaNil δ μ) QA E:=h
theorem xa_consK {f:XM}{g:XA}(h:Sat (f δ μ) (fun x μ1=>μ.length≤μ1.length∧Sat (g δ μ1) (fun xs μ2=>QA (x::xs) μ2) E) E):Sat (xaCons f g δ μ) QA E:=by
 refine sat_bind (h.mono (fun x m q=>?_) fun _ _ q=>q)
 rw[if_pos q.1];exact sat_bind q.2
theorem x_xcall {F:List DV→Mem→Res DV}{fa:AM}(h:Sat (fa δ μ) (fun xs μ1=>μ.length≤μ1.length∧Sat (F xs μ1) QV E) E):Sat (xCall F fa δ μ) QV E:=by
 refine sat_bind (h.mono (fun xs m q=>?_) fun _ _ q=>q)
 rw[if_pos q.1];exact q.2
theorem x_xmeth {nm m:Str}{F:List DV→Mem→Res DV}{f:EM}{fa:AM}(h:Sat (frzV f δ μ) (fun x μ1=>isI nm m x μ1=true∧Sat (fa δ μ1) (fun xs μ2=>μ.length≤μ2.length∧Sat (F (x::xs) μ2) QV E) E) E):Sat (xMeth nm m F f fa δ μ) QV E:=by
 refine sat_bind (h.mono (fun x m q=>?_) fun _ _ q=>q)
 rw[if_pos q.1]
 refine sat_bind (q.2.mono (fun xs m q=>?_) fun _ _ q=>q)
 rw[if_pos q.1];exact q.2
theorem x_xmake {nm:Str}{F:List DV→Mem→Res Fds}{fa:AM}(h:Sat (fa δ μ) (fun xs μ1=>μ.length≤μ1.length∧Sat (F xs μ1) (fun fs μ2=>QV (.loc (μ2.length+1)) (μ2++[.own]++[.ins nm fs])) E) E):Sat (xMake nm F fa δ μ) QV E:=by
 refine sat_bind (h.mono (fun xs m q=>?_) fun _ _ q=>q)
 rw[if_pos q.1];exact sat_bind q.2
theorem b_nilK (h:QF fs μ):Sat (bNil δ μ fs) QF E:=h
theorem b_seqK {g h:BM}(k:Sat (g δ μ fs) (fun fs' μ'=>Sat (h δ μ' fs') QF E) E):Sat (bSeq g h δ μ fs) QF E:=sat_bind k
theorem b_fldK {m:Str}{f:EM}(h:Sat (xOf f δ μ) (fun y μ1=>(μ.length≤μ1.length∧fs.length<1000)∧QF (putD m y fs) μ1) E):Sat (bFld m f δ μ fs) QF E:=by
 refine sat_bind (h.mono (fun y m q=>?_) fun _ _ q=>q)
 rw[if_pos q.1];exact q.2
theorem s_bld {i:Nat}{F:List DV→Mem→Res Fds}{fa:AM}{g:Fds→SM}(h:Sat (fa δ μ) (fun xs μ1=>(N≤μ1.length∧i<δ.length)∧Sat (F xs μ1) (fun fs μ2=>SatS (g fs N (δ.set i none) μ2) P) (fun x μ=>P.ex x δ μ)) (fun x μ=>P.ex x δ μ)):SatS (gBld i F fa g N δ μ) P:=by
 refine sat_lift (h.mono (fun xs m q=>?_) fun _ _ q=>q)
 rw[if_pos q.1];exact sat_lift q.2
theorem s_bseq {b:BM}{g:Fds→SM}(h:Sat (b δ μ fs) (fun fs' μ'=>SatS (g fs' N δ μ') P) (fun x μ=>P.ex x δ μ)):SatS (gBSeq b g fs N δ μ) P:=sat_lift h
theorem s_pub {nm:Str}{i:Nat}{g:SM}(h:SatS (g N (δ.set i (some (.loc (μ.length+1)))) (μ++[.own]++[.ins nm fs])) P):SatS (gPub nm i g fs N δ μ) P:=h
theorem x_dpop1 {fd fy:EM}(h:Sat (frzV fd δ μ) (fun x μ1=>isDct x μ1=true∧Sat (frzV fy δ μ1) (fun y μ2=>Sat (dPopK x y none μ2) QR E) E) E):Sat (eDPop1 fd fy δ μ) QR E:=by
 refine sat_bind (h.mono (fun x m q=>?_) fun _ _ q=>q)
 rw[if_pos q.1];exact sat_bind q.2
theorem x_dpop2 {fd fy fz:EM}(h:Sat (frzV fd δ μ) (fun x μ1=>isDct x μ1=true∧Sat (frzV fy δ μ1) (fun y μ2=>Sat (frzV fz δ μ2) (fun z μ3=>Sat (dPopK x y (some z) μ3) QR E) E) E) E):Sat (eDPop2 fd fy fz δ μ) QR E:=by
 refine sat_bind (h.mono (fun x m q=>?_) fun _ _ q=>q)
 rw[if_pos q.1]
 exact sat_bind (q.2.mono (fun _ _ q=>sat_bind q) fun _ _ q=>q)
theorem s_daug {fo fi fe:EM}(h:Sat (frzV fo δ μ) (fun x μ1=>Sat (frzV fi δ μ1) (fun i μ2=>Sat (dGet x i μ2) (fun r μ3=>Sat (frzV fe δ μ3) (fun y μ4=>∃ a b μ5,r=.dat (.int a)∧y=.dat (.int b)∧setDct μ4 x i (.dat (.int (a+b)))=some μ5∧P.nx δ μ5) (fun x μ=>P.ex x δ μ)) (fun x μ=>P.ex x δ μ)) (fun x μ=>P.ex x δ μ)) (fun x μ=>P.ex x δ μ)):SatS (gDAug fo fi fe N δ μ) P:=by
 refine sat_lift (sat_bind (h.mono (fun x m q=>sat_bind (q.mono (fun i m q=>sat_bind (q.mono (fun r m q=>sat_bind (q.mono (fun y m q=>?_) fun _ _ q=>q)) fun _ _ q=>q)) fun _ _ q=>q)) fun _ _ q=>q))
 obtain⟨a,b,μ5,rfl,rfl,e,q⟩:=q
 simp only[e];exact q
theorem s_fldaug {nms:List Str}{m:Str}{fo fe:EM}(h:Sat (frzV fo δ μ) (fun x μ1=>∃ a,fldI nms m x μ1=some a∧Sat (frzV fe δ μ1) (fun y μ2=>∃ b μ3,y=.dat (.int b)∧(insAt μ2 x).map (·.1)=(insAt μ1 x).map (·.1)∧setFld nms μ2 x m (.dat (.int (a+b)))=some μ3∧P.nx δ μ3) (fun x μ=>P.ex x δ μ)) (fun x μ=>P.ex x δ μ)):SatS (gFldAug nms m fo fe N δ μ) P:=by
 refine sat_lift (sat_bind (h.mono (fun x m q=>?_) fun _ _ q=>q))
 obtain⟨a,e,q⟩:=q
 rw[e]
 refine sat_bind (q.mono (fun y m q=>?_) fun _ _ q=>q)
 obtain⟨b,μ3,rfl,e1,e2,q⟩:=q
 simp only;rw[if_pos e1,e2];exact q
def SoK (x:DV)(Q:List D→Prop):Prop:=∃ ds,seqOf x=some ds∧Q ds
theorem a_starK {f:EM}{g:AM}(h:Sat (frzV f δ μ) (fun x μ1=>SoK x fun ds=>Sat (g δ μ1) (fun xs μ2=>QA (ds.map DV.dat++xs) μ2) E) E):Sat (aStar f g δ μ) QA E:=by
 refine sat_bind (h.mono (fun x m ⟨ds,e,q⟩=>?_) fun _ _ q=>q)
 rw[e];exact sat_bind q
theorem s_tgtM {n:Nat}{h:List DV→Env→Mem→Res Env}{f:EM}(k:Sat (frzV f δ μ) (fun x μ1=>∃ ds,x=.dat (.tup ds)∧ds.length=n∧Sat (h (ds.map DV.dat) δ μ1) (fun δ' μ'=>P.nx δ' μ') (fun _ _=>False)) (fun x μ=>P.ex x δ μ)):SatS (gTgtM n h f N δ μ) P:=by
 refine sat_lift (k.mono (fun x m q=>?_) fun _ _ q=>q)
 obtain⟨ds,rfl,e,q⟩:=q
 simp only;rw[if_pos e]
 cases eh:h (ds.map DV.dat) δ m with
 | bad=>rw[eh] at q;exact q.elim
 | exc x m=>rw[eh] at q;exact q.elim
 | ok d m=>rw[eh] at q;exact q
theorem h_nilK (h:QE δ μ):Sat (hNil [] δ μ) QE E:=h
theorem h_consK {g:TGM}{r:List DV→Env→Mem→Res Env}{xs:List DV}(h:Sat (g x δ μ) (fun δ1 μ1=>Sat (r xs δ1 μ1) QE E) E):Sat (hCons g r (x::xs) δ μ) QE E:=sat_bind h
theorem h_nameK {i:Nat}(h:QE (δ.set i (some x)) μ):Sat (hName i x δ μ) QE E:=h
theorem h_fldK {nms:List Str}{m:Str}{fo:EM}(h:Sat (frzV fo δ μ) (fun o μ1=>∃ μ2,setFld nms μ1 o m x=some μ2∧QE δ μ2) E):Sat (hFld nms m fo x δ μ) QE E:=by
 refine sat_bind (h.mono (fun o m ⟨μ2,e,q⟩=>?_) fun _ _ q=>q)
 rw[e];exact q
theorem h_dputK {fo fi:EM}(h:Sat (frzV fo δ μ) (fun o μ1=>Sat (frzV fi δ μ1) (fun i μ2=>∃ μ3,setDct μ2 o i x=some μ3∧QE δ μ3) E) E):Sat (hDPut fo fi x δ μ) QE E:=by
 refine sat_bind (h.mono (fun o m q=>sat_bind (q.mono (fun i m ⟨μ3,e,q⟩=>?_) fun _ _ q=>q)) fun _ _ q=>q)
 rw[e];exact q
theorem x_dictZip {fa:AM}(h:Sat (fa δ μ) (fun xs μ1=>∃ ps,zipOf xs=some ps∧QR (.nk (mergeD [] ps)) μ1) E):Sat (eDictZip fa δ μ) QR E:=by
 refine sat_bind (h.mono (fun xs m ⟨ps,e,q⟩=>?_) fun _ _ q=>q)
 rw[e];exact q
end
section
variable {QR:R→Mem→Prop}{QI:List D→Mem→Prop}{E:Xc→Mem→Prop}{μ ν:Mem}{δ:Env}{N n c:Nat}{P:PO}{x y:DV}{xs:List DV}{ds:List D}
def UnL (c:Nat)(μ:Mem)(Q:Mem→Prop):Prop:=∃ xs,μ[c]?=some (.lkl xs)∧Q (μ.set c (.lst xs))
theorem UnL.of {Q:Mem→Prop}(h:UnL c μ Q):∃ μ',unlkL c μ=some μ'∧Q μ':=by
 obtain⟨kvs,e,q⟩:=h
 exact⟨_,by unfold unlkL;rw[e],q⟩
def LkLK (x:DV)(μ:Mem)(Q:List D→Prop):Prop:=∃ ds,lklOf x μ=some ds∧Q ds
theorem i_enumL {f:EM}(h:Sat (frzV f δ μ) (fun x μ'=>LkLK x μ' fun ds=>QI (enumD 0 ds) μ') E):Sat (imEnumL (aCons f aNil) δ μ) QI E:=by
 refine sat_bind (sat_bind (h.mono (fun x μ1 q=>?_) fun _ _ q=>q))
 obtain⟨ds,e,q⟩:=q
 show Sat (match lklOf x μ1 with|some ds=>_|none=>_) _ _
 rw[e];exact q
end
section
variable {K:PySem.W.Frag}{ρ:Pm}{G:Hp}{σ:Slots}{δ:Env}{W:WX}{t:TS}{g:SM}
end
section
variable {QV:DV→Mem→Prop}{E:Xc→Mem→Prop}{μ:Mem}{δ:Env}{N:Nat}{P:PO}
end
structure Err0 (K:PySem.W.Frag)(mg:Str→Option Value)(nm:Str)(C:Addr):Prop where
 gC:mg nm=some (.ref C)
 exc:PySem.W.excIn K C [.type "ValueError",.type "Exception",.type "BaseException",.type "object"] "ValueError.__new__"=true
 kC:PySem.W.keepIn K (.ref C)=true
 exC:PySem.W.subIn K (.ref C) (.type "BaseException")=some true
 tyC:PySem.W.typeIn K (.ref C)=some (.type "type")
def gRaise0 (nm:Str):SM:=fun _ δ μ=>.exc ⟨nm,[]⟩ δ μ
def errAt0 (i:Nat)(δ:Env):Option (Addr×Addr×Str):=match δ[i]? with
 | some (some (.dat (.err a C _ nm [])))=>some (a,C,nm)
 | _=>none
def eIsE0 (i:Nat)(a C:Addr)(tab:List (Str×Bool)):EM:=fun δ μ=>match errAt0 i δ with
 | some (a',C',nm)=>if a'=a∧C'=C then match tab.lookup nm with
   | some b=>.ok (.dat (.bl b)) μ
   | none=>.bad
  else .bad
 | none=>.bad
section
variable {X:Cx}{W:WX}{a C:Addr}{oe:Obj}{pn:List (Addr×Obj)}{n:Str}{p p1 p2 pos:Pos}
end
open Classical in
noncomputable def gTryE (cat:List (Str×Bool))(i:Nat)(gb:SM)(gs:Addr→Addr→Addr→SM)(gs0:Addr→Addr→SM):SM:=fun N δ μ=>match gb N δ μ with
 | .exc x δ' μ'=>match cat.lookup x.nm with
  | some true=>if x.fs≠[] then suiteOut i fun a C d=>gs a C d N (δ'.set i (some (.dat (.err a C d x.nm x.fs)))) μ'
   else suiteOut i fun a C _=>gs0 a C N (δ'.set i (some (.dat (.err a C 0 x.nm [])))) μ'
  | some false=>.exc x δ' μ'
  | none=>.bad
 | o=>o
section
variable {K:PySem.W.Frag}{W:WX}
end
section
variable {P:Program}{w:World}{K:PySem.W.Frag}{mg:Str→Option Value}{base:Heap}
end
set_option maxHeartbeats 2000000
section
variable {K:PySem.W.Frag}
end
def dEq1 (x y:DV)(μ:Mem):Res R:=match x,y with
 | .dat (.tup (.str i::ds)),.dat (.tup [.str j])=>.ok (.dat (.bl (decide (i=j)&&ds.isEmpty))) μ
 | _,_=>.bad
theorem l_eq1 {QR:R→Mem→Prop}{E:Xc→Mem→Prop}{μ:Mem}{i j:Str}{ds:List D}(h:QR (.dat (.bl (decide (i=j)&&ds.isEmpty))) μ):Sat (dEq1 (.dat (.tup (.str i::ds))) (.dat (.tup [.str j])) μ) QR E:=h
section
variable {X:Cx}{pins:List (Addr×Obj)}{σ:Slots}{H:Hp}{s:Shared}
end
set_option maxHeartbeats 1000000
section
variable {K:PySem.W.Frag}{W:WX}{ρ:Pm}{G H:Hp}{σ:Slots}{μ:Mem}{v u:V}{x y:DV}{Q:VK}
def strsDV:List DV→Option (List Str)
 | []=>some []
 | x::xs=>match asStr x,strsDV xs with
  | some a,some r=>some (a::r)
  | _,_=>none
theorem strsDV_ok:∀ {xs:List DV} {vs:List V} {ys:List Str},DvL K ρ G vs xs→strsDV xs=some ys→vs=ys.map V.str
 | [],[],_,_,e=>by cases e;rfl
 | [],_::_,_,d,_=>by cases d
 | _::_,[],_,d,_=>by cases d
 | x::xs,w::vs,ys,d,e=>by
  cases d with
  | cons d1 d2 =>
   unfold strsDV at e
   cases e1:asStr x with
   | none=>rw[e1] at e;cases e
   | some a =>
    rw[e1] at e
    cases e2:strsDV xs with
    | none=>rw[e2] at e;cases e
    | some r =>
     rw[e2] at e;cases e
     rw[List.map_cons,asStr_ok d1 e1,strsDV_ok d2 e2]
def dJoin (x:DV)(xs:List DV)(μ:Mem):Res R:=match asStr x with
 | none=>.bad
 | some a=>match xs with
  | [y]=>match (asS μ y).bind strsDV with
   | some ys=>if(ys.map (·.length)).sum+ys.length*a.length≤16777216 then .ok (.dat (.str (Txt.join a ys))) μ else .bad
   | none=>.bad
  | _=>.bad
theorem md_join:MtD K (fun x xs H Q=>∃ a p,∃ ys:List Str,x=.str a∧xs=[.ref p]∧(SqL K H p (ys.map V.str)∨SqT K H p (ys.map V.str))∧(ys.map (·.length)).sum+ys.length*a.length≤16777216∧Q (.str (Txt.join a ys)) H) dJoin:=fun W ρ G H σ μ v vs x xs Q R hx hs hp=>by
 unfold dJoin at hp
 cases e:asStr x with
 | none=>rw[e] at hp;exact hp.elim
 | some a =>
  rw[e] at hp
  match xs,hs,hp with
  | [],_,hp=>exact hp.elim
  | _::_::_,_,hp=>exact hp.elim
  | [y],hs,hp =>
   obtain⟨u,rfl,du⟩:=hs.one
   simp only at hp
   cases e2:(asS μ y).bind strsDV with
   | none=>rw[e2] at hp;exact hp.elim
   | some ys =>
    simp only[e2] at hp
    by_cases c:(ys.map (·.length)).sum+ys.length*a.length≤16777216
    case neg=>rw[if_neg c] at hp;exact hp.elim
    rw[if_pos c] at hp
    obtain⟨zs,e3,e4⟩:=Option.bind_eq_some_iff.mp e2
    obtain⟨p,ws,rfl,h2,h3⟩:=asS_ok R du e3
    have:=strsDV_ok h3 e4
    subst this
    rw[asStr_ok hx e]
    exact⟨a,p,ys,rfl,rfl,h2,c,hp.okD R (.str _)⟩
theorem mt_joinK (K:PySem.W.Frag){X:Cx}(hK:X.K=K:=by rfl):MtR X "str.join" (fun x xs H Q=>∃ a p,∃ ys:List Str,x=.str a∧xs=[.ref p]∧(SqL K H p (ys.map V.str)∨SqT K H p (ys.map V.str))∧(ys.map (·.length)).sum+ys.length*a.length≤16777216∧Q (.str (Txt.join a ys)) H):=by
 subst hK;exact mt_join
theorem l_join {QR:R→Mem→Prop}{E:Xc→Mem→Prop}{a:Str}{ys:List Str}(hl:(ys.map (·.length)).sum+ys.length*a.length≤16777216)(h:QR (.dat (.str (Txt.join a ys))) μ):Sat (dJoin (.dat (.str a)) [.dat (.lst (ys.map D.str))] μ) QR E:=by
 have e1:strsDV ((ys.map D.str).map DV.dat)=some ys:=by
  clear hl h
  induction ys with
  | nil=>rfl
  | cons y ys ih=>rw[List.map_cons,List.map_cons];unfold strsDV;rw[ih];rfl
 have e2:asS μ (.dat (.lst (ys.map D.str)))=some ((ys.map D.str).map DV.dat):=rfl
 have:dJoin (.dat (.str a)) [.dat (.lst (ys.map D.str))] μ=.ok (.dat (.str (Txt.join a ys))) μ:=by
  unfold dJoin
  rw[show asStr (.dat (.str a))=some a from rfl]
  simp only[e2,Option.bind_some,e1,if_pos hl]
 rw[this];exact h
def dIxS (x y:DV)(μ:Mem):Res R:=match asStr x,asI y with
 | some z,some i=>match atI z.cps.toList i with
  | some c=>if z.length≤1000000 then .ok (.dat (.str ⟨#[c]⟩)) μ else .bad
  | none=>.bad
 | _,_=>.bad
theorem od_ixS:OpD K rIxS dIxS:=fun W ρ G H σ μ v w x y Q R hx hy hp=>by
 unfold dIxS at hp
 cases e1:asStr x with
 | none=>rw[e1] at hp;exact hp.elim
 | some z =>
  cases e2:asI y with
  | none=>rw[e1,e2] at hp;exact hp.elim
  | some i =>
   simp only[e1,e2] at hp
   cases e3:atI z.cps.toList i with
   | none=>rw[e3] at hp;exact hp.elim
   | some c =>
    simp only[e3] at hp
    by_cases hz:z.length≤1000000
    case neg=>rw[if_neg hz] at hp;exact hp.elim
    rw[if_pos hz] at hp
    rw[asStr_ok hx e1,asI_ok hy e2]
    exact⟨z,i,c,rfl,rfl,Nat.le_trans hz (by decide),e3,hp.okD R (.str _)⟩
end
theorem pm_ixS {X:Cx}{W:WX}{a b:Expr}{ta tb:TE}{fa fb:EM}{pos:Pos}(ha:PM X W a ta fa)(hb:PM X W b tb fb)(hs:PlainIx b):PM X W (.Subscript a b pos) (tOp rIxS ta tb) (eOp dIxS fa fb):=pm_ix ix_str od_ixS ha hb hs
theorem l_ixS {QR:R→Mem→Prop}{E:Xc→Mem→Prop}{μ:Mem}{z:Str}{i:Int}{c:Nat}(e:atI z.cps.toList i=some c)(hz:z.length≤1000000)(h:QR (.dat (.str ⟨#[c]⟩)) μ):Sat (dIxS (.dat (.str z)) (.dat (.int i)) μ) QR E:=by
 have:dIxS (.dat (.str z)) (.dat (.int i)) μ=.ok (.dat (.str ⟨#[c]⟩)) μ:=by
  unfold dIxS
  rw[show asStr (.dat (.str z))=some z from rfl,show asI (.dat (.int i))=some i from rfl]
  simp only[e,if_pos hz]
 rw[this];exact h
structure FnDKd (P:Program)(w:World)(K:PySem.W.Frag)(mg:Str→Option Value)(base:Heap)(cx:CXT)(k:Nat)(x:Str)(n:Nat)(d:Int)(F:List DV→Mem→Res R):Prop where
 ar:∀ xs μ,F xs μ≠.bad→xs.length=n+1
 ex:∃ (f:Addr) (fd:FuncData) (ps:List Str) (ds:List Value),ps.length=n+1∧FnG P w K mg base cx k f fd ps (spF K (n+1) F)∧mg x=some (.ref f)∧PySem.W.keepIn K (.ref f)=true∧Vals [V.int d] ds∧Binds K fd ps ds
variable {X:Cx}{W:WX}
end DL
namespace DL
open PySem PySem.Spec PyProof.Rows L2
def dGet2 (x y z:DV)(μ:Mem):Res R:=match dctOf x μ,keyD y with
 | some kvs,some k=>if allK kvs=true then match dval kvs (.k k) with
   | some u=>.ok (ofV u) μ
   | none=>.ok (ofV z) μ
  else .bad
 | _,_=>.bad
def eDGet2 (fd fy fz:EM):EM:=fun δ μ=>(frzV fd δ μ).bind fun x μ1=>if isDct x μ1=true then(frzV fy δ μ1).bind fun y μ2=>(frzV fz δ μ2).bind fun z μ3=>dGet2 x y z μ3 else .bad
theorem snd_dget2 {K:PySem.W.Frag}{W:WX}{td ty tz:TE}{fd fy fz:EM}(hd:SndE K W td fd)(hy:SndE K W ty fy)(hz:SndE K W tz fz):SndE K W (tDGet2 td ty tz) (eDGet2 fd fy fz):=fun ρ G H σ δ μ Q R E hp=>by
 refine SndG.seq (t:=td) hd.toV R E hp fun x μ1 G1 H1 v t1 R1 E1 d1 hp1=>?_
 by_cases hi:isDct x μ1=true
 case neg=>rw[if_neg hi] at hp1;exact hp1.elim
 rw[if_pos hi] at hp1
 obtain⟨a,rfl,ha⟩:=isDct_ok R1 d1 hi
 refine⟨a,rfl,ha,?_⟩
 refine SndG.seq (t:=ty) hy.toV R1 E1 (hp1.shiftE t1) fun y μ2 G2 H2 w t2 R2 E2 d2 hp2=>?_
 refine SndG.seq (t:=tz) hz.toV R2 E2 (hp2.shiftE t2) fun z μ3 G3 H3 u t3 R3 E3 d3 hp3=>?_
 unfold dGet2 at hp3
 match e1:dctOf x μ3,e2:keyD y with
 | none,_=>simp only[e1] at hp3;exact hp3.elim
 | some _,none=>simp only[e1,e2] at hp3;exact hp3.elim
 | some kvs,some k =>
  simp only[e1,e2] at hp3
  by_cases hk:allK kvs=true
  case neg=>rw[if_neg hk] at hp3;exact hp3.elim
  rw[if_pos hk] at hp3
  have d1':=(d1.mono t2.exG fun _ _ q=>q).mono t3.exG fun _ _ q=>q
  have d2':=d2.mono t3.exG fun _ _ q=>q
  obtain⟨a',o,vs,h0,h1,h2,h3⟩:=dctOf_ok R3 d1' e1
  cases h0
  obtain⟨ls,rfl,hl⟩:=dK_of h2 h3 hk
  refine⟨_,.inl ⟨ls,k,h1,keyD_ok d2' e2,rfl⟩,?_⟩
  rcases prl_val (k:=k) hl with⟨q',q⟩|⟨v,z',q1,q2,q3⟩
  ·rw[q] at hp3;rw[q'];exact hp3 G3 H3 u t3 R3 (RpR.ofV d3)
  ·rw[q2] at hp3;rw[q1];exact hp3 G3 H3 v t3 R3 (RpR.ofV q3)
theorem pm_dg2 {X:Cx} {W:WX} {o e f:Expr} {td ty tz:TE} {fd fy fz:EM} {apos cpos:Pos} (hu:X.A.units+64<cLine) (hd:PM X W o td fd) (hy:PM X W e ty fy) (hz:PM X W f tz fz) (m:M2 X o "get" apos e f cpos:=by exact⟨rfl,rfl,rfl,rfl⟩) :
  PM X W (.Call (.Attribute o "get" apos) [e,f] [] cpos) (tDGet2 td ty tz) (eDGet2 fd fy fz):=⟨pe_dget2 (by omega) hd.pe hy.pe hz.pe m,snd_dget2 hd.sd hy.sd hz.sd⟩
section
variable {QR:R→Mem→Prop}{E:Xc→Mem→Prop}{δ:DL.Env}{μ:Mem}{y:DV}
theorem x_dget2 {fd fy fz:EM}(h:Sat (frzV fd δ μ) (fun x μ1=>isDct x μ1=true∧Sat (frzV fy δ μ1) (fun y μ2=>Sat (frzV fz δ μ2) (fun z μ3=>Sat (dGet2 x y z μ3) QR E) E) E) E):Sat (eDGet2 fd fy fz δ μ) QR E:=by
 unfold eDGet2
 refine sat_bind (h.mono (fun x m q=>?_) fun _ _ q=>q)
 rw[if_pos q.1]
 refine sat_bind (q.2.mono (fun y m q=>?_) fun _ _ q=>q)
 exact sat_bind q
theorem l_get2 {k:Key}{z:D}{ds:List (Ky×D)}(hy:keyD y=some k)(hk:allKD ds=true)(h:QR (.dat ((dval ds (.k k)).getD z)) μ):Sat (dGet2 (.dat (.dct ds)) y (.dat z) μ) QR E:=by
 unfold dGet2
 have e1:dctOf (.dat (.dct ds)) μ=some (datP ds):=rfl
 rw[e1,hy]
 have e2:allK (datP ds)=true:=by unfold allKD at hk;unfold allK datP;rw[List.all_map];exact hk
 have e3:dval (datP ds) (.k k)=(dval ds (.k k)).map DV.dat:=by
  unfold dval datP
  rw[List.find?_map]
  cases e:ds.find? fun p=>decide (p.1=.k k) <;> simp[Function.comp_def,e]
 simp only[e2,if_true,e3]
 cases e:dval ds (.k k) with
 | none=>rw[e] at h;exact h
 | some z=>rw[e] at h;exact h
end
section
variable {QR:R→Mem→Prop}{E:Xc→Mem→Prop}{μ:Mem}
end
section
variable {P:Program}{w:World}{K:PySem.W.Frag}{mg:Str→Option Value}{base:Heap}
end
section
variable {X:Cx}{C fI:Addr}{nm f:Str}
def tEo (C:Addr)(ta:TA):TE:=fun σ H Q=>ta σ H fun vs H1=>(∃ v,vs=[v])∧∀ a d,H1 a=none→H1 d=none→a≠d→Q (.ref a) (upd (upd H1 d (.own a)) a (EO a C d))
theorem pe_eo {a:Expr} {ta:TA} {p pos:Pos} {k:Nat} (T:DX.ErrTxt X.prog X.K X.mg nm f C fI) (hr:Room k X.A) (ha:PA X [a] ta) (hg:Gl X nm) (hdb:(nm==("__debug__":Str))=false:=by decide)
  (he:starEach (a::[]) X.env=(false,eval a X.env)::starEach [] X.env:=by rfl) (hpl:(backTo pos (starEach [] X.env)).any (·.1)=false:=by rfl) :
  PE X (.Call (.Name nm p) [a] [] pos) (tEo C ta):=by
 refine⟨fun pins s σ H Q I h=>?_⟩
 refine wpAny_Call_Name_kw (ld_glob I hg T.gC ?_ hdb)
 refine PySem.W.callWith_K (h₀:=X.base) I.ok.mod.kin T.kC (thn (ha.run pos pins s σ H _ I h) fun us s1 hh=>?_) he hpl
 obtain⟨vs,H1,I1,r1,⟨v,ev⟩,q1⟩:=hh
 subst ev
 refine⟨I1.kIn,?_⟩
 cases r1 with
 | cons rv rn =>
  rename_i v' us'
  cases rn
  show wpAny _ _ (call (.ref C) [v']) _ _ _
  have hlim:=I1.nolimit
  have G1:s1.heap.Ns mainGlobals X.mg:=I1.mod.glob.keeps I1.bk
  have hb1:∃ mb,s1.heap.Ns builtinsNs mb∧∀ x:Str,x≠"__name__"→mb x=bootBuiltins x:=by
   obtain⟨mb,b1,b2⟩:=I1.mod.blt
   exact⟨mb,b1.keeps I1.bk,b2⟩
  obtain⟨hp,g,dr,tk,os⟩:=s1
  refine wpAny_call (DX.made_ok T I1.kIn hlim G1 hb1 (by have:=hr.dp;omega) fun h' tk' e d M=>?_)
  show EP X pins σ Q (.ref e) ⟨h',g,dr,tk',os⟩
  obtain⟨oe,fv,hoe,hc,hd,hdat,h1⟩:=M.obj
  have hns:=M.ns
  obtain⟨G',g1,g2⟩:=restrict h' fun b=>decide (b≠e)
  have gk:∀ b,b≠e→G'.get? b=h'.get? b:=fun b hb=>g1 b (decide_eq_true hb)
  have ge:G'.get? e=none:=g2 e (by simp)
  have old:∀ b o,hp.get? b=some o→G'.get? b=some o:=fun b o q=>(gk b (Nat.ne_of_lt (Nat.lt_of_lt_of_le (Heap.lt_size q) M.new))).trans (M.keep b o q)
  have ob:ObjOk X.prog X.w (upd H1 d (.own e)) G' d (.own e):=by
   obtain⟨od,es,ep,ho,r⟩:=hns
   exact⟨od,(gk d M.dne).trans ho⟩
  have J:Inv X pins σ (upd H1 d (.own e)) ⟨G',g,dr,tk',os⟩:=I1.laid (t':=tk') old M.dbig ob
  have hn1:H1 e=none:=I1.hok.fresh M.new
  have hn:upd H1 d (.own e) e=none:=by rw[upd_ne (Ne.symm M.dne)];exact hn1
  have up:∀ b u,G'.get? b=some u→h'.get? b=some u:=fun b u q=>by
   by_cases hb:b=e
   ·rw[hb,ge] at q;cases q
   ·exact(gk b hb).symm.trans q
  have new:ObjOk X.prog X.w (upd (upd H1 d (.own e)) e (EO e C d)) h' e (EO e C d) :=
   ⟨⟨oe,hoe,hc,hd,fv,hdat⟩,⟨oe,hoe⟩,fun a b ⟨ox,x1,x2⟩ k=>⟨ox,k _ x1,x2⟩⟩
  have J2:Inv X pins σ (upd (upd H1 d (.own e)) e (EO e C d)) ⟨h',g,dr,tk',os⟩:=J.laidN (t':=tk') up ge hn new
  exact⟨.ref e,_,J2,rfl,q1 e d hn1 (I1.hok.fresh M.dbig) (Ne.symm M.dne)⟩
end
def eErr (nm:Str)(fe:EM):EM:=fun δ μ=>(frzV fe δ μ).bind fun _ μ'=>.ok (.dat (.eo nm)) μ'
section
variable {K:PySem.W.Frag}{W:WX}{C:Addr}{nm:Str}
theorem snd_eErr {te:TE}{fe:EM}(hC:ClsAt K nm C)(h:SndE K W te fe):SndE K W (tEo C (tCons te tNil)) (eErr nm fe):=fun ρ G H σ δ μ Q R E hp=>by
 refine SndG.seq (t:=te) h.toV R E hp fun x μ1 G1 H1 v t1 R1 E1 d1 hp1=>?_
 refine⟨⟨v,rfl⟩,fun a d ha hd hne=>?_⟩
 obtain⟨R2,t2,ex2⟩:=R1.layD (o:=.own a) hd
 obtain⟨R3,t3,ex3⟩:=R2.layD (p:=a) (o:=EO a C d) (by rw[upd_ne hne];exact ha)
 exact hp1 _ _ (.ref a) (t1.trans (t2.trans t3)) R3 (Rp.eo hC upd_same (by rw[upd_ne (Ne.symm hne)];exact upd_same))
end
theorem pm_eo {X:Cx} {W:WX} {C fI:Addr} {nm f:Str} {a:Expr} {te:TE} {fe:EM} {p pos:Pos} {k:Nat} (T:DX.ErrTxt X.prog X.K X.mg nm f C fI) (hC:ClsAt X.K nm C) (hr:Room k X.A) (ha:PM X W a te fe) (hg:Gl X nm) (hdb:(nm==("__debug__":Str))=false:=by decide)
  (he:starEach (a::[]) X.env=(false,eval a X.env)::starEach [] X.env:=by rfl) (hpl:(backTo pos (starEach [] X.env)).any (·.1)=false:=by rfl) :
  PM X W (.Call (.Name nm p) [a] [] pos) (tEo C (tCons te tNil)) (eErr nm fe):=⟨pe_eo T hr (pa_cons ha.pe pa_nil he) hg hdb he hpl,snd_eErr hC ha.sd⟩
theorem hcl_of {K:PySem.W.Frag}{C:Addr}(h:PySem.W.hasDictIn K C=true):(PySem.W.clsIn K C).isSome=true:=by
 unfold PySem.W.hasDictIn at h
 cases e:PySem.W.clsIn K C with
 | none=>rw[e] at h;cases h
 | some c=>rfl
def tabTE (T:String)(es:List Str):Kd→Option Bool
 | .b t=>kitB t T
 | .c _=>none
 | .x nm=>if nm∈es then some false else none
theorem tabTE_ok {K:PySem.W.Frag}{T:String}{es:List Str}(h:∀ nm∈es,EoTy K nm∧NoSub K nm T):TabOk K (tabTE T es) fun t b=>PySem.W.kitOne K t (.type T)=some b where
 ok:=fun kd b t e k=>by
  cases kd with
  | b s=>cases k;exact kit_ty e
  | c nm=>simp only[tabTE] at e;cases e
  | x nm =>
   obtain⟨C,c1,rfl⟩:=k
   simp only[tabTE] at e
   by_cases hn:nm∈es
   ·rw[if_pos hn] at e;cases e
    obtain⟨C',c2,h2⟩:=(h nm hn).2
    cases c1.uniq c2;exact h2
   ·rw[if_neg hn] at e;cases e
 cl:=fun nm b e=>by simp only[tabTE] at e;cases e
 xl:=fun nm b e=>by
  simp only[tabTE] at e
  by_cases hn:nm∈es
  ·exact(h nm hn).1
  ·rw[if_neg hn] at e;cases e
section
variable {QR:R→Mem→Prop}{E:Xc→Mem→Prop}{δ:Env}{μ:Mem}{nm:Str}{fe:EM}
theorem x_eErr (h:Sat (frzV fe δ μ) (fun _ μ'=>QR (.dat (.eo nm)) μ') E):Sat (eErr nm fe δ μ) QR E:=sat_bind (h.mono (fun x m q=>q) fun _ _ q=>q)
end
def letters:Str:="abcdefghijklmnopqrstuvwxyz"
def nameB (s:Str):Bool:=decide (1≤s.length∧s.length≤8)&&s.cps.toList.all fun c=>decide (c∈letters.cps.toList)
structure DdOk (as os:List Str)(xs:List Sp1):Prop where
 nd:as.Nodup
 nm:∀ s∈as++os,nameB s=true∧PyData.strOk s=true∧s.cps.size≤16
 a1:1≤as.length
 a3:as.length≤3
 o2:os.length≤2
 x1:1≤xs.length
 x8:xs.length≤8
 st:∀ x∈xs,StOk false (as++os) x
theorem menu_name:∀ s∈menu,nameB s=true:=by decide +kernel
theorem StOk.wide {b:Bool}{ss:List Str}{x:Sp1}(h:StOk b ss x):StOk false ss x:=⟨h.word,h.sh,h.ot⟩
theorem DeedOk.dd {b:Bool}{as os:List Str}{xs:List Sp1}(h:DeedOk b as os xs):DdOk as os xs :=
 ⟨(List.nodup_append.mp h.nd).1,fun s hs=>⟨menu_name s (h.me s hs),menu_fit s (h.me s hs)⟩,h.a1,h.a3,h.o2,h.x1,h.x8,fun x hx=>(h.st x hx).wide⟩
abbrev Dd:=List Str×List Sp1
abbrev ddD (d:Dd):D:=deedD d.1 d.2
def DdV (d:Dd):Prop:=∃ os,DdOk d.1 os d.2
abbrev Sd:=List (Str×Dd)
structure SdOk (sd:Sd):Prop where
 n1:1≤sd.length
 n5:sd.length≤5
 nd:(sd.map (·.1)).Nodup
 nm:∀ p∈sd,nameB p.1=true∧PyData.strOk p.1=true∧p.1.cps.size≤16
 dd:∀ p∈sd,DdV p.2
def sdD (sd:Sd):List (Ky×D):=sd.map fun p=>(.k (.inr p.1),ddD p.2)
def sdV (sd:Sd):List (Ky×DV):=sd.map fun p=>(.k (.inr p.1),.dat (ddD p.2))
def sget (sd:Sd)(n:Str):Option Dd:=(sd.find? fun p=>decide (p.1=n)).map (·.2)
variable {sd sd':Sd}{n:Str}{d:Dd}
theorem sdV_dat (sd:Sd):allDatK (sdV sd)=some (sdD sd):=by
 induction sd with
 | nil=>rfl
 | cons p W ih =>
  have e:sdV (p::W)=(.k (.inr p.1),.dat (ddD p.2))::sdV W:=rfl
  rw[e];unfold allDatK;rw[ih];rfl
theorem sget_none:sget sd n=none↔∀ p∈sd,p.1≠n:=by
 unfold sget;rw[Option.map_eq_none_iff,List.find?_eq_none];simp
theorem sdV_put (h:sget sd n=none):dput (sdV sd) (.k (.inr n)) (.dat (ddD d))=sdV (sd++[(n,d)]):=by
 have h:=sget_none.mp h
 rw[dput_new]
 ·unfold sdV;rw[List.map_append];rfl
 ·intro p hp e
  unfold sdV at hp
  obtain⟨q,hq,rfl⟩:=List.mem_map.mp hp
  exact h q hq (Sum.inr.inj (Ky.k.inj e))
theorem sget_mem (h:sget sd n=some d):(n,d)∈sd:=by
 unfold sget at h
 obtain⟨p,h1,h2⟩:=Option.map_eq_some_iff.mp h
 have a:=List.mem_of_find?_eq_some h1
 have b:=List.find?_some h1
 simp at b
 subst b;subst h2;exact a
theorem sget_of (nd:(sd.map (·.1)).Nodup)(h:(n,d)∈sd):sget sd n=some d:=by
 induction sd with
 | nil=>cases h
 | cons p sd ih =>
  rw[List.map_cons,List.nodup_cons] at nd
  unfold sget
  rcases List.mem_cons.mp h with rfl|h2
  ·rw[List.find?_cons_of_pos (by simp)];rfl
  ·have:¬p.1=n:=fun e=>nd.1 (e▸List.mem_map.mpr ⟨(n,d),h2,rfl⟩)
   rw[List.find?_cons_of_neg (by simpa using this)]
   exact ih nd.2 h2
theorem sget_perm (nd:(sd.map (·.1)).Nodup)(h:sd.Perm sd')(n:Str):sget sd n=sget sd' n:=by
 have nd':(sd'.map (·.1)).Nodup:=(h.map _).nodup_iff.mp nd
 cases e:sget sd n with
 | none =>
  have:=sget_none.mp e
  exact(sget_none.mpr fun p hp=>this p (h.mem_iff.mpr hp)).symm
 | some d=>exact(sget_of nd' (h.mem_iff.mp (sget_mem e))).symm
theorem sortS_eq {xs ys:List Str}(h:xs.Perm ys):sortS xs=sortS ys:=rises_perm leS_anti (sortS_rises xs) (sortS_rises ys) ((sortS_perm xs).trans (h.trans (sortS_perm ys).symm))
def srt (sd:Sd):Sd:=(sortS (sd.map (·.1))).map fun n=>(n,(sget sd n).getD ([],[]))
theorem srt_perm (nd:(sd.map (·.1)).Nodup)(h:sd.Perm sd'):srt sd=srt sd':=by
 unfold srt
 rw[sortS_eq (h.map (·.1))]
 refine List.map_congr_left fun n _=>?_
 rw[sget_perm nd h]
theorem srt_names (sd:Sd):(srt sd).map (·.1)=sortS (sd.map (·.1)):=by
 unfold srt;rw[List.map_map];exact(List.map_congr_left fun n _=>rfl).trans (List.map_id _)
theorem srt_is (nd:(sd.map (·.1)).Nodup):(srt sd).Perm sd:=by
 have h1:(srt sd).Perm ((sd.map (·.1)).map fun n=>(n,(sget sd n).getD ([],[]))):=(sortS_perm _).map _
 rw[List.map_map] at h1
 have:(sd.map ((fun n=>(n,(sget sd n).getD ([],[])))∘fun x:Str×Dd=>x.1))=sd:=by
  conv=>rhs;rw[←List.map_id sd]
  refine List.map_congr_left fun p hp=>?_
  show(p.1,(sget sd p.1).getD ([],[]))=p
  rw[sget_of (n:=p.1) (d:=p.2) nd hp];rfl
 rw[this] at h1
 exact h1
theorem SdOk.perm (h:SdOk sd)(p:sd.Perm sd'):SdOk sd' :=
 ⟨by rw[←p.length_eq];exact h.n1,by rw[←p.length_eq];exact h.n5,(p.map _).nodup_iff.mp h.nd,fun x hx=>h.nm x (p.mem_iff.mpr hx),fun x hx=>h.dd x (p.mem_iff.mpr hx)⟩
theorem SdOk.srt (h:SdOk sd):SdOk (srt sd):=h.perm (srt_is h.nd).symm
abbrev stkD (sd:Sd):D:=.ins "Stock" [("its_deeds",.dct (sdD sd))]
end DL
namespace DL
open PySem PySem.Spec PyProof.Rows L2
def KdB:D→Bool
 | .non=>true
 | .bl _=>true
 | .int _=>true
 | .str _=>true
 | .tup _=>true
 | .lst _=>true
 | .dct _=>true
 | _=>false
def strO:D→Option Str
 | .str s=>some s
 | _=>none
def nameD:D→Bool
 | .str s=>nameB s
 | _=>false
def isTupD:D→Bool
 | .tup _=>true
 | _=>false
def isStrD:D→Bool
 | .str _=>true
 | _=>false
def isLstD:D→Bool
 | .lst _=>true
 | _=>false
def namesD (hi:Nat):D→Bool
 | .tup ds=>decide (1≤ds.length∧ds.length≤hi)&&(ds.all nameD&&decide (ds.filterMap strO).Nodup)
 | _=>false
def cllD:D→Bool
 | .tup [a,b]=>nameD a&&namesD 3 b
 | _=>false
structure Kv (d:D):Prop where
 k:KdB d=true
 s:∀ s:Str,d=.str s→s.length≤1000
structure Kt (d:D):Prop where
 v:Kv d
 l:∀ ds,d=.tup ds→ds.length≤1000
 t:∀ ds,d=.tup ds→∀ x∈ds,Kv x
theorem kb_cases {d:D}(hd:KdB d=true):d=.non∨(∃ b,d=.bl b)∨(∃ i,d=.int i)∨(∃ s,d=.str s)∨(∃ l,d=.tup l)∨(∃ l,d=.lst l)∨(∃ l,d=.dct l):=by
 cases d <;> simp[KdB] at hd <;> simp
theorem nameD_is {d:D}(h:nameD d=true):∃ s,d=.str s∧nameB s=true:=by
 cases d <;> simp[nameD] at h
 exact⟨_,rfl,h⟩
theorem nameD_map {ds:List D}(h:ds.all nameD=true):∃ ss:List Str,ds=ss.map D.str∧∀ s∈ss,nameB s=true:=by
 induction ds with
 | nil=>exact⟨[],rfl,fun s h=>by cases h⟩
 | cons d ds ih =>
  rw[List.all_cons,Bool.and_eq_true] at h
  obtain⟨s,rfl,hs⟩:=nameD_is h.1
  obtain⟨ss,rfl,hss⟩:=ih h.2
  exact⟨s::ss,rfl,fun x hx=>(List.mem_cons.mp hx).elim (fun e=>e▸hs) (hss x)⟩
theorem strO_map (ss:List Str):(ss.map D.str).filterMap strO=ss:=by
 rw[List.filterMap_map]
 show ss.filterMap (fun s=>some s)=ss
 exact List.filterMap_some
theorem namesD_is {m:Nat}{d:D}(h:namesD m d=true):∃ ss:List Str,d=.tup (ss.map D.str)∧1≤ss.length∧ss.length≤m∧ss.Nodup∧∀ s∈ss,nameB s=true:=by
 unfold namesD at h
 split at h
 ·rw[Bool.and_eq_true,Bool.and_eq_true,decide_eq_true_eq,decide_eq_true_eq] at h
  obtain⟨h1,h2,h3⟩:=h
  obtain⟨ss,rfl,hs⟩:=nameD_map h2
  rw[strO_map] at h3
  rw[List.length_map] at h1
  exact⟨ss,rfl,h1.1,h1.2,h3,hs⟩
 ·cases h
theorem nd_le {α:Type}[DecidableEq α]:∀ {l m:List α},l.Nodup→(∀ x∈l,x∈m)→l.length≤m.length
 | [],_,_,_=>Nat.zero_le _
 | a::l,m,h,hs=>by
  rw[List.nodup_cons] at h
  have ha:=hs a List.mem_cons_self
  have ih:=nd_le (l:=l) (m:=m.erase a) h.2 fun x hx=>by
   rw[List.mem_erase_of_ne]
   ·exact hs x (List.mem_cons_of_mem _ hx)
   ·rintro rfl;exact h.1 hx
  rw[List.length_erase_of_mem ha] at ih
  have:0<m.length:=List.length_pos_of_mem ha
  rw[List.length_cons];omega
theorem dup_of {α:Type}[DecidableEq α]:∀ {l:List α},¬l.Nodup→∃ x,x∈l∧x∈l.erase x
 | [],h=>absurd List.nodup_nil h
 | a::l,h=>by
  by_cases ha:a∈l
  ·exact⟨a,List.mem_cons_self,by rw[List.erase_cons_head];exact ha⟩
  ·have:¬l.Nodup:=fun z=>h (List.nodup_cons.mpr ⟨ha,z⟩)
   obtain⟨x,h1,h2⟩:=dup_of this
   have hx:¬a=x:=fun e=>ha (e▸h1)
   exact⟨x,List.mem_cons_of_mem _ h1,by rw[List.erase_cons_tail (by simpa using hx)];exact List.mem_cons_of_mem _ h2⟩
theorem sortU_ndl {ss:List Str}:(sortU ss).length=ss.length↔ss.Nodup:=by
 refine⟨fun h=>Classical.byContradiction fun hn=>?_,fun h=>nodup_len (sortU_nodup ss) h fun z=>sortU_mem z ss⟩
 obtain⟨x,h1,h2⟩:=dup_of hn
 have:=nd_le (l:=sortU ss) (m:=ss.erase x) (sortU_nodup ss) fun y hy=>by
  have hy:=(sortU_mem y ss).mp hy
  by_cases e:y=x
  ·subst e;exact h2
  ·exact(List.mem_erase_of_ne e).mpr hy
 rw[List.length_erase_of_mem h1] at this
 have:=List.length_pos_of_mem h1
 omega
def noEo:D→Bool
 | .eo _=>false
 | _=>true
section
variable {QR:R→Mem→Prop}{E:Xc→Mem→Prop}{μ:Mem}{d:D}{T:String}{es:List Str}{nm:Str}
theorem isE_dat (e:noEo d=true)(h:Sat (dIsi (tabT T []) (.dat d) μ) QR E):Sat (dIsi (tabTE T es) (.dat d) μ) QR E:=by
 have:dIsi (tabTE T es) (.dat d) μ=dIsi (tabT T []) (.dat d) μ:=by
  cases d with
  | eo n=>cases e
  | ins n fs=>simp[dIsi,kindOf,tabTE,tabT]
  | _=>rfl
 rw[this];exact h
theorem isE_eo (hm:nm∈es)(h:QR (.dat (.bl false)) μ):Sat (dIsi (tabTE T es) (.dat (.eo nm)) μ) QR E:=by
 have:dIsi (tabTE T es) (.dat (.eo nm)) μ=.ok (.dat (.bl false)) μ:=by
  simp[dIsi,kindOf,tabTE,hm]
 rw[this];exact h
theorem kb_noEo (h:KdB d=true):noEo d=true:=by
 rcases kb_cases h with rfl|⟨b,rfl⟩|⟨b,rfl⟩|⟨b,rfl⟩|⟨b,rfl⟩|⟨b,rfl⟩|⟨b,rfl⟩ <;> rfl
end
section
variable {P:Program}{w:World}{K:PySem.W.Frag}{mg:Str→Option Value}{base:Heap}
end
section
variable {K:PySem.W.Frag}
end
section
variable {QR:R→Mem→Prop}{E:Xc→Mem→Prop}{μ:Mem}{neg:Bool}{x y:DV}
end
section
variable {prog:Program}{w:World}{A:Around}{E:Value→Shared→Prop}{s:Shared}
theorem adjust_rev (n:Nat):Builtin.Slice.sliceAdjust none none (-1) (n:Int)=((n:Int)-1,-1):=by
 unfold Builtin.Slice.sliceAdjust
 simp
theorem places_rev (n:Nat):Builtin.Slice.slicePlaces ((n:Int)-1) (-1) (-1)=n:=by
 unfold Builtin.Slice.slicePlaces
 rw[if_neg (by decide)]
 by_cases hn:n=0
 ·subst hn;rfl
 ·rw[if_pos (by omega)]
  have:((n:Int)-1 - -1-1) / - -1+1=n:=by rw[show(- -1:Int)=1 by decide,Int.ediv_one];omega
  rw[this];rfl
theorem fm_congr {α β:Type}{f g:α→Option β}:∀ {l:List α},(∀ x∈l,f x=g x)→l.filterMap f=l.filterMap g
 | [],_=>rfl
 | x::l,h=>by
  rw[List.filterMap_cons,List.filterMap_cons,h x List.mem_cons_self,fm_congr fun y hy=>h y (List.mem_cons_of_mem _ hy)]
theorem sliceApplied_rev {sl:Addr}{vk:Value}{n:Nat}{Q:Int×Int×Nat→Shared→Prop}(hs:s.heap.IsSliceOf sl .none .none vk)(pk:IsPart vk (some (-1)))
  (h:Q ((n:Int)-1,-1,n) s):wpAny (model prog w) A (Builtin.Slice.sliceApplied (.ref sl) (pure (n:Int))) Q E s:=by
 obtain⟨os,hos,hcs,hds⟩:=id hs
 unfold Builtin.Slice.sliceApplied Builtin.Slice.sliceFields
 refine wpAny_bind (wpAny_bind (wpAny_field hos hds (x:=.none) rfl (wpAny_bind (wpAny_field hos hds (x:=.none) rfl (wpAny_bind (wpAny_field hos hds (x:=vk) rfl (wpAny_pure ?_)))))))
 refine wpAny_bind (HT.slicePart_ pk ?_)
 show wpAny _ _ (if((-1:Int)==0)=true then _ else _) _ _ s
 rw[if_neg (by decide)]
 refine wpAny_bind (slicePart_none (wpAny_bind (slicePart_none (wpAny_bind (wpAny_pure ?_)))))
 show wpAny _ _ (match Builtin.Slice.sliceAdjust none none (-1) (n:Int) with|(lo,hi)=>pure (lo,(-1:Int),Builtin.Slice.slicePlaces lo hi (-1))) _ _ s
 rw[adjust_rev n]
 show wpAny _ _ (pure ((n:Int)-1,(-1:Int),Builtin.Slice.slicePlaces ((n:Int)-1) (-1) (-1))) _ _ s
 rw[places_rev]
 exact wpAny_pure h
theorem pick_rev (xs:Array Value):((List.range xs.size).filterMap fun(m:Nat)=>xs[((xs.size:Int)-1+(m:Int)*(-1)).toNat]?).toArray=xs.toList.reverse.toArray:=by
 have e:(List.range xs.size).filterMap (fun(m:Nat)=>xs[((xs.size:Int)-1+(m:Int)*(-1)).toNat]?)=((List.range xs.size).map fun k=>xs.size-1-k).filterMap (xs[·]?):=by
  rw[List.filterMap_map]
  refine fm_congr fun m hm=>?_
  have:=List.mem_range.mp hm
  have e2:((xs.size:Int)-1+(m:Int)*(-1)).toNat=xs.size-1-m:=by omega
  simp only[Function.comp_def,e2]
 rw[e,PySem.W.krv_range,List.filterMap_reverse,PySem.W.krv_all]
theorem getItem_tuple_rev {t sl:Addr}{items:Array Value}{vk:Value}{Q:Value→Shared→Prop}(ht:IsTup s.heap t items)(hs:s.heap.IsSliceOf sl .none .none vk)(pk:IsPart vk (some (-1)))
  (h:Q (.ref s.heap.objs.size) { s with heap:=s.heap.push { cls:=.type "tuple",data:=.seq items.toList.reverse.toArray } })
  (hsz:items.size≤sizeLine):wpAny (model prog w) A (getItem (.ref t) (.ref sl)) Q E s:=by
 have htake:sizeOk (.seq items.toList.reverse.toArray):=by
  show items.toList.reverse.toArray.size≤sizeLine
  rw[List.size_toArray,List.length_reverse,Array.length_toList]
  omega
 obtain⟨os,hos,hcs,hds⟩:=id hs
 have hTs:s.TypeIs (.ref sl) "slice":=⟨os,hos,hcs⟩
 unfold getItem
 try with_reducible refine wpAny_holding ?_
 first|refine wpAny_bind (wpAny_pure ?_)|skip
 refine wpAny_bind (wpAny_sequenceKey ht.typeIs (by decide) ?_)
 refine wpAny_bind (wpAny_callSpecial?_slot (name:=Str.ofString "__getitem__") ht.typeIs PyProof.Rows.slot_tuple_getitem
  (wpAny_call_entry PyProof.Rows.slot_tuple_getitem ht.typeIs PyProof.Rows.entry_tuple_getitem ?_ (PyProof.Rows.args_tuple_getitem _ _)))
 show wpAny _ _ (Builtin.Tuple.tupleItemsOf (.ref t) >>= _) _ _ s
 refine wpAny_bind (PyProof.Rows.tupleItemsOf_ ht ?_)
 refine wpAny_bind (wpAny_typeOf hTs ?_)
 rw[if_pos (by decide)]
 refine wpAny_bind (sliceApplied_rev hs pk ?_)
 have hno:¬((((items.size:Int)-1)==0&&(-1:Int)==1&&items.size==items.size)=true):=by
  intro q
  rw[Bool.and_eq_true,Bool.and_eq_true] at q
  exact absurd q.1.2 (by decide)
 show wpAny _ _ (if(((items.size:Int)-1)==0&&(-1:Int)==1&&items.size==items.size)=true then _ else _) _ _ s
 rw[if_neg hno,pick_rev]
 first
  | exact wpAny_bind (m:=Builtin.Tuple.tupleExact _) (wpAny_newObj_type (wpAny_pure ⟨_,rfl,wpAny_pure h⟩) htake)
  | exact wpAny_bind (m:=Builtin.Tuple.tupleExact _) (wpAny_newObj_type (wpAny_bind (wpAny_pure (wpAny_pure ⟨_,rfl,wpAny_pure h⟩))) htake)
  | exact wpAny_bind (wpAny_bind (m:=Builtin.Tuple.tupleExact _) (wpAny_newObj_type (wpAny_pure (wpAny_pure ⟨_,rfl,wpAny_pure h⟩)) htake))
  | exact wpAny_bind (wpAny_bind (m:=Builtin.Tuple.tupleExact _) (wpAny_newObj_type (wpAny_pure ⟨_,rfl,wpAny_pure h⟩) htake))
end
section
variable {X:Cx}{e st:Expr}{te ts:TE}{pos p2:Pos}
def rRevT (K:PySem.W.Frag)(x:V)(H:Hp)(Q:VK):Prop:=∃ a xs,x=.ref a∧SqT K H a xs∧∀ p,H p=none→Q (.ref p) (upd H p (.tup xs.reverse))
def tRv (K:PySem.W.Frag)(te ts:TE):TE:=fun σ H Q=>te σ H fun x H1=>ts σ H1 fun y H2=>y=.int (-1)∧rRevT K x H2 Q
theorem vals_reverse {vs:List V}{us:List Value}(h:Vals vs us):Vals vs.reverse us.reverse:=by
 have key:∀ (vs:List V) (us:List Value),Vals vs us→∀ (ws:List V) (zs:List Value),Vals ws zs→Vals (vs.reverseAux ws) (us.reverseAux zs):=by
  intro vs us h
  induction h with
  | nil=>intro ws zs h;exact h
  | cons a b ih=>intro ws zs h;exact ih _ _ (.cons a h)
 exact key vs us h [] [] .nil
theorem pe_rev (he:PE X e te)(hs:PE X st ts):PE X (.Subscript e (.Slice none none (some st) p2) pos) (tRv X.K te ts):=by
 refine⟨fun pins s σ H Q I h=>?_⟩
 refine Subscript_ (thn (he.run pins s σ H _ I h) fun v s1 ⟨x,H1,I1,r1,q1⟩=>?_)
 refine wpAny_Slice ?_
 rw[evalPart_none]
 refine wpAny_pure ?_
 refine wpAny_pure ?_
 rw[evalPart_some]
 refine thn (hs.run pins s1 σ H1 _ I1 q1) fun u s3 ⟨y,H3,I3,r3,q3⟩=>?_
 obtain⟨rfl,a,xs,rfl,hx,q⟩:=q3
 obtain⟨t,rfl⟩:=r3
 cases r1
 have I4:Inv X pins σ H3 { s3 with heap:=s3.heap.push { cls:=.type "slice",data:=.fields #[.none,.none,.int (-1) t] } }:=I3.kept (t':=s3.toks) fun b ob q=>Heap.get?_push_of_some _ q
 obtain⟨its,r,ht,hz⟩:=I4.tuple hx
 have hlen:its.toArray.size=xs.length:=by rw[List.size_toArray];exact r.length.symm
 show wpAny (model X.prog X.w) X.A (subscriptTail e (.Slice none none (some st) p2) (.ref a) (.ref s3.heap.objs.size)) (EP X pins σ Q) X.xe { s3 with heap:=s3.heap.push { cls:=.type "slice",data:=.fields #[.none,.none,.int (-1) t] } }
 refine tail_any (ops:=[.ref a,.ref s3.heap.objs.size]) ht.typeIs PyProof.Rows.slot_tuple_getitem.lookup ?_ (by with_unfolding_all rfl)
 refine getItem_tuple_rev ht (Heap.IsSliceOf.new ..) (.int (-1) t) ?_ (by rw[hlen];exact hz)
 refine⟨.ref _,_,I4.laid (t':=s3.toks) (o:=.tup xs.reverse) (fun b ob q=>Heap.get?_push_of_some _ q) (Nat.le_refl _) ?_,rfl,q _ (I4.hok.fresh (Nat.le_refl _))⟩
 exact⟨by rw[List.length_reverse];exact hz,_,vals_reverse r,IsTup.new _ _⟩
end
section
variable {K:PySem.W.Frag}{W:WX}{ρ:Pm}{G H:Hp}
theorem rpl_revA {vs:List V}{ds:List D}(h:RpL K G vs ds):∀ (ws:List V) (es:List D),RpL K G ws es→RpL K G (vs.reverseAux ws) (ds.reverseAux es):=by
 induction vs generalizing ds with
 | nil=>intro ws es h2;cases h;exact h2
 | cons v vs ih =>
  intro ws es h2
  cases h with
  | cons a b=>exact ih b _ _ (.cons a h2)
theorem rpl_rev {vs:List V}{ds:List D}(h:RpL K G vs ds):RpL K G vs.reverse ds.reverse:=rpl_revA h [] [] .nil
def eRv (f g:EM):EM:=fun δ μ=>(frzV f δ μ).bind fun x μ1=>(frzV g δ μ1).bind fun y μ2=>match asI y,asT x with
 | some i,some ds=>if i=-1 then .ok (.dat (.tup ds.reverse)) μ2 else .bad
 | _,_=>.bad
theorem snd_rev {te ts:TE}{f g:EM}(h:SndE K W te f)(hg:SndE K W ts g):SndE K W (tRv K te ts) (eRv f g):=fun ρ G H σ δ μ Q R E hp=>by
 refine SndG.seq (t:=te) h.toV R E hp fun x μ1 G1 H1 v t1 R1 E1 d1 hp1=>?_
 refine SndG.seq (t:=ts) hg.toV R1 E1 (hp1.shiftE t1) fun y μ2 G2 H2 u t2 R2 E2 d2 hp2=>?_
 cases e1:asI y with
 | none=>rw[e1] at hp2;exact hp2.elim
 | some i =>
  rw[e1] at hp2
  cases e2:asT x with
  | none=>rw[e2] at hp2;exact hp2.elim
  | some ds =>
   rw[e2] at hp2
   simp only at hp2
   by_cases c:i=-1
   case neg=>rw[if_neg c] at hp2;exact hp2.elim
   rw[if_pos c] at hp2
   obtain⟨a,vs,rfl,h2,h3⟩:=asT_ok R2 (d1.mono t2.exG fun _ _ q=>q) e2
   refine⟨by rw[asI_ok d2 e1,c],a,vs,rfl,h2,fun p hn=>new_tup R2 (Tr.refl _ _ _) hn (rpl_rev h3) (hp2.shiftE t2)⟩
end
theorem psm_bad {X:Cx}{W:WX}{ss:List Stmt}:PSMs X W ss (fun _ _ _=>False) gBad:=⟨⟨fun _ _ _ _ _ _ h=>h.elim⟩,fun _ _ _ _ _ _ _ _ _ _ hp=>hp.elim⟩
theorem fn_none {P:Program}{w:World}{K:PySem.W.Frag}{mg:Str→Option Value}{base:Heap}{x qual:Str}{st:Stmt}{f:Addr}{fd:FuncData}{Nm ps:List Str}{k n m:Nat}(F:Fun K x qual st f fd)(S:FnScope Nm ps (defScope st))(hm:mg x=some (.ref f))(hn:ps.length=n)(hmn:Nm.length=n+m)
  (hb:∀ (kV doc pm:Value) (an:Option Addr) (cdv ct:Value) (us:List Value),us.length=ps.length→bindArgs (PySem.W.fnOf x qual (defArgs st) (defBody st) (defScope st) .none kV doc pm an cdv ct) ⟨us,[]⟩=pure (ps.zip us)) :
  FnD P w K mg base CX0 (k+1) x n (callD gBad n m) :=
 fn_ok F S hm hn hmn hb fun _ _ _ _ _ _ _ _=>⟨_,psm_bad⟩
section
variable {X:Cx}{e st:Expr}{te ts:TE}{pos p2:Pos}
def rRevL (K:PySem.W.Frag)(x:V)(H:Hp)(Q:VK):Prop:=∃ a xs,x=.ref a∧SqL K H a xs∧∀ p,H p=none→Q (.ref p) (upd H p (.lst xs.reverse))
def tRvL (K:PySem.W.Frag)(te ts:TE):TE:=fun σ H Q=>te σ H fun x H1=>ts σ H1 fun y H2=>y=.int (-1)∧rRevL K x H2 Q
theorem pe_revL (he:PE X e te)(hs:PE X st ts):PE X (.Subscript e (.Slice none none (some st) p2) pos) (tRvL X.K te ts):=by
 refine⟨fun pins s σ H Q I h=>?_⟩
 refine Subscript_ (thn (he.run pins s σ H _ I h) fun v s1 ⟨x,H1,I1,r1,q1⟩=>?_)
 refine wpAny_Slice ?_
 rw[evalPart_none]
 refine wpAny_pure ?_
 refine wpAny_pure ?_
 rw[evalPart_some]
 refine thn (hs.run pins s1 σ H1 _ I1 q1) fun u s3 ⟨y,H3,I3,r3,q3⟩=>?_
 obtain⟨rfl,a,xs,rfl,hx,q⟩:=q3
 obtain⟨t,rfl⟩:=r3
 cases r1
 have I4:Inv X pins σ H3 { s3 with heap:=s3.heap.push { cls:=.type "slice",data:=.fields #[.none,.none,.int (-1) t] } }:=I3.kept (t':=s3.toks) fun b ob q=>Heap.get?_push_of_some _ q
 obtain⟨its,r,ht,hz⟩:=I4.list hx
 have hlen:its.toArray.size=xs.length:=by rw[List.size_toArray];exact r.length.symm
 show wpAny (model X.prog X.w) X.A (subscriptTail e (.Slice none none (some st) p2) (.ref a) (.ref s3.heap.objs.size)) (EP X pins σ Q) X.xe { s3 with heap:=s3.heap.push { cls:=.type "slice",data:=.fields #[.none,.none,.int (-1) t] } }
 refine tail_any (ops:=[.ref a,.ref s3.heap.objs.size]) ht.isList.typeIs slot_list_getitem.lookup ?_ (by with_unfolding_all rfl)
 refine wpAny_getItem_list_slice ht.isList (Heap.IsSliceOf.new ..) .none .none (.int (-1) t) (by decide) ?_ (by rw[hlen];exact hz)
 rw[PySem.W.krv_pick]
 refine⟨.ref _,_,I4.laid (t':=s3.toks) (o:=.lst xs.reverse) (fun b ob q=>Heap.get?_push_of_some _ q) (Nat.le_refl _) ?_,rfl,q _ (I4.hok.fresh (Nat.le_refl _))⟩
 exact⟨by rw[List.length_reverse];exact hz,_,0,vals_reverse r,Heap.get?_push_size _ rfl⟩
def tRvB (K:PySem.W.Frag)(te ts:TE):TE:=fun σ H Q=>tRv K te ts σ H Q∨tRvL K te ts σ H Q
theorem pe_revB (he:PE X e te)(hs:PE X st ts):PE X (.Subscript e (.Slice none none (some st) p2) pos) (tRvB X.K te ts):=by
 refine⟨fun pins s σ H Q I h=>?_⟩
 rcases h with h|h
 ·exact(pe_rev he hs).run pins s σ H Q I h
 ·exact(pe_revL he hs).run pins s σ H Q I h
end
section
variable {K:PySem.W.Frag}{W:WX}{ρ:Pm}{G H:Hp}
theorem dvl_revA {vs:List V}{ds:List DV}(h:DvL K ρ G vs ds):∀ (ws:List V) (es:List DV),DvL K ρ G ws es→DvL K ρ G (vs.reverseAux ws) (ds.reverseAux es):=by
 induction vs generalizing ds with
 | nil=>intro ws es h2;cases h;exact h2
 | cons v vs ih =>
  intro ws es h2
  cases h with
  | cons a b=>exact ih b _ _ (.cons a h2)
theorem dvl_rev {vs:List V}{ds:List DV}(h:DvL K ρ G vs ds):DvL K ρ G vs.reverse ds.reverse:=dvl_revA h [] [] .nil
def eRvL (f g:EM):EM:=fun δ μ=>(frzV f δ μ).bind fun x μ1=>(frzV g δ μ1).bind fun y μ2=>match asI y,asL μ2 x with
 | some i,some xs=>if i=-1 then .ok (.nl xs.reverse) μ2 else .bad
 | _,_=>.bad
theorem snd_revL {te ts:TE}{f g:EM}(h:SndE K W te f)(hg:SndE K W ts g):SndE K W (tRvL K te ts) (eRvL f g):=fun ρ G H σ δ μ Q R E hp=>by
 refine SndG.seq (t:=te) h.toV R E hp fun x μ1 G1 H1 v t1 R1 E1 d1 hp1=>?_
 refine SndG.seq (t:=ts) hg.toV R1 E1 (hp1.shiftE t1) fun y μ2 G2 H2 u t2 R2 E2 d2 hp2=>?_
 cases e1:asI y with
 | none=>rw[e1] at hp2;exact hp2.elim
 | some i =>
  rw[e1] at hp2
  cases e2:asL μ2 x with
  | none=>rw[e2] at hp2;exact hp2.elim
  | some ds =>
   rw[e2] at hp2
   simp only at hp2
   by_cases c:i=-1
   case neg=>rw[if_neg c] at hp2;exact hp2.elim
   rw[if_pos c] at hp2
   obtain⟨a,vs,rfl,h2,h3⟩:=asL_ok R2 (d1.mono t2.exG fun _ _ q=>q) e2
   refine⟨by rw[asI_ok d2 e1,c],a,vs,rfl,h2,fun p hn=>new_list R2 (Tr.refl _ _ _) hn (dvl_rev h3) (hp2.shiftE t2)⟩
def eRvB (f g:EM):EM:=fun δ μ=>match eRv f g δ μ with
 | .bad=>eRvL f g δ μ
 | r=>r
theorem snd_revB {te ts:TE}{f g:EM}(h:SndE K W te f)(hg:SndE K W ts g):SndE K W (tRvB K te ts) (eRvB f g):=fun ρ G H σ δ μ Q R E hp=>by
 unfold eRvB at hp
 cases e:eRv f g δ μ with
 | bad=>rw[e] at hp;exact .inr (snd_revL h hg ρ G H σ δ μ Q R E hp)
 | ok r μ'=>rw[e] at hp;exact .inl (snd_rev h hg ρ G H σ δ μ Q R E (by rw[e];exact hp))
 | exc x μ'=>rw[e] at hp;exact .inl (snd_rev h hg ρ G H σ δ μ Q R E (by rw[e];exact hp))
theorem pm_revB (K:PySem.W.Frag){X:Cx}{W:WX}{e st:Expr}{te ts:TE}{f g:EM}{pos p2:Pos}(h:PM X W e te f)(hs:PM X W st ts g)(hK:X.K=K:=by rfl):PM X W (.Subscript e (.Slice none none (some st) p2) pos) (tRvB K te ts) (eRvB f g):=by
 subst hK;exact⟨pe_revB h.pe hs.pe,snd_revB h.sd hs.sd⟩
theorem x_revBT {QR:R→Mem→Prop}{E:Xc→Mem→Prop}{μ:Mem}{δ:Env}{f g:EM}{ds:List D}{μ1 μ2:Mem}{x y:DV}(e1:frzV f δ μ=.ok x μ1)(e2:frzV g δ μ1=.ok y μ2)(h1:asI y=some (-1))(h2:asT x=some ds)(h:QR (.dat (.tup ds.reverse)) μ2):Sat (eRvB f g δ μ) QR E:=by
 unfold eRvB
 have:eRv f g δ μ=.ok (.dat (.tup ds.reverse)) μ2:=by
  unfold eRv;rw[e1];simp only[Res.bind];rw[e2];simp only[Res.bind,h1,h2];rw[if_pos trivial]
 rw[this];exact h
theorem x_revBL {QR:R→Mem→Prop}{E:Xc→Mem→Prop}{μ:Mem}{δ:Env}{f g:EM}{xs:List DV}{μ1 μ2:Mem}{x y:DV}(e1:frzV f δ μ=.ok x μ1)(e2:frzV g δ μ1=.ok y μ2)(h1:asI y=some (-1))(h2:asL μ2 x=some xs)(h:QR (.nl xs.reverse) μ2):Sat (eRvB f g δ μ) QR E:=by
 unfold eRvB
 have ht:asT x=none:=by
  cases x with
  | loc n=>rfl
  | dat d=>cases d <;> first|rfl|(simp[asL] at h2)
 have:eRv f g δ μ=.bad:=by
  unfold eRv;rw[e1];simp only[Res.bind];rw[e2];simp only[Res.bind,h1,ht]
 rw[this]
 have:eRvL f g δ μ=.ok (.nl xs.reverse) μ2:=by
  unfold eRvL;rw[e1];simp only[Res.bind];rw[e2];simp only[Res.bind,h1,h2];rw[if_pos trivial]
 rw[this];exact h
theorem x_revB {QR:R→Mem→Prop}{E:Xc→Mem→Prop}{μ:Mem}{δ:Env}{f g:EM}(h:Sat (frzV f δ μ) (fun x μ1=>Sat (frzV g δ μ1) (fun y μ2=>asI y=some (-1)∧((∃ ds,asT x=some ds∧QR (.dat (.tup ds.reverse)) μ2)∨∃ xs,asL μ2 x=some xs∧QR (.nl xs.reverse) μ2)) E) E):Sat (eRvB f g δ μ) QR E:=by
 cases e1:frzV f δ μ with
 | bad=>rw[e1] at h;exact h.elim
 | exc x μ1=>rw[e1] at h;unfold eRvB eRv;rw[e1];exact h
 | ok x μ1 =>
  rw[e1] at h
  have h:Sat (frzV g δ μ1) _ E:=h
  cases e2:frzV g δ μ1 with
  | bad=>rw[e2] at h;exact h.elim
  | exc y μ2=>rw[e2] at h;unfold eRvB eRv;rw[e1];simp only[Res.bind];rw[e2];exact h
  | ok y μ2 =>
   rw[e2] at h
   obtain⟨h1,⟨ds,h2,h3⟩|⟨xs,h2,h3⟩⟩:=h
   ·exact x_revBT e1 e2 h1 h2 h3
   ·exact x_revBL e1 e2 h1 h2 h3
end
section
variable {QR:R→Mem→Prop}{E:Xc→Mem→Prop}{μ:Mem}{δ:Env}{P:PO}{N:Nat}
theorem s_raise0 {nm:Str}(h:P.ex ⟨nm,[]⟩ δ μ):SatS (gRaise0 nm N δ μ) P:=h
theorem x_isE0 {i:Nat}{a C d:Addr}{tab:List (Str×Bool)}{nm:Str}{b:Bool}(e:δ[i]?=some (some (.dat (.err a C d nm []))))(hb:tab.lookup nm=some b)(h:QR (.dat (.bl b)) μ):Sat (eIsE0 i a C tab δ μ) QR E:=by
 unfold eIsE0 errAt0
 simp only[e,and_self,if_true,hb]
 exact h
def TryE (cat:List (Str×Bool))(i:Nat)(gs:Addr→Addr→Addr→SM)(gs0:Addr→Addr→SM)(N:Nat)(P:PO)(x:Xc)(δ:Env)(μ:Mem):Prop :=
 cat.lookup x.nm=some true∧((x.fs≠[]∧∃ o,(∀ a C d,SatS (gs a C d N (δ.set i (some (.dat (.err a C d x.nm x.fs)))) μ) (IsP o))∧SatS (unset i o) P) ∨
  (x.fs=[]∧∃ o,(∀ a C,SatS (gs0 a C N (δ.set i (some (.dat (.err a C 0 x.nm [])))) μ) (IsP o))∧SatS (unset i o) P))
theorem s_tryE {cat:List (Str×Bool)}{i:Nat}{gb:SM}{gs:Addr→Addr→Addr→SM}{gs0:Addr→Addr→SM}(h:SatS (gb N δ μ) { P with ex:=fun x δ' μ'=>TryE cat i gs gs0 N P x δ' μ' }):SatS (gTryE cat i gb gs gs0 N δ μ) P:=by
 unfold gTryE
 cases e:gb N δ μ with
 | exc x δ' μ' =>
  rw[e] at h
  obtain⟨h1,h2⟩:=h
  simp only[h1]
  rcases h2 with⟨h2,o,h3,h4⟩|⟨h2,o,h3,h4⟩
  ·rw[if_pos h2,suiteOut_of fun a C d=>isP (h3 a C d)]
   exact h4
  ·rw[if_neg (fun z=>z h2),suiteOut_of fun a C _=>isP (h3 a C)]
   exact h4
 | next _ _=>rw[e] at h;exact h
 | ret _ _=>rw[e] at h;exact h
 | brk _ _=>rw[e] at h;exact h
 | cnt _ _=>rw[e] at h;exact h
 | bad=>rw[e] at h;exact h
end
section
variable {as os:List Str}{xs:List Sp1}{sd:Sd}{d:Dd}{n:Str}{QR:R→Mem→Prop}{E:Xc→Mem→Prop}{μ:Mem}
theorem merge_sd (nd:(sd.map (·.1)).Nodup):mergeD [] (sdV sd)=sdV sd:=by
 have:∀ (us acc:Sd),((acc++us).map (·.1)).Nodup→mergeD (sdV acc) (sdV us)=sdV (acc++us):=by
  intro us
  induction us with
  | nil=>intro acc _;simp[mergeD,sdV]
  | cons p us ih =>
   intro acc h
   have e:mergeD (sdV acc) (sdV (p::us))=mergeD (dput (sdV acc) (.k (.inr p.1)) (.dat (ddD p.2))) (sdV us):=rfl
   rw[e,sdV_put]
   ·rw[show(acc++[(p.1,p.2)])=acc++[p] from rfl,ih _ (by rw[List.append_assoc];exact h),List.append_assoc];rfl
   ·refine sget_none.mpr fun q hq e=>?_
    rw[List.map_append,List.nodup_append] at h
    exact h.2.2 _ (List.mem_map.mpr ⟨q,hq,rfl⟩) _ (List.mem_map.mpr ⟨p,List.mem_cons_self,rfl⟩) e
 exact this sd [] (by simpa using nd)
def plainSd:Sd:=[("give",["a"],[("new",["a"])]),("let",["a"],[("end",["a"])]),("put",["a"],[("write",["a"])]),("same",["a","b"],[("share",["a","b"])])]
def plainNames:List Str:=["give","let","put","same"]
def moreNames:List Str:=["go","gone","peek"]
theorem stock_names:∀ s∈plainNames++moreNames,nameB s=true∧PyData.strOk s=true∧s.cps.size≤16:=by decide +kernel
theorem name_a:nameB "a"=true∧PyData.strOk "a"=true∧("a":Str).cps.size≤16:=by decide +kernel
theorem name_b:nameB "b"=true∧PyData.strOk "b"=true∧("b":Str).cps.size≤16:=by decide +kernel
theorem one_dd {w:Str} (hw:w∈louds++quiets) (h2:two w=false):DdV (["a"],[(w,["a"])]) :=
 ⟨[],by simp,fun s hs=>by simp at hs;subst hs;exact name_a,by simp,by simp,by simp,by simp,by simp,fun x hx=>by
  simp at hx;subst hx
  exact⟨hw,fun e=>(Bool.eq_false_iff.mp h2 e).elim,fun _=>⟨"a",rfl,by simp⟩⟩⟩
theorem two_dd {w:Str} (hw:w∈louds++quiets) (h2:two w=true):DdV (["a","b"],[(w,["a","b"])]) :=
 ⟨[],by simp;decide +kernel,fun s hs=>by
  simp at hs
  rcases hs with rfl|rfl
  ·exact name_a
  ·exact name_b,by simp,by simp,by simp,by simp,by simp,fun x hx=>by
  simp at hx;subst hx
  exact⟨hw,fun _=>⟨"a","b",rfl,by decide +kernel,by simp,by simp⟩,fun e=>by rw[h2] at e;cases e⟩⟩
theorem plain_dd:∀ p∈plainSd,DdV p.2:=by
 intro p hp
 simp only[plainSd,List.mem_cons,List.not_mem_nil,or_false] at hp
 rcases hp with rfl|rfl|rfl|rfl
 ·exact one_dd (by decide +kernel) (by decide +kernel)
 ·exact one_dd (by decide +kernel) (by decide +kernel)
 ·exact one_dd (by decide +kernel) (by decide +kernel)
 ·exact two_dd (by decide +kernel) (by decide +kernel)
theorem plain_ok:SdOk plainSd:=⟨by decide,by decide,by decide +kernel,fun p hp=>stock_names _ (List.mem_append_left _ (List.mem_map.mpr ⟨p,hp,rfl⟩)),plain_dd⟩
theorem plain_sorted:sortS (plainSd.map (·.1))=plainNames:=by decide +kernel
structure StkIn (ns:List Str)(sd:Sd):Prop where
 n5:sd.length≤5
 nd:(sd.map (·.1)).Nodup
 nm:∀ p∈sd,p.1∈ns
 dd:∀ p∈sd,DdV p.2
theorem StkIn.mono {ns ms:List Str}(h:StkIn ns sd)(hs:∀ s∈ns,s∈ms):StkIn ms sd:=⟨h.n5,h.nd,fun p hp=>hs _ (h.nm p hp),h.dd⟩
theorem StkIn.put {ns:List Str}{s:Str}(h:StkIn ns sd)(hs:s∉ns)(hl:sd.length<5)(hd:DdV d):sget sd s=none∧StkIn (ns++[s]) (sd++[(s,d)]):=by
 have e:∀ p∈sd,p.1≠s:=fun p hp z=>hs (z▸h.nm p hp)
 refine⟨sget_none.mpr e,by simp;omega,?_,fun p hp=>?_,fun p hp=>?_⟩
 ·rw[List.map_append]
  refine List.nodup_append.mpr ⟨h.nd,by simp,fun a ha b hb=>?_⟩
  obtain⟨p,hp,rfl⟩:=List.mem_map.mp ha
  simp at hb;subst hb;exact e p hp
 ·rcases List.mem_append.mp hp with q|q
  ·exact List.mem_append_left _ (h.nm p q)
  ·simp at q;subst q;simp
 ·rcases List.mem_append.mp hp with q|q
  ·exact h.dd p q
  ·simp at q;subst q;exact hd
theorem StkIn.ok {ns:List Str}(h:StkIn ns sd)(hn:sd≠[])(hs:∀ s∈ns,s∈plainNames++moreNames):SdOk sd :=
 ⟨List.length_pos_iff.mpr hn,h.n5,h.nd,fun p hp=>stock_names _ (hs _ (h.nm p hp)),h.dd⟩
end
def KdO:D→Bool
 | .non=>true
 | .bl _=>true
 | .int _=>true
 | .str _=>true
 | .tup _=>true
 | .lst _=>true
 | .dct _=>true
 | .ins nm _=>decide (nm="Counter"∨nm="Stock")
 | _=>false
def seqO:D→Option (List D)
 | .tup ds=>some ds
 | .lst ds=>some ds
 | _=>none
def itemsO (d:D):List D:=(seqO d).getD []
def O2 (d:D):Prop:=KdO d=true∧∀ x∈itemsO d,KdO x=true
def O3 (d:D):Prop:=KdO d=true∧∀ x∈itemsO d,O2 x
def wtD (d:D):Nat:=match toPyK d with
 | some p=>p.weight
 | none=>0
def Sw (k:Nat)(d:D):Prop:=∃ p,toPyK d=some p∧p.showable=true∧p.depth≤k∧p.leavesShort 13=true
section
variable {k k':Nat}{d:D}{ds:List D}
theorem wt_of {p:PyData}(e:toPyK d=some p):wtD d=p.weight:=by unfold wtD;rw[e]
theorem Sw.mono (h:Sw k d)(hk:k≤k'):Sw k' d:=let ⟨p,a,b,c,e⟩:=h;⟨p,a,b,Nat.le_trans c hk,e⟩
theorem sw_all:∀ {ds:List D},(∀ d∈ds,Sw k d)→∃ ps,toPyKL ds=some ps∧PyData.showableAll ps=true∧PyData.depthAll ps≤k∧PyData.leavesShortAll 13 ps=true∧PyData.weightAll ps=(ds.map wtD).sum+ds.length
 | [],_=>⟨[],rfl,rfl,Nat.zero_le _,rfl,rfl⟩
 | d::ds,h=>by
  obtain⟨ps,a1,a2,a3,a4,a5⟩:=sw_all fun x hx=>h x (List.mem_cons_of_mem _ hx)
  obtain⟨p,b1,b2,b3,b4⟩:=h d List.mem_cons_self
  have e:wtD d=p.weight:=by unfold wtD;rw[b1]
  refine⟨p::ps,by simp only[toPyKL,b1,a1];rfl,by simp[PyData.showableAll,b2,a2],by simp only[PyData.depthAll];omega,by simp[PyData.leavesShortAll,b4,a4],?_⟩
  simp only[PyData.weightAll,List.map_cons,List.sum_cons,List.length_cons]
  omega
theorem sw_lst (h:∀ d∈ds,Sw k d):Sw (k+1) (.lst ds)∧wtD (.lst ds)=(ds.map wtD).sum+ds.length:=by
 obtain⟨ps,a1,a2,a3,a4,a5⟩:=sw_all h
 have e:toPyK (.lst ds)=some (.list ps):=by simp only[toPyK,a1];rfl
 refine⟨⟨.list ps,e,by simpa [PyData.showable] using a2,by simp only[PyData.depth];omega,by simpa [PyData.leavesShort] using a4⟩,?_⟩
 rw[wt_of e];simpa only[PyData.weight] using a5
theorem sw_tup (h:∀ d∈ds,Sw k d):Sw (k+1) (.tup ds)∧wtD (.tup ds)=(ds.map wtD).sum+ds.length:=by
 obtain⟨ps,a1,a2,a3,a4,a5⟩:=sw_all h
 have e:toPyK (.tup ds)=some (.tuple ps):=by simp only[toPyK,a1];rfl
 refine⟨⟨.tuple ps,e,by simpa [PyData.showable] using a2,by simp only[PyData.depth];omega,by simpa [PyData.leavesShort] using a4⟩,?_⟩
 rw[wt_of e];simpa only[PyData.weight] using a5
theorem merge_nodup {α:Type}:∀ (us acc:List (Ky×α)),((acc++us).map (·.1)).Nodup→mergeD acc us=acc++us
 | [],acc,_=>by simp[mergeD]
 | p::us,acc,h=>by
  have e:mergeD acc (p::us)=mergeD (dput acc p.1 p.2) us:=rfl
  rw[e,dput_new]
  ·rw[merge_nodup us (acc++[(p.1,p.2)]) (by rw[List.append_assoc];exact h),List.append_assoc];rfl
  ·intro q hq e2
   rw[List.map_append,List.nodup_append] at h
   exact h.2.2 _ (List.mem_map.mpr ⟨q,hq,rfl⟩) _ (List.mem_map.mpr ⟨p,List.mem_cons_self,rfl⟩) e2
end
inductive Ob (W:Nat):D→Prop
 | a {d:D}:KdO d=true→seqO d=none→Ob W d
 | s {d:D} {ds:List D}:KdO d=true→seqO d=some ds→(∀ x∈ds,Ob W x)→(∀ x∈ds,Sw 26 x∧wtD x≤W)→Ob W d
def It (W:Nat)(x:D):Prop:=Ob W x∧Sw 26 x∧wtD x≤W
section
variable {W W' S L S' L':Nat}{d:D}{ds:List D}
theorem Ob.k (h:Ob W d):KdO d=true:=by cases h <;> assumption
theorem Ob.it (h:Ob W d)(e:seqO d=some ds):∀ x∈ds,It W x:=by
 cases h with
 | a _ e2=>rw[e] at e2;cases e2
 | s _ e2 h3 h4=>rw[e] at e2;cases e2;exact fun x hx=>⟨h3 x hx,h4 x hx⟩
theorem Ob.its (h:Ob W d):∀ x∈itemsO d,It W x:=by
 unfold itemsO
 cases e:seqO d with
 | none=>intro x hx;cases hx
 | some ds=>exact h.it e
theorem Ob.mono (h:Ob W d)(hw:W≤W'):Ob W' d:=by
 induction h with
 | a h1 h2=>exact .a h1 h2
 | s h1 h2 _ h4 ih=>exact .s h1 h2 ih fun x hx=>⟨(h4 x hx).1,Nat.le_trans (h4 x hx).2 hw⟩
theorem It.mono (h:It W d)(hw:W≤W'):It W' d:=⟨h.1.mono hw,h.2.1,Nat.le_trans h.2.2 hw⟩
theorem Ob.o2 (h:Ob W d):O2 d:=⟨h.k,fun x hx=>(h.its x hx).1.k⟩
theorem Ob.o3 (h:Ob W d):O3 d:=⟨h.k,fun x hx=>(h.its x hx).1.o2⟩
theorem wt_seq (h:Ob W d)(e:seqO d=some ds):wtD d=(ds.map wtD).sum+ds.length∧Sw 27 d:=by
 have hi:=h.it e
 cases d <;> simp[seqO] at e
 ·subst e;obtain⟨a,b⟩:=sw_tup fun x hx=>(hi x hx).2.1;exact⟨b,a⟩
 ·subst e;obtain⟨a,b⟩:=sw_lst fun x hx=>(hi x hx).2.1;exact⟨b,a⟩
structure Th (W S L:Nat)(d:D):Prop where
 o:Ob W d
 f:Sw 28 d
 s:∀ ds,seqO d=some ds→(ds.map wtD).sum≤S∧ds.length≤L
 w:wtD d≤S+42*L
theorem Th.mono (h:Th W S L d)(hw:W≤W')(hs:S≤S')(hl:L≤L'):Th W' S' L' d :=
 ⟨h.o.mono hw,h.f,fun ds e=>⟨Nat.le_trans (h.s ds e).1 hs,Nat.le_trans (h.s ds e).2 hl⟩,by have:=h.w;omega⟩
theorem It.th (h:It W d):Th W W W d :=
 ⟨h.1,h.2.1.mono (by decide),fun ds e=>by have:=(wt_seq h.1 e).1;have:=h.2.2;omega,by have:=h.2.2;omega⟩
end
theorem sum_subW {es ds:List D}(h:es.Sublist ds):(es.map wtD).sum≤(ds.map wtD).sum:=by
 induction h with
 | slnil=>exact Nat.le_refl _
 | cons a _ ih=>rw[List.map_cons,List.sum_cons];omega
 | cons_cons a _ ih=>rw[List.map_cons,List.map_cons,List.sum_cons,List.sum_cons];omega
def deepD:Nat→D
 | 0=>.lst []
 | n+1=>.lst [deepD n]
def Sx (k:Nat)(d:D):Prop:=∃ p,toPyK d=some p∧p.showable=true∧p.depth≤k∧p.leavesShort 45=true
inductive Kn:D→Prop
 | a {d}:KdB d=true→seqO d=none→(∀ s:Str,d=.str s→s.length≤1000)→Kn d
 | s {d ds}:KdB d=true→seqO d=some ds→ds.length≤20000→(∀ x∈ds,Kn x)→Kn d
structure Vo (k W:Nat)(d:D):Prop where
 kn:Kn d
 sx:Sx k d
 wt:wtD d≤W
structure VoL (k S L:Nat)(ds:List D):Prop where
 kn:∀ x∈ds,Kn x
 sx:∀ x∈ds,Sx k x
 sum:(ds.map wtD).sum≤S
 len:ds.length≤L
section
variable {k k' W:Nat}{d x:D}{ds es:List D}{s:Str}
theorem Sx.mono (h:Sx k d)(hk:k≤k'):Sx k' d:=let ⟨p,a,b,c,e⟩:=h;⟨p,a,b,Nat.le_trans c hk,e⟩
theorem sx_fk (h:Sx k d):Fk k (47*wtD d+45) d:=by
 obtain⟨p,e1,e2,e3,e4⟩:=h
 refine⟨p,e1,e2,e3,?_⟩
 have:=PyData.shown_le 45 (by decide) p e4
 have e:wtD d=p.weight:=by unfold wtD;rw[e1]
 rw[e];omega
theorem sx_non:Sx 0 .non∧wtD .non=0:=⟨⟨.none,rfl,rfl,Nat.le_refl _,rfl⟩,rfl⟩
theorem sx_str (h:PyData.strOk s=true):Sx 0 (.str s)∧wtD (.str s)=s.cps.size:=⟨⟨.str s,rfl,rfl,Nat.le_refl _,PyData.leavesShort_of_canLay0 45 (.str s) h rfl⟩,rfl⟩
theorem sx_all:∀ {ds:List D},(∀ d∈ds,Sx k d)→∃ ps,toPyKL ds=some ps∧PyData.showableAll ps=true∧PyData.depthAll ps≤k∧PyData.leavesShortAll 45 ps=true∧PyData.weightAll ps=(ds.map wtD).sum+ds.length
 | [],_=>⟨[],rfl,rfl,Nat.zero_le _,rfl,rfl⟩
 | d::ds,h=>by
  obtain⟨ps,a1,a2,a3,a4,a5⟩:=sx_all fun x hx=>h x (List.mem_cons_of_mem _ hx)
  obtain⟨p,b1,b2,b3,b4⟩:=h d List.mem_cons_self
  have e:wtD d=p.weight:=by unfold wtD;rw[b1]
  refine⟨p::ps,by simp only[toPyKL,b1,a1];rfl,by simp[PyData.showableAll,b2,a2],by simp only[PyData.depthAll];omega,by simp[PyData.leavesShortAll,b4,a4],?_⟩
  simp only[PyData.weightAll,List.map_cons,List.sum_cons,List.length_cons]
  omega
theorem sx_lst (h:∀ d∈ds,Sx k d):Sx (k+1) (.lst ds)∧wtD (.lst ds)=(ds.map wtD).sum+ds.length:=by
 obtain⟨ps,a1,a2,a3,a4,a5⟩:=sx_all h
 have e:toPyK (.lst ds)=some (.list ps):=by simp only[toPyK,a1];rfl
 refine⟨⟨.list ps,e,by simpa [PyData.showable] using a2,by simp only[PyData.depth];omega,by simpa [PyData.leavesShort] using a4⟩,?_⟩
 rw[wt_of e];simpa only[PyData.weight] using a5
theorem sx_tup (h:∀ d∈ds,Sx k d):Sx (k+1) (.tup ds)∧wtD (.tup ds)=(ds.map wtD).sum+ds.length:=by
 obtain⟨ps,a1,a2,a3,a4,a5⟩:=sx_all h
 have e:toPyK (.tup ds)=some (.tuple ps):=by simp only[toPyK,a1];rfl
 refine⟨⟨.tuple ps,e,by simpa [PyData.showable] using a2,by simp only[PyData.depth];omega,by simpa [PyData.leavesShort] using a4⟩,?_⟩
 rw[wt_of e];simpa only[PyData.weight] using a5
theorem Kn.kb (h:Kn d):KdB d=true:=by cases h <;> assumption
theorem Kn.it (h:Kn d)(e:seqO d=some ds):∀ x∈ds,Kn x:=by
 cases h with
 | a _ e2 _=>rw[e] at e2;cases e2
 | s _ e2 _ h=>rw[e] at e2;cases e2;exact h
theorem Kn.len (h:Kn d)(e:seqO d=some ds):ds.length≤20000:=by
 cases h with
 | a _ e2 _=>rw[e] at e2;cases e2
 | s _ e2 h _=>rw[e] at e2;cases e2;exact h
theorem Kn.kv (h:Kn d):Kv d:=⟨h.kb,fun s e=>by
 subst e
 cases h with
 | a _ _ h=>exact h s rfl
 | s _ e2 _ _=>cases e2⟩
theorem Kn.tup (hl:ds.length≤20000)(h:∀ x∈ds,Kn x):Kn (.tup ds):=.s rfl rfl hl h
theorem Kn.lst (hl:ds.length≤20000)(h:∀ x∈ds,Kn x):Kn (.lst ds):=.s rfl rfl hl h
theorem kn_non:Kn .non:=.a rfl rfl fun _ e=>by cases e
theorem kn_bl (b:Bool):Kn (.bl b):=.a rfl rfl fun _ e=>by cases e
theorem kn_int (i:Int):Kn (.int i):=.a rfl rfl fun _ e=>by cases e
theorem kn_str (h:s.length≤1000):Kn (.str s):=.a rfl rfl fun _ e=>by cases e;exact h
theorem kn_dct (l:List (Ky×D)):Kn (.dct l):=.a rfl rfl fun _ e=>by cases e
theorem Vo.mono {W':Nat}(h:Vo k W d)(hk:k≤k')(hw:W≤W'):Vo k' W' d:=⟨h.kn,h.sx.mono hk,Nat.le_trans h.wt hw⟩
theorem sxL_inv:∀ {ds:List D} {ps:List PyData},toPyKL ds=some ps→PyData.showableAll ps=true→PyData.depthAll ps≤k→PyData.leavesShortAll 45 ps=true→∀ x∈ds,Sx k x
 | [],_,_,_,_,_=>fun x hx=>by cases hx
 | d::ds,ps,e,h1,h2,h3=>by
  simp only[toPyKL] at e
  cases e1:toPyK d with
  | none=>rw[e1] at e;cases e
  | some p =>
   cases e2:toPyKL ds with
   | none=>rw[e1,e2] at e;cases e
   | some qs =>
    rw[e1,e2] at e
    cases e
    simp only[PyData.showableAll,PyData.depthAll,PyData.leavesShortAll,Bool.and_eq_true] at h1 h2 h3
    intro x hx
    rcases List.mem_cons.mp hx with rfl|hx
    ·exact⟨p,e1,h1.1,by omega,h3.1⟩
    ·exact sxL_inv e2 h1.2 (by omega) h3.2 x hx
theorem sx_items (h:Sx k d)(e:seqO d=some ds):1≤k∧∀ x∈ds,Sx (k-1) x:=by
 obtain⟨p,e1,e2,e3,e4⟩:=h
 cases d <;> simp[seqO] at e
 case tup l =>
  subst e
  simp only[toPyK] at e1
  cases q:toPyKL l with
  | none=>rw[q] at e1;cases e1
  | some ps =>
   rw[q] at e1;cases e1
   simp only[PyData.showable,PyData.depth,PyData.leavesShort] at e2 e3 e4
   exact⟨by omega,sxL_inv q e2 (by omega) e4⟩
 case lst l =>
  subst e
  simp only[toPyK] at e1
  cases q:toPyKL l with
  | none=>rw[q] at e1;cases e1
  | some ps =>
   rw[q] at e1;cases e1
   simp only[PyData.showable,PyData.depth,PyData.leavesShort] at e2 e3 e4
   exact⟨by omega,sxL_inv q e2 (by omega) e4⟩
theorem wt_sx (h:Sx k d)(e:seqO d=some ds):wtD d=(ds.map wtD).sum+ds.length:=by
 have hi:=(sx_items h e).2
 cases d <;> simp[seqO] at e
 ·subst e;exact(sx_tup hi).2
 ·subst e;exact(sx_lst hi).2
theorem VoL.lst {S L:Nat}(h:VoL k S L ds)(hL:L≤20000):Vo (k+1) (S+L) (.lst ds):=⟨.lst (Nat.le_trans h.len hL) h.kn,(sx_lst h.sx).1,by rw[(sx_lst h.sx).2];have:=h.sum;have:=h.len;omega⟩
theorem VoL.tup {S L:Nat}(h:VoL k S L ds)(hL:L≤20000):Vo (k+1) (S+L) (.tup ds):=⟨.tup (Nat.le_trans h.len hL) h.kn,(sx_tup h.sx).1,by rw[(sx_tup h.sx).2];have:=h.sum;have:=h.len;omega⟩
theorem VoL.mono {S L S' L':Nat}(h:VoL k S L ds)(hk:k≤k')(hS:S≤S')(hL:L≤L'):VoL k' S' L' ds:=⟨h.kn,fun x hx=>(h.sx x hx).mono hk,Nat.le_trans h.sum hS,Nat.le_trans h.len hL⟩
theorem Vo.items (h:Vo k W d)(e:seqO d=some ds):1≤k∧VoL (k-1) ((ds.map wtD).sum) ds.length ds∧(ds.map wtD).sum+ds.length≤W∧ds.length≤20000:=by
 have:=sx_items h.sx e
 have w:=wt_sx h.sx e
 have:=h.wt
 exact⟨by omega,⟨h.kn.it e,(sx_items h.sx e).2,Nat.le_refl _,Nat.le_refl _⟩,by omega,h.kn.len e⟩
theorem VoL.app {S L S' L':Nat}(h:VoL k S L ds)(h':VoL k S' L' es):VoL k (S+S') (L+L') (ds++es) :=
 ⟨fun x hx=>(List.mem_append.mp hx).elim (h.kn x) (h'.kn x),fun x hx=>(List.mem_append.mp hx).elim (h.sx x) (h'.sx x),by rw[List.map_append,List.sum_append];have:=h.sum;have:=h'.sum;omega,by rw[List.length_append];have:=h.len;have:=h'.len;omega⟩
theorem VoL.one (h:Vo k W d):VoL k W 1 [d]:=⟨fun x hx=>by cases List.mem_singleton.mp hx;exact h.kn,fun x hx=>by cases List.mem_singleton.mp hx;exact h.sx,by simpa using h.wt,Nat.le_refl _⟩
theorem VoL.sub {S L:Nat}(h:VoL k S L ds)(q:es.Sublist ds):VoL k S L es:=⟨fun x hx=>h.kn x (q.subset hx),fun x hx=>h.sx x (q.subset hx),Nat.le_trans (sum_subW q) h.sum,Nat.le_trans q.length_le h.len⟩
theorem VoL.rev {S L:Nat}(h:VoL k S L ds):VoL k S L ds.reverse:=⟨fun x hx=>h.kn x (List.mem_reverse.mp hx),fun x hx=>h.sx x (List.mem_reverse.mp hx),by rw[List.map_reverse,List.sum_reverse];exact h.sum,by rw[List.length_reverse];exact h.len⟩
end
def knB:Nat→D→Bool
 | 0,_=>false
 | _+1,.non=>true
 | _+1,.bl _=>true
 | _+1,.int _=>true
 | _+1,.str s=>decide (s.length≤1000)
 | k+1,.tup ds=>decide (ds.length≤20000)&&ds.all (knB k)
 | k+1,.lst ds=>decide (ds.length≤20000)&&ds.all (knB k)
 | _+1,.dct []=>true
 | _+1,_=>false
def sxB (k W:Nat)(d:D):Bool:=match toPyK d with
 | some p=>p.showable&&decide (p.depth≤k)&&p.leavesShort 45&&decide (p.weight≤W)
 | none=>false
theorem kn_of:∀ (k:Nat) (d:D),knB k d=true→Kn d
 | 0,_,h=>by cases h
 | k+1,d,h=>by
  cases d with
  | non=>exact kn_non
  | bl b=>exact kn_bl b
  | int i=>exact kn_int i
  | str s=>exact kn_str (of_decide_eq_true h)
  | tup ds =>
   unfold knB at h
   rw[Bool.and_eq_true,decide_eq_true_eq,List.all_eq_true] at h
   exact .tup h.1 fun x hx=>kn_of k x (h.2 x hx)
  | lst ds =>
   unfold knB at h
   rw[Bool.and_eq_true,decide_eq_true_eq,List.all_eq_true] at h
   exact .lst h.1 fun x hx=>kn_of k x (h.2 x hx)
  | dct l =>
   cases l with
   | nil=>exact kn_dct []
   | cons a l=>cases h
  | _=>cases h
theorem vo_of {k W j:Nat}{d:D}(h:(knB j d&&sxB k W d)=true):Vo k W d:=by
 rw[Bool.and_eq_true] at h
 obtain⟨h1,h2⟩:=h
 unfold sxB at h2
 cases e:toPyK d with
 | none=>rw[e] at h2;cases h2
 | some p =>
  rw[e] at h2
  simp only[Bool.and_eq_true,decide_eq_true_eq] at h2
  exact⟨kn_of j d h1,⟨p,e,h2.1.1.1,h2.1.1.2,h2.1.2⟩,by rw[wt_of e];exact h2.2⟩
theorem vo_all {k W j:Nat}{ds:List D}(h:(ds.all fun d=>knB j d&&sxB k W d)=true):∀ d∈ds,Vo k W d:=fun d hd=>vo_of (List.all_eq_true.mp h d hd)
theorem sum_setE {ds:List D}{i:Nat}(h:i<ds.length)(d:D):((ds.set i d).map wtD).sum+wtD ds[i]=(ds.map wtD).sum+wtD d:=by
 induction ds generalizing i with
 | nil=>cases h
 | cons x ds ih =>
  cases i with
  | zero=>simp only[List.set_cons_zero,List.map_cons,List.sum_cons,List.getElem_cons_zero];omega
  | succ i =>
   have:=ih (i:=i) (by simpa using h)
   simp only[List.set_cons_succ,List.map_cons,List.sum_cons,List.getElem_cons_succ]
   omega
abbrev Td:=List (Str×Str)
def tget (td:Td)(n:Str):Option Str:=(td.find? fun p=>decide (p.1=n)).map (·.2)
section
variable {td td':Td}{n m:Str}{QR:R→Mem→Prop}{E:Xc→Mem→Prop}{μ:Mem}
def rn (td:Td)(s:Str):Str:=(tget td s).getD ""
def back (td:Td):Td:=td.map fun p=>(p.2,p.1)
def namesL (as:List Str)(xs:List Sp1):List Str:=as++xs.flatMap (·.2)
def namesU (as:List Str)(xs:List Sp1):List Str:=sortU (namesL as xs)
def ownU (as:List Str)(xs:List Sp1):List Str:=(namesU as xs).filter fun s=>!decide (s∈as)
end
section
variable {as os:List Str}{xs:List Sp1}{sd sa sb:Sd}{d:Dd}{n m:Str}{QR:R→Mem→Prop}{E:Xc→Mem→Prop}{μ:Mem}
def sput (sd:Sd)(n:Str)(d:Dd):Sd:=if n∈sd.map (·.1) then sd.map (fun p=>if p.1=n then(p.1,d) else p) else sd++[(n,d)]
theorem sput_names (sd:Sd)(n:Str)(d:Dd):(sput sd n d).map (·.1)=if n∈sd.map (·.1) then sd.map (·.1) else sd.map (·.1)++[n]:=by
 unfold sput
 by_cases h:n∈sd.map (·.1)
 ·rw[if_pos h,if_pos h,List.map_map]
  refine List.map_congr_left fun p _=>?_
  simp only[Function.comp_def];split <;> rfl
 ·rw[if_neg h,if_neg h,List.map_append];rfl
theorem sput_nodup (h:(sd.map (·.1)).Nodup):((sput sd n d).map (·.1)).Nodup:=by
 rw[sput_names]
 split
 ·exact h
 ·rename_i hn
  refine List.nodup_append.mpr ⟨h,by simp,fun a ha b hb=>?_⟩
  simp at hb;subst hb;exact fun e=>hn (e▸ha)
theorem sput_mem {p:Str×Dd}(h:p∈sput sd n d):p=(n,d)∨(p∈sd∧p.1≠n):=by
 unfold sput at h
 split at h
 ·obtain⟨q,hq,rfl⟩:=List.mem_map.mp h
  by_cases e:q.1=n
  ·rw[if_pos e];exact .inl (by rw[e])
  ·rw[if_neg e];exact .inr ⟨hq,e⟩
 ·rename_i hn
  rcases List.mem_append.mp h with q|q
  ·exact .inr ⟨q,fun e=>hn (List.mem_map.mpr ⟨p,q,e⟩)⟩
  ·simp at q;exact .inl q
theorem SdOk.sput (h:SdOk sd)(hd:DdV d)(hn:n∈sd.map (·.1)∨(sd.length<5∧nameB n=true∧PyData.strOk n=true∧n.cps.size≤16)):SdOk (sput sd n d):=by
 have n1:=h.n1
 have n5:=h.n5
 have hl:(DL.sput sd n d).length=if n∈sd.map (·.1) then sd.length else sd.length+1:=by
  have:=congrArg List.length (sput_names sd n d)
  rw[List.length_map] at this
  rw[this];split <;> simp
 refine⟨?_,?_,sput_nodup h.nd,fun p hp=>?_,fun p hp=>?_⟩
 ·rw[hl];split <;> omega
 ·rw[hl]
  split
  ·omega
  ·rcases hn with q|⟨q,_⟩
   ·contradiction
   ·omega
 ·rcases sput_mem hp with rfl|⟨q,_⟩
  ·rcases hn with q|⟨_,q⟩
   ·obtain⟨r,hr,e⟩:=List.mem_map.mp q
    have:=h.nm r hr
    rw[e] at this;exact this
   ·exact q
  ·exact h.nm p q
 ·rcases sput_mem hp with rfl|⟨q,_⟩
  ·exact hd
  ·exact h.dd p q
theorem sd_nodup (h:(sd.map (·.1)).Nodup):sd.Nodup:=by
 unfold List.Nodup at *
 rw[List.pairwise_map] at h
 exact h.imp fun q e=>q (by rw[e])
theorem srt_ext (ha:(sa.map (·.1)).Nodup)(hb:(sb.map (·.1)).Nodup)(h:∀ n,sget sa n=sget sb n):srt sa=srt sb:=by
 refine srt_perm ha ((List.perm_ext_iff_of_nodup (sd_nodup ha) (sd_nodup hb)).mpr fun p=>?_)
 constructor
 ·intro hp
  have:=sget_of (n:=p.1) (d:=p.2) ha hp
  rw[h] at this
  exact sget_mem this
 ·intro hp
  have:=sget_of (n:=p.1) (d:=p.2) hb hp
  rw[←h] at this
  exact sget_mem this
theorem srt_nd (h:(sd.map (·.1)).Nodup):((srt sd).map (·.1)).Nodup:=by rw[srt_names];exact(sortS_perm _).nodup_iff.mpr h
theorem srt_srt (h:(sd.map (·.1)).Nodup):srt (srt sd)=srt sd:=srt_perm (srt_nd h) (srt_is h)
end
structure SOk (sd:Sd):Prop where
 ok:SdOk sd
 so:srt sd=sd
section
variable {as os:List Str}{xs ys:List Sp1}{sd sa sb:Sd}{d e:Dd}{n m:Str}{x y:Sp1}{i:Nat}
def pt (sd:Sd)(n:Str)(d:Dd):Sd:=srt (sput sd n d)
theorem SdOk.so (h:SdOk sd):SOk (DL.srt sd):=⟨h.srt,srt_srt h.nd⟩
theorem SOk.ext (ha:SOk sa)(hb:SOk sb)(h:∀ n,sget sa n=sget sb n):sa=sb:=by
 rw[←ha.so,←hb.so];exact srt_ext ha.ok.nd hb.ok.nd h
theorem SdOk.get (h:SdOk sd)(g:sget sd n=some d):DdV d:=h.dd (n,d) (sget_mem g)
def wo (sd:Sd)(n:Str):Sd:=sd.filter fun p=>!decide (p.1=n)
theorem DdOk.of (h:DdOk as os xs)(h1:1≤ys.length)(h8:ys.length≤8)(hm:∀ y∈ys,StOk false (as++os) y):DdOk as os ys :=
 ⟨h.nd,h.nm,h.a1,h.a3,h.o2,h1,h8,hm⟩
theorem st_end {a:Str} (ha:a∈as):StOk false (as++os) ("end",[a]) :=
 ⟨show("end":Str)∈louds++quiets by decide +kernel,fun e=>absurd (show two "end"=true from e) (by decide +kernel),fun _=>⟨a,rfl,List.mem_append_left _ ha⟩⟩
theorem DdOk.ins (h:DdOk as os xs) (h8:xs.length<8) {a:Str} (ha:a∈as) (i:Nat):DdOk as os (xs.take i++[(("end",[a]):Sp1)]++xs.drop i):=by
 refine h.of (by simp;omega) ?_ fun y hy=>?_
 ·rw[List.length_append,List.length_append,List.length_take,List.length_drop];simp;omega
 ·rcases List.mem_append.mp hy with q|q
  ·rcases List.mem_append.mp q with q|q
   ·exact h.st y (List.mem_of_mem_take q)
   ·simp at q;subst q;exact st_end ha
  ·exact h.st y (List.mem_of_mem_drop q)
theorem DdOk.to (h:DdOk as os xs)(h1:1≤i):DdOk as os (xs.take i):=by
 have x8:=h.x8
 have x1:=h.x1
 exact h.of (by rw[List.length_take];omega) (by rw[List.length_take];omega) fun y hy=>h.st y (List.mem_of_mem_take hy)
theorem other_st {q:Bool}{ss:List Str}(h:∀ x∈xs,StOk false ss x)(e:other q xs i=some y):StOk false ss y:=by
 unfold other at e
 cases e1:xs[i]? with
 | none=>rw[e1] at e;cases e
 | some x =>
  rw[e1] at e
  simp only at e
  cases e2:(tabW q).lookup x.1 with
  | none=>rw[e2] at e;cases e
  | some w =>
   rw[e2] at e
   simp only[Option.some.injEq] at e
   subst e
   have hx:=h x (List.mem_of_getElem? e1)
   have tw:two w=two x.1:=by
    have:=tab_cases e2
    cases q with
    | true =>
     have this:(x.1,w)∈quietT:=this
     simp only[quietT,List.mem_cons,List.not_mem_nil,or_false,Prod.mk.injEq] at this
     rcases this with⟨a,rfl⟩|⟨a,rfl⟩ <;> rw[a] <;> decide +kernel
    | false =>
     have this:(x.1,w)∈loudT:=this
     simp only[loudT,List.mem_cons,List.not_mem_nil,or_false,Prod.mk.injEq] at this
     rcases this with⟨a,rfl⟩|⟨a,rfl⟩ <;> rw[a] <;> decide +kernel
   exact⟨by rw[if_neg Bool.false_ne_true];exact tab_word e2,fun z=>hx.sh (tw▸z),fun z=>hx.ot (tw▸z)⟩
theorem DdOk.putAll (h:DdOk as os xs)(q:Bool)(ds:List D):DdOk as os (DL.putAll q xs xs ds):=by
 refine h.of (by rw[putAll_len];exact h.x1) (by rw[putAll_len];exact h.x8) fun z hz=>?_
 obtain⟨i,hi⟩:=List.mem_iff_getElem?.mp hz
 rcases putAll_at q xs ds xs i z hi with h1|h1
 ·exact h.st z (List.mem_of_getElem? h1)
 ·exact other_st h.st h1
end
def oneW:List Str:=["new","end","leave","more","less","write"]
def twoW:List Str:=["share","hold"]
def stepB:D→Bool
 | .tup (.str w::r)=>(decide (w∈oneW)&&(decide (r.length=1)&&r.all nameD))||(decide (w∈twoW)&&(decide (r.length=2)&&namesD 2 (.tup r)))
 | _=>false
def strT:D→List Str
 | .tup l=>l.filterMap strO
 | _=>[]
def spD:D→Sp1
 | .tup (.str w::r)=>(w,r.filterMap strO)
 | _=>("",[])
def ownD (a:D)(ss:List D):List Str:=ownU (strT a) (ss.map spD)
def deedB:D→Bool
 | .tup [a,.tup ss]=>namesD 3 a&&(decide (1≤ss.length∧ss.length≤8)&&(ss.all stepB&&decide ((ownD a ss).length≤2)))
 | _=>false
section
variable {d a:D}{ss ds:List D}{s w:Str}{as os:List Str}{xs:List Sp1}{x:Sp1}
theorem words_eq:∀ w:Str,w∈louds++quiets↔w∈oneW∨w∈twoW:=by
 intro w
 constructor
 ·have:∀ w∈louds++quiets,w∈oneW∨w∈twoW:=by decide +kernel
  exact this w
 ·have h1:∀ w∈oneW,w∈louds++quiets:=by decide +kernel
  have h2:∀ w∈twoW,w∈louds++quiets:=by decide +kernel
  exact fun h=>h.elim (h1 w) (h2 w)
theorem one_two:∀ w∈oneW,w∉twoW:=by decide +kernel
theorem two_tw:∀ w∈twoW,two w=true:=by decide +kernel
theorem two_on:∀ w∈oneW,two w=false:=by decide +kernel
theorem stepB_is (h:stepB d=true):∃ x:Sp1,d=stD x∧StOk false x.2 x∧∀ s∈x.2,nameB s=true:=by
 unfold stepB at h
 split at h
 ·rename_i w r
  rw[Bool.or_eq_true,Bool.and_eq_true,Bool.and_eq_true,Bool.and_eq_true,Bool.and_eq_true,decide_eq_true_eq,decide_eq_true_eq,decide_eq_true_eq,decide_eq_true_eq] at h
  rcases h with⟨hw,hl,hn⟩|⟨hw,hl,hn⟩
  ·obtain⟨ss,rfl,hs⟩:=nameD_map hn
   rw[List.length_map] at hl
   match ss,hl with
   | [a],_ =>
    refine⟨(w,[a]),rfl,⟨(words_eq w).mpr (.inl hw),fun e=>?_,fun _=>⟨a,rfl,by simp⟩⟩,hs⟩
    have e:two w=true:=e
    rw[two_on w hw] at e;cases e
  ·obtain⟨ss,e,h1,h2,h3,h4⟩:=namesD_is hn
   cases e
   rw[List.length_map] at hl
   match ss,hl with
   | [a,c],_ =>
    refine⟨(w,[a,c]),rfl,⟨(words_eq w).mpr (.inr hw),fun _=>⟨a,c,rfl,?_,by simp,by simp⟩,fun e=>?_⟩,h4⟩
    ·simpa using h3
    ·have e:two w=false:=e
     rw[two_tw w hw] at e;cases e
 ·cases h
theorem sp_st (x:Sp1):spD (stD x)=x:=by
 show(x.1,(x.2.map D.str).filterMap strO)=x
 rw[strO_map]
theorem sp_map (xs:List Sp1):(xs.map stD).map spD=xs:=by
 rw[List.map_map]
 conv=>rhs;rw[←List.map_id xs]
 exact List.map_congr_left fun x _=>sp_st x
theorem own_eq (as:List Str)(xs:List Sp1):ownD (.tup (as.map D.str)) (xs.map stD)=ownU as xs:=by
 show ownU ((as.map D.str).filterMap strO) ((xs.map stD).map spD)=_
 rw[strO_map,sp_map]
theorem steps_map {ds:List D}(h:ds.all stepB=true):∃ xs:List Sp1,ds=xs.map stD∧∀ x∈xs,StOk false x.2 x∧∀ s∈x.2,nameB s=true:=by
 induction ds with
 | nil=>exact⟨[],rfl,fun x h=>by cases h⟩
 | cons d ds ih =>
  rw[List.all_cons,Bool.and_eq_true] at h
  obtain⟨x,rfl,hx⟩:=stepB_is h.1
  obtain⟨xs,rfl,hxs⟩:=ih h.2
  exact⟨x::xs,rfl,fun y hy=>(List.mem_cons.mp hy).elim (fun e=>e▸hx) (hxs y)⟩
theorem mem_own:s∈ownU as xs↔s∉as∧∃ x∈xs,s∈x.2:=by
 unfold ownU namesU namesL
 rw[List.mem_filter,sortU_mem,List.mem_append,List.mem_flatMap]
 simp only[Bool.not_eq_true',decide_eq_false_iff_not]
 constructor
 ·rintro ⟨h1|h1,h2⟩
  ·exact absurd h1 h2
  ·exact⟨h2,h1⟩
 ·rintro ⟨h1,h2⟩
  exact⟨.inr h2,h1⟩
theorem own_nd:(ownU as xs).Nodup:=(sortU_nodup _).sublist List.filter_sublist
end
def tabV (t:List (Str×D)):List (Ky×DV):=t.map fun p=>(.k (.inr p.1),.dat p.2)
def tabD (t:List (Str×D)):List (Ky×D):=t.map fun p=>(.k (.inr p.1),p.2)
theorem merge_tab {t:List (Str×D)}(h:(t.map (·.1)).Nodup):mergeD [] (tabV t)=tabV t:=by
 have:=merge_nodup (tabV t) [] (by
  rw[List.nil_append]
  unfold tabV List.Nodup at *
  rw[List.map_map,List.pairwise_map]
  rw[List.pairwise_map] at h
  exact h.imp fun h e=>h (Sum.inr.inj (Ky.k.inj e)))
 rw[this,List.nil_append]
theorem tabV_dat:∀ t:List (Str×D),allDatK (tabV t)=some (tabD t)
 | []=>rfl
 | p::t=>by
  have e:tabV (p::t)=(.k (.inr p.1),.dat p.2)::tabV t:=rfl
  rw[e];unfold allDatK;rw[tabV_dat t];rfl
theorem tabD_all (t:List (Str×D)):allKD (tabD t)=true:=by unfold allKD tabD;rw[List.all_map];simp[Ky.isK]
theorem tabD_val (w:Str):∀ t:List (Str×D),dval (tabD t) (.k (.inr w))=t.lookup w
 | []=>rfl
 | (a,c)::t=>by
  have ih:=tabD_val w t
  unfold dval tabD at ih ⊢
  by_cases e:a=w
  ·subst e;simp[List.find?_cons,List.lookup_cons]
  ·have e2:(w==a)=false:=by simp;exact fun z=>e z.symm
   simp only[List.map_cons,List.find?_cons,List.lookup_cons,e2]
   rw[show decide (Ky.k (Sum.inr a)=Ky.k (Sum.inr w))=false by simp[e]]
   exact ih
theorem lookup_map {β γ:Type}(f:β→γ)(w:Str):∀ t:List (Str×β),(t.map fun p=>(p.1,f p.2)).lookup w=(t.lookup w).map f
 | []=>rfl
 | (a,c)::t=>by
  simp only[List.map_cons,List.lookup_cons]
  cases w==a with
  | true=>rfl
  | false=>exact lookup_map f w t
def stepN:List (Str×Int):=[("share",2),("hold",2),("new",1),("end",1),("leave",1),("more",1),("less",1),("write",1)]
abbrev stepT:List (Str×D):=stepN.map fun p=>(p.1,D.int p.2)
theorem stepT_nd:(stepT.map (·.1)).Nodup:=by decide +kernel
theorem stepN_two:∀ w∈twoW,stepN.lookup w=some 2:=by decide +kernel
theorem stepN_one:∀ w∈oneW,stepN.lookup w=some 1:=by decide +kernel
theorem stepN_no {w:Str}(h1:w∉oneW)(h2:w∉twoW):stepN.lookup w=none:=by
 rw[List.lookup_eq_none_iff]
 intro p hp
 have:∀ p∈stepN,p.1∈oneW∨p.1∈twoW:=by decide +kernel
 rw[bne_iff_ne]
 rintro rfl
 exact(this p hp).elim h1 h2
theorem namesD_one (b:D):namesD 2 (.tup [b])=nameD b:=by
 show(decide (1≤1∧1≤2)&&([b].all nameD&&decide ([b].filterMap strO).Nodup))=_
 have:decide ([b].filterMap strO).Nodup=true:=by
  cases b <;> first|rfl|exact decide_eq_true (by simp[strO])
 rw[this]
 simp
def manyN (w:Str):Int:=(stepN.lookup w).getD 0
theorem stepB_many {w:Str}{b:D}{r:List D}:stepB (.tup (.str w::b::r))=(decide ((((D.str w::b::r).length:Nat):Int)=manyN w+1)&&namesD 2 (.tup (b::r))):=by
 show((decide (w∈oneW)&&(decide ((b::r).length=1)&&(b::r).all nameD))||(decide (w∈twoW)&&(decide ((b::r).length=2)&&namesD 2 (.tup (b::r)))))=_
 unfold manyN
 by_cases h1:w∈oneW
 ·rw[stepN_one w h1,decide_eq_true h1,decide_eq_false (one_two w h1),Bool.true_and,Bool.false_and,Bool.or_false]
  cases r with
  | nil=>rw[namesD_one];simp
  | cons c r=>simp;intro h;omega
 ·rw[decide_eq_false h1,Bool.false_and,Bool.false_or]
  by_cases h2:w∈twoW
  ·rw[stepN_two w h2,decide_eq_true h2,Bool.true_and]
   congr 1
   refine decide_eq_decide.mpr ?_
   simp only[List.length_cons,Option.getD_some];omega
  ·rw[stepN_no h1 h2,decide_eq_false h2,Bool.false_and,Eq.comm,Bool.and_eq_false_iff]
   left
   refine decide_eq_false ?_
   simp only[List.length_cons,Option.getD_none];omega
inductive Er|deed|bad|index|wrong|many
def Er.word:Er→Str
 | .deed=>"deed"
 | .bad=>"bad"
 | .index=>"index"
 | .wrong=>"wrong"
 | .many=>"many"
def Er.cls:Er→Str
 | .deed=>"NoDeed"
 | .bad=>"BadDeed"
 | .index=>"BadStep"
 | .wrong=>"Wrong"
 | .many=>"TooMany"
def Er.fld:Er→Str
 | .deed=>"name"
 | .bad=>"name"
 | .index=>"index"
 | .wrong=>"place"
 | .many=>"most"
abbrev Er.x (e:Er)(d:D):Xc:=⟨e.cls,[(e.fld,d)]⟩
inductive Rs
 | told (sd:Sd)
 | err (e:Er) (d:D)
def Rs.l:Rs→D
 | .told sd=>.tup [.str "told",.dct (sdD sd)]
 | .err e d=>.tup [.str e.word,d]
def Rs.s:Rs→D
 | .told sd=>.tup [.str "told",stkD (srt sd)]
 | .err e d=>.tup [.str e.word,d]
inductive Ed
 | put (n f:D)
 | out (n:D)
 | step (n i s:D)
 | cut (n i:D)
 | turn (n i:D)
 | lots (q:Bool) (n:D) (ds:List D)
def Ed.d:Ed→D
 | .put n f=>.tup [.str "put",n,f]
 | .out n=>.tup [.str "out",n]
 | .step n i s=>.tup [.str "step",n,i,s]
 | .cut n i=>.tup [.str "cut",n,i]
 | .turn n i=>.tup [.str "turn",n,i]
 | .lots true n ds=>.tup [.str "quiet",n,.lst ds]
 | .lots false n ds=>.tup [.str "loud",n,.lst ds]
def inD (sd:Sd):D→Bool
 | .str n=>(sget sd n).isSome
 | _=>false
def isIntD:D→Bool
 | .int _=>true
 | _=>false
def ixB (m:Int):D→Bool
 | .int k=>decide (0≤k∧k<m)
 | _=>false
def ixT:D→Nat
 | .int k=>k.toNat
 | _=>0
def strN:D→Str
 | .str s=>s
 | _=>""
def ddO:D→Dd
 | .tup [a,.tup ss]=>(strT a,ss.map spD)
 | _=>([],[])
inductive Ss
 | ok (ys:List Sp1)
 | err (e:Er) (d:D)
def cutR (n:Str)(xs:List Sp1)(i:D):Ss:=if ixB xs.length i=true then(if xs.length=1 then .err .bad (.str n) else .ok (xs.take (ixT i)++xs.drop (ixT i+1))) else .err .index i
def turnR (xs:List Sp1)(i:D):Ss:=if ixB (xs.length-1) i=true then .ok (xs.take (ixT i)++((xs.drop (ixT i+1)).take 1++(xs.drop (ixT i)).take 1)++xs.drop (ixT i+2)) else .err .index i
def insT (xs:List Sp1)(i:D)(s:D):List Sp1:=xs.take (ixT i)++[spD s]++xs.drop (ixT i)
def stepR (n:Str)(as:List Str)(xs:List Sp1)(i s:D):Ss :=
 if ixB (xs.length+1) i=true then
  if stepB s=true then
   if xs.length=8 then .err .many (.int 8) else if(ownU as (insT xs i s)).length≤2 then .ok (insT xs i s) else .err .bad (.str n)
  else .err .wrong (.int 2)
 else .err .index i
def lotsR (q:Bool)(xs:List Sp1)(ds:List D):Ss:=match badOf q xs ds with
 | some d=>.err .index d
 | none=>.ok (putAll q xs xs ds)
def onDeed (sd:Sd)(n:D)(k:Str→Dd→Rs):Rs:=match n with
 | .str m=>match sget sd m with
  | some d=>k m d
  | none=>.err .deed n
 | _=>.err .deed n
def finS (sd:Sd)(n:Str)(as:List Str):Ss→Rs
 | .ok ys=>.told (sput sd n (as,ys))
 | .err e d=>.err e d
def res (sd:Sd):Ed→Rs
 | .put n f=>if nameD n=true then(if deedB f=true then(if inD sd n=false∧sd.length=5 then .err .many (.int 5) else .told (sput sd (strN n) (ddO f))) else .err .wrong (.int 1)) else .err .wrong (.int 0)
 | .out n=>onDeed sd n fun m _=>if sd.length=1 then .err .bad n else .told (wo sd m)
 | .step n i s=>onDeed sd n fun m d=>finS sd m d.1 (stepR m d.1 d.2 i s)
 | .cut n i=>onDeed sd n fun m d=>finS sd m d.1 (cutR m d.2 i)
 | .turn n i=>onDeed sd n fun m d=>finS sd m d.1 (turnR d.2 i)
 | .lots q n ds=>onDeed sd n fun m d=>finS sd m d.1 (lotsR q d.2 ds)
section
variable {sd sd':Sd}{d f i:D}{n:Str}{as os:List Str}{xs ys:List Sp1}{x y:Sp1}{e:Ed}{ds:List D}{k W:Nat}{r:Er}
end
section
variable {k W n:Nat}{d x:D}{ds:List D}{s:Str}{ss as os:List Str}{xs:List Sp1}{y:Sp1}{ed:Ed}{sd:Sd}{r:Er}
theorem vo_sum (h:∀ x∈ds,Vo k W x)(hl:ds.length≤n):(ds.map wtD).sum≤n*W:=by
 have:∀ es:List D,(∀ x∈es,wtD x≤W)→(es.map wtD).sum≤es.length*W:=by
  intro es
  induction es with
  | nil=>intro _;simp
  | cons e es ih =>
   intro h
   have h1:=h e List.mem_cons_self
   have h2:=ih fun x hx=>h x (List.mem_cons_of_mem _ hx)
   rw[List.map_cons,List.sum_cons,List.length_cons,Nat.add_mul,Nat.one_mul]
   omega
 exact Nat.le_trans (this ds fun x hx=>(h x hx).wt) (Nat.mul_le_mul_right W hl)
theorem vo_tup (h:∀ x∈ds,Vo k W x)(hl:ds.length≤n)(hn:n≤20000):Vo (k+1) (n*W+n) (.tup ds) :=
 VoL.tup (S:=n*W) (L:=n) ⟨fun x hx=>(h x hx).kn,fun x hx=>(h x hx).sx,vo_sum h hl,hl⟩ hn
theorem vo_str (h:PyData.strOk s=true)(hl:s.cps.size≤16):Vo 0 16 (.str s):=⟨kn_str (show s.cps.size≤1000 by omega),(sx_str h).1,by rw[(sx_str h).2];exact hl⟩
theorem vo_strs (h:∀ s∈ss,PyData.strOk s=true∧s.cps.size≤16)(hl:ss.length≤3):Vo 1 51 (.tup (ss.map D.str)):=by
 refine(vo_tup (k:=0) (W:=16) (n:=3) (fun x hx=>?_) (by rw[List.length_map];exact hl) (by decide)).mono (Nat.le_refl _) (by decide)
 obtain⟨s,hs,rfl⟩:=List.mem_map.mp hx
 exact vo_str (h s hs).1 (h s hs).2
theorem word_ok16 {w:Str}(h:w∈louds++quiets):PyData.strOk w=true∧w.cps.size≤16:=by
 have:∀ w∈louds++quiets,PyData.strOk w=true∧w.cps.size≤16:=by decide +kernel
 exact this w h
theorem vo_step {ss:List Str}(h:StOk false ss y)(hn:∀ s∈ss,PyData.strOk s=true∧s.cps.size≤16):Vo 1 51 (stD y):=by
 have:=vo_strs (ss:=y.1::y.2) (fun s hs=>?_) (by have:=h.len.2;simp;omega)
 ·exact this
 ·rcases List.mem_cons.mp hs with rfl|hs
  ·exact word_ok16 h.word
  ·exact hn s (h.mem s hs)
theorem vo_deed (h:DdOk as os xs):Vo 10 2500 (deedD as xs):=by
 have hn:∀ s∈as++os,PyData.strOk s=true∧s.cps.size≤16:=fun s hs=>(h.nm s hs).2
 have h1:Vo 2 500 (.tup (as.map D.str)):=(vo_strs (fun s hs=>hn s (List.mem_append_left _ hs)) h.a3).mono (by decide) (by decide)
 have h2:Vo 2 500 (.tup (xs.map stD)):=by
  refine(vo_tup (k:=1) (W:=51) (n:=8) (fun x hx=>?_) (by rw[List.length_map];exact h.x8) (by decide)).mono (Nat.le_refl _) (by decide)
  obtain⟨y,hy,rfl⟩:=List.mem_map.mp hx
  exact vo_step (h.st y hy) hn
 refine(vo_tup (k:=2) (W:=500) (n:=2) (fun x hx=>?_) (by simp) (by decide)).mono (by decide) (by decide)
 rcases List.mem_cons.mp hx with rfl|hx
 ·exact h1
 ·rw[List.mem_singleton.mp hx];exact h2
theorem vo_int {i:Int}(h:i.natAbs<10^12):Vo 0 100 (.int i):=by
 refine⟨kn_int i,⟨.int i,rfl,(fit_int h).sh,Nat.le_refl _,?_⟩,?_⟩
 ·have:=PyData.shown_int_le h
  simp only[PyData.leavesShort,decide_eq_true_eq]
  omega
 ·rw[wt_of (d:=.int i) (p:=.int i) rfl]
  simp only[PyData.weight]
  split
  ·exact Nat.zero_le _
  ·rename_i h0
   have h0:i.natAbs≠0:=by
    have:¬i=0:=by simpa using h0
    omega
   have:=(Nat.log2_lt h0 (k:=40)).mpr (Nat.lt_trans h (by decide))
   omega
end
end DL
namespace K11
open PySem PySem.Spec PyProof.Rows L2 DL
noncomputable section
def topS (i:Nat):Stmt:=PySem.Challenge.pw_smallcount_k11_kinds_of_any_value.main.body.getD i (.Pass ⟨0,0,0,0⟩)
abbrev s__law_alike:Stmt:=topS 24
abbrev N__law_alike:List Str:=["_law_found","_law_due"]
theorem sc__law_alike:FnScope N__law_alike ["_law_found","_law_due"] (defScope s__law_alike):=⟨rfl,rfl,rfl,by decide +kernel,rfl,by decide +kernel,by decide +kernel⟩
abbrev s__law_bag:Stmt:=topS 22
abbrev N__law_bag:List Str:=["_law_script","_law_cell"]
theorem sc__law_bag:FnScope N__law_bag ["_law_script"] (defScope s__law_bag):=⟨rfl,rfl,rfl,by decide +kernel,rfl,by decide +kernel,by decide +kernel⟩
abbrev s__law_deep:Stmt:=topS 35
abbrev N__law_deep:List Str:=["_law_found","_law_k"]
theorem sc__law_deep:FnScope N__law_deep [] (defScope s__law_deep):=⟨rfl,rfl,rfl,by decide +kernel,rfl,by decide +kernel,by decide +kernel⟩
abbrev s__law_take:Stmt:=topS 23
abbrev N__law_take:List Str:=["_law_bag_here","_law_many","_law_cell","_law_mixed_here","_law_drawn","_law_early","_law_second"]
theorem sc__law_take:FnScope N__law_take ["_law_bag_here","_law_many"] (defScope s__law_take):=⟨rfl,rfl,rfl,by decide +kernel,rfl,by decide +kernel,by decide +kernel⟩
abbrev s__law_odd_value:Stmt:=topS 42
abbrev N__law_odd_value:List Str:=["_law_bag_here","_law_menu"]
theorem sc__law_odd_value:FnScope N__law_odd_value ["_law_bag_here"] (defScope s__law_odd_value):=⟨rfl,rfl,rfl,by decide +kernel,rfl,by decide +kernel,by decide +kernel⟩
abbrev s__law_word:Stmt:=topS 41
abbrev N__law_word:List Str:=["_law_bag_here","_law_signs","_law_many","_law_k"]
theorem sc__law_word:FnScope N__law_word ["_law_bag_here"] (defScope s__law_word):=⟨rfl,rfl,rfl,by decide +kernel,rfl,by decide +kernel,by decide +kernel⟩
abbrev s__law_bent:Stmt:=topS 43
abbrev N__law_bent:List Str:=["_law_bag_here","_law_thing_here","_law_several","_law_at","_law_way"]
theorem sc__law_bent:FnScope N__law_bent ["_law_bag_here","_law_thing_here"] (defScope s__law_bent):=⟨rfl,rfl,rfl,by decide +kernel,rfl,by decide +kernel,by decide +kernel⟩
abbrev s__law_lower:Stmt:=topS 33
abbrev N__law_lower:List Str:=["_law_thing_here","_law_sign"]
theorem sc__law_lower:FnScope N__law_lower ["_law_thing_here"] (defScope s__law_lower):=⟨rfl,rfl,rfl,by decide +kernel,rfl,by decide +kernel,by decide +kernel⟩
abbrev s__law_are_names:Stmt:=topS 36
abbrev N__law_are_names:List Str:=["_law_thing_here","_law_highest","_law_name"]
theorem sc__law_are_names:FnScope N__law_are_names ["_law_thing_here","_law_highest"] (defScope s__law_are_names):=⟨rfl,rfl,rfl,by decide +kernel,rfl,by decide +kernel,by decide +kernel⟩
abbrev s__law_is_call:Stmt:=topS 39
abbrev N__law_is_call:List Str:=["_law_thing_here"]
theorem sc__law_is_call:FnScope N__law_is_call ["_law_thing_here"] (defScope s__law_is_call):=⟨rfl,rfl,rfl,by decide +kernel,rfl,by decide +kernel,by decide +kernel⟩
abbrev s__law_is_step:Stmt:=topS 37
abbrev N__law_is_step:List Str:=["_law_thing_here","_law_many"]
theorem sc__law_is_step:FnScope N__law_is_step ["_law_thing_here"] (defScope s__law_is_step):=⟨rfl,rfl,rfl,by decide +kernel,rfl,by decide +kernel,by decide +kernel⟩
abbrev s__law_all_names:Stmt:=topS 31
abbrev N__law_all_names:List Str:=["_law_deed_here","_law_found","_law_step_here"]
theorem sc__law_all_names:FnScope N__law_all_names ["_law_deed_here"] (defScope s__law_all_names):=⟨rfl,rfl,rfl,by decide +kernel,rfl,by decide +kernel,by decide +kernel⟩
abbrev s__law_own:Stmt:=topS 32
abbrev N__law_own:List Str:=["_law_deed_here","_law_name"]
theorem sc__law_own:FnScope N__law_own ["_law_deed_here"] (defScope s__law_own):=⟨rfl,rfl,rfl,by decide +kernel,rfl,by decide +kernel,by decide +kernel⟩
abbrev s__law_is_deed:Stmt:=topS 38
abbrev N__law_is_deed:List Str:=["_law_thing_here","_law_step_here"]
theorem sc__law_is_deed:FnScope N__law_is_deed ["_law_thing_here"] (defScope s__law_is_deed):=⟨rfl,rfl,rfl,by decide +kernel,rfl,by decide +kernel,by decide +kernel⟩
abbrev s__law_is_whole:Stmt:=topS 34
abbrev N__law_is_whole:List Str:=["_law_thing_here"]
theorem sc__law_is_whole:FnScope N__law_is_whole ["_law_thing_here"] (defScope s__law_is_whole):=⟨rfl,rfl,rfl,by decide +kernel,rfl,by decide +kernel,by decide +kernel⟩
abbrev s__law_is_line:Stmt:=topS 40
abbrev N__law_is_line:List Str:=["_law_thing_here","_law_one_here"]
theorem sc__law_is_line:FnScope N__law_is_line ["_law_thing_here"] (defScope s__law_is_line):=⟨rfl,rfl,rfl,by decide +kernel,rfl,by decide +kernel,by decide +kernel⟩
abbrev s_is_name:Stmt:=topS 11
abbrev N_is_name:List Str:=["thing","letter"]
theorem sc_is_name:FnScope N_is_name ["thing"] (defScope s_is_name):=⟨rfl,rfl,rfl,by decide +kernel,rfl,by decide +kernel,by decide +kernel⟩
abbrev s_are_names:Stmt:=topS 12
abbrev N_are_names:List Str:=["thing","most","name"]
theorem sc_are_names:FnScope N_are_names ["thing","most"] (defScope s_are_names):=⟨rfl,rfl,rfl,by decide +kernel,rfl,by decide +kernel,by decide +kernel⟩
abbrev s_is_call:Stmt:=topS 15
abbrev N_is_call:List Str:=["thing"]
theorem sc_is_call:FnScope N_is_call ["thing"] (defScope s_is_call):=⟨rfl,rfl,rfl,by decide +kernel,rfl,by decide +kernel,by decide +kernel⟩
abbrev s_is_step:Stmt:=topS 13
abbrev N_is_step:List Str:=["thing"]
theorem sc_is_step:FnScope N_is_step ["thing"] (defScope s_is_step):=⟨rfl,rfl,rfl,by decide +kernel,rfl,by decide +kernel,by decide +kernel⟩
abbrev s_is_deed:Stmt:=topS 14
abbrev N_is_deed:List Str:=["thing","steps","own","step","name"]
theorem sc_is_deed:FnScope N_is_deed ["thing"] (defScope s_is_deed):=⟨rfl,rfl,rfl,by decide +kernel,rfl,by decide +kernel,by decide +kernel⟩
abbrev s_is_integer:Stmt:=topS 10
abbrev N_is_integer:List Str:=["thing"]
theorem sc_is_integer:FnScope N_is_integer ["thing"] (defScope s_is_integer):=⟨rfl,rfl,rfl,by decide +kernel,rfl,by decide +kernel,by decide +kernel⟩
abbrev s_is_line:Stmt:=topS 16
abbrev N_is_line:List Str:=["thing"]
theorem sc_is_line:FnScope N_is_line ["thing"] (defScope s_is_line):=⟨rfl,rfl,rfl,by decide +kernel,rfl,by decide +kernel,by decide +kernel⟩
abbrev s_is_word:Stmt:=topS 17
abbrev N_is_word:List Str:=["thing"]
theorem sc_is_word:FnScope N_is_word ["thing"] (defScope s_is_word):=⟨rfl,rfl,rfl,by decide +kernel,rfl,by decide +kernel,by decide +kernel⟩
abbrev s__law_own_right:Stmt:=topS 45
abbrev N__law_own_right:List Str:=["_law_own_here","_law_thing_here","_law_found"]
theorem sc__law_own_right:FnScope N__law_own_right [] (defScope s__law_own_right):=⟨rfl,rfl,rfl,by decide +kernel,rfl,by decide +kernel,by decide +kernel⟩
abbrev s__law_mixed:Stmt:=topS 25
abbrev N__law_mixed:List Str:=["_law_bag_here","_law_things","_law_left","_law_found"]
theorem sc__law_mixed:FnScope N__law_mixed ["_law_bag_here","_law_things"] (defScope s__law_mixed):=⟨rfl,rfl,rfl,by decide +kernel,rfl,by decide +kernel,by decide +kernel⟩
abbrev s__law_names:Stmt:=topS 27
abbrev N__law_names:List Str:=["_law_bag_here","_law_many","_law_menu","_law_at"]
theorem sc__law_names:FnScope N__law_names ["_law_bag_here","_law_many"] (defScope s__law_names):=⟨rfl,rfl,rfl,by decide +kernel,rfl,by decide +kernel,by decide +kernel⟩
abbrev s__law_one:Stmt:=topS 26
abbrev N__law_one:List Str:=["_law_bag_here","_law_things"]
theorem sc__law_one:FnScope N__law_one ["_law_bag_here","_law_things"] (defScope s__law_one):=⟨rfl,rfl,rfl,by decide +kernel,rfl,by decide +kernel,by decide +kernel⟩
abbrev s__law_step:Stmt:=topS 28
abbrev N__law_step:List Str:=["_law_bag_here","_law_names_here","_law_only_loud","_law_loud","_law_word_here","_law_a","_law_others","_law_name"]
theorem sc__law_step:FnScope N__law_step ["_law_bag_here","_law_names_here","_law_only_loud"] (defScope s__law_step):=⟨rfl,rfl,rfl,by decide +kernel,rfl,by decide +kernel,by decide +kernel⟩
abbrev s__law_deed:Stmt:=topS 29
abbrev N__law_deed:List Str:=["_law_bag_here","_law_only_loud","_law_names_here","_law_args","_law_own_here","_law_many","_law_k"]
theorem sc__law_deed:FnScope N__law_deed ["_law_bag_here","_law_only_loud"] (defScope s__law_deed):=⟨rfl,rfl,rfl,by decide +kernel,rfl,by decide +kernel,by decide +kernel⟩
abbrev s__law_plain_deeds:Stmt:=topS 30
abbrev N__law_plain_deeds:List Str:=["_law_give","_law_same","_law_put","_law_let"]
theorem sc__law_plain_deeds:FnScope N__law_plain_deeds [] (defScope s__law_plain_deeds):=⟨rfl,rfl,rfl,by decide +kernel,rfl,by decide +kernel,by decide +kernel⟩
abbrev s__law_thing:Stmt:=topS 44
abbrev N__law_thing:List Str:=["_law_bag_here","_law_way","_law_names_here","_law_some","_law_deed_here","_law_steps","_law_k"]
theorem sc__law_thing:FnScope N__law_thing ["_law_bag_here"] (defScope s__law_thing):=⟨rfl,rfl,rfl,by decide +kernel,rfl,by decide +kernel,by decide +kernel⟩
abbrev s_law:Stmt:=topS 46
abbrev N_law:List Str:=["_law_script","_law_bag_here","_law_turn","_law_thing_here","_law_again","_law_due","_law_said","_law_found"]
theorem sc_law:FnScope N_law ["_law_script"] (defScope s_law):=⟨rfl,rfl,rfl,by decide +kernel,rfl,by decide +kernel,by decide +kernel⟩
@[irreducible] def g__law_alike:SM :=
  (gRet (eAnd (eOp dEqA (eVar 0) (eVar 1)) (eOp dEqA (eCB dReprA (aCons (eVar 0) aNil)) (eCB dReprA (aCons (eVar 1) aNil)))))
def F__law_alike:List DV→Mem→Res R:=callD g__law_alike 2 0
theorem e__law_alike:F__law_alike=callD gAlikeA 2 0:=by unfold F__law_alike g__law_alike gAlikeA;try rfl
@[irreducible] def g__law_bag:SM :=
  (gRet (eLst (aCons (eD (.int 0)) (aCons (eD (.int 1234567891)) (aCons (eD (.int 0)) (aCons (eLc (imSeq (eSl (eVar 0) oNone (oSome (eD (.int 63))))) (tgName 1) tmYes (eCB (d1 dAbs) (aCons (eVar 1) aNil)) [1]) aNil))))))
def F__law_bag:List DV→Mem→Res R:=callD g__law_bag 1 1
theorem e__law_bag:F__law_bag=callD gBag 1 1:=by unfold F__law_bag g__law_bag gBag;try rfl
@[irreducible] def b__law_deep_1:SM :=
  (gAsg 0 (eLst (aCons (eVar 0) aNil)))
@[irreducible] def g__law_deep:SM :=
  (gSeq (gAsg 0 (eLst aNil))
  (gSeq (gFor [true,false] (imRng (aCons (eD (.int 7)) aNil)) (tgName 1) b__law_deep_1)
  (gRet (eVar 0))))
def F__law_deep:List DV→Mem→Res R:=callD g__law_deep 0 2
theorem w__law_deep {μ:Mem}{Q:R→Mem→Prop}{E:Xc→Mem→Prop}(h:SatS (g__law_deep μ.length [none,none] μ) (endP μ.length Q E)):Sat (F__law_deep [] μ) Q E:=x_call rfl h
@[irreducible] def g__law_take:SM :=
  (gSeq (gIf (tmB (eOp dEq (eOp dIx (eVar 0) (eD (.int 0))) (eD (.int 0)))) (gSeq (gAsg 2 (eD (.int 0)))
  (gSeq (gIf (tmB (eOp dLt (eOp dIx (eVar 0) (eD (.int 2))) (eCB (d1 dLen) (aCons (eOp dIx (eVar 0) (eD (.int 3))) aNil)))) (gAsg 2 (eOp dIx (eOp dIx (eVar 0) (eD (.int 3))) (eOp dIx (eVar 0) (eD (.int 2))))) gNext)
  (gSeq (gAugS (fun i j=>i+j) (eVar 0) (eD (.int 2)) (eD (.int 1)))
  (gSeq (gIf (tmB (eOp dGe (eVar 2) (eD (.int 1000000000000000000)))) (gSet (eVar 0) (eD (.int 0)) (eVar 2)) gNext)
  (gSeq (gAsg 3 (eOp dAdd (eOp dAdd (eOp dMul (eOp dIx (eVar 0) (eD (.int 1))) (eD (.int 48271))) (eOp dMod (eCB (d1 dInt) (aCons (eVar 2) aNil)) (eD (.int 2147483647)))) (eOp dMul (eD (.int 7919)) (eOp dIx (eVar 0) (eD (.int 2))))))
  (gSet (eVar 0) (eD (.int 1)) (eOp dMod (eCB (d1 dInt) (aCons (eVar 3) aNil)) (eD (.int 2147483647))))))))) gNext)
  (gSeq (gIf (tmB (eOp dGt (eOp dIx (eVar 0) (eD (.int 0))) (eD (.int 0)))) (gSeq (gAsg 4 (eOp dMod (eCB (d1 dInt) (aCons (eOp dIx (eVar 0) (eD (.int 0))) aNil)) (eVar 1)))
  (gSeq (gSet (eVar 0) (eD (.int 0)) (eOp dDiv (eCB (d1 dInt) (aCons (eOp dIx (eVar 0) (eD (.int 0))) aNil)) (eVar 1)))
  (gRet (eVar 4)))) gNext)
  (gSeq (gAsg 5 (eOp dMod (eCB (d1 dInt) (aCons (eOp dMul (eOp dAdd (eOp dIx (eVar 0) (eD (.int 1))) (eD (.int 1))) (eD (.int 39373))) aNil)) (eD (.int 1000000007))))
  (gSeq (gAsg 6 (eOp dMod (eCB (d1 dInt) (aCons (eOp dMul (eOp dMod (eCB (d1 dInt) (aCons (eOp dMul (eVar 5) (eVar 5)) aNil)) (eD (.int 998244353))) (eD (.int 30011))) aNil)) (eD (.int 998244353))))
  (gRet (eOp dMod (eCB (d1 dInt) (aCons (eOp dDiv (eVar 6) (eD (.int 7))) aNil)) (eVar 1)))))))
def F__law_take:List DV→Mem→Res R:=callD g__law_take 2 5
theorem e__law_take:F__law_take=callD gTake 2 5:=by unfold F__law_take g__law_take gTake;try rfl
@[irreducible] def g__law_odd_value:SM :=
  (gSeq (gDisp 1 (nCons (eD .non) (nCons (eD (.bl true)) (nCons (eD (.bl false)) (nCons (eD (.int 0)) (nCons (eD (.int 1)) (nCons (eUn dNeg (eD (.int 1))) (nCons (eOp dPow (eD (.int 10)) (eD (.int 39))) (nCons (eD (.str "")) (nCons (eD (.str "a")) (nCons (eD (.str "A")) (nCons (eD (.str "new")) (nCons (eD (.str "share")) (nCons (eD (.str "idle")) (nCons (eD (.str "cut")) (nCons (eD (.str "Cut")) (nCons (eD (.str "a b")) nNil)))))))))))))))))
  (gSeq (gNew 1 (eOp dAdd (eVar 1) (eLst (aCons (eD (.str "ninesigns")) (aCons (eD (.str "a1")) (aCons (eTup aNil) (aCons (eLst aNil) (aCons (eLk eDNew) (aCons (eTup (aCons (eD (.str "new")) (aCons (eD (.str "a")) aNil))) (aCons (eLst (aCons (eD (.str "new")) (aCons (eD (.str "a")) aNil))) (aCons (eTup (aCons (eD (.str "new")) aNil)) (aCons (eTup (aCons (eD (.str "new")) (aCons (eD (.str "a")) (aCons (eD (.str "b")) aNil)))) aNil))))))))))))
  (gSeq (gNew 1 (eOp dAdd (eVar 1) (eLst (aCons (eTup (aCons (eD (.str "share")) (aCons (eD (.str "a")) aNil))) (aCons (eTup (aCons (eD (.str "share")) (aCons (eD (.str "a")) (aCons (eD (.str "a")) aNil)))) (aCons (eTup (aCons (eD (.str "hold")) (aCons (eD (.str "a")) (aCons (eD (.str "b")) aNil)))) (aCons (eTup (aCons (eD (.str "give")) (aCons (eTup (aCons (eD (.str "a")) aNil)) aNil))) (aCons (eTup (aCons (eD (.str "a")) (aCons (eD (.str "b")) aNil))) aNil))))))))
  (gSeq (gNew 1 (eOp dAdd (eVar 1) (eLst (aCons (eTup (aCons (eD (.str "a")) (aCons (eD (.str "a")) aNil))) (aCons (eTup (aCons (eD (.int 0)) (aCons (eD (.int 1)) aNil))) (aCons (eTup (aCons (eD (.int 5)) (aCons (eD (.int 1)) aNil))) (aCons (eTup (aCons (eD (.int 6)) (aCons (eD (.int 1)) aNil))) (aCons (eTup (aCons (eD (.int 0)) (aCons (eD (.int 0)) aNil))) (aCons (eTup (aCons (eD (.bl true)) (aCons (eD (.int 1)) aNil))) (aCons (eTup (aCons (eD (.int 0)) (aCons (eD (.bl true)) aNil))) (aCons (eTup (aCons (eD (.int 0)) (aCons (eOp dPow (eD (.int 10)) (eD (.int 39))) aNil))) (aCons (eTup (aCons (eUn dNeg (eD (.int 1))) (aCons (eD (.int 1)) aNil))) (aCons (eLst (aCons (eD (.int 0)) (aCons (eD (.int 1)) aNil))) aNil)))))))))))))
  (gSeq (gNew 1 (eOp dAdd (eVar 1) (eLst (aCons (eTup (aCons (eTup aNil) (aCons (eTup aNil) aNil))) (aCons (eTup (aCons (eTup (aCons (eD (.str "a")) aNil)) (aCons (eTup aNil) aNil))) (aCons (eTup (aCons (eTup (aCons (eD (.str "a")) aNil)) (aCons (eTup (aCons (eTup (aCons (eD (.str "new")) (aCons (eD (.str "a")) aNil))) aNil)) aNil))) (aCons (eOp dMulX (eLst (aCons (eD .non) aNil)) (eD (.int 1900))) (aCons (eCB F__law_deep aNil) (aCons (eTup (aCons (eD (.str "new")) (aCons (eLst aNil) aNil))) (aCons (eTup (aCons (eLk eDNew) (aCons (eD (.int 1)) aNil))) aNil))))))))))
  (gSeq (gDrop (eBM tyL dAppend (eVar 1) (aCons (eD (.str "a\n")) aNil)))
  (gRet (eOp dIxA (eVar 1) (eCB F__law_take (aCons (eVar 0) (aCons (eD (.int 48)) aNil)))))))))))
def F__law_odd_value:List DV→Mem→Res R:=callD g__law_odd_value 1 1
theorem w__law_odd_value {a0:DV}{μ:Mem}{Q:R→Mem→Prop}{E:Xc→Mem→Prop}(h:SatS (g__law_odd_value μ.length [some a0,none] μ) (endP μ.length Q E)):Sat (F__law_odd_value [a0] μ) Q E:=x_call rfl h
@[irreducible] def g__law_word:SM :=
  (gSeq (gTgt (tgTup 2 (tgCons (tgName 1) (tgCons (tgName 2) tgNil))) (eTup (aCons (eD (.str "abcdefghijklmnopqrstuvwxyzAZ09 _-~!@\x5b`{")) (aCons (eOp dIxA (eLst (aCons (eD (.int 1)) (aCons (eD (.int 7)) (aCons (eD (.int 8)) (aCons (eD (.int 9)) (aCons (eCB F__law_take (aCons (eVar 0) (aCons (eD (.int 12)) aNil))) aNil)))))) (eCB F__law_take (aCons (eVar 0) (aCons (eD (.int 5)) aNil)))) aNil))))
  (gRet (eBM tyS dJoin (eD (.str "")) (aCons (eLc (imRng (aCons (eVar 2) aNil)) (tgName 3) tmYes (eOp dIxS (eVar 1) (eCB F__law_take (aCons (eVar 0) (aCons (eOp dIxA (eLst (aCons (eD (.int 26)) (aCons (eD (.int 26)) (aCons (eD (.int 26)) (aCons (eD (.int 39)) aNil))))) (eCB F__law_take (aCons (eVar 0) (aCons (eD (.int 4)) aNil)))) aNil)))) [3]) aNil))))
def F__law_word:List DV→Mem→Res R:=callD g__law_word 1 3
theorem w__law_word {a0:DV}{μ:Mem}{Q:R→Mem→Prop}{E:Xc→Mem→Prop}(h:SatS (g__law_word μ.length [some a0,none,none,none] μ) (endP μ.length Q E)):Sat (F__law_word [a0] μ) Q E:=x_call rfl h
@[irreducible] def g__law_bent (rc:List DV→Mem→Res R):SM :=
  (gSeq (gIf (tmOr (tmNot (tmB (eUn (dIsi (tabT2 "tuple" "list" [])) (eVar 1)))) (tmOr (tmB (eOp dEqA (eCB dLenA (aCons (eVar 1) aNil)) (eD (.int 0)))) (tmB (eOp dEqA (eCB F__law_take (aCons (eVar 0) (aCons (eD (.int 6)) aNil))) (eD (.int 0)))))) (gRet (eOp dIxA (eLst (aCons (eCB F__law_odd_value (aCons (eVar 0) aNil)) (aCons (eCB F__law_word (aCons (eVar 0) aNil)) aNil))) (eCB F__law_take (aCons (eVar 0) (aCons (eD (.int 2)) aNil))))) gNext)
  (gSeq (gPar3 true false false 2 3 4 (eCB dListA (aCons (eVar 1) aNil)) (eCB F__law_take (aCons (eVar 0) (aCons (eCB dLenA (aCons (eVar 1) aNil)) aNil))) (eCB F__law_take (aCons (eVar 0) (aCons (eD (.int 8)) aNil))))
  (gSeq (gIf (tmB (eOp dEqA (eVar 4) (eD (.int 0)))) (gRet (eVar 2)) gNext)
  (gSeq (gIf (tmB (eOp dEqA (eVar 4) (eD (.int 1)))) (gNew 2 (eOp dAdd (eSl (eVar 2) oNone (oSome (eVar 3))) (eSl (eVar 2) (oSome (eOp dAdd (eVar 3) (eD (.int 1)))) oNone))) (gIf (tmB (eOp dEqA (eVar 4) (eD (.int 2)))) (gNew 2 (eOp dAdd (eOp dAdd (eSl (eVar 2) oNone (oSome (eVar 3))) (eSl (eVar 2) (oSome (eVar 3)) (oSome (eOp dAdd (eVar 3) (eD (.int 1)))))) (eSl (eVar 2) (oSome (eVar 3)) oNone))) (gIf (tmB (eOp dEqA (eVar 4) (eD (.int 3)))) (gNew 2 (eRvB (eVar 2) (eUn dNeg (eD (.int 1))))) (gIf (tmB (eOp dEqA (eVar 4) (eD (.int 4)))) (gDrop (eBM tyL dAppend (eVar 2) (aCons (eCB F__law_odd_value (aCons (eVar 0) aNil)) aNil))) (gSet (eVar 2) (eVar 3) (eCB rc (aCons (eVar 0) (aCons (eOp dIxA (eVar 2) (eVar 3)) aNil))))))))
  (gRet (eIf (tmB (eUn (dIsi (tabT "list" [])) (eVar 1))) (eVar 2) (eCB (d1 dTuple) (aCons (eVar 2) aNil))))))))
def Fr__law_bent:Nat→List DV→Mem→Res R
 | 0=>callD gBad 2 3
 | j+1=>callD (g__law_bent (Fr__law_bent j)) 2 3
def F__law_bent:List DV→Mem→Res R:=Fr__law_bent 40
theorem wr__law_bent {a0 a1:DV}{j:Nat}{μ:Mem}{Q:R→Mem→Prop}{E:Xc→Mem→Prop}(h:SatS (g__law_bent (Fr__law_bent j) μ.length [some a0,some a1,none,none,none] μ) (endP μ.length Q E)):Sat (Fr__law_bent (j+1) [a0,a1] μ) Q E:=x_call rfl h
@[irreducible] def g__law_lower:SM :=
  (gSeq (gIf (tmOr (tmNot (tmB (eUn (dIsi (tabT "str" [])) (eVar 0)))) (tmNot (tmB (eChain dLt dLt (eD (.int 0)) (eCB dLenA (aCons (eVar 0) aNil)) (eD (.int 9)))))) (gRet (eD (.bl false))) gNext)
  (gRet (eOp dEqW (eLc (imStr (eVar 0)) (tgName 1) (tmB (eOp (dInA true) (eVar 1) (eD (.str "abcdefghijklmnopqrstuvwxyz")))) (eVar 1) [1]) (eLst aNil))))
def F__law_lower:List DV→Mem→Res R:=callD g__law_lower 1 1
theorem w__law_lower {a0:DV}{μ:Mem}{Q:R→Mem→Prop}{E:Xc→Mem→Prop}(h:SatS (g__law_lower μ.length [some a0,none] μ) (endP μ.length Q E)):Sat (F__law_lower [a0] μ) Q E:=x_call rfl h
@[irreducible] def g__law_are_names:SM :=
  (gSeq (gIf (tmOr (tmNot (tmB (eUn (dIsi (tabT "tuple" [])) (eVar 0)))) (tmNot (tmB (eChain dLt dLe (eD (.int 0)) (eCB dLenA (aCons (eVar 0) aNil)) (eVar 1))))) (gRet (eD (.bl false))) gNext)
  (gRet (eAnd (eOp dEqW (eLc (imSeq (eVar 0)) (tgName 2) (tmNot (tmB (eCB F__law_lower (aCons (eVar 2) aNil)))) (eVar 2) [2]) (eLst aNil)) (eOp dEqA (eLenSet (eVar 0)) (eCB dLenA (aCons (eVar 0) aNil))))))
def F__law_are_names:List DV→Mem→Res R:=callD g__law_are_names 2 1
theorem w__law_are_names {a0 a1:DV}{μ:Mem}{Q:R→Mem→Prop}{E:Xc→Mem→Prop}(h:SatS (g__law_are_names μ.length [some a0,some a1,none] μ) (endP μ.length Q E)):Sat (F__law_are_names [a0,a1] μ) Q E:=x_call rfl h
@[irreducible] def g__law_is_call:SM :=
  (gRet (eAnd (eUn (dIsi (tabT "tuple" [])) (eVar 0)) (eAnd (eOp dEqA (eCB dLenA (aCons (eVar 0) aNil)) (eD (.int 2))) (eAnd (eCB F__law_lower (aCons (eOp dIxA (eVar 0) (eD (.int 0))) aNil)) (eCB F__law_are_names (aCons (eOp dIxA (eVar 0) (eD (.int 1))) (aCons (eD (.int 3)) aNil)))))))
def F__law_is_call:List DV→Mem→Res R:=callD g__law_is_call 1 0
theorem w__law_is_call {a0:DV}{μ:Mem}{Q:R→Mem→Prop}{E:Xc→Mem→Prop}(h:SatS (g__law_is_call μ.length [some a0] μ) (endP μ.length Q E)):Sat (F__law_is_call [a0] μ) Q E:=x_call rfl h
@[irreducible] def g__law_is_step:SM :=
  (gSeq (gIf (tmOr (tmNot (tmB (eUn (dIsi (tabT "tuple" [])) (eVar 0)))) (tmOr (tmB (eOp dLt (eCB dLenA (aCons (eVar 0) aNil)) (eD (.int 2)))) (tmNot (tmB (eUn (dIsi (tabT "str" [])) (eOp dIxA (eVar 0) (eD (.int 0)))))))) (gRet (eD (.bl false))) gNext)
  (gSeq (gAsg 1 (eDGet2 (eLk (eDisK (psCons (eD (.str "share")) (eD (.int 2)) (psCons (eD (.str "hold")) (eD (.int 2)) (psCons (eD (.str "new")) (eD (.int 1)) (psCons (eD (.str "end")) (eD (.int 1)) (psCons (eD (.str "leave")) (eD (.int 1)) (psCons (eD (.str "more")) (eD (.int 1)) (psCons (eD (.str "less")) (eD (.int 1)) (psCons (eD (.str "write")) (eD (.int 1)) psNil)))))))))) (eOp dIxA (eVar 0) (eD (.int 0))) (eD (.int 0))))
  (gRet (eAnd (eOp dEqA (eCB dLenA (aCons (eVar 0) aNil)) (eOp dAdd (eVar 1) (eD (.int 1)))) (eCB F__law_are_names (aCons (eSl (eVar 0) (oSome (eD (.int 1))) oNone) (aCons (eD (.int 2)) aNil)))))))
def F__law_is_step:List DV→Mem→Res R:=callD g__law_is_step 1 1
theorem w__law_is_step {a0:DV}{μ:Mem}{Q:R→Mem→Prop}{E:Xc→Mem→Prop}(h:SatS (g__law_is_step μ.length [some a0,none] μ) (endP μ.length Q E)):Sat (F__law_is_step [a0] μ) Q E:=x_call rfl h
@[irreducible] def b__law_all_names_1:SM :=
  (gDrop (eBM tyL dExtend (eVar 1) (aCons (eSl (eVar 2) (oSome (eD (.int 1))) oNone) aNil)))
@[irreducible] def g__law_all_names:SM :=
  (gSeq (gNew 1 (eCB dListA (aCons (eOp dIxA (eVar 0) (eD (.int 0))) aNil)))
  (gSeq (gFor [true,true,false] (imSeq (eOp dIxA (eVar 0) (eD (.int 1)))) (tgName 2) b__law_all_names_1)
  (gRet (eSortSet (eVar 1)))))
def F__law_all_names:List DV→Mem→Res R:=callD g__law_all_names 1 2
theorem w__law_all_names {a0:DV}{μ:Mem}{Q:R→Mem→Prop}{E:Xc→Mem→Prop}(h:SatS (g__law_all_names μ.length [some a0,none,none] μ) (endP μ.length Q E)):Sat (F__law_all_names [a0] μ) Q E:=x_call rfl h
@[irreducible] def g__law_own:SM :=
  (gRet (eLc (imSeq (eCB F__law_all_names (aCons (eVar 0) aNil))) (tgName 1) (tmB (eOp (dInA true) (eVar 1) (eOp dIxA (eVar 0) (eD (.int 0))))) (eVar 1) [1]))
def F__law_own:List DV→Mem→Res R:=callD g__law_own 1 1
theorem w__law_own {a0:DV}{μ:Mem}{Q:R→Mem→Prop}{E:Xc→Mem→Prop}(h:SatS (g__law_own μ.length [some a0,none] μ) (endP μ.length Q E)):Sat (F__law_own [a0] μ) Q E:=x_call rfl h
@[irreducible] def g__law_is_deed:SM :=
  (gSeq (gIf (tmOr (tmNot (tmB (eUn (dIsi (tabT "tuple" [])) (eVar 0)))) (tmOr (tmB (eOp dNe (eCB dLenA (aCons (eVar 0) aNil)) (eD (.int 2)))) (tmNot (tmB (eCB F__law_are_names (aCons (eOp dIxA (eVar 0) (eD (.int 0))) (aCons (eD (.int 3)) aNil))))))) (gRet (eD (.bl false))) gNext)
  (gSeq (gIf (tmOr (tmNot (tmB (eUn (dIsi (tabT "tuple" [])) (eOp dIxA (eVar 0) (eD (.int 1)))))) (tmNot (tmB (eChain dLt dLt (eD (.int 0)) (eCB dLenA (aCons (eOp dIxA (eVar 0) (eD (.int 1))) aNil)) (eD (.int 9)))))) (gRet (eD (.bl false))) gNext)
  (gRet (eAnd (eOp dEqW (eLc (imSeq (eOp dIxA (eVar 0) (eD (.int 1)))) (tgName 1) (tmNot (tmB (eCB F__law_is_step (aCons (eVar 1) aNil)))) (eVar 1) [1]) (eLst aNil)) (eOp dLt (eCB dLenA (aCons (eCB F__law_own (aCons (eVar 0) aNil)) aNil)) (eD (.int 3)))))))
def F__law_is_deed:List DV→Mem→Res R:=callD g__law_is_deed 1 1
theorem w__law_is_deed {a0:DV}{μ:Mem}{Q:R→Mem→Prop}{E:Xc→Mem→Prop}(h:SatS (g__law_is_deed μ.length [some a0,none] μ) (endP μ.length Q E)):Sat (F__law_is_deed [a0] μ) Q E:=x_call rfl h
@[irreducible] def g__law_is_whole:SM :=
  (gRet (eAnd (eUn (dIsi (tabT "int" [])) (eVar 0)) (eNot (eUn (dIsi (tabT "bool" [])) (eVar 0)))))
def F__law_is_whole:List DV→Mem→Res R:=callD g__law_is_whole 1 0
theorem w__law_is_whole {a0:DV}{μ:Mem}{Q:R→Mem→Prop}{E:Xc→Mem→Prop}(h:SatS (g__law_is_whole μ.length [some a0] μ) (endP μ.length Q E)):Sat (F__law_is_whole [a0] μ) Q E:=x_call rfl h
@[irreducible] def g__law_is_line:SM :=
  (gSeq (gIf (tmOr (tmNot (tmB (eUn (dIsi (tabT "tuple" [])) (eVar 0)))) (tmOr (tmB (eOp dNe (eCB dLenA (aCons (eVar 0) aNil)) (eD (.int 2)))) (tmB (eOp dNeW (eLc (imSeq (eVar 0)) (tgName 1) (tmNot (tmB (eCB F__law_is_whole (aCons (eVar 1) aNil)))) (eVar 1) [1]) (eLst aNil))))) (gRet (eD (.bl false))) gNext)
  (gRet (eAnd (eChain dLe dLt (eD (.int 0)) (eOp dIxA (eVar 0) (eD (.int 0))) (eD (.int 6))) (eOp dGt (eOp dIxA (eVar 0) (eD (.int 1))) (eD (.int 0))))))
def F__law_is_line:List DV→Mem→Res R:=callD g__law_is_line 1 1
theorem w__law_is_line {a0:DV}{μ:Mem}{Q:R→Mem→Prop}{E:Xc→Mem→Prop}(h:SatS (g__law_is_line μ.length [some a0,none] μ) (endP μ.length Q E)):Sat (F__law_is_line [a0] μ) Q E:=x_call rfl h
@[irreducible] def g_is_name:SM :=
  (gSeq (gIf (tmOr (tmNot (tmB (eUn (dIsi (tabTE "str" ["Wrong"])) (eVar 0)))) (tmNot (tmB (eChain dLe dLe (eD (.int 1)) (eCB dLenA (aCons (eVar 0) aNil)) (eD (.int 8)))))) (gRet (eD (.bl false))) gNext)
  (gRet (eCB (d1 (dAll fun bs=>bs.all id)) (aCons (eLc (imStr (eVar 0)) (tgName 1) tmYes (eOp (dInA false) (eVar 1) (eD (.str "abcdefghijklmnopqrstuvwxyz"))) [1]) aNil))))
def F_is_name:List DV→Mem→Res R:=callD g_is_name 1 1
theorem w_is_name {a0:DV}{μ:Mem}{Q:R→Mem→Prop}{E:Xc→Mem→Prop}(h:SatS (g_is_name μ.length [some a0,none] μ) (endP μ.length Q E)):Sat (F_is_name [a0] μ) Q E:=x_call rfl h
@[irreducible] def g_are_names:SM :=
  (gSeq (gIf (tmOr (tmNot (tmB (eUn (dIsi (tabTE "tuple" ["Wrong"])) (eVar 0)))) (tmNot (tmB (eChain dLe dLe (eD (.int 1)) (eCB dLenA (aCons (eVar 0) aNil)) (eVar 1))))) (gRet (eD (.bl false))) gNext)
  (gRet (eAnd (eCB (d1 (dAll fun bs=>bs.all id)) (aCons (eLc (imSeq (eVar 0)) (tgName 2) tmYes (eCB F_is_name (aCons (eVar 2) aNil)) [2]) aNil)) (eOp dEqA (eLenSet (eVar 0)) (eCB dLenA (aCons (eVar 0) aNil))))))
def F_are_names:List DV→Mem→Res R:=callD g_are_names 2 1
theorem w_are_names {a0 a1:DV}{μ:Mem}{Q:R→Mem→Prop}{E:Xc→Mem→Prop}(h:SatS (g_are_names μ.length [some a0,some a1,none] μ) (endP μ.length Q E)):Sat (F_are_names [a0,a1] μ) Q E:=x_call rfl h
@[irreducible] def g_is_call:SM :=
  (gRet (eAnd (eUn (dIsi (tabTE "tuple" ["Wrong"])) (eVar 0)) (eAnd (eOp dEqA (eCB dLenA (aCons (eVar 0) aNil)) (eD (.int 2))) (eAnd (eCB F_is_name (aCons (eOp dIxA (eVar 0) (eD (.int 0))) aNil)) (eCB F_are_names (aCons (eOp dIxA (eVar 0) (eD (.int 1))) (aCons (eD (.int 3)) aNil)))))))
def F_is_call:List DV→Mem→Res R:=callD g_is_call 1 0
theorem w_is_call {a0:DV}{μ:Mem}{Q:R→Mem→Prop}{E:Xc→Mem→Prop}(h:SatS (g_is_call μ.length [some a0] μ) (endP μ.length Q E)):Sat (F_is_call [a0] μ) Q E:=x_call rfl h
@[irreducible] def g_is_step:SM :=
  (gSeq (gIf (tmOr (tmNot (tmB (eUn (dIsi (tabTE "tuple" ["Wrong"])) (eVar 0)))) (tmOr (tmB (eOp dLt (eCB dLenA (aCons (eVar 0) aNil)) (eD (.int 2)))) (tmNot (tmB (eUn (dIsi (tabTE "str" ["Wrong"])) (eOp dIxA (eVar 0) (eD (.int 0)))))))) (gRet (eD (.bl false))) gNext)
  (gSeq (gIf (tmB (eOp (dInA false) (eOp dIxA (eVar 0) (eD (.int 0))) (eD (.tup ((["new","end","leave","more","less","write"]:List Str).map D.str))))) (gRet (eAnd (eOp dEqA (eCB dLenA (aCons (eVar 0) aNil)) (eD (.int 2))) (eCB F_is_name (aCons (eOp dIxA (eVar 0) (eD (.int 1))) aNil)))) gNext)
  (gRet (eAnd (eOp (dInA false) (eOp dIxA (eVar 0) (eD (.int 0))) (eD (.tup ((["share","hold"]:List Str).map D.str)))) (eAnd (eOp dEqA (eCB dLenA (aCons (eVar 0) aNil)) (eD (.int 3))) (eCB F_are_names (aCons (eSl (eVar 0) (oSome (eD (.int 1))) oNone) (aCons (eD (.int 2)) aNil))))))))
def F_is_step:List DV→Mem→Res R:=callD g_is_step 1 0
theorem w_is_step {a0:DV}{μ:Mem}{Q:R→Mem→Prop}{E:Xc→Mem→Prop}(h:SatS (g_is_step μ.length [some a0] μ) (endP μ.length Q E)):Sat (F_is_step [a0] μ) Q E:=x_call rfl h
@[irreducible] def b_is_deed_1:SM :=
  (gIf (tmB (eOp (dInA true) (eVar 4) (eOp dIxA (eVar 0) (eD (.int 0))))) (gDPut (eVar 2) (eVar 4) (eD (.bl true))) gNext)
@[irreducible] def b_is_deed_2:SM :=
  (gFor [true,true,true,true,false] (imSeq (eSl (eVar 3) (oSome (eD (.int 1))) oNone)) (tgName 4) b_is_deed_1)
@[irreducible] def g_is_deed:SM :=
  (gSeq (gIf (tmOr (tmNot (tmB (eUn (dIsi (tabTE "tuple" ["Wrong"])) (eVar 0)))) (tmOr (tmB (eOp dNe (eCB dLenA (aCons (eVar 0) aNil)) (eD (.int 2)))) (tmNot (tmB (eCB F_are_names (aCons (eOp dIxA (eVar 0) (eD (.int 0))) (aCons (eD (.int 3)) aNil))))))) (gRet (eD (.bl false))) gNext)
  (gSeq (gAsg 1 (eOp dIxA (eVar 0) (eD (.int 1))))
  (gSeq (gIf (tmOr (tmNot (tmB (eUn (dIsi (tabTE "tuple" ["Wrong"])) (eVar 1)))) (tmOr (tmNot (tmB (eChain dLe dLe (eD (.int 1)) (eCB dLenA (aCons (eVar 1) aNil)) (eD (.int 8))))) (tmNot (tmB (eCB (d1 (dAll fun bs=>bs.all id)) (aCons (eLc (imSeq (eVar 1)) (tgName 3) tmYes (eCB F_is_step (aCons (eVar 3) aNil)) [3]) aNil)))))) (gRet (eD (.bl false))) gNext)
  (gSeq (gNew 2 eDNew)
  (gSeq (gFor [true,true,true,false,false] (imSeq (eVar 1)) (tgName 3) b_is_deed_2)
  (gRet (eOp dLe (eCB dLenA (aCons (eVar 2) aNil)) (eD (.int 2)))))))))
def F_is_deed:List DV→Mem→Res R:=callD g_is_deed 1 4
theorem w_is_deed {a0:DV}{μ:Mem}{Q:R→Mem→Prop}{E:Xc→Mem→Prop}(h:SatS (g_is_deed μ.length [some a0,none,none,none,none] μ) (endP μ.length Q E)):Sat (F_is_deed [a0] μ) Q E:=x_call rfl h
@[irreducible] def g_is_integer:SM :=
  (gRet (eAnd (eUn (dIsi (tabTE "int" ["Wrong"])) (eVar 0)) (eNot (eUn (dIsi (tabTE "bool" ["Wrong"])) (eVar 0)))))
def F_is_integer:List DV→Mem→Res R:=callD g_is_integer 1 0
theorem w_is_integer {a0:DV}{μ:Mem}{Q:R→Mem→Prop}{E:Xc→Mem→Prop}(h:SatS (g_is_integer μ.length [some a0] μ) (endP μ.length Q E)):Sat (F_is_integer [a0] μ) Q E:=x_call rfl h
@[irreducible] def g_is_line:SM :=
  (gSeq (gIf (tmOr (tmNot (tmB (eUn (dIsi (tabTE "tuple" ["Wrong"])) (eVar 0)))) (tmOr (tmB (eOp dNe (eCB dLenA (aCons (eVar 0) aNil)) (eD (.int 2)))) (tmOr (tmNot (tmB (eCB F_is_integer (aCons (eOp dIxA (eVar 0) (eD (.int 0))) aNil)))) (tmNot (tmB (eCB F_is_integer (aCons (eOp dIxA (eVar 0) (eD (.int 1))) aNil))))))) (gRet (eD (.bl false))) gNext)
  (gRet (eAnd (eChain dLe dLt (eD (.int 0)) (eOp dIxA (eVar 0) (eD (.int 0))) (eD (.int 6))) (eOp dGe (eOp dIxA (eVar 0) (eD (.int 1))) (eD (.int 1))))))
def F_is_line:List DV→Mem→Res R:=callD g_is_line 1 0
theorem w_is_line {a0:DV}{μ:Mem}{Q:R→Mem→Prop}{E:Xc→Mem→Prop}(h:SatS (g_is_line μ.length [some a0] μ) (endP μ.length Q E)):Sat (F_is_line [a0] μ) Q E:=x_call rfl h
@[irreducible] def g_is_word:SM :=
  (gRet (eAnd (eUn (dIsi (tabTE "str" ["Wrong"])) (eVar 0)) (eOp (dInA false) (eVar 0) (eD (.tup ((["spoils","idle","cut","lost"]:List Str).map D.str))))))
def F_is_word:List DV→Mem→Res R:=callD g_is_word 1 0
theorem w_is_word {a0:DV}{μ:Mem}{Q:R→Mem→Prop}{E:Xc→Mem→Prop}(h:SatS (g_is_word μ.length [some a0] μ) (endP μ.length Q E)):Sat (F_is_word [a0] μ) Q E:=x_call rfl h
@[irreducible] def b__law_own_right_1:SM :=
  (gSeq (gAsg 2 (eLst (aCons (eCB F_is_integer (aCons (eVar 1) aNil)) (aCons (eCB F_is_name (aCons (eVar 1) aNil)) (aCons (eCB F_is_step (aCons (eVar 1) aNil)) (aCons (eCB F_is_deed (aCons (eVar 1) aNil)) (aCons (eCB F_is_call (aCons (eVar 1) aNil)) aNil)))))))
  (gIf (tmNot (tmB (eCB F__law_alike (aCons (eOp dAdd (eVar 2) (eLst (aCons (eCB F_is_line (aCons (eVar 1) aNil)) (aCons (eCB F_is_word (aCons (eVar 1) aNil)) aNil)))) (aCons (eOp dMulX (eLst (aCons (eD (.bl false)) aNil)) (eD (.int 7))) aNil))))) (gRet (eD (.bl false))) gNext))
@[irreducible] def g__law_own_right:SM :=
  (gSeq (gAsg 0 (eErr "Wrong" (eD (.int 0))))
  (gSeq (gFor [true,false,false] (imSeq (eTup (aCons (eVar 0) (aCons (eLst (aCons (eVar 0) aNil)) (aCons (eTup (aCons (eVar 0) (aCons (eVar 0) aNil))) (aCons (eTup (aCons (eD (.str "new")) (aCons (eVar 0) aNil))) (aCons (eTup (aCons (eTup (aCons (eD (.str "a")) aNil)) (aCons (eTup (aCons (eVar 0) aNil)) aNil))) (aCons (eTup (aCons (eD (.str "go")) (aCons (eTup (aCons (eVar 0) aNil)) aNil))) aNil)))))))) (tgName 1) b__law_own_right_1)
  (gRet (eD (.bl true)))))
def F__law_own_right:List DV→Mem→Res R:=callD g__law_own_right 0 3
theorem w__law_own_right {μ:Mem}{Q:R→Mem→Prop}{E:Xc→Mem→Prop}(h:SatS (g__law_own_right μ.length [none,none,none] μ) (endP μ.length Q E)):Sat (F__law_own_right [] μ) Q E:=x_call rfl h
@[irreducible] def b__law_mixed_1:SM :=
  (gDrop (eBM tyL dAppend (eVar 3) (aCons (eBM tyL dPop (eVar 2) (aCons (eCB F__law_take (aCons (eVar 0) (aCons (eCB (d1 dLen) (aCons (eVar 2) aNil)) aNil))) aNil)) aNil)))
@[irreducible] def g__law_mixed:SM :=
  (gSeq (gPar2 2 3 (eCB (d1 dList) (aCons (eVar 1) aNil)) (eLst aNil))
  (gSeq (gWh 100000 [true,true,true,true] (tmB (eOp dNe (eVar 2) (eLst aNil))) b__law_mixed_1)
  (gRet (eVar 3))))
def F__law_mixed:List DV→Mem→Res R:=callD g__law_mixed 2 2
theorem e__law_mixed:F__law_mixed=callD gMixed 2 2:=by unfold F__law_mixed g__law_mixed gMixed b__law_mixed_1;rw[e__law_take];try rfl
@[irreducible] def g__law_names:SM :=
  (gSeq (gAsg 2 (eBM tyS dSplit (eD (.str "a ab end l more new share write x zzzzzzzz")) (aCons (eD (.str " ")) aNil)))
  (gSeq (gAsg 3 (eCB F__law_take (aCons (eVar 0) (aCons (eD (.int 10)) aNil))))
  (gRet (eCB F__law_mixed (aCons (eVar 0) (aCons (eSl (eOp dAdd (eVar 2) (eVar 2)) (oSome (eVar 3)) (oSome (eOp dAdd (eVar 3) (eVar 1)))) aNil))))))
def F__law_names:List DV→Mem→Res R:=callD g__law_names 2 2
theorem w__law_names {a0 a1:DV}{μ:Mem}{Q:R→Mem→Prop}{E:Xc→Mem→Prop}(h:SatS (g__law_names μ.length [some a0,some a1,none,none] μ) (endP μ.length Q E)):Sat (F__law_names [a0,a1] μ) Q E:=x_call rfl h
@[irreducible] def g__law_one:SM :=
  (gRet (eOp dIx (eVar 1) (eCB F__law_take (aCons (eVar 0) (aCons (eCB (d1 dLen) (aCons (eVar 1) aNil)) aNil)))))
def F__law_one:List DV→Mem→Res R:=callD g__law_one 2 0
theorem e__law_one:F__law_one=callD gOne 2 0:=by unfold F__law_one g__law_one gOne;rw[e__law_take];try rfl
@[irreducible] def g__law_step:SM :=
  (gSeq (gAsg 3 (eLst (aCons (eD (.str "new")) (aCons (eD (.str "share")) (aCons (eD (.str "share")) (aCons (eD (.str "end")) (aCons (eD (.str "write")) (aCons (eD (.str "write")) aNil))))))))
  (gSeq (gAsg 4 (eCB F__law_one (aCons (eVar 0) (aCons (eIf (tmB (eVar 2)) (eVar 3) (eOp dAdd (eVar 3) (eLst (aCons (eD (.str "hold")) (aCons (eD (.str "leave")) (aCons (eD (.str "more")) (aCons (eD (.str "less")) aNil))))))) aNil))))
  (gSeq (gAsg 5 (eCB F__law_one (aCons (eVar 0) (aCons (eVar 1) aNil))))
  (gSeq (gIf (tmB (eOp (dInA true) (eVar 4) (eTup (aCons (eD (.str "share")) (aCons (eD (.str "hold")) aNil))))) (gRet (eTup (aCons (eVar 4) (aCons (eVar 5) aNil)))) gNext)
  (gSeq (gAsg 6 (eLc (imSeq (eVar 1)) (tgName 7) (tmB (eOp dNe (eVar 7) (eVar 5))) (eVar 7) [7]))
  (gRet (eIf (tmB (eOp dNe (eVar 6) (eLst aNil))) (eTup (aCons (eVar 4) (aCons (eVar 5) (aCons (eCB F__law_one (aCons (eVar 0) (aCons (eVar 6) aNil))) aNil)))) (eTup (aCons (eD (.str "end")) (aCons (eVar 5) aNil))))))))))
def F__law_step:List DV→Mem→Res R:=callD g__law_step 3 5
theorem w__law_step {a0 a1 a2:DV}{μ:Mem}{Q:R→Mem→Prop}{E:Xc→Mem→Prop}(h:SatS (g__law_step μ.length [some a0,some a1,some a2,none,none,none,none,none] μ) (endP μ.length Q E)):Sat (F__law_step [a0,a1,a2] μ) Q E:=x_call rfl h
@[irreducible] def g__law_deed:SM :=
  (gSeq (gAsg 2 (eCB F__law_names (aCons (eVar 0) (aCons (eD (.int 5)) aNil))))
  (gSeq (gTgt (tgTup 2 (tgCons (tgName 3) (tgCons (tgName 4) tgNil))) (eTup (aCons (eSl (eVar 2) oNone (oSome (eOp dAdd (eD (.int 1)) (eCB F__law_take (aCons (eVar 0) (aCons (eD (.int 3)) aNil)))))) (aCons (eSl (eVar 2) (oSome (eD (.int 3))) (oSome (eOp dAdd (eD (.int 3)) (eOp dIxA (eLst (aCons (eD (.int 0)) (aCons (eD (.int 0)) (aCons (eD (.int 1)) (aCons (eD (.int 2)) aNil))))) (eCB F__law_take (aCons (eVar 0) (aCons (eD (.int 4)) aNil))))))) aNil))))
  (gSeq (gAsg 5 (eOp dIxA (eLst (aCons (eD (.int 1)) (aCons (eD (.int 1)) (aCons (eD (.int 2)) (aCons (eD (.int 3)) (aCons (eD (.int 4)) (aCons (eD (.int 8)) aNil))))))) (eCB F__law_take (aCons (eVar 0) (aCons (eD (.int 6)) aNil)))))
  (gRet (eTup (aCons (eCB (d1 dTuple) (aCons (eVar 3) aNil)) (aCons (eCB (d1 dTuple) (aCons (eLc (imRng (aCons (eVar 5) aNil)) (tgName 6) tmYes (eCB F__law_step (aCons (eVar 0) (aCons (eOp dAdd (eVar 3) (eVar 4)) (aCons (eVar 1) aNil)))) [6]) aNil)) aNil)))))))
def F__law_deed:List DV→Mem→Res R:=callD g__law_deed 2 5
theorem w__law_deed {a0 a1:DV}{μ:Mem}{Q:R→Mem→Prop}{E:Xc→Mem→Prop}(h:SatS (g__law_deed μ.length [some a0,some a1,none,none,none,none,none] μ) (endP μ.length Q E)):Sat (F__law_deed [a0,a1] μ) Q E:=x_call rfl h
@[irreducible] def g__law_plain_deeds:SM :=
  (gSeq (gTgt (tgTup 2 (tgCons (tgName 0) (tgCons (tgName 1) tgNil))) (eTup (aCons (eTup (aCons (eTup (aCons (eD (.str "a")) aNil)) (aCons (eTup (aCons (eTup (aCons (eD (.str "new")) (aCons (eD (.str "a")) aNil))) aNil)) aNil))) (aCons (eTup (aCons (eTup (aCons (eD (.str "a")) (aCons (eD (.str "b")) aNil))) (aCons (eTup (aCons (eTup (aCons (eD (.str "share")) (aCons (eD (.str "a")) (aCons (eD (.str "b")) aNil)))) aNil)) aNil))) aNil))))
  (gSeq (gTgt (tgTup 2 (tgCons (tgName 2) (tgCons (tgName 3) tgNil))) (eTup (aCons (eTup (aCons (eTup (aCons (eD (.str "a")) aNil)) (aCons (eTup (aCons (eTup (aCons (eD (.str "write")) (aCons (eD (.str "a")) aNil))) aNil)) aNil))) (aCons (eTup (aCons (eTup (aCons (eD (.str "a")) aNil)) (aCons (eTup (aCons (eTup (aCons (eD (.str "end")) (aCons (eD (.str "a")) aNil))) aNil)) aNil))) aNil))))
  (gRet (eDisK (psCons (eD (.str "give")) (eVar 0) (psCons (eD (.str "let")) (eVar 3) (psCons (eD (.str "put")) (eVar 2) (psCons (eD (.str "same")) (eVar 1) psNil))))))))
def F__law_plain_deeds:List DV→Mem→Res R:=callD g__law_plain_deeds 0 4
theorem w__law_plain_deeds {μ:Mem}{Q:R→Mem→Prop}{E:Xc→Mem→Prop}(h:SatS (g__law_plain_deeds μ.length [none,none,none,none] μ) (endP μ.length Q E)):Sat (F__law_plain_deeds [] μ) Q E:=x_call rfl h
@[irreducible] def g__law_thing:SM :=
  (gSeq (gPar 1 2 (aCons (eCB F__law_take (aCons (eVar 0) (aCons (eD (.int 9)) aNil))) (aCons (eCB F__law_names (aCons (eVar 0) (aCons (eD (.int 3)) aNil))) aNil)))
  (gSeq (gIf (tmB (eOp dEqA (eVar 1) (eD (.int 0)))) (gRet (eCB F__law_word (aCons (eVar 0) aNil))) gNext)
  (gSeq (gIf (tmB (eOp dEqA (eVar 1) (eD (.int 1)))) (gSeq (gAsg 3 (eLst (aCons (eLk (eDisK (psCons (eD (.str "a")) (eTup (aCons (eD (.str "new")) (aCons (eD (.str "a")) aNil))) psNil))) (aCons (eLk (eCB F__law_plain_deeds aNil)) (aCons (eCB F__law_odd_value (aCons (eVar 0) aNil)) aNil)))))
  (gRet (eOp dIxA (eVar 3) (eCB (d2 (dMM (fun i j=>if j<i then j else i))) (aCons (eD (.int 2)) (aCons (eCB F__law_take (aCons (eVar 0) (aCons (eD (.int 9)) aNil))) aNil)))))) gNext)
  (gSeq (gIf (tmB (eOp dEqA (eVar 1) (eD (.int 2)))) (gRet (eOp dIxA (eLst (aCons (eD (.str "spoils")) (aCons (eD (.str "idle")) (aCons (eD (.str "cut")) (aCons (eD (.str "lost")) (aCons (eD (.str "spoil")) (aCons (eD (.str "Lost")) aNil))))))) (eCB F__law_take (aCons (eVar 0) (aCons (eD (.int 6)) aNil))))) gNext)
  (gSeq (gIf (tmB (eOp dLt (eVar 1) (eD (.int 5)))) (gRet (eCB F__law_step (aCons (eVar 0) (aCons (eVar 2) (aCons (eD (.bl false)) aNil))))) gNext)
  (gSeq (gIf (tmB (eOp dEqA (eVar 1) (eD (.int 5)))) (gRet (eTup (aCons (eOp dIxA (eVar 2) (eD (.int 0))) (aCons (eCB (d1 dTuple) (aCons (eSl (eVar 2) oNone (oSome (eOp dAdd (eD (.int 1)) (eCB F__law_take (aCons (eVar 0) (aCons (eD (.int 3)) aNil)))))) aNil)) aNil)))) gNext)
  (gSeq (gIf (tmB (eOp dEqA (eVar 1) (eD (.int 6)))) (gRet (eTup (aCons (eOp dSub (eCB F__law_take (aCons (eVar 0) (aCons (eD (.int 8)) aNil))) (eD (.int 1))) (aCons (eCB F__law_take (aCons (eVar 0) (aCons (eD (.int 4)) aNil))) aNil)))) gNext)
  (gSeq (gAsg 4 (eCB F__law_deed (aCons (eVar 0) (aCons (eD (.bl false)) aNil))))
  (gSeq (gIf (tmB (eOp dEqA (eVar 1) (eD (.int 7)))) (gSeq (gAsg 5 (eCB (d1 dTuple) (aCons (eLc (imRng (aCons (eOp dAdd (eD (.int 1)) (eCB F__law_take (aCons (eVar 0) (aCons (eD (.int 10)) aNil)))) aNil)) (tgName 6) tmYes (eCB F__law_step (aCons (eVar 0) (aCons (eCB F__law_names (aCons (eVar 0) (aCons (eD (.int 3)) aNil))) (aCons (eD (.bl false)) aNil)))) [6]) aNil)))
  (gRet (eTup (aCons (eCB (d1 dTuple) (aCons (eCB F__law_names (aCons (eVar 0) (aCons (eOp dAdd (eD (.int 1)) (eCB F__law_take (aCons (eVar 0) (aCons (eD (.int 4)) aNil)))) aNil))) aNil)) (aCons (eVar 5) aNil))))) gNext)
  (gRet (eVar 4)))))))))))
def F__law_thing:List DV→Mem→Res R:=callD g__law_thing 1 6
theorem w__law_thing {a0:DV}{μ:Mem}{Q:R→Mem→Prop}{E:Xc→Mem→Prop}(h:SatS (g__law_thing μ.length [some a0,none,none,none,none,none,none] μ) (endP μ.length Q E)):Sat (F__law_thing [a0] μ) Q E:=x_call rfl h
@[irreducible] def b_law_1:SM :=
  (gAsg 3 (eCB F__law_bent (aCons (eVar 1) (aCons (eVar 3) aNil))))
@[irreducible] def b_law_2:SM :=
  (gSeq (gAsg 7 (eLst (aCons (eCB F_is_integer (aCons (eVar 3) aNil)) (aCons (eCB F_is_name (aCons (eVar 3) aNil)) (aCons (eCB F_is_step (aCons (eVar 3) aNil)) (aCons (eCB F_is_deed (aCons (eVar 3) aNil)) (aCons (eCB F_is_call (aCons (eVar 3) aNil)) aNil)))))))
  (gIf (tmOr (tmNot (tmB (eCB F__law_alike (aCons (eOp dAdd (eVar 7) (eLst (aCons (eCB F_is_line (aCons (eVar 3) aNil)) (aCons (eCB F_is_word (aCons (eVar 3) aNil)) aNil)))) (aCons (eVar 5) aNil))))) (tmB (eOp dNe (eCB dReprA (aCons (eVar 3) aNil)) (eVar 6)))) (gRet (eD (.bl false))) gNext))
@[irreducible] def b_law_3:SM :=
  (gSeq (gAsg 3 (eCB F__law_thing (aCons (eVar 1) aNil)))
  (gSeq (gFor [true,true,true,true,false,false,false,false] (imRng (aCons (eOp dIxA (eLst (aCons (eD (.int 0)) (aCons (eD (.int 0)) (aCons (eD (.int 1)) (aCons (eD (.int 3)) aNil))))) (eCB F__law_take (aCons (eVar 1) (aCons (eD (.int 4)) aNil)))) aNil)) (tgName 4) b_law_1)
  (gSeq (gAsg 5 (eLst (aCons (eCB F__law_is_whole (aCons (eVar 3) aNil)) (aCons (eCB F__law_lower (aCons (eVar 3) aNil)) (aCons (eCB F__law_is_step (aCons (eVar 3) aNil)) (aCons (eCB F__law_is_deed (aCons (eVar 3) aNil)) (aCons (eCB F__law_is_call (aCons (eVar 3) aNil)) aNil)))))))
  (gSeq (gAsg 5 (eOp dAdd (eVar 5) (eLst (aCons (eCB F__law_is_line (aCons (eVar 3) aNil)) (aCons (eAnd (eUn (dIsi (tabT "str" [])) (eVar 3)) (eOp (dInA false) (eVar 3) (eLst (aCons (eD (.str "spoils")) (aCons (eD (.str "idle")) (aCons (eD (.str "cut")) (aCons (eD (.str "lost")) aNil))))))) aNil)))))
  (gSeq (gAsg 6 (eCB dReprA (aCons (eVar 3) aNil)))
  (gFor [true,true,true,true,false,true,true,false] (imRng (aCons (eD (.int 2)) aNil)) (tgName 4) b_law_2))))))
@[irreducible] def g_law:SM :=
  (gSeq (gNew 1 (eCB F__law_bag (aCons (eVar 0) aNil)))
  (gSeq (gIf (tmNot (tmB (eCB F__law_own_right aNil))) (gRet (eD (.bl false))) gNext)
  (gSeq (gFor [true,true,false,false,false,false,false,false] (imRng (aCons (eD (.int 40)) aNil)) (tgName 2) b_law_3)
  (gRet (eD (.bl true))))))
def F_law:List DV→Mem→Res R:=callD g_law 1 7
theorem w_law {a0:DV}{μ:Mem}{Q:R→Mem→Prop}{E:Xc→Mem→Prop}(h:SatS (g_law μ.length [some a0,none,none,none,none,none,none,none] μ) (endP μ.length Q E)):Sat (F_law [a0] μ) Q E:=x_call rfl h
structure Tx (P:Program)(w:World)(K:PySem.W.Frag)(mg:Str→Option Value)(c_ONE_NAME:Addr)(c_TWO_NAMES:Addr)(c_WORDS:Addr)(c_Wrong:Addr)(i_Wrong:Addr):Prop where
 m_abs:mg "abs"=none
 m_all:mg "all"=none
 m_bool:mg "bool"=none
 m_int:mg "int"=none
 m_isinstance:mg "isinstance"=none
 m_len:mg "len"=none
 m_list:mg "list"=none
 m_min:mg "min"=none
 m_range:mg "range"=none
 m_repr:mg "repr"=none
 m_set:mg "set"=none
 m_sorted:mg "sorted"=none
 m_str:mg "str"=none
 m_tuple:mg "tuple"=none
 g_LETTERS:∃ t,mg "LETTERS"=some (.str "abcdefghijklmnopqrstuvwxyz" t)
 g_MOST_ARGUMENTS:∃ t,mg "MOST_ARGUMENTS"=some (.int 3 t)
 g_MOST_LETTERS:∃ t,mg "MOST_LETTERS"=some (.int 8 t)
 g_MOST_MARKS:∃ t,mg "MOST_MARKS"=some (.int 6 t)
 g_MOST_OWN:∃ t,mg "MOST_OWN"=some (.int 2 t)
 g_MOST_STEPS:∃ t,mg "MOST_STEPS"=some (.int 8 t)
 g_ONE_NAME:mg "ONE_NAME"=some (.ref c_ONE_NAME)
 r_ONE_NAME:∀ G,Rp K G (.ref c_ONE_NAME) (.tup ((["new","end","leave","more","less","write"]:List Str).map D.str))
 g_TWO_NAMES:mg "TWO_NAMES"=some (.ref c_TWO_NAMES)
 r_TWO_NAMES:∀ G,Rp K G (.ref c_TWO_NAMES) (.tup ((["share","hold"]:List Str).map D.str))
 g_WORDS:mg "WORDS"=some (.ref c_WORDS)
 r_WORDS:∀ G,Rp K G (.ref c_WORDS) (.tup ((["spoils","idle","cut","lost"]:List Str).map D.str))
 g_Wrong:mg "Wrong"=some (.ref c_Wrong)
 k_Wrong:ClsAt K "Wrong" c_Wrong
 er_Wrong:DX.ErrTxt P K mg "Wrong" "place" c_Wrong i_Wrong
 iT_bool:TabOk K (tabT "bool" []) fun t b=>PySem.W.kitOne K t (.type "bool")=some b
 iT_int:TabOk K (tabT "int" []) fun t b=>PySem.W.kitOne K t (.type "int")=some b
 iT_list:TabOk K (tabT "list" []) fun t b=>PySem.W.kitOne K t (.type "list")=some b
 iT_str:TabOk K (tabT "str" []) fun t b=>PySem.W.kitOne K t (.type "str")=some b
 iT_tuple:TabOk K (tabT "tuple" []) fun t b=>PySem.W.kitOne K t (.type "tuple")=some b
 iT2_tuple_list:TabOk K (tabT2 "tuple" "list" []) fun t b=>PySem.W.kitAny K t [.type "tuple",.type "list"]=some b
 iTE_bool:TabOk K (tabTE "bool" ["Wrong"]) fun t b=>PySem.W.kitOne K t (.type "bool")=some b
 iTE_int:TabOk K (tabTE "int" ["Wrong"]) fun t b=>PySem.W.kitOne K t (.type "int")=some b
 iTE_str:TabOk K (tabTE "str" ["Wrong"]) fun t b=>PySem.W.kitOne K t (.type "str")=some b
 iTE_tuple:TabOk K (tabTE "tuple" ["Wrong"]) fun t b=>PySem.W.kitOne K t (.type "tuple")=some b
section
variable {P:Program}{w:World}{K:PySem.W.Frag}{mg:Str→Option Value}{base:Heap}{c_ONE_NAME c_TWO_NAMES c_WORDS c_Wrong i_Wrong:Addr}
set_option maxHeartbeats 4000000 in
theorem ok__law_alike {f:Addr} {fd:FuncData} (F:Fun K "_law_alike" "_law_alike" s__law_alike f fd) (hm:mg "_law_alike"=some (.ref f)) (T:Tx P w K mg c_ONE_NAME c_TWO_NAMES c_WORDS c_Wrong i_Wrong) :FnD P w K mg base CX0 1 "_law_alike" 2 F__law_alike:=by
 refine fn_ok F sc__law_alike hm rfl rfl (fun _ _ _ _ _ _ us hl=>match us,hl with | [_,_],_=>rfl) fun cdv A out s H E hr hgd=>?_
 have nd:=(sc__law_alike).nd
 unfold g__law_alike
 exact Exists.intro _ (ss_one (sm_ret (pm_and (pm_cmpK (op_eqA K hr.units) (od_eqA (K:=K)) (pm_var 0) (pm_var 1) (nomark _)) (pm_one (pm_cmpK (op_eqA K hr.units) (od_eqA (K:=K)) (pm_cbK (cr_reprA K hr hgd) (cd_reprA (K:=K)) (by rfl) T.m_repr (by decide +kernel) (pma_cons (pm_var 0) pma_nil)) (pm_cbK (cr_reprA K hr hgd) (cd_reprA (K:=K)) (by rfl) T.m_repr (by decide +kernel) (pma_cons (pm_var 1) pma_nil)) (nomark _))))))
set_option maxHeartbeats 4000000 in
theorem ok__law_bag {f:Addr} {fd:FuncData} (F:Fun K "_law_bag" "_law_bag" s__law_bag f fd) (hm:mg "_law_bag"=some (.ref f)) (T:Tx P w K mg c_ONE_NAME c_TWO_NAMES c_WORDS c_Wrong i_Wrong) :FnD P w K mg base CX0 1 "_law_bag" 1 F__law_bag:=by
 refine fn_ok F sc__law_bag hm rfl rfl (fun _ _ _ _ _ _ us hl=>match us,hl with | [_],_=>rfl) fun cdv A out s H E hr hgd=>?_
 have nd:=(sc__law_bag).nd
 unfold g__law_bag
 exact Exists.intro _ (ss_one (sm_ret (pm_lst (pma_cons pm_int (pma_cons pm_int (pma_cons pm_int (pma_cons (pm_lc (own:=[("_law_cell",1)]) rfl nd (mi_seqK K (pm_slK K (pm_var 0) mo_none (mo_some pm_int))) (blkOk_by (N:=N__law_bag) (sc:=defScope s__law_bag) (by decide +kernel)) (fun _ _ _ _ _=>(pg_nm 1 nd)) (by decide) (fun _ _ _ _ _=>ts_nil) (fun _ _ _ _ _=>(pm_cbK call_abs (cd_abs (K:=K)) (by rfl) T.m_abs (by decide +kernel) (pma_cons (pm_var 1) pma_nil)))) pma_nil)))))))
set_option maxHeartbeats 4000000 in
theorem ok__law_deep {f:Addr} {fd:FuncData} (F:Fun K "_law_deep" "_law_deep" s__law_deep f fd) (hm:mg "_law_deep"=some (.ref f)) (T:Tx P w K mg c_ONE_NAME c_TWO_NAMES c_WORDS c_Wrong i_Wrong) :FnD P w K mg base CX0 1 "_law_deep" 0 F__law_deep:=by
 refine fn_ok F sc__law_deep hm rfl rfl (fun _ _ _ _ _ _ us hl=>match us,hl with | [],_=>rfl) fun cdv A out s H E hr hgd=>?_
 have nd:=(sc__law_deep).nd
 unfold g__law_deep b__law_deep_1
 exact Exists.intro _ (ss_cons (sm_asg 0 nd (pm_lst pma_nil))
   (ss_cons (sm_for [true,false] PassesOwn.never rfl (mi_rng1 rfl T.m_range (pma_cons pm_int pma_nil)) (pg_nm 1 nd) (ss_one (sm_asg 0 nd (pm_lst (pma_cons (pm_var 0) pma_nil)))))
   (ss_one (sm_ret (pm_var 0)))))
set_option maxHeartbeats 4000000 in
theorem ok__law_take {f:Addr} {fd:FuncData} (F:Fun K "_law_take" "_law_take" s__law_take f fd) (hm:mg "_law_take"=some (.ref f)) (T:Tx P w K mg c_ONE_NAME c_TWO_NAMES c_WORDS c_Wrong i_Wrong) :FnD P w K mg base CX0 1 "_law_take" 2 F__law_take:=by
 refine fn_ok F sc__law_take hm rfl rfl (fun _ _ _ _ _ _ us hl=>match us,hl with | [_,_],_=>rfl) fun cdv A out s H E hr hgd=>?_
 have nd:=(sc__law_take).nd
 unfold g__law_take
 exact Exists.intro _ (ss_cons (sm_if (pt_cmpK (op_eqK K hr.units) (od_eq (K:=K)) (pm_idxK K (pm_var 0) pm_int (fun _ _=>rfl)) pm_int (nomark _)) (ss_cons (sm_asg 2 nd pm_int)
   (ss_cons (sm_if (pt_cmpK op_lt (od_lt (K:=K)) (pm_idxK K (pm_var 0) pm_int (fun _ _=>rfl)) (pm_cbK (call_lenK K) (cd_len (K:=K)) (by rfl) T.m_len PySem.boot_len (pma_cons (pm_idxK K (pm_var 0) pm_int (fun _ _=>rfl)) pma_nil)) (nomark _)) (ss_one (sm_asg 2 nd (pm_idxK K (pm_idxK K (pm_var 0) pm_int (fun _ _=>rfl)) (pm_idxK K (pm_var 0) pm_int (fun _ _=>rfl)) (fun _ _=>rfl)))) ss_nil)
   (ss_cons (sm_augSK K (pm_var 0) pm_int pm_int)
   (ss_cons (sm_if (pt_cmpK op_ge (od_ge (K:=K)) (pm_var 2) pm_int (nomark _)) (ss_one (sm_set (pm_var 0) pm_int (pm_var 2))) ss_nil)
   (ss_cons (sm_asg 3 nd (pm_addK K (pm_addK K (pm_mul (pm_idxK K (pm_var 0) pm_int (fun _ _=>rfl)) pm_int) (pm_mod (pm_ctK call_int1 (cd_int (K:=K)) (by rfl) T.m_int (by decide +kernel) (pma_cons (pm_var 2) pma_nil)) pm_int)) (pm_mul pm_int (pm_idxK K (pm_var 0) pm_int (fun _ _=>rfl)))))
   (ss_one (sm_set (pm_var 0) pm_int (pm_mod (pm_ctK call_int1 (cd_int (K:=K)) (by rfl) T.m_int (by decide +kernel) (pma_cons (pm_var 3) pma_nil)) pm_int)))))))) ss_nil)
   (ss_cons (sm_if (pt_cmpK op_gt (od_gt (K:=K)) (pm_idxK K (pm_var 0) pm_int (fun _ _=>rfl)) pm_int (nomark _)) (ss_cons (sm_asg 4 nd (pm_mod (pm_ctK call_int1 (cd_int (K:=K)) (by rfl) T.m_int (by decide +kernel) (pma_cons (pm_idxK K (pm_var 0) pm_int (fun _ _=>rfl)) pma_nil)) (pm_var 1)))
   (ss_cons (sm_set (pm_var 0) pm_int (pm_div (pm_ctK call_int1 (cd_int (K:=K)) (by rfl) T.m_int (by decide +kernel) (pma_cons (pm_idxK K (pm_var 0) pm_int (fun _ _=>rfl)) pma_nil)) (pm_var 1)))
   (ss_one (sm_ret (pm_var 4))))) ss_nil)
   (ss_cons (sm_asg 5 nd (pm_mod (pm_ctK call_int1 (cd_int (K:=K)) (by rfl) T.m_int (by decide +kernel) (pma_cons (pm_mul (pm_addK K (pm_idxK K (pm_var 0) pm_int (fun _ _=>rfl)) pm_int) pm_int) pma_nil)) pm_int))
   (ss_cons (sm_asg 6 nd (pm_mod (pm_ctK call_int1 (cd_int (K:=K)) (by rfl) T.m_int (by decide +kernel) (pma_cons (pm_mul (pm_mod (pm_ctK call_int1 (cd_int (K:=K)) (by rfl) T.m_int (by decide +kernel) (pma_cons (pm_mul (pm_var 5) (pm_var 5)) pma_nil)) pm_int) pm_int) pma_nil)) pm_int))
   (ss_one (sm_ret (pm_mod (pm_ctK call_int1 (cd_int (K:=K)) (by rfl) T.m_int (by decide +kernel) (pma_cons (pm_div (pm_var 6) pm_int) pma_nil)) (pm_var 1))))))))
set_option maxHeartbeats 4000000 in
theorem ok__law_odd_value {f:Addr} {fd:FuncData} (F:Fun K "_law_odd_value" "_law_odd_value" s__law_odd_value f fd) (hm:mg "_law_odd_value"=some (.ref f)) (T:Tx P w K mg c_ONE_NAME c_TWO_NAMES c_WORDS c_Wrong i_Wrong) (C__law_deep:FnD P w K mg base CX0 1 "_law_deep" 0 F__law_deep) (C__law_take:FnD P w K mg base CX0 1 "_law_take" 2 F__law_take):FnD P w K mg base CX0 2 "_law_odd_value" 1 F__law_odd_value:=by
 refine fn_ok F sc__law_odd_value hm rfl rfl (fun _ _ _ _ _ _ us hl=>match us,hl with | [_],_=>rfl) fun cdv A out s H E hr hgd=>?_
 have nd:=(sc__law_odd_value).nd
 unfold g__law_odd_value
 exact Exists.intro _ (ss_cons (sm_disp 1 nd (n_cons pm_non (n_cons pm_bl (n_cons pm_bl (n_cons pm_int (n_cons pm_int (n_cons (pm_neg pm_int) (n_cons (pm_op op_pow (od_pow (K:=K)) pm_int pm_int) (n_cons pm_str (n_cons pm_str (n_cons pm_str (n_cons pm_str (n_cons pm_str (n_cons pm_str (n_cons pm_str (n_cons pm_str (n_cons pm_str n_nil)))))))))))))))))
   (ss_cons (sm_new 1 nd (pm_addK K (pm_var 1) (pm_lst (pma_cons pm_str (pma_cons pm_str (pma_cons (pm_tup pma_nil) (pma_cons (pm_lst pma_nil) (pma_cons (pm_lk pm_dnew) (pma_cons (pm_tup (pma_cons pm_str (pma_cons pm_str pma_nil))) (pma_cons (pm_lst (pma_cons pm_str (pma_cons pm_str pma_nil))) (pma_cons (pm_tup (pma_cons pm_str pma_nil)) (pma_cons (pm_tup (pma_cons pm_str (pma_cons pm_str (pma_cons pm_str pma_nil)))) pma_nil))))))))))))
   (ss_cons (sm_new 1 nd (pm_addK K (pm_var 1) (pm_lst (pma_cons (pm_tup (pma_cons pm_str (pma_cons pm_str pma_nil))) (pma_cons (pm_tup (pma_cons pm_str (pma_cons pm_str (pma_cons pm_str pma_nil)))) (pma_cons (pm_tup (pma_cons pm_str (pma_cons pm_str (pma_cons pm_str pma_nil)))) (pma_cons (pm_tup (pma_cons pm_str (pma_cons (pm_tup (pma_cons pm_str pma_nil)) pma_nil))) (pma_cons (pm_tup (pma_cons pm_str (pma_cons pm_str pma_nil))) pma_nil))))))))
   (ss_cons (sm_new 1 nd (pm_addK K (pm_var 1) (pm_lst (pma_cons (pm_tup (pma_cons pm_str (pma_cons pm_str pma_nil))) (pma_cons (pm_tup (pma_cons pm_int (pma_cons pm_int pma_nil))) (pma_cons (pm_tup (pma_cons pm_int (pma_cons pm_int pma_nil))) (pma_cons (pm_tup (pma_cons pm_int (pma_cons pm_int pma_nil))) (pma_cons (pm_tup (pma_cons pm_int (pma_cons pm_int pma_nil))) (pma_cons (pm_tup (pma_cons pm_bl (pma_cons pm_int pma_nil))) (pma_cons (pm_tup (pma_cons pm_int (pma_cons pm_bl pma_nil))) (pma_cons (pm_tup (pma_cons pm_int (pma_cons (pm_op op_pow (od_pow (K:=K)) pm_int pm_int) pma_nil))) (pma_cons (pm_tup (pma_cons (pm_neg pm_int) (pma_cons pm_int pma_nil))) (pma_cons (pm_lst (pma_cons pm_int (pma_cons pm_int pma_nil))) pma_nil)))))))))))))
   (ss_cons (sm_new 1 nd (pm_addK K (pm_var 1) (pm_lst (pma_cons (pm_tup (pma_cons (pm_tup pma_nil) (pma_cons (pm_tup pma_nil) pma_nil))) (pma_cons (pm_tup (pma_cons (pm_tup (pma_cons pm_str pma_nil)) (pma_cons (pm_tup pma_nil) pma_nil))) (pma_cons (pm_tup (pma_cons (pm_tup (pma_cons pm_str pma_nil)) (pma_cons (pm_tup (pma_cons (pm_tup (pma_cons pm_str (pma_cons pm_str pma_nil))) pma_nil)) pma_nil))) (pma_cons (pm_mulX (pm_lst (pma_cons pm_non pma_nil)) pm_int) (pma_cons (pm_call0 C__law_deep (hr.mono (by decide)) hgd rfl pass_0) (pma_cons (pm_tup (pma_cons pm_str (pma_cons (pm_lst pma_nil) pma_nil))) (pma_cons (pm_tup (pma_cons (pm_lk pm_dnew) (pma_cons pm_int pma_nil))) pma_nil))))))))))
   (ss_cons (sm_expr (pm_bmK K PySem.F.plainAttrs_list PySem.F.slot_list_append PySem.F.type_list_append mt_append td_list md_append (pm_var 1) (pma_cons pm_str pma_nil)))
   (ss_one (sm_ret (pm_idxA K hr.units (pm_var 1) (pm_callK C__law_take (hr.mono (by decide)) hgd rfl pass_0 (pma_cons (pm_var 0) (pma_cons pm_int pma_nil))) (fun _ _=>rfl))))))))))
set_option maxHeartbeats 4000000 in
theorem ok__law_word {f:Addr} {fd:FuncData} (F:Fun K "_law_word" "_law_word" s__law_word f fd) (hm:mg "_law_word"=some (.ref f)) (T:Tx P w K mg c_ONE_NAME c_TWO_NAMES c_WORDS c_Wrong i_Wrong) (C__law_take:FnD P w K mg base CX0 1 "_law_take" 2 F__law_take):FnD P w K mg base CX0 2 "_law_word" 1 F__law_word:=by
 refine fn_ok F sc__law_word hm rfl rfl (fun _ _ _ _ _ _ us hl=>match us,hl with | [_],_=>rfl) fun cdv A out s H E hr hgd=>?_
 have nd:=(sc__law_word).nd
 unfold g__law_word
 exact Exists.intro _ (ss_cons (sm_tgt (pg_tpK K rfl (gs_cons (pg_nm 1 nd) (gs_cons (pg_nm 2 nd) gs_nil))) (pm_tup (pma_cons pm_str (pma_cons (pm_idxA K hr.units (pm_lst (pma_cons pm_int (pma_cons pm_int (pma_cons pm_int (pma_cons pm_int (pma_cons (pm_callK C__law_take (hr.mono (by decide)) hgd rfl pass_0 (pma_cons (pm_var 0) (pma_cons pm_int pma_nil))) pma_nil)))))) (pm_callK C__law_take (hr.mono (by decide)) hgd rfl pass_0 (pma_cons (pm_var 0) (pma_cons pm_int pma_nil))) (fun _ _=>rfl)) pma_nil))))
   (ss_one (sm_ret (pm_bmK K PySem.F.plainAttrs_str PySem.F.slot_str_join PySem.F.type_str_join (mt_joinK K) td_str md_join pm_str (pma_cons (pm_lc (own:=[("_law_k",3)]) rfl nd (mi_rng1 rfl T.m_range (pma_cons (pm_var 2) pma_nil)) (blkOk_by (N:=N__law_word) (sc:=defScope s__law_word) (by decide +kernel)) (fun _ _ _ _ _=>(pg_nm 3 nd)) (by decide) (fun _ _ _ _ _=>ts_nil) (fun _ _ _ _ _=>(pm_ixS (pm_var 1) (pm_callK C__law_take (hr.mono (by decide)) hgd rfl pass_0 (pma_cons (pm_var 0) (pma_cons (pm_idxA K hr.units (pm_lst (pma_cons pm_int (pma_cons pm_int (pma_cons pm_int (pma_cons pm_int pma_nil))))) (pm_callK C__law_take (hr.mono (by decide)) hgd rfl pass_0 (pma_cons (pm_var 0) (pma_cons pm_int pma_nil))) (fun _ _=>rfl)) pma_nil))) (fun _ _=>rfl)))) pma_nil)))))
set_option maxHeartbeats 4000000 in
theorem ok__law_bent {f:Addr} {fd:FuncData} (F:Fun K "_law_bent" "_law_bent" s__law_bent f fd) (hm:mg "_law_bent"=some (.ref f)) (T:Tx P w K mg c_ONE_NAME c_TWO_NAMES c_WORDS c_Wrong i_Wrong) (C__law_odd_value:FnD P w K mg base CX0 2 "_law_odd_value" 1 F__law_odd_value) (C__law_take:FnD P w K mg base CX0 1 "_law_take" 2 F__law_take) (C__law_word:FnD P w K mg base CX0 2 "_law_word" 1 F__law_word):FnD P w K mg base CX0 43 "_law_bent" 2 F__law_bent:=by
 have key:∀ j,FnD P w K mg base CX0 (3+j) "_law_bent" 2 (Fr__law_bent j):=by
  intro j
  induction j with
  | zero=>exact fn_none (k:=2) F sc__law_bent hm rfl rfl (fun _ _ _ _ _ _ us hl=>match us,hl with | [_,_],_=>rfl)
  | succ j C_self =>
   show FnD P w K mg base CX0 (3+j+1) "_law_bent" 2 (callD (g__law_bent (Fr__law_bent j)) 2 3)
   refine fn_ok F sc__law_bent hm rfl rfl (fun _ _ _ _ _ _ us hl=>match us,hl with | [_,_],_=>rfl) fun cdv A out s H E hr hgd=>?_
   have nd:=(sc__law_bent).nd
   unfold g__law_bent
   exact Exists.intro _ (ss_cons (sm_if (PMW.t (w_or (pt_no (pt_of (pm_isi2 K rfl T.m_isinstance (.ty "tuple") (.ty "list") T.iT2_tuple_list (pm_var 1) (pe_tyN rfl T.m_tuple (by decide +kernel)) (pe_tyN rfl T.m_list (by decide +kernel))))) (w_or (pt_cmpK (op_eqA K hr.units) (od_eqA (K:=K)) (pm_cbK (call_lenA K) (cd_lenA (K:=K)) (by rfl) T.m_len PySem.boot_len (pma_cons (pm_var 1) pma_nil)) pm_int (nomark _)) (w_or1 (pt_cmpK (op_eqA K hr.units) (od_eqA (K:=K)) (pm_callK C__law_take (hr.mono (by omega)) hgd rfl pass_0 (pma_cons (pm_var 0) (pma_cons pm_int pma_nil))) pm_int (nomark _)))))) (ss_one (sm_ret (pm_idxA K hr.units (pm_lst (pma_cons (pm_callK C__law_odd_value (hr.mono (by omega)) hgd rfl pass_0 (pma_cons (pm_var 0) pma_nil)) (pma_cons (pm_callK C__law_word (hr.mono (by omega)) hgd rfl pass_0 (pma_cons (pm_var 0) pma_nil)) pma_nil))) (pm_callK C__law_take (hr.mono (by omega)) hgd rfl pass_0 (pma_cons (pm_var 0) (pma_cons pm_int pma_nil))) (fun _ _=>rfl)))) ss_nil)
   (ss_cons (sm_par3 true false false 2 3 4 rfl nd (pm_ctK (call_listA K rfl) (cd_listA (K:=K)) (by rfl) T.m_list (by decide +kernel) (pma_cons (pm_var 1) pma_nil)) (pm_callK C__law_take (hr.mono (by omega)) hgd rfl pass_0 (pma_cons (pm_var 0) (pma_cons (pm_cbK (call_lenA K) (cd_lenA (K:=K)) (by rfl) T.m_len PySem.boot_len (pma_cons (pm_var 1) pma_nil)) pma_nil))) (pm_callK C__law_take (hr.mono (by omega)) hgd rfl pass_0 (pma_cons (pm_var 0) (pma_cons pm_int pma_nil))))
   (ss_cons (sm_if (pt_cmpK (op_eqA K hr.units) (od_eqA (K:=K)) (pm_var 4) pm_int (nomark _)) (ss_one (sm_ret (pm_var 2))) ss_nil)
   (ss_cons (sm_if (pt_cmpK (op_eqA K hr.units) (od_eqA (K:=K)) (pm_var 4) pm_int (nomark _)) (ss_one (sm_new 2 nd (pm_addK K (pm_slK K (pm_var 2) mo_none (mo_some (pm_var 3))) (pm_slK K (pm_var 2) (mo_some (pm_addK K (pm_var 3) pm_int)) mo_none)))) (ss_one (sm_if (pt_cmpK (op_eqA K hr.units) (od_eqA (K:=K)) (pm_var 4) pm_int (nomark _)) (ss_one (sm_new 2 nd (pm_addK K (pm_addK K (pm_slK K (pm_var 2) mo_none (mo_some (pm_var 3))) (pm_slK K (pm_var 2) (mo_some (pm_var 3)) (mo_some (pm_addK K (pm_var 3) pm_int)))) (pm_slK K (pm_var 2) (mo_some (pm_var 3)) mo_none)))) (ss_one (sm_if (pt_cmpK (op_eqA K hr.units) (od_eqA (K:=K)) (pm_var 4) pm_int (nomark _)) (ss_one (sm_new 2 nd (pm_revB K (pm_var 2) (pm_neg pm_int)))) (ss_one (sm_if (pt_cmpK (op_eqA K hr.units) (od_eqA (K:=K)) (pm_var 4) pm_int (nomark _)) (ss_one (sm_expr (pm_bmK K PySem.F.plainAttrs_list PySem.F.slot_list_append PySem.F.type_list_append mt_append td_list md_append (pm_var 2) (pma_cons (pm_callK C__law_odd_value (hr.mono (by omega)) hgd rfl pass_0 (pma_cons (pm_var 0) pma_nil)) pma_nil)))) (ss_one (sm_set (pm_var 2) (pm_var 3) (pm_callK C_self (hr.mono (by omega)) hgd rfl pass_0 (pma_cons (pm_var 0) (pma_cons (pm_idxA K hr.units (pm_var 2) (pm_var 3) (fun _ _=>rfl)) pma_nil))))))))))))
   (ss_one (sm_ret (pm_if (pt_of (pm_isi K rfl T.m_isinstance (.ty "list") T.iT_list (pm_var 1) (pe_tyN rfl T.m_list (by decide +kernel)))) (pm_var 2) (pm_ctK (call_tuple_ofK K) (cd_tuple (K:=K)) (by rfl) T.m_tuple (by decide +kernel) (pma_cons (pm_var 2) pma_nil)))))))))
 exact key 40
set_option maxHeartbeats 4000000 in
theorem ok__law_lower {f:Addr} {fd:FuncData} (F:Fun K "_law_lower" "_law_lower" s__law_lower f fd) (hm:mg "_law_lower"=some (.ref f)) (T:Tx P w K mg c_ONE_NAME c_TWO_NAMES c_WORDS c_Wrong i_Wrong) :FnD P w K mg base CX0 1 "_law_lower" 1 F__law_lower:=by
 refine fn_ok F sc__law_lower hm rfl rfl (fun _ _ _ _ _ _ us hl=>match us,hl with | [_],_=>rfl) fun cdv A out s H E hr hgd=>?_
 have nd:=(sc__law_lower).nd
 unfold g__law_lower
 exact Exists.intro _ (ss_cons (sm_if (PMW.t (w_or (pt_no (pt_of (pm_isi K rfl T.m_isinstance (.ty "str") T.iT_str (pm_var 0) (pe_tyN rfl T.m_str (by decide +kernel))))) (w_or1 (pt_no (pt_chain op_lt (od_lt (K:=K)) op_lt (od_lt (K:=K)) pm_int (pm_cbK (call_lenA K) (cd_lenA (K:=K)) (by rfl) T.m_len PySem.boot_len (pma_cons (pm_var 0) pma_nil)) pm_int))))) (ss_one (sm_ret pm_bl)) ss_nil)
   (ss_one (sm_ret (pm_cmpK (op_eqW K hr.units) (od_eqW (K:=K)) (pm_lc (own:=[("_law_sign",1)]) rfl nd (pi_strM (pm_var 0)) (blkOk_by (N:=N__law_lower) (sc:=defScope s__law_lower) (by decide +kernel)) (fun _ _ _ _ _=>(pg_nm 1 nd)) (by decide) (fun _ _ _ _ _=>(ts_one (pt_cmpK (op_ninA K hr.units) (od_inA (K:=K) true) (pm_var 1) pm_str (by rfl)))) (fun _ _ _ _ _=>(pm_var 1))) (pm_lst pma_nil) (nomark _)))))
set_option maxHeartbeats 4000000 in
theorem ok__law_are_names {f:Addr} {fd:FuncData} (F:Fun K "_law_are_names" "_law_are_names" s__law_are_names f fd) (hm:mg "_law_are_names"=some (.ref f)) (T:Tx P w K mg c_ONE_NAME c_TWO_NAMES c_WORDS c_Wrong i_Wrong) (C__law_lower:FnD P w K mg base CX0 1 "_law_lower" 1 F__law_lower):FnD P w K mg base CX0 2 "_law_are_names" 2 F__law_are_names:=by
 refine fn_ok F sc__law_are_names hm rfl rfl (fun _ _ _ _ _ _ us hl=>match us,hl with | [_,_],_=>rfl) fun cdv A out s H E hr hgd=>?_
 have nd:=(sc__law_are_names).nd
 unfold g__law_are_names
 exact Exists.intro _ (ss_cons (sm_if (PMW.t (w_or (pt_no (pt_of (pm_isi K rfl T.m_isinstance (.ty "tuple") T.iT_tuple (pm_var 0) (pe_tyN rfl T.m_tuple (by decide +kernel))))) (w_or1 (pt_no (pt_chain op_lt (od_lt (K:=K)) op_le (od_le (K:=K)) pm_int (pm_cbK (call_lenA K) (cd_lenA (K:=K)) (by rfl) T.m_len PySem.boot_len (pma_cons (pm_var 0) pma_nil)) (pm_var 1)))))) (ss_one (sm_ret pm_bl)) ss_nil)
   (ss_one (sm_ret (pm_and (pm_cmpK (op_eqW K hr.units) (od_eqW (K:=K)) (pm_lc (own:=[("_law_name",2)]) rfl nd (mi_seqK K (pm_var 0)) (blkOk_by (N:=N__law_are_names) (sc:=defScope s__law_are_names) (by decide +kernel)) (fun _ _ _ _ _=>(pg_nm 2 nd)) (by decide) (fun _ _ _ _ _=>(ts_one (pt_no (pt_of (pm_callK C__law_lower (hr.mono (by decide)) hgd rfl pass_0 (pma_cons (pm_var 2) pma_nil)))))) (fun _ _ _ _ _=>(pm_var 2))) (pm_lst pma_nil) (nomark _)) (pm_one (pm_cmpK (op_eqA K hr.units) (od_eqA (K:=K)) (pm_lenset K w rfl rfl T.m_len rfl T.m_set (pm_var 0)) (pm_cbK (call_lenA K) (cd_lenA (K:=K)) (by rfl) T.m_len PySem.boot_len (pma_cons (pm_var 0) pma_nil)) (nomark _)))))))
set_option maxHeartbeats 4000000 in
theorem ok__law_is_call {f:Addr} {fd:FuncData} (F:Fun K "_law_is_call" "_law_is_call" s__law_is_call f fd) (hm:mg "_law_is_call"=some (.ref f)) (T:Tx P w K mg c_ONE_NAME c_TWO_NAMES c_WORDS c_Wrong i_Wrong) (C__law_are_names:FnD P w K mg base CX0 2 "_law_are_names" 2 F__law_are_names) (C__law_lower:FnD P w K mg base CX0 1 "_law_lower" 1 F__law_lower):FnD P w K mg base CX0 3 "_law_is_call" 1 F__law_is_call:=by
 refine fn_ok F sc__law_is_call hm rfl rfl (fun _ _ _ _ _ _ us hl=>match us,hl with | [_],_=>rfl) fun cdv A out s H E hr hgd=>?_
 have nd:=(sc__law_is_call).nd
 unfold g__law_is_call
 exact Exists.intro _ (ss_one (sm_ret (pm_and (pm_isi K rfl T.m_isinstance (.ty "tuple") T.iT_tuple (pm_var 0) (pe_tyN rfl T.m_tuple (by decide +kernel))) (pm_and (pm_cmpK (op_eqA K hr.units) (od_eqA (K:=K)) (pm_cbK (call_lenA K) (cd_lenA (K:=K)) (by rfl) T.m_len PySem.boot_len (pma_cons (pm_var 0) pma_nil)) pm_int (nomark _)) (pm_and (pm_callK C__law_lower (hr.mono (by decide)) hgd rfl pass_0 (pma_cons (pm_idxA K hr.units (pm_var 0) pm_int (fun _ _=>rfl)) pma_nil)) (pm_one (pm_callK C__law_are_names (hr.mono (by decide)) hgd rfl pass_0 (pma_cons (pm_idxA K hr.units (pm_var 0) pm_int (fun _ _=>rfl)) (pma_cons pm_int pma_nil)))))))))
set_option maxHeartbeats 4000000 in
theorem ok__law_is_step {f:Addr} {fd:FuncData} (F:Fun K "_law_is_step" "_law_is_step" s__law_is_step f fd) (hm:mg "_law_is_step"=some (.ref f)) (T:Tx P w K mg c_ONE_NAME c_TWO_NAMES c_WORDS c_Wrong i_Wrong) (C__law_are_names:FnD P w K mg base CX0 2 "_law_are_names" 2 F__law_are_names):FnD P w K mg base CX0 3 "_law_is_step" 1 F__law_is_step:=by
 refine fn_ok F sc__law_is_step hm rfl rfl (fun _ _ _ _ _ _ us hl=>match us,hl with | [_],_=>rfl) fun cdv A out s H E hr hgd=>?_
 have nd:=(sc__law_is_step).nd
 unfold g__law_is_step
 exact Exists.intro _ (ss_cons (sm_if (PMW.t (w_or (pt_no (pt_of (pm_isi K rfl T.m_isinstance (.ty "tuple") T.iT_tuple (pm_var 0) (pe_tyN rfl T.m_tuple (by decide +kernel))))) (w_or (pt_cmpK op_lt (od_lt (K:=K)) (pm_cbK (call_lenA K) (cd_lenA (K:=K)) (by rfl) T.m_len PySem.boot_len (pma_cons (pm_var 0) pma_nil)) pm_int (nomark _)) (w_or1 (pt_no (pt_of (pm_isi K rfl T.m_isinstance (.ty "str") T.iT_str (pm_idxA K hr.units (pm_var 0) pm_int (fun _ _=>rfl)) (pe_tyN rfl T.m_str (by decide +kernel))))))))) (ss_one (sm_ret pm_bl)) ss_nil)
   (ss_cons (sm_asg 1 nd (pm_dg2 hr.units (pm_lk (pm_disK (pp_cons pm_str pm_int (pp_cons pm_str pm_int (pp_cons pm_str pm_int (pp_cons pm_str pm_int (pp_cons pm_str pm_int (pp_cons pm_str pm_int (pp_cons pm_str pm_int (pp_cons pm_str pm_int pp_nil)))))))))) (pm_idxA K hr.units (pm_var 0) pm_int (fun _ _=>rfl)) pm_int))
   (ss_one (sm_ret (pm_and (pm_cmpK (op_eqA K hr.units) (od_eqA (K:=K)) (pm_cbK (call_lenA K) (cd_lenA (K:=K)) (by rfl) T.m_len PySem.boot_len (pma_cons (pm_var 0) pma_nil)) (pm_addK K (pm_var 1) pm_int) (nomark _)) (pm_one (pm_callK C__law_are_names (hr.mono (by decide)) hgd rfl pass_0 (pma_cons (pm_slK K (pm_var 0) (mo_some pm_int) mo_none) (pma_cons pm_int pma_nil)))))))))
set_option maxHeartbeats 4000000 in
theorem ok__law_all_names {f:Addr} {fd:FuncData} (F:Fun K "_law_all_names" "_law_all_names" s__law_all_names f fd) (hm:mg "_law_all_names"=some (.ref f)) (T:Tx P w K mg c_ONE_NAME c_TWO_NAMES c_WORDS c_Wrong i_Wrong) :FnD P w K mg base CX0 1 "_law_all_names" 1 F__law_all_names:=by
 refine fn_ok F sc__law_all_names hm rfl rfl (fun _ _ _ _ _ _ us hl=>match us,hl with | [_],_=>rfl) fun cdv A out s H E hr hgd=>?_
 have nd:=(sc__law_all_names).nd
 unfold g__law_all_names b__law_all_names_1
 exact Exists.intro _ (ss_cons (sm_new 1 nd (pm_ctK (call_listA K rfl) (cd_listA (K:=K)) (by rfl) T.m_list (by decide +kernel) (pma_cons (pm_idxA K hr.units (pm_var 0) pm_int (fun _ _=>rfl)) pma_nil)))
   (ss_cons (sm_for [true,true,false] PassesOwn.never rfl (mi_seqK K (pm_idxA K hr.units (pm_var 0) pm_int (fun _ _=>rfl))) (pg_nm 2 nd) (ss_one (sm_expr (pm_bmK K PySem.F.plainAttrs_list PySem.F.slot_list_extend PySem.F.type_list_extend (mt_extK K) td_list md_ext (pm_var 1) (pma_cons (pm_slK K (pm_var 2) (mo_some pm_int) mo_none) pma_nil)))))
   (ss_one (sm_ret (pm_sortsetK K w rfl rfl T.m_sorted rfl T.m_set (pm_var 1))))))
set_option maxHeartbeats 4000000 in
theorem ok__law_own {f:Addr} {fd:FuncData} (F:Fun K "_law_own" "_law_own" s__law_own f fd) (hm:mg "_law_own"=some (.ref f)) (T:Tx P w K mg c_ONE_NAME c_TWO_NAMES c_WORDS c_Wrong i_Wrong) (C__law_all_names:FnD P w K mg base CX0 1 "_law_all_names" 1 F__law_all_names):FnD P w K mg base CX0 2 "_law_own" 1 F__law_own:=by
 refine fn_ok F sc__law_own hm rfl rfl (fun _ _ _ _ _ _ us hl=>match us,hl with | [_],_=>rfl) fun cdv A out s H E hr hgd=>?_
 have nd:=(sc__law_own).nd
 unfold g__law_own
 exact Exists.intro _ (ss_one (sm_ret (pm_lc (own:=[("_law_name",1)]) rfl nd (mi_seqK K (pm_callK C__law_all_names (hr.mono (by decide)) hgd rfl pass_0 (pma_cons (pm_var 0) pma_nil))) (blkOk_by (N:=N__law_own) (sc:=defScope s__law_own) (by decide +kernel)) (fun _ _ _ _ _=>(pg_nm 1 nd)) (by decide) (fun _ _ _ _ _=>(ts_one (pt_cmpK (op_ninA K hr.units) (od_inA (K:=K) true) (pm_var 1) (pm_idxA K hr.units (pm_var 0) pm_int (fun _ _=>rfl)) (by rfl)))) (fun _ _ _ _ _=>(pm_var 1)))))
set_option maxHeartbeats 4000000 in
theorem ok__law_is_deed {f:Addr} {fd:FuncData} (F:Fun K "_law_is_deed" "_law_is_deed" s__law_is_deed f fd) (hm:mg "_law_is_deed"=some (.ref f)) (T:Tx P w K mg c_ONE_NAME c_TWO_NAMES c_WORDS c_Wrong i_Wrong) (C__law_are_names:FnD P w K mg base CX0 2 "_law_are_names" 2 F__law_are_names) (C__law_is_step:FnD P w K mg base CX0 3 "_law_is_step" 1 F__law_is_step) (C__law_own:FnD P w K mg base CX0 2 "_law_own" 1 F__law_own):FnD P w K mg base CX0 4 "_law_is_deed" 1 F__law_is_deed:=by
 refine fn_ok F sc__law_is_deed hm rfl rfl (fun _ _ _ _ _ _ us hl=>match us,hl with | [_],_=>rfl) fun cdv A out s H E hr hgd=>?_
 have nd:=(sc__law_is_deed).nd
 unfold g__law_is_deed
 exact Exists.intro _ (ss_cons (sm_if (PMW.t (w_or (pt_no (pt_of (pm_isi K rfl T.m_isinstance (.ty "tuple") T.iT_tuple (pm_var 0) (pe_tyN rfl T.m_tuple (by decide +kernel))))) (w_or (pt_cmpK (op_neK K hr.units) (od_ne (K:=K)) (pm_cbK (call_lenA K) (cd_lenA (K:=K)) (by rfl) T.m_len PySem.boot_len (pma_cons (pm_var 0) pma_nil)) pm_int (nomark _)) (w_or1 (pt_no (pt_of (pm_callK C__law_are_names (hr.mono (by decide)) hgd rfl pass_0 (pma_cons (pm_idxA K hr.units (pm_var 0) pm_int (fun _ _=>rfl)) (pma_cons pm_int pma_nil))))))))) (ss_one (sm_ret pm_bl)) ss_nil)
   (ss_cons (sm_if (PMW.t (w_or (pt_no (pt_of (pm_isi K rfl T.m_isinstance (.ty "tuple") T.iT_tuple (pm_idxA K hr.units (pm_var 0) pm_int (fun _ _=>rfl)) (pe_tyN rfl T.m_tuple (by decide +kernel))))) (w_or1 (pt_no (pt_chain op_lt (od_lt (K:=K)) op_lt (od_lt (K:=K)) pm_int (pm_cbK (call_lenA K) (cd_lenA (K:=K)) (by rfl) T.m_len PySem.boot_len (pma_cons (pm_idxA K hr.units (pm_var 0) pm_int (fun _ _=>rfl)) pma_nil)) pm_int))))) (ss_one (sm_ret pm_bl)) ss_nil)
   (ss_one (sm_ret (pm_and (pm_cmpK (op_eqW K hr.units) (od_eqW (K:=K)) (pm_lc (own:=[("_law_step_here",1)]) rfl nd (mi_seqK K (pm_idxA K hr.units (pm_var 0) pm_int (fun _ _=>rfl))) (blkOk_by (N:=N__law_is_deed) (sc:=defScope s__law_is_deed) (by decide +kernel)) (fun _ _ _ _ _=>(pg_nm 1 nd)) (by decide) (fun _ _ _ _ _=>(ts_one (pt_no (pt_of (pm_callK C__law_is_step (hr.mono (by decide)) hgd rfl pass_0 (pma_cons (pm_var 1) pma_nil)))))) (fun _ _ _ _ _=>(pm_var 1))) (pm_lst pma_nil) (nomark _)) (pm_one (pm_cmpK op_lt (od_lt (K:=K)) (pm_cbK (call_lenA K) (cd_lenA (K:=K)) (by rfl) T.m_len PySem.boot_len (pma_cons (pm_callK C__law_own (hr.mono (by decide)) hgd rfl pass_0 (pma_cons (pm_var 0) pma_nil)) pma_nil)) pm_int (nomark _))))))))
set_option maxHeartbeats 4000000 in
theorem ok__law_is_whole {f:Addr} {fd:FuncData} (F:Fun K "_law_is_whole" "_law_is_whole" s__law_is_whole f fd) (hm:mg "_law_is_whole"=some (.ref f)) (T:Tx P w K mg c_ONE_NAME c_TWO_NAMES c_WORDS c_Wrong i_Wrong) :FnD P w K mg base CX0 1 "_law_is_whole" 1 F__law_is_whole:=by
 refine fn_ok F sc__law_is_whole hm rfl rfl (fun _ _ _ _ _ _ us hl=>match us,hl with | [_],_=>rfl) fun cdv A out s H E hr hgd=>?_
 have nd:=(sc__law_is_whole).nd
 unfold g__law_is_whole
 exact Exists.intro _ (ss_one (sm_ret (pm_and (pm_isi K rfl T.m_isinstance (.ty "int") T.iT_int (pm_var 0) (pe_tyN rfl T.m_int (by decide +kernel))) (pm_one (pm_not (pm_isi K rfl T.m_isinstance (.ty "bool") T.iT_bool (pm_var 0) (pe_tyN rfl T.m_bool (by decide +kernel))))))))
set_option maxHeartbeats 4000000 in
theorem ok__law_is_line {f:Addr} {fd:FuncData} (F:Fun K "_law_is_line" "_law_is_line" s__law_is_line f fd) (hm:mg "_law_is_line"=some (.ref f)) (T:Tx P w K mg c_ONE_NAME c_TWO_NAMES c_WORDS c_Wrong i_Wrong) (C__law_is_whole:FnD P w K mg base CX0 1 "_law_is_whole" 1 F__law_is_whole):FnD P w K mg base CX0 2 "_law_is_line" 1 F__law_is_line:=by
 refine fn_ok F sc__law_is_line hm rfl rfl (fun _ _ _ _ _ _ us hl=>match us,hl with | [_],_=>rfl) fun cdv A out s H E hr hgd=>?_
 have nd:=(sc__law_is_line).nd
 unfold g__law_is_line
 exact Exists.intro _ (ss_cons (sm_if (PMW.t (w_or (pt_no (pt_of (pm_isi K rfl T.m_isinstance (.ty "tuple") T.iT_tuple (pm_var 0) (pe_tyN rfl T.m_tuple (by decide +kernel))))) (w_or (pt_cmpK (op_neK K hr.units) (od_ne (K:=K)) (pm_cbK (call_lenA K) (cd_lenA (K:=K)) (by rfl) T.m_len PySem.boot_len (pma_cons (pm_var 0) pma_nil)) pm_int (nomark _)) (w_or1 (pt_cmpK (op_neW K hr.units) (od_neW (K:=K)) (pm_lc (own:=[("_law_one_here",1)]) rfl nd (mi_seqK K (pm_var 0)) (blkOk_by (N:=N__law_is_line) (sc:=defScope s__law_is_line) (by decide +kernel)) (fun _ _ _ _ _=>(pg_nm 1 nd)) (by decide) (fun _ _ _ _ _=>(ts_one (pt_no (pt_of (pm_callK C__law_is_whole (hr.mono (by decide)) hgd rfl pass_0 (pma_cons (pm_var 1) pma_nil)))))) (fun _ _ _ _ _=>(pm_var 1))) (pm_lst pma_nil) (nomark _)))))) (ss_one (sm_ret pm_bl)) ss_nil)
   (ss_one (sm_ret (pm_and (pm_chain op_le (od_le (K:=K)) op_lt (od_lt (K:=K)) pm_int (pm_idxA K hr.units (pm_var 0) pm_int (fun _ _=>rfl)) pm_int) (pm_one (pm_cmpK op_gt (od_gt (K:=K)) (pm_idxA K hr.units (pm_var 0) pm_int (fun _ _=>rfl)) pm_int (nomark _)))))))
set_option maxHeartbeats 4000000 in
theorem ok_is_name {f:Addr} {fd:FuncData} (F:Fun K "is_name" "is_name" s_is_name f fd) (hm:mg "is_name"=some (.ref f)) (T:Tx P w K mg c_ONE_NAME c_TWO_NAMES c_WORDS c_Wrong i_Wrong) :FnD P w K mg base CX0 1 "is_name" 1 F_is_name:=by
 obtain⟨t_LETTERS,gt_LETTERS⟩:=T.g_LETTERS
 obtain⟨t_MOST_LETTERS,gt_MOST_LETTERS⟩:=T.g_MOST_LETTERS
 refine fn_ok F sc_is_name hm rfl rfl (fun _ _ _ _ _ _ us hl=>match us,hl with | [_],_=>rfl) fun cdv A out s H E hr hgd=>?_
 have nd:=(sc_is_name).nd
 unfold g_is_name
 exact Exists.intro _ (ss_cons (sm_if (PMW.t (w_or (pt_no (pt_of (pm_isi K rfl T.m_isinstance (.ty "str") T.iTE_str (pm_var 0) (pe_tyN rfl T.m_str (by decide +kernel))))) (w_or1 (pt_no (pt_chain op_le (od_le (K:=K)) op_le (od_le (K:=K)) pm_int (pm_cbK (call_lenA K) (cd_lenA (K:=K)) (by rfl) T.m_len PySem.boot_len (pma_cons (pm_var 0) pma_nil)) (pm_glob (v:=.int 8) rfl gt_MOST_LETTERS ⟨_,rfl⟩ (fun _=>.int _))))))) (ss_one (sm_ret pm_bl)) ss_nil)
   (ss_one (sm_ret (pm_cbK (cr_allK K rfl) (cd_all (K:=K) fun bs=>bs.all id) (by rfl) T.m_all (by decide +kernel) (pma_cons (pm_lc (own:=[("letter",1)]) rfl nd (pi_strM (pm_var 0)) (blkOk_by (N:=N_is_name) (sc:=defScope s_is_name) (by decide +kernel)) (fun _ _ _ _ _=>(pg_nm 1 nd)) (by decide) (fun _ _ _ _ _=>ts_nil) (fun _ _ _ _ _=>(pm_cmpK (op_inA K hr.units) (od_inA (K:=K) false) (pm_var 1) (pm_glob (v:=.str "abcdefghijklmnopqrstuvwxyz") rfl gt_LETTERS ⟨_,rfl⟩ (fun _=>.str _)) (by rfl)))) pma_nil)))))
set_option maxHeartbeats 4000000 in
theorem ok_are_names {f:Addr} {fd:FuncData} (F:Fun K "are_names" "are_names" s_are_names f fd) (hm:mg "are_names"=some (.ref f)) (T:Tx P w K mg c_ONE_NAME c_TWO_NAMES c_WORDS c_Wrong i_Wrong) (C_is_name:FnD P w K mg base CX0 1 "is_name" 1 F_is_name):FnD P w K mg base CX0 2 "are_names" 2 F_are_names:=by
 refine fn_ok F sc_are_names hm rfl rfl (fun _ _ _ _ _ _ us hl=>match us,hl with | [_,_],_=>rfl) fun cdv A out s H E hr hgd=>?_
 have nd:=(sc_are_names).nd
 unfold g_are_names
 exact Exists.intro _ (ss_cons (sm_if (PMW.t (w_or (pt_no (pt_of (pm_isi K rfl T.m_isinstance (.ty "tuple") T.iTE_tuple (pm_var 0) (pe_tyN rfl T.m_tuple (by decide +kernel))))) (w_or1 (pt_no (pt_chain op_le (od_le (K:=K)) op_le (od_le (K:=K)) pm_int (pm_cbK (call_lenA K) (cd_lenA (K:=K)) (by rfl) T.m_len PySem.boot_len (pma_cons (pm_var 0) pma_nil)) (pm_var 1)))))) (ss_one (sm_ret pm_bl)) ss_nil)
   (ss_one (sm_ret (pm_and (pm_cbK (cr_allK K rfl) (cd_all (K:=K) fun bs=>bs.all id) (by rfl) T.m_all (by decide +kernel) (pma_cons (pm_lc (own:=[("name",2)]) rfl nd (mi_seqK K (pm_var 0)) (blkOk_by (N:=N_are_names) (sc:=defScope s_are_names) (by decide +kernel)) (fun _ _ _ _ _=>(pg_nm 2 nd)) (by decide) (fun _ _ _ _ _=>ts_nil) (fun _ _ _ _ _=>(pm_callK C_is_name (hr.mono (by decide)) hgd rfl pass_0 (pma_cons (pm_var 2) pma_nil)))) pma_nil)) (pm_one (pm_cmpK (op_eqA K hr.units) (od_eqA (K:=K)) (pm_lenset K w rfl rfl T.m_len rfl T.m_set (pm_var 0)) (pm_cbK (call_lenA K) (cd_lenA (K:=K)) (by rfl) T.m_len PySem.boot_len (pma_cons (pm_var 0) pma_nil)) (nomark _)))))))
set_option maxHeartbeats 4000000 in
theorem ok_is_call {f:Addr} {fd:FuncData} (F:Fun K "is_call" "is_call" s_is_call f fd) (hm:mg "is_call"=some (.ref f)) (T:Tx P w K mg c_ONE_NAME c_TWO_NAMES c_WORDS c_Wrong i_Wrong) (C_are_names:FnD P w K mg base CX0 2 "are_names" 2 F_are_names) (C_is_name:FnD P w K mg base CX0 1 "is_name" 1 F_is_name):FnD P w K mg base CX0 3 "is_call" 1 F_is_call:=by
 obtain⟨t_MOST_ARGUMENTS,gt_MOST_ARGUMENTS⟩:=T.g_MOST_ARGUMENTS
 refine fn_ok F sc_is_call hm rfl rfl (fun _ _ _ _ _ _ us hl=>match us,hl with | [_],_=>rfl) fun cdv A out s H E hr hgd=>?_
 have nd:=(sc_is_call).nd
 unfold g_is_call
 exact Exists.intro _ (ss_one (sm_ret (pm_and (pm_isi K rfl T.m_isinstance (.ty "tuple") T.iTE_tuple (pm_var 0) (pe_tyN rfl T.m_tuple (by decide +kernel))) (pm_and (pm_cmpK (op_eqA K hr.units) (od_eqA (K:=K)) (pm_cbK (call_lenA K) (cd_lenA (K:=K)) (by rfl) T.m_len PySem.boot_len (pma_cons (pm_var 0) pma_nil)) pm_int (nomark _)) (pm_and (pm_callK C_is_name (hr.mono (by decide)) hgd rfl pass_0 (pma_cons (pm_idxA K hr.units (pm_var 0) pm_int (fun _ _=>rfl)) pma_nil)) (pm_one (pm_callK C_are_names (hr.mono (by decide)) hgd rfl pass_0 (pma_cons (pm_idxA K hr.units (pm_var 0) pm_int (fun _ _=>rfl)) (pma_cons (pm_glob (v:=.int 3) rfl gt_MOST_ARGUMENTS ⟨_,rfl⟩ (fun _=>.int _)) pma_nil)))))))))
set_option maxHeartbeats 4000000 in
theorem ok_is_step {f:Addr} {fd:FuncData} (F:Fun K "is_step" "is_step" s_is_step f fd) (hm:mg "is_step"=some (.ref f)) (T:Tx P w K mg c_ONE_NAME c_TWO_NAMES c_WORDS c_Wrong i_Wrong) (C_are_names:FnD P w K mg base CX0 2 "are_names" 2 F_are_names) (C_is_name:FnD P w K mg base CX0 1 "is_name" 1 F_is_name):FnD P w K mg base CX0 3 "is_step" 1 F_is_step:=by
 refine fn_ok F sc_is_step hm rfl rfl (fun _ _ _ _ _ _ us hl=>match us,hl with | [_],_=>rfl) fun cdv A out s H E hr hgd=>?_
 have nd:=(sc_is_step).nd
 unfold g_is_step
 exact Exists.intro _ (ss_cons (sm_if (PMW.t (w_or (pt_no (pt_of (pm_isi K rfl T.m_isinstance (.ty "tuple") T.iTE_tuple (pm_var 0) (pe_tyN rfl T.m_tuple (by decide +kernel))))) (w_or (pt_cmpK op_lt (od_lt (K:=K)) (pm_cbK (call_lenA K) (cd_lenA (K:=K)) (by rfl) T.m_len PySem.boot_len (pma_cons (pm_var 0) pma_nil)) pm_int (nomark _)) (w_or1 (pt_no (pt_of (pm_isi K rfl T.m_isinstance (.ty "str") T.iTE_str (pm_idxA K hr.units (pm_var 0) pm_int (fun _ _=>rfl)) (pe_tyN rfl T.m_str (by decide +kernel))))))))) (ss_one (sm_ret pm_bl)) ss_nil)
   (ss_cons (sm_if (pt_cmpK (op_inA K hr.units) (od_inA (K:=K) false) (pm_idxA K hr.units (pm_var 0) pm_int (fun _ _=>rfl)) (pm_glob (v:=.ref c_ONE_NAME) rfl T.g_ONE_NAME rfl T.r_ONE_NAME) (by rfl)) (ss_one (sm_ret (pm_and (pm_cmpK (op_eqA K hr.units) (od_eqA (K:=K)) (pm_cbK (call_lenA K) (cd_lenA (K:=K)) (by rfl) T.m_len PySem.boot_len (pma_cons (pm_var 0) pma_nil)) pm_int (nomark _)) (pm_one (pm_callK C_is_name (hr.mono (by decide)) hgd rfl pass_0 (pma_cons (pm_idxA K hr.units (pm_var 0) pm_int (fun _ _=>rfl)) pma_nil)))))) ss_nil)
   (ss_one (sm_ret (pm_and (pm_cmpK (op_inA K hr.units) (od_inA (K:=K) false) (pm_idxA K hr.units (pm_var 0) pm_int (fun _ _=>rfl)) (pm_glob (v:=.ref c_TWO_NAMES) rfl T.g_TWO_NAMES rfl T.r_TWO_NAMES) (by rfl)) (pm_and (pm_cmpK (op_eqA K hr.units) (od_eqA (K:=K)) (pm_cbK (call_lenA K) (cd_lenA (K:=K)) (by rfl) T.m_len PySem.boot_len (pma_cons (pm_var 0) pma_nil)) pm_int (nomark _)) (pm_one (pm_callK C_are_names (hr.mono (by decide)) hgd rfl pass_0 (pma_cons (pm_slK K (pm_var 0) (mo_some pm_int) mo_none) (pma_cons pm_int pma_nil))))))))))
set_option maxHeartbeats 4000000 in
theorem ok_is_deed {f:Addr} {fd:FuncData} (F:Fun K "is_deed" "is_deed" s_is_deed f fd) (hm:mg "is_deed"=some (.ref f)) (T:Tx P w K mg c_ONE_NAME c_TWO_NAMES c_WORDS c_Wrong i_Wrong) (C_are_names:FnD P w K mg base CX0 2 "are_names" 2 F_are_names) (C_is_step:FnD P w K mg base CX0 3 "is_step" 1 F_is_step):FnD P w K mg base CX0 4 "is_deed" 1 F_is_deed:=by
 obtain⟨t_MOST_ARGUMENTS,gt_MOST_ARGUMENTS⟩:=T.g_MOST_ARGUMENTS
 obtain⟨t_MOST_OWN,gt_MOST_OWN⟩:=T.g_MOST_OWN
 obtain⟨t_MOST_STEPS,gt_MOST_STEPS⟩:=T.g_MOST_STEPS
 refine fn_ok F sc_is_deed hm rfl rfl (fun _ _ _ _ _ _ us hl=>match us,hl with | [_],_=>rfl) fun cdv A out s H E hr hgd=>?_
 have nd:=(sc_is_deed).nd
 unfold g_is_deed b_is_deed_2 b_is_deed_1
 exact Exists.intro _ (ss_cons (sm_if (PMW.t (w_or (pt_no (pt_of (pm_isi K rfl T.m_isinstance (.ty "tuple") T.iTE_tuple (pm_var 0) (pe_tyN rfl T.m_tuple (by decide +kernel))))) (w_or (pt_cmpK (op_neK K hr.units) (od_ne (K:=K)) (pm_cbK (call_lenA K) (cd_lenA (K:=K)) (by rfl) T.m_len PySem.boot_len (pma_cons (pm_var 0) pma_nil)) pm_int (nomark _)) (w_or1 (pt_no (pt_of (pm_callK C_are_names (hr.mono (by decide)) hgd rfl pass_0 (pma_cons (pm_idxA K hr.units (pm_var 0) pm_int (fun _ _=>rfl)) (pma_cons (pm_glob (v:=.int 3) rfl gt_MOST_ARGUMENTS ⟨_,rfl⟩ (fun _=>.int _)) pma_nil))))))))) (ss_one (sm_ret pm_bl)) ss_nil)
   (ss_cons (sm_asg 1 nd (pm_idxA K hr.units (pm_var 0) pm_int (fun _ _=>rfl)))
   (ss_cons (sm_if (PMW.t (w_or (pt_no (pt_of (pm_isi K rfl T.m_isinstance (.ty "tuple") T.iTE_tuple (pm_var 1) (pe_tyN rfl T.m_tuple (by decide +kernel))))) (w_or (pt_no (pt_chain op_le (od_le (K:=K)) op_le (od_le (K:=K)) pm_int (pm_cbK (call_lenA K) (cd_lenA (K:=K)) (by rfl) T.m_len PySem.boot_len (pma_cons (pm_var 1) pma_nil)) (pm_glob (v:=.int 8) rfl gt_MOST_STEPS ⟨_,rfl⟩ (fun _=>.int _)))) (w_or1 (pt_no (pt_of (pm_cbK (cr_allK K rfl) (cd_all (K:=K) fun bs=>bs.all id) (by rfl) T.m_all (by decide +kernel) (pma_cons (pm_lc (own:=[("step",3)]) rfl nd (mi_seqK K (pm_var 1)) (blkOk_by (N:=N_is_deed) (sc:=defScope s_is_deed) (by decide +kernel)) (fun _ _ _ _ _=>(pg_nm 3 nd)) (by decide) (fun _ _ _ _ _=>ts_nil) (fun _ _ _ _ _=>(pm_callK C_is_step (hr.mono (by decide)) hgd rfl pass_0 (pma_cons (pm_var 3) pma_nil)))) pma_nil)))))))) (ss_one (sm_ret pm_bl)) ss_nil)
   (ss_cons (sm_new 2 nd pm_dnew)
   (ss_cons (sm_for [true,true,true,false,false] PassesOwn.never rfl (mi_seqK K (pm_var 1)) (pg_nm 3 nd) (ss_one (sm_for [true,true,true,true,false] PassesOwn.never rfl (mi_seqK K (pm_slK K (pm_var 3) (mo_some pm_int) mo_none)) (pg_nm 4 nd) (ss_one (sm_if (pt_cmpK (op_ninA K hr.units) (od_inA (K:=K) true) (pm_var 4) (pm_idxA K hr.units (pm_var 0) pm_int (fun _ _=>rfl)) (by rfl)) (ss_one (sm_dpt hr.units (pm_var 2) (pm_var 4) pm_bl)) ss_nil)))))
   (ss_one (sm_ret (pm_cmpK op_le (od_le (K:=K)) (pm_cbK (call_lenA K) (cd_lenA (K:=K)) (by rfl) T.m_len PySem.boot_len (pma_cons (pm_var 2) pma_nil)) (pm_glob (v:=.int 2) rfl gt_MOST_OWN ⟨_,rfl⟩ (fun _=>.int _)) (nomark _)))))))))
set_option maxHeartbeats 4000000 in
theorem ok_is_integer {f:Addr} {fd:FuncData} (F:Fun K "is_integer" "is_integer" s_is_integer f fd) (hm:mg "is_integer"=some (.ref f)) (T:Tx P w K mg c_ONE_NAME c_TWO_NAMES c_WORDS c_Wrong i_Wrong) :FnD P w K mg base CX0 1 "is_integer" 1 F_is_integer:=by
 refine fn_ok F sc_is_integer hm rfl rfl (fun _ _ _ _ _ _ us hl=>match us,hl with | [_],_=>rfl) fun cdv A out s H E hr hgd=>?_
 have nd:=(sc_is_integer).nd
 unfold g_is_integer
 exact Exists.intro _ (ss_one (sm_ret (pm_and (pm_isi K rfl T.m_isinstance (.ty "int") T.iTE_int (pm_var 0) (pe_tyN rfl T.m_int (by decide +kernel))) (pm_one (pm_not (pm_isi K rfl T.m_isinstance (.ty "bool") T.iTE_bool (pm_var 0) (pe_tyN rfl T.m_bool (by decide +kernel))))))))
set_option maxHeartbeats 4000000 in
theorem ok_is_line {f:Addr} {fd:FuncData} (F:Fun K "is_line" "is_line" s_is_line f fd) (hm:mg "is_line"=some (.ref f)) (T:Tx P w K mg c_ONE_NAME c_TWO_NAMES c_WORDS c_Wrong i_Wrong) (C_is_integer:FnD P w K mg base CX0 1 "is_integer" 1 F_is_integer):FnD P w K mg base CX0 2 "is_line" 1 F_is_line:=by
 obtain⟨t_MOST_MARKS,gt_MOST_MARKS⟩:=T.g_MOST_MARKS
 refine fn_ok F sc_is_line hm rfl rfl (fun _ _ _ _ _ _ us hl=>match us,hl with | [_],_=>rfl) fun cdv A out s H E hr hgd=>?_
 have nd:=(sc_is_line).nd
 unfold g_is_line
 exact Exists.intro _ (ss_cons (sm_if (PMW.t (w_or (pt_no (pt_of (pm_isi K rfl T.m_isinstance (.ty "tuple") T.iTE_tuple (pm_var 0) (pe_tyN rfl T.m_tuple (by decide +kernel))))) (w_or (pt_cmpK (op_neK K hr.units) (od_ne (K:=K)) (pm_cbK (call_lenA K) (cd_lenA (K:=K)) (by rfl) T.m_len PySem.boot_len (pma_cons (pm_var 0) pma_nil)) pm_int (nomark _)) (w_or (pt_no (pt_of (pm_callK C_is_integer (hr.mono (by decide)) hgd rfl pass_0 (pma_cons (pm_idxA K hr.units (pm_var 0) pm_int (fun _ _=>rfl)) pma_nil)))) (w_or1 (pt_no (pt_of (pm_callK C_is_integer (hr.mono (by decide)) hgd rfl pass_0 (pma_cons (pm_idxA K hr.units (pm_var 0) pm_int (fun _ _=>rfl)) pma_nil))))))))) (ss_one (sm_ret pm_bl)) ss_nil)
   (ss_one (sm_ret (pm_and (pm_chain op_le (od_le (K:=K)) op_lt (od_lt (K:=K)) pm_int (pm_idxA K hr.units (pm_var 0) pm_int (fun _ _=>rfl)) (pm_glob (v:=.int 6) rfl gt_MOST_MARKS ⟨_,rfl⟩ (fun _=>.int _))) (pm_one (pm_cmpK op_ge (od_ge (K:=K)) (pm_idxA K hr.units (pm_var 0) pm_int (fun _ _=>rfl)) pm_int (nomark _)))))))
set_option maxHeartbeats 4000000 in
theorem ok_is_word {f:Addr} {fd:FuncData} (F:Fun K "is_word" "is_word" s_is_word f fd) (hm:mg "is_word"=some (.ref f)) (T:Tx P w K mg c_ONE_NAME c_TWO_NAMES c_WORDS c_Wrong i_Wrong) :FnD P w K mg base CX0 1 "is_word" 1 F_is_word:=by
 refine fn_ok F sc_is_word hm rfl rfl (fun _ _ _ _ _ _ us hl=>match us,hl with | [_],_=>rfl) fun cdv A out s H E hr hgd=>?_
 have nd:=(sc_is_word).nd
 unfold g_is_word
 exact Exists.intro _ (ss_one (sm_ret (pm_and (pm_isi K rfl T.m_isinstance (.ty "str") T.iTE_str (pm_var 0) (pe_tyN rfl T.m_str (by decide +kernel))) (pm_one (pm_cmpK (op_inA K hr.units) (od_inA (K:=K) false) (pm_var 0) (pm_glob (v:=.ref c_WORDS) rfl T.g_WORDS rfl T.r_WORDS) (by rfl))))))
set_option maxHeartbeats 4000000 in
theorem ok__law_own_right {f:Addr} {fd:FuncData} (F:Fun K "_law_own_right" "_law_own_right" s__law_own_right f fd) (hm:mg "_law_own_right"=some (.ref f)) (T:Tx P w K mg c_ONE_NAME c_TWO_NAMES c_WORDS c_Wrong i_Wrong) (C__law_alike:FnD P w K mg base CX0 1 "_law_alike" 2 F__law_alike) (C_is_call:FnD P w K mg base CX0 3 "is_call" 1 F_is_call) (C_is_deed:FnD P w K mg base CX0 4 "is_deed" 1 F_is_deed) (C_is_integer:FnD P w K mg base CX0 1 "is_integer" 1 F_is_integer) (C_is_line:FnD P w K mg base CX0 2 "is_line" 1 F_is_line) (C_is_name:FnD P w K mg base CX0 1 "is_name" 1 F_is_name) (C_is_step:FnD P w K mg base CX0 3 "is_step" 1 F_is_step) (C_is_word:FnD P w K mg base CX0 1 "is_word" 1 F_is_word):FnD P w K mg base CX0 5 "_law_own_right" 0 F__law_own_right:=by
 refine fn_ok F sc__law_own_right hm rfl rfl (fun _ _ _ _ _ _ us hl=>match us,hl with | [],_=>rfl) fun cdv A out s H E hr hgd=>?_
 have nd:=(sc__law_own_right).nd
 unfold g__law_own_right b__law_own_right_1
 exact Exists.intro _ (ss_cons (sm_asg 0 nd (pm_eo T.er_Wrong T.k_Wrong hr pm_int rfl))
   (ss_cons (sm_for [true,false,false] PassesOwn.never rfl (mi_seqK K (pm_tup (pma_cons (pm_var 0) (pma_cons (pm_lst (pma_cons (pm_var 0) pma_nil)) (pma_cons (pm_tup (pma_cons (pm_var 0) (pma_cons (pm_var 0) pma_nil))) (pma_cons (pm_tup (pma_cons pm_str (pma_cons (pm_var 0) pma_nil))) (pma_cons (pm_tup (pma_cons (pm_tup (pma_cons pm_str pma_nil)) (pma_cons (pm_tup (pma_cons (pm_var 0) pma_nil)) pma_nil))) (pma_cons (pm_tup (pma_cons pm_str (pma_cons (pm_tup (pma_cons (pm_var 0) pma_nil)) pma_nil))) pma_nil)))))))) (pg_nm 1 nd) (ss_cons (sm_asg 2 nd (pm_lst (pma_cons (pm_callK C_is_integer (hr.mono (by decide)) hgd rfl pass_0 (pma_cons (pm_var 1) pma_nil)) (pma_cons (pm_callK C_is_name (hr.mono (by decide)) hgd rfl pass_0 (pma_cons (pm_var 1) pma_nil)) (pma_cons (pm_callK C_is_step (hr.mono (by decide)) hgd rfl pass_0 (pma_cons (pm_var 1) pma_nil)) (pma_cons (pm_callK C_is_deed (hr.mono (by decide)) hgd rfl pass_0 (pma_cons (pm_var 1) pma_nil)) (pma_cons (pm_callK C_is_call (hr.mono (by decide)) hgd rfl pass_0 (pma_cons (pm_var 1) pma_nil)) pma_nil)))))))
   (ss_one (sm_if (pt_no (pt_of (pm_callK C__law_alike (hr.mono (by decide)) hgd rfl pass_0 (pma_cons (pm_addK K (pm_var 2) (pm_lst (pma_cons (pm_callK C_is_line (hr.mono (by decide)) hgd rfl pass_0 (pma_cons (pm_var 1) pma_nil)) (pma_cons (pm_callK C_is_word (hr.mono (by decide)) hgd rfl pass_0 (pma_cons (pm_var 1) pma_nil)) pma_nil)))) (pma_cons (pm_mulX (pm_lst (pma_cons pm_bl pma_nil)) pm_int) pma_nil))))) (ss_one (sm_ret pm_bl)) ss_nil))))
   (ss_one (sm_ret pm_bl))))
set_option maxHeartbeats 4000000 in
theorem ok__law_mixed {f:Addr} {fd:FuncData} (F:Fun K "_law_mixed" "_law_mixed" s__law_mixed f fd) (hm:mg "_law_mixed"=some (.ref f)) (T:Tx P w K mg c_ONE_NAME c_TWO_NAMES c_WORDS c_Wrong i_Wrong) (C__law_take:FnD P w K mg base CX0 1 "_law_take" 2 F__law_take):FnD P w K mg base CX0 2 "_law_mixed" 2 F__law_mixed:=by
 refine fn_ok F sc__law_mixed hm rfl rfl (fun _ _ _ _ _ _ us hl=>match us,hl with | [_,_],_=>rfl) fun cdv A out s H E hr hgd=>?_
 have nd:=(sc__law_mixed).nd
 unfold g__law_mixed b__law_mixed_1
 exact Exists.intro _ (ss_cons (sm_par2 2 3 rfl nd (pm_ctK (call_list_ofK K) (cd_list (K:=K)) (by rfl) T.m_list (by decide +kernel) (pma_cons (pm_var 1) pma_nil)) (pm_lst pma_nil))
   (ss_cons (sm_while 100000 [true,true,true,true] PassesOwn.never (pt_cmpK (op_neK K hr.units) (od_ne (K:=K)) (pm_var 2) (pm_lst pma_nil) (nomark _)) (ss_one (sm_expr (pm_bmK K PySem.F.plainAttrs_list PySem.F.slot_list_append PySem.F.type_list_append mt_append td_list md_append (pm_var 3) (pma_cons (pm_bmK K PySem.F.plainAttrs_list PySem.F.slot_list_pop PySem.F.type_list_pop mt_popAt td_list md_popAt (pm_var 2) (pma_cons (pm_callK C__law_take (hr.mono (by decide)) hgd rfl pass_0 (pma_cons (pm_var 0) (pma_cons (pm_cbK (call_lenK K) (cd_len (K:=K)) (by rfl) T.m_len PySem.boot_len (pma_cons (pm_var 2) pma_nil)) pma_nil))) pma_nil)) pma_nil)))))
   (ss_one (sm_ret (pm_var 3)))))
set_option maxHeartbeats 4000000 in
theorem ok__law_names {f:Addr} {fd:FuncData} (F:Fun K "_law_names" "_law_names" s__law_names f fd) (hm:mg "_law_names"=some (.ref f)) (T:Tx P w K mg c_ONE_NAME c_TWO_NAMES c_WORDS c_Wrong i_Wrong) (C__law_mixed:FnD P w K mg base CX0 2 "_law_mixed" 2 F__law_mixed) (C__law_take:FnD P w K mg base CX0 1 "_law_take" 2 F__law_take):FnD P w K mg base CX0 3 "_law_names" 2 F__law_names:=by
 refine fn_ok F sc__law_names hm rfl rfl (fun _ _ _ _ _ _ us hl=>match us,hl with | [_,_],_=>rfl) fun cdv A out s H E hr hgd=>?_
 have nd:=(sc__law_names).nd
 unfold g__law_names
 exact Exists.intro _ (ss_cons (sm_asg 2 nd (pm_bmK K PySem.F.plainAttrs_str PySem.F.slot_str_split PySem.F.type_str_split mt_split td_str md_split pm_str (pma_cons pm_str pma_nil)))
   (ss_cons (sm_asg 3 nd (pm_callK C__law_take (hr.mono (by decide)) hgd rfl pass_0 (pma_cons (pm_var 0) (pma_cons pm_int pma_nil))))
   (ss_one (sm_ret (pm_callK C__law_mixed (hr.mono (by decide)) hgd rfl pass_0 (pma_cons (pm_var 0) (pma_cons (pm_slK K (pm_addK K (pm_var 2) (pm_var 2)) (mo_some (pm_var 3)) (mo_some (pm_addK K (pm_var 3) (pm_var 1)))) pma_nil)))))))
set_option maxHeartbeats 4000000 in
theorem ok__law_one {f:Addr} {fd:FuncData} (F:Fun K "_law_one" "_law_one" s__law_one f fd) (hm:mg "_law_one"=some (.ref f)) (T:Tx P w K mg c_ONE_NAME c_TWO_NAMES c_WORDS c_Wrong i_Wrong) (C__law_take:FnD P w K mg base CX0 1 "_law_take" 2 F__law_take):FnD P w K mg base CX0 2 "_law_one" 2 F__law_one:=by
 refine fn_ok F sc__law_one hm rfl rfl (fun _ _ _ _ _ _ us hl=>match us,hl with | [_,_],_=>rfl) fun cdv A out s H E hr hgd=>?_
 have nd:=(sc__law_one).nd
 unfold g__law_one
 exact Exists.intro _ (ss_one (sm_ret (pm_idxK K (pm_var 1) (pm_callK C__law_take (hr.mono (by decide)) hgd rfl pass_0 (pma_cons (pm_var 0) (pma_cons (pm_cbK (call_lenK K) (cd_len (K:=K)) (by rfl) T.m_len PySem.boot_len (pma_cons (pm_var 1) pma_nil)) pma_nil))) (fun _ _=>rfl))))
set_option maxHeartbeats 4000000 in
theorem ok__law_step {f:Addr} {fd:FuncData} (F:Fun K "_law_step" "_law_step" s__law_step f fd) (hm:mg "_law_step"=some (.ref f)) (T:Tx P w K mg c_ONE_NAME c_TWO_NAMES c_WORDS c_Wrong i_Wrong) (C__law_one:FnD P w K mg base CX0 2 "_law_one" 2 F__law_one):FnD P w K mg base CX0 3 "_law_step" 3 F__law_step:=by
 refine fn_ok F sc__law_step hm rfl rfl (fun _ _ _ _ _ _ us hl=>match us,hl with | [_,_,_],_=>rfl) fun cdv A out s H E hr hgd=>?_
 have nd:=(sc__law_step).nd
 unfold g__law_step
 exact Exists.intro _ (ss_cons (sm_asg 3 nd (pm_lst (pma_cons pm_str (pma_cons pm_str (pma_cons pm_str (pma_cons pm_str (pma_cons pm_str (pma_cons pm_str pma_nil))))))))
   (ss_cons (sm_asg 4 nd (pm_callK C__law_one (hr.mono (by decide)) hgd rfl pass_0 (pma_cons (pm_var 0) (pma_cons (pm_if (pt_of (pm_var 2)) (pm_var 3) (pm_addK K (pm_var 3) (pm_lst (pma_cons pm_str (pma_cons pm_str (pma_cons pm_str (pma_cons pm_str pma_nil))))))) pma_nil))))
   (ss_cons (sm_asg 5 nd (pm_callK C__law_one (hr.mono (by decide)) hgd rfl pass_0 (pma_cons (pm_var 0) (pma_cons (pm_var 1) pma_nil))))
   (ss_cons (sm_if (pt_cmpK (op_ninA K hr.units) (od_inA (K:=K) true) (pm_var 4) (pm_tup (pma_cons pm_str (pma_cons pm_str pma_nil))) (by rfl)) (ss_one (sm_ret (pm_tup (pma_cons (pm_var 4) (pma_cons (pm_var 5) pma_nil))))) ss_nil)
   (ss_cons (sm_lc false (own:=[("_law_name",7)]) (j:=6) rfl nd rfl rfl (sw_true rfl rfl rfl (by decide +kernel)) (mi_seqK K (pm_var 1)) (blkOk_by (N:=N__law_step) (sc:=defScope s__law_step) (by decide +kernel)) (fun _ _ _ _ _=>(pg_nm 7 nd)) (by decide) (fun _ _ _ _ _=>(ts_one (pt_cmpK (op_neK K hr.units) (od_ne (K:=K)) (pm_var 7) (pm_var 5) (nomark _)))) (fun _ _ _ _ _=>(pm_var 7)))
   (ss_one (sm_ret (pm_if (pt_cmpK (op_neK K hr.units) (od_ne (K:=K)) (pm_var 6) (pm_lst pma_nil) (nomark _)) (pm_tup (pma_cons (pm_var 4) (pma_cons (pm_var 5) (pma_cons (pm_callK C__law_one (hr.mono (by decide)) hgd rfl pass_0 (pma_cons (pm_var 0) (pma_cons (pm_var 6) pma_nil))) pma_nil)))) (pm_tup (pma_cons pm_str (pma_cons (pm_var 5) pma_nil)))))))))))
set_option maxHeartbeats 4000000 in
theorem ok__law_deed {f:Addr} {fd:FuncData} (F:Fun K "_law_deed" "_law_deed" s__law_deed f fd) (hm:mg "_law_deed"=some (.ref f)) (T:Tx P w K mg c_ONE_NAME c_TWO_NAMES c_WORDS c_Wrong i_Wrong) (C__law_names:FnD P w K mg base CX0 3 "_law_names" 2 F__law_names) (C__law_step:FnD P w K mg base CX0 3 "_law_step" 3 F__law_step) (C__law_take:FnD P w K mg base CX0 1 "_law_take" 2 F__law_take):FnD P w K mg base CX0 4 "_law_deed" 2 F__law_deed:=by
 refine fn_ok F sc__law_deed hm rfl rfl (fun _ _ _ _ _ _ us hl=>match us,hl with | [_,_],_=>rfl) fun cdv A out s H E hr hgd=>?_
 have nd:=(sc__law_deed).nd
 unfold g__law_deed
 exact Exists.intro _ (ss_cons (sm_asg 2 nd (pm_callK C__law_names (hr.mono (by decide)) hgd rfl pass_0 (pma_cons (pm_var 0) (pma_cons pm_int pma_nil))))
   (ss_cons (sm_tgt (pg_tpK K rfl (gs_cons (pg_nm 3 nd) (gs_cons (pg_nm 4 nd) gs_nil))) (pm_tup (pma_cons (pm_slK K (pm_var 2) mo_none (mo_some (pm_addK K pm_int (pm_callK C__law_take (hr.mono (by decide)) hgd rfl pass_0 (pma_cons (pm_var 0) (pma_cons pm_int pma_nil)))))) (pma_cons (pm_slK K (pm_var 2) (mo_some pm_int) (mo_some (pm_addK K pm_int (pm_idxA K hr.units (pm_lst (pma_cons pm_int (pma_cons pm_int (pma_cons pm_int (pma_cons pm_int pma_nil))))) (pm_callK C__law_take (hr.mono (by decide)) hgd rfl pass_0 (pma_cons (pm_var 0) (pma_cons pm_int pma_nil))) (fun _ _=>rfl))))) pma_nil))))
   (ss_cons (sm_asg 5 nd (pm_idxA K hr.units (pm_lst (pma_cons pm_int (pma_cons pm_int (pma_cons pm_int (pma_cons pm_int (pma_cons pm_int (pma_cons pm_int pma_nil))))))) (pm_callK C__law_take (hr.mono (by decide)) hgd rfl pass_0 (pma_cons (pm_var 0) (pma_cons pm_int pma_nil))) (fun _ _=>rfl)))
   (ss_one (sm_ret (pm_tup (pma_cons (pm_ctK (call_tuple_ofK K) (cd_tuple (K:=K)) (by rfl) T.m_tuple (by decide +kernel) (pma_cons (pm_var 3) pma_nil)) (pma_cons (pm_ctK (call_tuple_ofK K) (cd_tuple (K:=K)) (by rfl) T.m_tuple (by decide +kernel) (pma_cons (pm_lc (own:=[("_law_k",6)]) rfl nd (mi_rng1 rfl T.m_range (pma_cons (pm_var 5) pma_nil)) (blkOk_by (N:=N__law_deed) (sc:=defScope s__law_deed) (by decide +kernel)) (fun _ _ _ _ _=>(pg_nm 6 nd)) (by decide) (fun _ _ _ _ _=>ts_nil) (fun _ _ _ _ _=>(pm_callK C__law_step (hr.mono (by decide)) hgd rfl pass_0 (pma_cons (pm_var 0) (pma_cons (pm_addK K (pm_var 3) (pm_var 4)) (pma_cons (pm_var 1) pma_nil)))))) pma_nil)) pma_nil))))))))
set_option maxHeartbeats 4000000 in
theorem ok__law_plain_deeds {f:Addr} {fd:FuncData} (F:Fun K "_law_plain_deeds" "_law_plain_deeds" s__law_plain_deeds f fd) (hm:mg "_law_plain_deeds"=some (.ref f)) (T:Tx P w K mg c_ONE_NAME c_TWO_NAMES c_WORDS c_Wrong i_Wrong) :FnD P w K mg base CX0 1 "_law_plain_deeds" 0 F__law_plain_deeds:=by
 refine fn_ok F sc__law_plain_deeds hm rfl rfl (fun _ _ _ _ _ _ us hl=>match us,hl with | [],_=>rfl) fun cdv A out s H E hr hgd=>?_
 have nd:=(sc__law_plain_deeds).nd
 unfold g__law_plain_deeds
 exact Exists.intro _ (ss_cons (sm_tgt (pg_tpK K rfl (gs_cons (pg_nm 0 nd) (gs_cons (pg_nm 1 nd) gs_nil))) (pm_tup (pma_cons (pm_tup (pma_cons (pm_tup (pma_cons pm_str pma_nil)) (pma_cons (pm_tup (pma_cons (pm_tup (pma_cons pm_str (pma_cons pm_str pma_nil))) pma_nil)) pma_nil))) (pma_cons (pm_tup (pma_cons (pm_tup (pma_cons pm_str (pma_cons pm_str pma_nil))) (pma_cons (pm_tup (pma_cons (pm_tup (pma_cons pm_str (pma_cons pm_str (pma_cons pm_str pma_nil)))) pma_nil)) pma_nil))) pma_nil))))
   (ss_cons (sm_tgt (pg_tpK K rfl (gs_cons (pg_nm 2 nd) (gs_cons (pg_nm 3 nd) gs_nil))) (pm_tup (pma_cons (pm_tup (pma_cons (pm_tup (pma_cons pm_str pma_nil)) (pma_cons (pm_tup (pma_cons (pm_tup (pma_cons pm_str (pma_cons pm_str pma_nil))) pma_nil)) pma_nil))) (pma_cons (pm_tup (pma_cons (pm_tup (pma_cons pm_str pma_nil)) (pma_cons (pm_tup (pma_cons (pm_tup (pma_cons pm_str (pma_cons pm_str pma_nil))) pma_nil)) pma_nil))) pma_nil))))
   (ss_one (sm_ret (pm_disK (pp_cons pm_str (pm_var 0) (pp_cons pm_str (pm_var 3) (pp_cons pm_str (pm_var 2) (pp_cons pm_str (pm_var 1) pp_nil)))))))))
set_option maxHeartbeats 4000000 in
theorem ok__law_thing {f:Addr} {fd:FuncData} (F:Fun K "_law_thing" "_law_thing" s__law_thing f fd) (hm:mg "_law_thing"=some (.ref f)) (T:Tx P w K mg c_ONE_NAME c_TWO_NAMES c_WORDS c_Wrong i_Wrong) (C__law_deed:FnD P w K mg base CX0 4 "_law_deed" 2 F__law_deed) (C__law_names:FnD P w K mg base CX0 3 "_law_names" 2 F__law_names) (C__law_odd_value:FnD P w K mg base CX0 2 "_law_odd_value" 1 F__law_odd_value) (C__law_plain_deeds:FnD P w K mg base CX0 1 "_law_plain_deeds" 0 F__law_plain_deeds) (C__law_step:FnD P w K mg base CX0 3 "_law_step" 3 F__law_step) (C__law_take:FnD P w K mg base CX0 1 "_law_take" 2 F__law_take) (C__law_word:FnD P w K mg base CX0 2 "_law_word" 1 F__law_word):FnD P w K mg base CX0 5 "_law_thing" 1 F__law_thing:=by
 refine fn_ok F sc__law_thing hm rfl rfl (fun _ _ _ _ _ _ us hl=>match us,hl with | [_],_=>rfl) fun cdv A out s H E hr hgd=>?_
 have nd:=(sc__law_thing).nd
 unfold g__law_thing
 exact Exists.intro _ (ss_cons (sm_par 1 2 rfl nd (pma_cons (pm_callK C__law_take (hr.mono (by decide)) hgd rfl pass_0 (pma_cons (pm_var 0) (pma_cons pm_int pma_nil))) (pma_cons (pm_callK C__law_names (hr.mono (by decide)) hgd rfl pass_0 (pma_cons (pm_var 0) (pma_cons pm_int pma_nil))) pma_nil)))
   (ss_cons (sm_if (pt_cmpK (op_eqA K hr.units) (od_eqA (K:=K)) (pm_var 1) pm_int (nomark _)) (ss_one (sm_ret (pm_callK C__law_word (hr.mono (by decide)) hgd rfl pass_0 (pma_cons (pm_var 0) pma_nil)))) ss_nil)
   (ss_cons (sm_if (pt_cmpK (op_eqA K hr.units) (od_eqA (K:=K)) (pm_var 1) pm_int (nomark _)) (ss_cons (sm_asg 3 nd (pm_lst (pma_cons (pm_lk (pm_disK (pp_cons pm_str (pm_tup (pma_cons pm_str (pma_cons pm_str pma_nil))) pp_nil))) (pma_cons (pm_lk (pm_call0 C__law_plain_deeds (hr.mono (by decide)) hgd rfl pass_0)) (pma_cons (pm_callK C__law_odd_value (hr.mono (by decide)) hgd rfl pass_0 (pma_cons (pm_var 0) pma_nil)) pma_nil)))))
   (ss_one (sm_ret (pm_idxA K hr.units (pm_var 3) (pm_cbK (call_min2 rfl) (cd_mm (K:=K) (fun i j=>if j<i then j else i)) (by rfl) T.m_min (by decide +kernel) (pma_cons pm_int (pma_cons (pm_callK C__law_take (hr.mono (by decide)) hgd rfl pass_0 (pma_cons (pm_var 0) (pma_cons pm_int pma_nil))) pma_nil))) (fun _ _=>rfl))))) ss_nil)
   (ss_cons (sm_if (pt_cmpK (op_eqA K hr.units) (od_eqA (K:=K)) (pm_var 1) pm_int (nomark _)) (ss_one (sm_ret (pm_idxA K hr.units (pm_lst (pma_cons pm_str (pma_cons pm_str (pma_cons pm_str (pma_cons pm_str (pma_cons pm_str (pma_cons pm_str pma_nil))))))) (pm_callK C__law_take (hr.mono (by decide)) hgd rfl pass_0 (pma_cons (pm_var 0) (pma_cons pm_int pma_nil))) (fun _ _=>rfl)))) ss_nil)
   (ss_cons (sm_if (pt_cmpK op_lt (od_lt (K:=K)) (pm_var 1) pm_int (nomark _)) (ss_one (sm_ret (pm_callK C__law_step (hr.mono (by decide)) hgd rfl pass_0 (pma_cons (pm_var 0) (pma_cons (pm_var 2) (pma_cons pm_bl pma_nil)))))) ss_nil)
   (ss_cons (sm_if (pt_cmpK (op_eqA K hr.units) (od_eqA (K:=K)) (pm_var 1) pm_int (nomark _)) (ss_one (sm_ret (pm_tup (pma_cons (pm_idxA K hr.units (pm_var 2) pm_int (fun _ _=>rfl)) (pma_cons (pm_ctK (call_tuple_ofK K) (cd_tuple (K:=K)) (by rfl) T.m_tuple (by decide +kernel) (pma_cons (pm_slK K (pm_var 2) mo_none (mo_some (pm_addK K pm_int (pm_callK C__law_take (hr.mono (by decide)) hgd rfl pass_0 (pma_cons (pm_var 0) (pma_cons pm_int pma_nil)))))) pma_nil)) pma_nil))))) ss_nil)
   (ss_cons (sm_if (pt_cmpK (op_eqA K hr.units) (od_eqA (K:=K)) (pm_var 1) pm_int (nomark _)) (ss_one (sm_ret (pm_tup (pma_cons (pm_sub (pm_callK C__law_take (hr.mono (by decide)) hgd rfl pass_0 (pma_cons (pm_var 0) (pma_cons pm_int pma_nil))) pm_int) (pma_cons (pm_callK C__law_take (hr.mono (by decide)) hgd rfl pass_0 (pma_cons (pm_var 0) (pma_cons pm_int pma_nil))) pma_nil))))) ss_nil)
   (ss_cons (sm_asg 4 nd (pm_callK C__law_deed (hr.mono (by decide)) hgd rfl pass_0 (pma_cons (pm_var 0) (pma_cons pm_bl pma_nil))))
   (ss_cons (sm_if (pt_cmpK (op_eqA K hr.units) (od_eqA (K:=K)) (pm_var 1) pm_int (nomark _)) (ss_cons (sm_asg 5 nd (pm_ctK (call_tuple_ofK K) (cd_tuple (K:=K)) (by rfl) T.m_tuple (by decide +kernel) (pma_cons (pm_lc (own:=[("_law_k",6)]) rfl nd (mi_rng1 rfl T.m_range (pma_cons (pm_addK K pm_int (pm_callK C__law_take (hr.mono (by decide)) hgd rfl pass_0 (pma_cons (pm_var 0) (pma_cons pm_int pma_nil)))) pma_nil)) (blkOk_by (N:=N__law_thing) (sc:=defScope s__law_thing) (by decide +kernel)) (fun _ _ _ _ _=>(pg_nm 6 nd)) (by decide) (fun _ _ _ _ _=>ts_nil) (fun _ _ _ _ _=>(pm_callK C__law_step (hr.mono (by decide)) hgd rfl pass_0 (pma_cons (pm_var 0) (pma_cons (pm_callK C__law_names (hr.mono (by decide)) hgd rfl pass_0 (pma_cons (pm_var 0) (pma_cons pm_int pma_nil))) (pma_cons pm_bl pma_nil)))))) pma_nil)))
   (ss_one (sm_ret (pm_tup (pma_cons (pm_ctK (call_tuple_ofK K) (cd_tuple (K:=K)) (by rfl) T.m_tuple (by decide +kernel) (pma_cons (pm_callK C__law_names (hr.mono (by decide)) hgd rfl pass_0 (pma_cons (pm_var 0) (pma_cons (pm_addK K pm_int (pm_callK C__law_take (hr.mono (by decide)) hgd rfl pass_0 (pma_cons (pm_var 0) (pma_cons pm_int pma_nil)))) pma_nil))) pma_nil)) (pma_cons (pm_var 5) pma_nil)))))) ss_nil)
   (ss_one (sm_ret (pm_var 4))))))))))))
set_option maxHeartbeats 4000000 in
theorem ok_law {f:Addr} {fd:FuncData} (F:Fun K "law" "law" s_law f fd) (T:Tx P w K mg c_ONE_NAME c_TWO_NAMES c_WORDS c_Wrong i_Wrong) (C__law_alike:FnD P w K mg base CX0 1 "_law_alike" 2 F__law_alike) (C__law_bag:FnD P w K mg base CX0 1 "_law_bag" 1 F__law_bag) (C__law_bent:FnD P w K mg base CX0 43 "_law_bent" 2 F__law_bent) (C__law_is_call:FnD P w K mg base CX0 3 "_law_is_call" 1 F__law_is_call) (C__law_is_deed:FnD P w K mg base CX0 4 "_law_is_deed" 1 F__law_is_deed) (C__law_is_line:FnD P w K mg base CX0 2 "_law_is_line" 1 F__law_is_line) (C__law_is_step:FnD P w K mg base CX0 3 "_law_is_step" 1 F__law_is_step) (C__law_is_whole:FnD P w K mg base CX0 1 "_law_is_whole" 1 F__law_is_whole) (C__law_lower:FnD P w K mg base CX0 1 "_law_lower" 1 F__law_lower) (C__law_own_right:FnD P w K mg base CX0 5 "_law_own_right" 0 F__law_own_right) (C__law_take:FnD P w K mg base CX0 1 "_law_take" 2 F__law_take) (C__law_thing:FnD P w K mg base CX0 5 "_law_thing" 1 F__law_thing) (C_is_call:FnD P w K mg base CX0 3 "is_call" 1 F_is_call) (C_is_deed:FnD P w K mg base CX0 4 "is_deed" 1 F_is_deed) (C_is_integer:FnD P w K mg base CX0 1 "is_integer" 1 F_is_integer) (C_is_line:FnD P w K mg base CX0 2 "is_line" 1 F_is_line) (C_is_name:FnD P w K mg base CX0 1 "is_name" 1 F_is_name) (C_is_step:FnD P w K mg base CX0 3 "is_step" 1 F_is_step) (C_is_word:FnD P w K mg base CX0 1 "is_word" 1 F_is_word):FnG P w K mg base CX0 44 f fd ["_law_script"] (spF K 1 F_law):=by
 refine fn_okG F sc_law rfl rfl fun cdv A out s H E hr hgd=>?_
 have nd:=(sc_law).nd
 unfold g_law b_law_3 b_law_2 b_law_1
 exact Exists.intro _ (ss_cons (sm_new 1 nd (pm_callK C__law_bag (hr.mono (by decide)) hgd rfl pass_0 (pma_cons (pm_var 0) pma_nil)))
   (ss_cons (sm_if (pt_no (pt_of (pm_call0 C__law_own_right (hr.mono (by decide)) hgd rfl pass_0))) (ss_one (sm_ret pm_bl)) ss_nil)
   (ss_cons (sm_for [true,true,false,false,false,false,false,false] PassesOwn.never rfl (mi_rng1 rfl T.m_range (pma_cons pm_int pma_nil)) (pg_nm 2 nd) (ss_cons (sm_asg 3 nd (pm_callK C__law_thing (hr.mono (by decide)) hgd rfl pass_0 (pma_cons (pm_var 1) pma_nil)))
   (ss_cons (sm_for [true,true,true,true,false,false,false,false] PassesOwn.never rfl (mi_rng1 rfl T.m_range (pma_cons (pm_idxA K hr.units (pm_lst (pma_cons pm_int (pma_cons pm_int (pma_cons pm_int (pma_cons pm_int pma_nil))))) (pm_callK C__law_take (hr.mono (by decide)) hgd rfl pass_0 (pma_cons (pm_var 1) (pma_cons pm_int pma_nil))) (fun _ _=>rfl)) pma_nil)) (pg_nm 4 nd) (ss_one (sm_asg 3 nd (pm_callK C__law_bent (hr.mono (by decide)) hgd rfl pass_0 (pma_cons (pm_var 1) (pma_cons (pm_var 3) pma_nil))))))
   (ss_cons (sm_asg 5 nd (pm_lst (pma_cons (pm_callK C__law_is_whole (hr.mono (by decide)) hgd rfl pass_0 (pma_cons (pm_var 3) pma_nil)) (pma_cons (pm_callK C__law_lower (hr.mono (by decide)) hgd rfl pass_0 (pma_cons (pm_var 3) pma_nil)) (pma_cons (pm_callK C__law_is_step (hr.mono (by decide)) hgd rfl pass_0 (pma_cons (pm_var 3) pma_nil)) (pma_cons (pm_callK C__law_is_deed (hr.mono (by decide)) hgd rfl pass_0 (pma_cons (pm_var 3) pma_nil)) (pma_cons (pm_callK C__law_is_call (hr.mono (by decide)) hgd rfl pass_0 (pma_cons (pm_var 3) pma_nil)) pma_nil)))))))
   (ss_cons (sm_asg 5 nd (pm_addK K (pm_var 5) (pm_lst (pma_cons (pm_callK C__law_is_line (hr.mono (by decide)) hgd rfl pass_0 (pma_cons (pm_var 3) pma_nil)) (pma_cons (pm_and (pm_isi K rfl T.m_isinstance (.ty "str") T.iT_str (pm_var 3) (pe_tyN rfl T.m_str (by decide +kernel))) (pm_one (pm_cmpK (op_inA K hr.units) (od_inA (K:=K) false) (pm_var 3) (pm_lst (pma_cons pm_str (pma_cons pm_str (pma_cons pm_str (pma_cons pm_str pma_nil))))) (by rfl)))) pma_nil)))))
   (ss_cons (sm_asg 6 nd (pm_cbK (cr_reprA K hr hgd) (cd_reprA (K:=K)) (by rfl) T.m_repr (by decide +kernel) (pma_cons (pm_var 3) pma_nil)))
   (ss_one (sm_for [true,true,true,true,false,true,true,false] PassesOwn.never rfl (mi_rng1 rfl T.m_range (pma_cons pm_int pma_nil)) (pg_nm 4 nd) (ss_cons (sm_asg 7 nd (pm_lst (pma_cons (pm_callK C_is_integer (hr.mono (by decide)) hgd rfl pass_0 (pma_cons (pm_var 3) pma_nil)) (pma_cons (pm_callK C_is_name (hr.mono (by decide)) hgd rfl pass_0 (pma_cons (pm_var 3) pma_nil)) (pma_cons (pm_callK C_is_step (hr.mono (by decide)) hgd rfl pass_0 (pma_cons (pm_var 3) pma_nil)) (pma_cons (pm_callK C_is_deed (hr.mono (by decide)) hgd rfl pass_0 (pma_cons (pm_var 3) pma_nil)) (pma_cons (pm_callK C_is_call (hr.mono (by decide)) hgd rfl pass_0 (pma_cons (pm_var 3) pma_nil)) pma_nil)))))))
   (ss_one (sm_if (PMW.t (w_or (pt_no (pt_of (pm_callK C__law_alike (hr.mono (by decide)) hgd rfl pass_0 (pma_cons (pm_addK K (pm_var 7) (pm_lst (pma_cons (pm_callK C_is_line (hr.mono (by decide)) hgd rfl pass_0 (pma_cons (pm_var 3) pma_nil)) (pma_cons (pm_callK C_is_word (hr.mono (by decide)) hgd rfl pass_0 (pma_cons (pm_var 3) pma_nil)) pma_nil)))) (pma_cons (pm_var 5) pma_nil))))) (w_or1 (pt_cmpK (op_neK K hr.units) (od_ne (K:=K)) (pm_cbK (cr_reprA K hr hgd) (cd_reprA (K:=K)) (by rfl) T.m_repr (by decide +kernel) (pma_cons (pm_var 3) pma_nil)) (pm_var 6) (nomark _))))) (ss_one (sm_ret pm_bl)) ss_nil)))))))))))
   (ss_one (sm_ret pm_bl)))))
end
end
end K11
set_option maxHeartbeats 8000000
noncomputable section
namespace K11
open PySem PySem.Spec PyProof.Rows L2 DL
local macro_rules | `(tactic| walk_at "isi") => `(tactic| first
 | (with_reducible refine isE_dat rfl ?_)|(with_reducible refine isE_eo (by decide) ?_)|(with_reducible refine is_non_int ?_)|(with_reducible refine is_non_bool ?_)|(with_reducible refine is_non_str ?_)|(with_reducible refine is_non_tuple ?_)|(with_reducible refine is_non_list ?_)|(with_reducible refine is_non_dict ?_)|(with_reducible refine is2_non_list_tuple ?_)|(with_reducible refine isC_non ?_)|(with_reducible refine is_bl_int ?_)|(with_reducible refine is_bl_bool ?_)|(with_reducible refine is_bl_str ?_)|(with_reducible refine is_bl_tuple ?_)|(with_reducible refine is_bl_list ?_)|(with_reducible refine is_bl_dict ?_)|(with_reducible refine is2_bl_list_tuple ?_)|(with_reducible refine isC_bl ?_)|(with_reducible refine is_int_int ?_)|(with_reducible refine is_int_bool ?_)|(with_reducible refine is_int_str ?_)|(with_reducible refine is_int_tuple ?_)|(with_reducible refine is_int_list ?_)|(with_reducible refine is_int_dict ?_)|(with_reducible refine is2_int_list_tuple ?_)|(with_reducible refine isC_int ?_)|(with_reducible refine is_str_int ?_)|(with_reducible refine is_str_bool ?_)|(with_reducible refine is_str_str ?_)|(with_reducible refine is_str_tuple ?_)|(with_reducible refine is_str_list ?_)|(with_reducible refine is_str_dict ?_)|(with_reducible refine is2_str_list_tuple ?_)|(with_reducible refine isC_str ?_)|(with_reducible refine is_tup_int ?_)|(with_reducible refine is_tup_bool ?_)|(with_reducible refine is_tup_str ?_)|(with_reducible refine is_tup_tuple ?_)|(with_reducible refine is_tup_list ?_)|(with_reducible refine is_tup_dict ?_)|(with_reducible refine is2_tup_list_tuple ?_)|(with_reducible refine isC_tup ?_)|(with_reducible refine is_lst_int ?_)|(with_reducible refine is_lst_bool ?_)|(with_reducible refine is_lst_str ?_)|(with_reducible refine is_lst_tuple ?_)|(with_reducible refine is_lst_list ?_)|(with_reducible refine is_lst_dict ?_)|(with_reducible refine is2_lst_list_tuple ?_)|(with_reducible refine isC_lst ?_)|(with_reducible refine is_fro_int ?_)|(with_reducible refine is_fro_bool ?_)|(with_reducible refine is_fro_str ?_)|(with_reducible refine is_fro_tuple ?_)|(with_reducible refine is_fro_list ?_)|(with_reducible refine is_fro_dict ?_)|(with_reducible refine is2_fro_list_tuple ?_)|(with_reducible refine isC_fro ?_)|(with_reducible refine is_dct_int ?_)|(with_reducible refine is_dct_bool ?_)|(with_reducible refine is_dct_str ?_)|(with_reducible refine is_dct_tuple ?_)|(with_reducible refine is_dct_list ?_)|(with_reducible refine is_dct_dict ?_)|(with_reducible refine is2_dct_list_tuple ?_)|(with_reducible refine isC_dct ?_)|(with_reducible refine isC_own ?_)
 | (with_reducible refine is2_ins (by simp) ?_)|(with_reducible refine is_ins_int (by simp) ?_)|(with_reducible refine is_ins_bool (by simp) ?_)|(with_reducible refine is_ins_str (by simp) ?_)|(with_reducible refine is_ins_tuple (by simp) ?_)|(with_reducible refine is_ins_list (by simp) ?_)|(with_reducible refine is_ins_dict (by simp) ?_)|fail "isi")
local macro_rules | `(tactic| walk_at "tk") => `(tactic| first | exact List.take_length | exact take_cons | exact take_consA | exact mem_take | exact take_len | fail "tk")
local macro_rules | `(tactic| walk_at "al") => `(tactic| first | exact allDat_mapf _ _ | exact allDat_map _ | (repeat (first | exact al_nil | apply al_cons)))
local macro_rules | `(tactic| walk_at "set") => `(tactic| (simp only [List.set_cons_succ, List.set_cons_zero]; exact rfl))
local macro_rules | `(tactic| walk_at "sxS") => `(tactic| first | (with_reducible refine set_now (by walk_at "set") ?_) | (with_reducible refine s_seq ?_) | (with_reducible refine s_asg ?_) | (with_reducible refine s_ret ?_) | (with_reducible refine s_if ?_) | (with_reducible refine s_drop ?_) | (with_reducible refine s_next ?_) | (with_reducible refine s_new ?_) | (with_reducible refine s_for ?_) | (with_reducible refine s_tgt ?_) | (with_reducible refine s_par ?_) | (with_reducible refine s_disp ?_) | (with_reducible refine s_wh ?_) | (with_reducible refine s_fld ?_) | (with_reducible refine s_set ?_) | (with_reducible refine s_aug rfl ?_) | (with_reducible refine s_par2 ?_) | (with_reducible refine s_raiseK ?_) | (with_reducible refine s_raise0 ?_) | (with_reducible refine s_tryE ?_) | (with_reducible refine s_try ?_) | (with_reducible refine s_dput ?_) | (with_reducible refine s_tput ?_) | (with_reducible refine s_par3 ?_) | (with_reducible refine s_swp ?_) | (with_reducible refine r_dat ?_) | (with_reducible refine r_loc ?_) | (with_reducible refine s_bld ?_) | (with_reducible refine s_bseq ?_) | (with_reducible refine s_pub ?_) | (with_reducible refine s_tgtM ?_) | (with_reducible refine s_daug ?_) | (with_reducible refine s_fldaug ?_) | fail "sxS")
local macro_rules | `(tactic| walk_at "sxV") => `(tactic| first | (with_reducible refine v_var rfl ?_) | (with_reducible refine v_D ?_) | (with_reducible refine x_fz ?_) | (with_reducible refine x_xof ?_) | (with_reducible refine x_xcall ?_) | (with_reducible refine x_xmeth ?_) | (with_reducible refine x_xmake ?_) | fail "sxV")
local macro_rules | `(tactic| walk_at "sxA") => `(tactic| first | (with_reducible refine a_consK ?_) | (with_reducible refine a_nilK ?_) | (with_reducible refine n_consK ?_) | (with_reducible refine n_nilK ?_) | (with_reducible refine a_starK ?_) | (with_reducible refine xa_nilK ?_) | (with_reducible refine xa_consK ?_) | fail "sxA")
local macro_rules | `(tactic| walk_at "sxT") => `(tactic| first | (with_reducible refine t_B ?_) | (with_reducible refine t_not ?_) | (with_reducible refine t_and ?_) | (with_reducible refine t_or ?_) | (with_reducible refine t_yes ?_) | fail "sxT")
local macro_rules | `(tactic| walk_at "sxO") => `(tactic| first | (with_reducible refine o_noneK ?_) | (with_reducible refine o_someK ?_) | fail "sxO")
local macro_rules | `(tactic| walk_at "sxP") => `(tactic| first | (with_reducible refine p_nilK ?_) | (with_reducible refine p_consK ?_) | fail "sxP")
local macro_rules | `(tactic| walk_at "sxI") => `(tactic| first | (with_reducible refine i_seq ?_) | (with_reducible refine i_keysT ?_) | (with_reducible refine i_itemsT ?_) | (with_reducible refine i_keysK ?_) | (with_reducible refine i_itemsK ?_) | (with_reducible refine i_vals ?_) | (with_reducible refine i_dwn ?_) | (with_reducible refine i_enum ?_) | (with_reducible refine i_enumL ?_) | (with_reducible refine i_rng ?_) | (with_reducible refine i_rng2 ?_) | (with_reducible refine i_keysL ?_) | (with_reducible refine i_itemsL ?_) | fail "sxI")
local macro_rules | `(tactic| walk_at "sxF") => `(tactic| first | (with_reducible refine z_dat ?_) | (with_reducible refine z_loc ?_) | (with_reducible refine z_ofD ?_) | (with_reducible refine z_nlm ?_) | (with_reducible refine z_nlf ?_) | (with_reducible refine z_nlc ?_) | (with_reducible refine z_nl (by walk_at "al") ?_) | fail "sxF")
local macro_rules | `(tactic| walk_at "sxC") => `(tactic| first | (with_reducible refine if_T ?_) | (with_reducible refine if_F ?_) | (with_reducible refine if_bT (by decide +kernel) ?_) | (with_reducible refine if_bF (by decide +kernel) ?_) | (with_reducible refine if_bT (by with_unfolding_all exact rfl) ?_) | (with_reducible refine if_bF (by with_unfolding_all exact rfl) ?_) | fail "sxC")
local macro_rules | `(tactic| walk_at "sxD") => `(tactic| first | (with_reducible refine l_addI ?_) | (with_reducible refine l_sub ?_) | (with_reducible refine l_neg ?_) | (with_reducible refine l_eqI ?_) | (with_reducible refine l_neI ?_) | (with_reducible refine l_eqS ?_) | (with_reducible refine l_neS ?_) | (with_reducible refine l_lt ?_) | (with_reducible refine l_le ?_) | (with_reducible refine l_gt ?_) | (with_reducible refine l_ge ?_) | (with_reducible refine l_ixT rfl ?_) | (with_reducible refine l_ixL rfl ?_) | (with_reducible refine l_slT ?_) | (with_reducible refine l_slL ?_) | (with_reducible refine l_lenT ?_) | (with_reducible refine l_lenL ?_) | (with_reducible refine l_int ?_) | (with_reducible refine l_intB ?_) | (with_reducible refine l_listT ?_) | (with_reducible refine l_listL ?_) | (with_reducible refine l_tupL ?_) | (with_reducible refine l_tupT ?_) | (with_reducible refine l_inT ?_) | (with_reducible refine l_ninT ?_) | (with_reducible refine l_inL ?_) | (with_reducible refine l_ninL ?_) | (with_reducible refine l_mm ?_) | (with_reducible refine w_ix ?_; first | (with_reducible refine l_ixT rfl ?_) | (with_reducible refine l_ixL rfl ?_) | (with_reducible refine l_ix0T ?_) | (with_reducible refine l_ix0L ?_)) | (with_reducible refine w_in ?_; first | (with_reducible refine l_inT ?_) | (with_reducible refine l_ninT ?_) | (with_reducible refine l_inL ?_) | (with_reducible refine l_ninL ?_)) | (with_reducible refine w_eq ?_; first | (with_reducible refine l_eqI ?_) | (with_reducible refine l_eqS ?_)) | (with_reducible refine w_eqC (w_eq ?_); first | (with_reducible refine l_eqI ?_) | (with_reducible refine l_eqS ?_)) | (with_reducible refine w_len ?_; first | (with_reducible refine l_lenT ?_) | (with_reducible refine l_lenL ?_)) | (with_reducible refine w_list ?_; first | (with_reducible refine l_listT ?_) | (with_reducible refine l_listL ?_)) | (walk_at "isi") | fail "sxD")
local macro_rules | `(tactic| walk_at "sxR") => `(tactic| first | (with_reducible refine x_op ?_) | (with_reducible refine x_cb ?_) | (with_reducible refine x_varD rfl ?_) | (with_reducible refine x_varL rfl ?_) | (with_reducible refine x_D ?_) | (with_reducible refine x_if ?_) | (with_reducible refine x_tup ?_) | (with_reducible refine x_lst ?_) | (with_reducible refine x_bm ?_) | (with_reducible refine x_bm0 ?_) | (with_reducible refine x_sl ?_) | (with_reducible refine x_and ?_) | (with_reducible refine x_or ?_) | (with_reducible refine x_not ?_) | (with_reducible refine x_un ?_) | (with_reducible refine x_isN ?_) | (with_reducible refine x_notN ?_) | (with_reducible refine x_chain ?_) | (with_reducible refine x_inK ?_) | (with_reducible refine x_lc ?_) | (with_reducible refine x_fldK ?_) | (with_reducible refine x_meth ?_) | (with_reducible refine x_make ?_) | (with_reducible refine x_lenO ?_) | (with_reducible refine x_eqO ?_) | (with_reducible refine x_inO ?_) | (with_reducible refine x_kget ?_) | (with_reducible refine x_lk ?_) | (with_reducible refine x_disK ?_) | (with_reducible refine x_dnew ?_) | (with_reducible refine x_dget1 ?_) | (with_reducible refine x_tget ?_) | (with_reducible refine x_tin ?_) | (with_reducible refine x_disT ?_) | (with_reducible refine x_dc ?_) | (with_reducible refine x_lc2 ?_) | (with_reducible refine x_disU ?_) | (with_reducible refine x_neO ?_) | (with_reducible refine x_cbT ?_) | (with_reducible refine x_listRng ?_) | (with_reducible refine x_isE rfl rfl ?_) | (with_reducible refine x_isE0 rfl rfl ?_) | (with_reducible refine l_eq1 ?_) | (with_reducible refine x_xf rfl rfl ?_) | (walk_at "sxD") | (with_reducible refine x_dpop1 ?_) | (with_reducible refine x_dpop2 ?_) | (with_reducible refine x_dictZip ?_) | fail "sxR")
local macro_rules | `(tactic| walk_at "sxE") => `(tactic| first | (with_reducible refine e_dat (by walk_at "tk") ?_) | (with_reducible refine e_ofD (by walk_at "tk") ?_) | (with_reducible refine e_nlf (by walk_at "tk") ?_) | (with_reducible refine e_nlm (by walk_at "tk") ?_) | (with_reducible refine e_nl (by walk_at "tk") (by with_unfolding_all exact rfl) ?_) | fail "sxE")
local macro_rules | `(tactic| walk_at "sxX") => `(tactic| first | (with_reducible refine gBlK ?_; first | (with_reducible refine b_bl ?_) | (with_reducible refine b_ofD ?_)) | (with_reducible refine p_dat ?_) | (with_reducible refine p_loc ?_) | (with_reducible refine ik ?_) | (with_reducible refine stk ?_) | (with_reducible refine sk_l ?_) | (with_reducible refine sk_t ?_) | (with_reducible refine sk_f ?_) | (with_reducible refine pk ?_) | (with_reducible refine gTgt' ?_; with_reducible refine gk rfl ?_) | (with_reducible refine gTup ?_; with_reducible refine tk (by walk_at "al") (sz_lit rfl) ?_) | (with_reducible refine gFld' ?_; with_reducible refine fk1 (by simp) ?_) | (with_reducible refine gNxt ?_; with_reducible refine e_nx (by walk_at "tk") ?_) | (with_reducible refine dkk ?_)   | (with_reducible refine gAnd ?_; first | (with_reducible refine And.intro (sz_lit rfl) ?_) | (with_reducible refine And.intro (isDct_dat (by assumption)) ?_) | (with_reducible refine And.intro ty_l ?_) | (with_reducible refine And.intro ty_s ?_) | (with_reducible refine And.intro (isI_one (by decide)) ?_) | (with_reducible refine And.intro (tyL_loc mem_here) ?_))   | (with_reducible refine gBind ?_; first | (with_reducible refine bk_dat ?_) | (with_reducible refine bk_loc ?_) | (with_reducible refine bk_nlF (by walk_at "al") ?_)) | fail "sxX")
local macro_rules | `(tactic| walk_at "sxB") => `(tactic| first | (with_reducible refine b_seqK ?_) | (with_reducible refine b_nilK ?_) | (with_reducible refine b_fldK ?_) | fail "sxB")
local macro_rules | `(tactic| walk_at "sxH") => `(tactic| first | (with_reducible refine h_nilK ?_) | (with_reducible refine h_consK ?_) | (with_reducible refine h_nameK ?_) | (with_reducible refine h_fldK ?_) | (with_reducible refine h_dputK ?_) | fail "sxH")
local macro_rules | `(tactic| walk_at "sx1") => `(tactic| first | (with_reducible refine gS ?_; walk_at "sxS") | (with_reducible refine gV ?_; walk_at "sxV") | (with_reducible refine gR ?_; walk_at "sxR") | (with_reducible refine gA ?_; walk_at "sxA") | (with_reducible refine gT ?_; walk_at "sxT") | (with_reducible refine gF ?_; walk_at "sxF") | (with_reducible refine gC ?_; walk_at "sxC") | (with_reducible refine gRt ?_; walk_at "sxE") | (with_reducible refine gO ?_; walk_at "sxO") | (with_reducible refine gI ?_; walk_at "sxI") | (with_reducible refine gP ?_; walk_at "sxP") | (with_reducible refine gBb ?_; walk_at "sxB") | (with_reducible refine gHh ?_; walk_at "sxH") | (walk_at "sxX") | fail "sx")
local macro_rules | `(tactic| walk_at "sx") => `(tactic| repeat' (walk_at "sx1"))
local macro_rules | `(tactic| walk_at "sxs") => `(tactic| repeat' (first | (walk_at "sx1") | (with_reducible refine if_dec (fun _ => ?_) (fun _ => ?_)) | (with_reducible refine if_ndec (fun _ => ?_) (fun _ => ?_)) | fail "sxs"))
--SXMACE
section
variable {QR:R→Mem→Prop}{E:Xc→Mem→Prop}{μ ν:Mem}{B:Bg}{i n:Int}{b:Bool}
theorem take_s {m:Int}(hB:B.ok)(hm:0<m)(hm':m<1073741824)(h:∀ (r:Nat) (B':Bg),B'.ok→(r:Int)<m→QR (.dat (.int r)) (B'.pl::ν)):Sat (F__law_take [.loc 0,.dat (.int m)] (B.pl::ν)) QR E:=by
 rw[e__law_take];exact d_take hB hm hm' h
theorem one_s {ds:List D}(hB:B.ok)(h0:0<ds.length)(hs:ds.length<1073741824)(h:∀ (d:D) (B':Bg),B'.ok→d∈ds→QR (.dat d) (B'.pl::ν)):Sat (F__law_one [.loc 0,.dat (.lst ds)] (B.pl::ν)) QR E:=by
 rw[e__law_one];exact d_one hB h0 hs h
theorem mixed_s {ds:List D}{k w:Nat}(hk:k<64)(hB:B.ok)(hs:ds.length<100000)(hd:∀ d∈ds,∃ p,toPy d=some p∧Fit k w p)(h:∀ (ys:List D) (B':Bg),B'.ok→ys.Perm ds→QR (.nl (ys.map DV.dat)) (B'.pl::ν)):Sat (F__law_mixed [.loc 0,.dat (.lst ds)] (B.pl::ν)) QR E:=by
 rw[e__law_mixed];exact d_mixed hk hB hs hd h
theorem names_s {m:Nat}(hB:B.ok)(hm:m≤5)(h:∀ (ss:List Str) (B':Bg),B'.ok→ss.length=m→ss.Nodup→(∀ s∈ss,s∈menu)→QR (.nl (ss.map fun s=>.dat (.str s))) (B'.pl::ν)):Sat (F__law_names [.loc 0,.dat (.int m)] (B.pl::ν)) QR E:=by
 refine w__law_names ?_
 unfold g__law_names
 walk_at "sx"
 refine l_split ⟨by decide,by decide⟩ ?_
 rw[split_menu]
 walk_at "sx"
 refine take_s hB (by decide) (by decide) fun r B1 hB1 hr=>?_
 walk_at "sx"
 refine l_addL (by simp[menu];decide) ?_
 walk_at "sx"
 have hr':r<10:=by omega
 obtain⟨n1,n2⟩:=menu_cut ⟨r,hr'⟩ ⟨m,by omega⟩
 rw[←List.map_append,cutL_map,show((r:Int)+m)=((r+m:Nat):Int) by push_cast;rfl,cut_at2 _ r (r+m) (by omega) (by simp[menu];omega),Nat.add_sub_cancel_left]
 refine mixed_s (k:=0) (w:=16) (by decide) hB1 (by rw[List.length_map];simp only[n2];omega) (fun d hd=>?_) fun ys B2 hB2 hp=>?_
 ·obtain⟨s,hs,rfl⟩:=List.mem_map.mp hd
  have:=menu_fit s (menu_mem (List.mem_of_mem_drop (List.mem_of_mem_take hs)))
  exact⟨_,rfl,fit_str this.1 this.2⟩
 ·obtain⟨ss,rfl,hp2⟩:=perm_map hp
  rw[List.map_map]
  refine e_nlf (List.take_of_length_le (by simp)) ?_
  exact h ss B2 hB2 (by rw[hp2.length_eq];exact n2) (hp2.nodup_iff.mpr n1) fun s hs=>menu_mem (List.mem_of_mem_drop (List.mem_of_mem_take (hp2.mem_iff.mp hs)))
theorem step_s {ss:List Str}(hB:B.ok)(h0:0<ss.length)(hs:ss.length<1000)(hm:∀ s∈ss,s∈menu)(h:∀ (x:Sp1) (B':Bg),B'.ok→StOk b ss x→QR (.dat (stD x)) (B'.pl::ν)):Sat (F__law_step [.loc 0,.dat (.lst (ss.map D.str)),.dat (.bl b)] (B.pl::ν)) QR E:=by
 refine w__law_step ?_
 unfold g__law_step
 walk_at "sx"
 have fin2:∀ (w:Str) (x3:D) (B1:Bg),B1.ok→w∈(if b=true then louds else louds++quiets)→SatS (gSeq (gAsg 5 (eCB F__law_one (aCons (eVar 0) (aCons (eVar 1) aNil))))
  (gSeq (gIf (tmB (eOp (dInA true) (eVar 4) (eTup (aCons (eD (.str "share")) (aCons (eD (.str "hold")) aNil))))) (gRet (eTup (aCons (eVar 4) (aCons (eVar 5) aNil)))) gNext)
  (gSeq (gAsg 6 (eLc (imSeq (eVar 1)) (tgName 7) (tmB (eOp dNe (eVar 7) (eVar 5))) (eVar 7) [7]))
  (gRet (eIf (tmB (eOp dNe (eVar 6) (eLst aNil))) (eTup (aCons (eVar 4) (aCons (eVar 5) (aCons (eCB F__law_one (aCons (eVar 0) (aCons (eVar 6) aNil))) aNil)))) (eTup (aCons (eD (.str "end")) (aCons (eVar 5) aNil)))))))
   (B.pl::ν).length [some (.loc 0),some (.dat (.lst (ss.map D.str))),some (.dat (.bl b)),some (.dat x3),some (.dat (.str w)),none,none,none] (B1.pl::ν)) (endP (B.pl::ν).length QR E):=by
  intro w x3 B1 hB1 hw
  walk_at "sx"
  refine one_s hB1 (by simpa using h0) (by simp;omega) fun d B2 hB2 hd=>?_
  obtain⟨a,ha,rfl⟩:=List.mem_map.mp hd
  walk_at "sx"
  refine w_in ?_
  rw[show([D.str "share",D.str "hold"]:List D)=(["share","hold"]:List Str).map D.str from rfl]
  walk_at "sx"
  refine if_ndec (fun e=>?_) (fun e=>?_)
  ·walk_at "sx"
   refine h (w,[a]) B2 hB2 ⟨hw,fun z=>?_,fun _=>⟨a,rfl,ha⟩⟩
   exact absurd (show w∈(["share","hold"]:List Str) by simpa [two] using z) e
  ·have tw:two w=true:=by simpa [two] using e
   walk_at "sx"
   refine And.intro (sl_sz (by simp;omega)) ?_
   refine lc_filK (fun s=>!decide (s=a)) D.str (fun s hs=>⟨_,rfl,?_,fun _=>?_⟩) ?_
   ·walk_at "sx"
    exact⟨rfl,rfl⟩
   ·walk_at "sx"
    exact⟨rfl,rfl⟩
   ·walk_at "sx"
    have hne:∀ t∈ss.filter (fun s=>!decide (s=a)),t∈ss∧t≠a:=fun t ht=>by
     obtain⟨h1,h2⟩:=List.mem_filter.mp ht
     exact⟨h1,by simpa using h2⟩
    refine ne_nilL (k:=0) (w:=16) (by decide) (fun d hd=>?_) ?_
    ·obtain⟨t,ht,rfl⟩:=List.mem_map.mp hd
     have:=menu_fit t (hm t (hne t ht).1)
     exact⟨_,rfl,fit_str this.1 this.2⟩
    cases eo:ss.filter (fun s=>!decide (s=a)) with
    | nil =>
     walk_at "sx"
     have he:("end":Str)∈(if b=true then louds else louds++quiets):=by cases b <;> decide
     exact h ("end",[a]) B2 hB2 ⟨he,fun z=>absurd z (show ¬two "end"=true by decide),fun _=>⟨a,rfl,ha⟩⟩
    | cons t ts =>
     walk_at "sx"
     refine one_s hB2 (by simp) (by
      have:=List.length_filter_le (fun s=>!decide (s=a)) ss
      rw[eo] at this
      simp at *;omega) fun d B3 hB3 hd=>?_
     obtain⟨c,hc,rfl⟩:=List.mem_map.mp hd
     have:=hne c (eo▸hc)
     walk_at "sx"
     exact h (w,[a,c]) B3 hB3 ⟨hw,fun _=>⟨a,c,rfl,fun z=>this.2 z.symm,ha,this.1⟩,fun z=>by rw[tw] at z;cases z⟩
 cases b with
 | true =>
  walk_at "sx"
  refine one_s hB (by simp) (by simp) fun d B1 hB1 hd=>?_
  obtain⟨w,hw,rfl⟩:=List.mem_map.mp (show d∈louds.map D.str from hd)
  refine z_dat ?_
  exact fin2 w _ B1 hB1 hw
 | false =>
  walk_at "sx"
  refine l_addL (by simp;decide) ?_
  walk_at "sx"
  refine one_s hB (by simp) (by simp) fun d B1 hB1 hd=>?_
  obtain⟨w,hw,rfl⟩:=List.mem_map.mp (show d∈(louds++quiets).map D.str from hd)
  refine z_dat ?_
  exact fin2 w _ B1 hB1 hw
theorem deed_s (hB:B.ok)(h:∀ (as os:List Str) (xs:List Sp1) (B':Bg),B'.ok→DeedOk b as os xs→QR (.dat (deedD as xs)) (B'.pl::ν)):Sat (F__law_deed [.loc 0,.dat (.bl b)] (B.pl::ν)) QR E:=by
 refine w__law_deed ?_
 unfold g__law_deed
 walk_at "sx"
 refine names_s (m:=5) hB (by decide) fun ss B1 hB1 hl hnd hm=>?_
 walk_at "sx"
 refine take_s hB1 (by decide) (by decide) fun r B2 hB2 hr=>?_
 walk_at "sx"
 refine take_s hB2 (by decide) (by decide) fun r' B3 hB3 hr'=>?_
 walk_at "sx"
 have hk:∃ k:Nat,k≤2∧atI ([.int 0,.int 0,.int 1,.int 2]:List D) (r':Int)=some (.int k):=by
  have h4:r'=0∨r'=1∨r'=2∨r'=3:=by omega
  rcases h4 with rfl|rfl|rfl|rfl
  ·exact⟨0,by decide,rfl⟩
  ·exact⟨0,by decide,rfl⟩
  ·exact⟨1,by decide,rfl⟩
  ·exact⟨2,by decide,rfl⟩
 obtain⟨k,hk2,ek⟩:=hk
 refine w_ix (l_ixL ek ?_)
 walk_at "sx"
 rw[cutL_map,cutL_map,show(1+(r:Int))=((1+r:Nat):Int) by push_cast;rfl,show(3+(k:Int))=((3+k:Nat):Int) by push_cast;rfl,cut_to]
 have e3:cutL ss (some 3) (some ((3+k:Nat):Int))=(ss.drop 3).take k:=by
  have:=cut_at2 ss 3 (3+k) (by omega) (by omega)
  rw[Nat.add_sub_cancel_left] at this
  exact this
 rw[e3]
 walk_at "sx"
 refine take_s hB3 (by decide) (by decide) fun j B4 hB4 hj=>?_
 walk_at "sx"
 have hn:∃ n:Nat,1≤n∧n≤8∧atI ([.int 1,.int 1,.int 2,.int 3,.int 4,.int 8]:List D) (j:Int)=some (.int n):=by
  have h4:j=0∨j=1∨j=2∨j=3∨j=4∨j=5:=by omega
  rcases h4 with rfl|rfl|rfl|rfl|rfl|rfl
  ·exact⟨1,by decide,by decide,rfl⟩
  ·exact⟨1,by decide,by decide,rfl⟩
  ·exact⟨2,by decide,by decide,rfl⟩
  ·exact⟨3,by decide,by decide,rfl⟩
  ·exact⟨4,by decide,by decide,rfl⟩
  ·exact⟨8,by decide,by decide,rfl⟩
 obtain⟨n,hn1,hn8,en⟩:=hn
 refine w_ix (l_ixL en ?_)
 walk_at "sx"
 refine And.intro ⟨by omega,by omega⟩ (And.intro (sl_sz (by rw[rng_len];omega)) ?_)
 rw[Int.toNat_natCast]
 have nd:(ss.take (1+r)++(ss.drop 3).take k).Nodup:=by
  have h1:(ss.take (1+r)++(ss.drop 3).take k).Sublist (ss.take 3++ss.drop 3):=by
   refine List.Sublist.append ?_ (List.take_sublist _ _)
   have:ss.take (1+r)=(ss.take 3).take (1+r):=by rw[List.take_take];congr 1;omega
   rw[this];exact List.take_sublist _ _
  rw[List.take_append_drop] at h1
  exact h1.nodup hnd
 have hmm:∀ s∈ss.take (1+r)++(ss.drop 3).take k,s∈menu:=fun s hs=>by
  rcases List.mem_append.mp hs with h1|h1
  ·exact hm s (List.mem_of_mem_take h1)
  ·exact hm s (List.mem_of_mem_drop (List.mem_of_mem_take h1))
 have l1:(ss.take (1+r)).length=1+r:=by rw[List.length_take];omega
 have l2:((ss.drop 3).take k).length≤2:=by rw[List.length_take];omega
 refine lc_ix (fun i ys μ=>∃ (xs:List Sp1) (B':Bg),B'.ok∧μ=B'.pl::ν∧xs.length=i∧(∀ x∈xs,StOk b (ss.take (1+r)++(ss.drop 3).take k) x)∧ys=xs.map fun x=>.dat (stD x)) ⟨[],B4,hB4,rfl,rfl,(fun _ h=>by cases h),rfl⟩ (fun i d hd ys μ hI=>?_) fun ys μ hI=>?_
 ·obtain⟨xs,B',hB',rfl,hl',hst,rfl⟩:=hI
  refine⟨_,rfl,?_⟩
  walk_at "sx"
  refine l_addL (sl_sz2 (by simp;omega)) ?_
  rw[←List.map_append]
  walk_at "sx"
  refine step_s hB' (by rw[List.length_append,l1];omega) (by rw[List.length_append,l1];omega) hmm fun x B5 hB5 hx=>?_
  walk_at "sx"
  exact⟨xs++[x],B5,hB5,rfl,by simp[hl'],fun z hz=>(List.mem_append.mp hz).elim (hst z) fun q=>by simp at q;rw[q];exact hx,by simp⟩
 ·obtain⟨xs,B',hB',rfl,hl',hst,rfl⟩:=hI
  rw[rng_len] at hl'
  walk_at "sx"
  exact h (ss.take (1+r)) ((ss.drop 3).take k) xs B' hB' ⟨nd,hmm,by omega,by omega,l2,by omega,by omega,hst⟩
end
--SXMACE
section
variable {QR:R→Mem→Prop}{E:Xc→Mem→Prop}{μ ν:Mem}{B:Bg}{P:PO}{N:Nat}{s:Str}{ss as os:List Str}{xs:List Sp1}{x:Sp1}{sd:Sd}{d:Dd}{n:Str}
theorem name_s (hs:nameB s=true)(h:QR (.dat (.bl true)) μ):Sat (F_is_name [.dat (.str s)] μ) QR E:=by
 unfold nameB at hs
 rw[Bool.and_eq_true,decide_eq_true_eq] at hs
 obtain⟨⟨h1,h8⟩,hl⟩:=hs
 refine w_is_name ?_
 unfold g_is_name
 walk_at "sx"
 refine w_len (l_lenS (sz_lit' (by omega)) ?_)
 walk_at "sx"
 refine if_bT (by simp;omega) ?_
 walk_at "sx"
 refine if_bF (by simp;omega) ?_
 walk_at "sx"
 refine i_str ?_
 walk_at "sx"
 refine⟨s,rfl,?_⟩
 have e:DL.signs s=s.cps.toList.map fun c=>D.str ⟨#[c]⟩:=rfl
 have hlen:s.length=s.cps.toList.length:=by rw[Array.length_toList];rfl
 rw[e]
 refine⟨sl_sz (by rw[List.length_map];omega),lc_mapK (fun c=>.bl (decide (c∈letters.cps.toList))) (fun c hc=>⟨_,rfl,?_⟩) ?_⟩
 ·walk_at "sx"
  refine l_sgn ?_
  walk_at "sx"
  exact⟨rfl,rfl⟩
 ·walk_at "sx"
  refine l_all (f:=fun c=>decide (c∈letters.cps.toList)) ?_
  walk_at "sx"
  rw[show(s.cps.toList.map fun c=>decide (c∈letters.cps.toList)).all id=true by rw[List.all_map];exact hl]
  exact h
theorem names_ok {m:Nat}(hn:ss.Nodup)(h1:1≤ss.length)(hm:ss.length≤m)(hm9:m≤9)(hs:∀ s∈ss,nameB s=true)(h:QR (.dat (.bl true)) μ):Sat (F_are_names [.dat (.tup (ss.map D.str)),.dat (.int m)] μ) QR E:=by
 refine w_are_names ?_
 unfold g_are_names
 walk_at "sx"
 refine if_bT (by simp;omega) ?_
 walk_at "sx"
 refine if_bF (by simp;omega) ?_
 walk_at "sx"
 refine⟨sl_sz (by simp;omega),lc_mapK (fun _=>.bl true) (fun s hm'=>⟨_,rfl,?_⟩) ?_⟩
 ·walk_at "sx"
  refine name_s (hs s hm') ?_
  walk_at "sx"
  exact⟨rfl,rfl⟩
 ·walk_at "sx"
  refine l_all (f:=fun _=>true) ?_
  walk_at "sx"
  rw[show(ss.map fun _=>true).all id=true by simp]
  walk_at "sx"
  refine x_lenset ?_
  walk_at "sx"
  refine⟨(ss.map D.str).map DV.dat,ss,rfl,by rw[List.map_map];exact asStrs_map ss,Nat.lt_of_le_of_lt (show ss.length+1≤10 by omega) (by decide),?_⟩
  walk_at "sx"
  have e:(sortU ss).length=ss.length:=nodup_len (sortU_nodup ss) hn fun z=>sortU_mem z ss
  rw[List.length_map,e]
  rw[show decide ((ss.length:Int)=ss.length)=true by simp]
  exact h
def ownV (ks:List Str):List (Ky×DV):=ks.map fun s=>(.k (.inr s),.dat (.bl true))
theorem ownV_all (ks:List Str):allK (ownV ks)=true:=by unfold allK ownV;rw[List.all_map];simp[Ky.isK]
theorem key_s (s:Str):keyD (.dat (.str s))=some (.inr s):=rfl
theorem nodup_sub {l m:List Str}(h:l.Nodup)(hs:∀ x∈l,x∈m):l.length≤m.length:=by
 induction l generalizing m with
 | nil=>exact Nat.zero_le _
 | cons x l ih =>
  obtain⟨n1,n2⟩:=List.nodup_cons.mp h
  have hx:x∈m:=hs x List.mem_cons_self
  have:=ih (m:=m.erase x) n2 fun y hy=>(List.mem_erase_of_ne (fun e:y=x=>n1 (e▸hy))).mpr (hs y (List.mem_cons_of_mem _ hy))
  have e:=List.length_erase_of_mem hx
  have hp:0<m.length:=List.length_pos_of_mem hx
  rw[List.length_cons];omega
end
--SXMACE
section
variable {QR:R→Mem→Prop}{E:Xc→Mem→Prop}{μ ν:Mem}{P:PO}{N:Nat}{s:Str}{ss:List Str}{d:D}{ds:List D}{sd:Sd}
theorem tup_i (hd:KdB d=true) (h:QR (.dat (.bl (isTupD d))) μ):Sat (dIsi (tabT "tuple" []) (.dat d) μ) QR E:=by
 rcases kb_cases hd with rfl|⟨b,rfl⟩|⟨b,rfl⟩|⟨b,rfl⟩|⟨b,rfl⟩|⟨b,rfl⟩|⟨b,rfl⟩ <;> (walk_at "isi";exact h)
theorem str_i (hd:KdB d=true) (h:QR (.dat (.bl (isStrD d))) μ):Sat (dIsi (tabT "str" []) (.dat d) μ) QR E:=by
 rcases kb_cases hd with rfl|⟨b,rfl⟩|⟨b,rfl⟩|⟨b,rfl⟩|⟨b,rfl⟩|⟨b,rfl⟩|⟨b,rfl⟩ <;> (walk_at "isi";exact h)
theorem nname_s (hl:s.length≤1000)(hs:nameB s=false)(h:QR (.dat (.bl false)) μ):Sat (F_is_name [.dat (.str s)] μ) QR E:=by
 refine w_is_name ?_
 unfold g_is_name
 walk_at "sx"
 refine w_len (l_lenS (sz_lit' (by omega)) ?_)
 walk_at "sx"
 by_cases h1:1≤s.length∧s.length≤8
 ·refine if_bT (by simp;omega) ?_
  walk_at "sx"
  refine if_bF (by simp;omega) ?_
  walk_at "sx"
  refine i_str ?_
  walk_at "sx"
  refine⟨s,rfl,?_⟩
  have e:DL.signs s=s.cps.toList.map fun c=>D.str ⟨#[c]⟩:=rfl
  have hlen:s.length=s.cps.toList.length:=by rw[Array.length_toList];rfl
  rw[e]
  refine⟨sl_sz (by rw[List.length_map];omega),lc_mapK (fun c=>.bl (decide (c∈letters.cps.toList))) (fun c hc=>⟨_,rfl,?_⟩) ?_⟩
  ·walk_at "sx"
   refine l_sgn ?_
   walk_at "sx"
   exact⟨rfl,rfl⟩
  ·walk_at "sx"
   refine l_all (f:=fun c=>decide (c∈letters.cps.toList)) ?_
   walk_at "sx"
   have hl:s.cps.toList.all (fun c=>decide (c∈letters.cps.toList))=false:=by
    unfold nameB at hs
    rw[decide_eq_true h1,Bool.true_and] at hs
    exact hs
   rw[show(s.cps.toList.map fun c=>decide (c∈letters.cps.toList)).all id=false by rw[List.all_map];exact hl]
   exact h
 ·by_cases h2:1≤s.length
  ·refine if_bT (by simp;omega) ?_
   walk_at "sx"
   refine if_bT (by simp;omega) ?_
   walk_at "sx"
   exact h
  ·refine if_bF (by simp;omega) ?_
   walk_at "sx"
   exact h
theorem aname_s (hd:Kv d)(h:QR (.dat (.bl (nameD d))) μ):Sat (F_is_name [.dat d] μ) QR E:=by
 rcases kb_cases hd.k with rfl|⟨b,rfl⟩|⟨b,rfl⟩|⟨b,rfl⟩|⟨b,rfl⟩|⟨b,rfl⟩|⟨b,rfl⟩
 case inr.inr.inr.inl =>
  cases e:nameB b with
  | true=>exact name_s e (by rw[show nameD (.str b)=true from e] at h;exact h)
  | false=>exact nname_s (hd.s b rfl) e (by rw[show nameD (.str b)=false from e] at h;exact h)
 all_goals
  refine w_is_name ?_
  unfold g_is_name
  walk_at "sx"
  exact h
theorem l_nsgn {c:Nat}{z:Str}(h:QR (.dat (.bl (!decide (c∈z.cps.toList)))) μ):Sat (dInA true (.dat (.str ⟨#[c]⟩)) (.dat (.str z)) μ) QR E:=by
 have e1:dIn true (.dat (.str ⟨#[c]⟩)) (.dat (.str z)) μ=.bad:=rfl
 have e2:dInD true (.dat (.str ⟨#[c]⟩)) (.dat (.str z)) μ=.bad:=rfl
 refine sat_altR e1 (sat_altR e2 ?_)
 show Sat (dSgn true (.dat (.str ⟨#[c]⟩)) (.dat (.str z)) μ) QR E
 have e:dSgn true (.dat (.str ⟨#[c]⟩)) (.dat (.str z)) μ=.ok (.dat (.bl (!decide (c∈z.cps.toList)))) μ:=by
  show Res.ok (R.dat (.bl (decide (c∈z.cps.toList) != true))) μ=_
  cases decide (c∈z.cps.toList) <;> rfl
 rw[e];exact h
theorem lower_str (hl:s.length≤1000)(h:QR (.dat (.bl (nameB s))) μ):Sat (F__law_lower [.dat (.str s)] μ) QR E:=by
 refine w__law_lower ?_
 unfold g__law_lower
 walk_at "sx"
 refine w_len (l_lenS (sz_lit' (by omega)) ?_)
 walk_at "sx"
 by_cases h1:1≤s.length∧s.length≤8
 ·refine if_bT (by simp;omega) ?_
  walk_at "sx"
  refine if_bF (by simp;omega) ?_
  walk_at "sx"
  refine i_str ?_
  walk_at "sx"
  refine⟨s,rfl,?_⟩
  have e:DL.signs s=s.cps.toList.map fun c=>D.str ⟨#[c]⟩:=rfl
  have hlen:s.length=s.cps.toList.length:=by rw[Array.length_toList];rfl
  rw[e]
  refine⟨sl_sz (by rw[List.length_map];omega),lc_filK (fun c=>!decide (c∈letters.cps.toList)) (fun c=>.str ⟨#[c]⟩) (fun c hc=>⟨_,rfl,?_,fun _=>?_⟩) ?_⟩
  ·walk_at "sx"
   refine l_nsgn ?_
   walk_at "sx"
   exact⟨rfl,rfl⟩
  ·walk_at "sx"
   exact⟨rfl,rfl⟩
  ·walk_at "sx"
   refine eqW_nil ?_
   walk_at "sx"
   have hb:nameB s=((s.cps.toList.filter fun c=>!decide (c∈letters.cps.toList)).map fun c=>D.str ⟨#[c]⟩).isEmpty:=by
    unfold nameB
    rw[decide_eq_true h1,Bool.true_and,List.isEmpty_map]
    rw[Bool.eq_iff_iff,List.all_eq_true,List.isEmpty_iff,List.filter_eq_nil_iff]
    constructor
    ·intro q c hc;rw[q c hc];simp
    ·intro q c hc;have:=q c hc;simpa using this
   rw[←hb]
   exact h
 ·have hb:nameB s=false:=by unfold nameB;rw[decide_eq_false h1];rfl
  rw[hb] at h
  by_cases h2:1≤s.length
  ·refine if_bT (by simp;omega) ?_
   walk_at "sx"
   refine if_bT (by simp;omega) ?_
   walk_at "sx"
   exact h
  ·refine if_bF (by simp;omega) ?_
   walk_at "sx"
   exact h
theorem lower_s (hd:Kv d)(h:QR (.dat (.bl (nameD d))) μ):Sat (F__law_lower [.dat d] μ) QR E:=by
 rcases kb_cases hd.k with rfl|⟨b,rfl⟩|⟨b,rfl⟩|⟨b,rfl⟩|⟨b,rfl⟩|⟨b,rfl⟩|⟨b,rfl⟩
 case inr.inr.inr.inl=>exact lower_str (hd.s b rfl) h
 all_goals
  refine w__law_lower ?_
  unfold g__law_lower
  walk_at "sx"
  exact h
theorem anames_s {m:Nat}(hm9:m≤9)(hd:Kt d)(h:QR (.dat (.bl (namesD m d))) μ):Sat (F_are_names [.dat d,.dat (.int m)] μ) QR E:=by
 rcases kb_cases hd.v.k with rfl|⟨b,rfl⟩|⟨b,rfl⟩|⟨b,rfl⟩|⟨ds,rfl⟩|⟨b,rfl⟩|⟨b,rfl⟩
 case inr.inr.inr.inr.inl =>
  have hl:=hd.l ds rfl
  have ht:=hd.t ds rfl
  have hD:namesD m (.tup ds)=(decide (1≤ds.length∧ds.length≤m)&&(ds.all nameD&&decide (ds.filterMap strO).Nodup)):=rfl
  refine w_are_names ?_
  unfold g_are_names
  walk_at "sx"
  by_cases h1:1≤ds.length
  ·refine if_bT (by simp;omega) ?_
   walk_at "sx"
   by_cases h2:ds.length≤m
   ·rw[decide_eq_true (show 1≤ds.length∧ds.length≤m from⟨h1,h2⟩),Bool.true_and] at hD
    rw[hD] at h
    refine if_bF (by simp;omega) ?_
    walk_at "sx"
    refine⟨sl_sz (by omega),?_⟩
    rw[←List.map_id ds]
    refine lc_mapK (fun x=>.bl (nameD x)) (fun x hx=>⟨_,rfl,?_⟩) ?_
    ·walk_at "sx"
     refine aname_s (ht x hx) ?_
     walk_at "sx"
     exact⟨rfl,rfl⟩
    ·walk_at "sx"
     refine l_all (f:=nameD) ?_
     walk_at "sx"
     rw[show(ds.map nameD).all id=ds.all nameD by rw[List.all_map];rfl]
     cases ea:ds.all nameD with
     | false =>
      rw[ea] at h
      walk_at "sx"
      exact h
     | true =>
      rw[ea] at h
      obtain⟨ss,rfl,hs⟩:=nameD_map ea
      rw[strO_map] at h
      rw[List.length_map] at h1 h2
      walk_at "sx"
      refine x_lenset ?_
      walk_at "sx"
      refine⟨(ss.map D.str).map DV.dat,ss,by rw[List.map_id];rfl,by rw[List.map_map];exact asStrs_map ss,Nat.lt_of_le_of_lt (show ss.length+1≤10 by omega) (by decide),?_⟩
      walk_at "sx"
      rw[List.map_id,List.length_map]
      have e:decide (((sortU ss).length:Int)=(ss.length:Int))=decide ss.Nodup:=decide_eq_decide.mpr (by rw[←sortU_ndl];omega)
      rw[e]
      exact h
   ·rw[decide_eq_false (fun z=>h2 z.2),Bool.false_and] at hD
    rw[hD] at h
    refine if_bT (by simp;omega) ?_
    walk_at "sx"
    exact h
  ·rw[decide_eq_false (fun z=>h1 z.1),Bool.false_and] at hD
   rw[hD] at h
   refine if_bF (by simp;omega) ?_
   walk_at "sx"
   exact h
 all_goals
  refine w_are_names ?_
  unfold g_are_names
  walk_at "sx"
  exact h
end
--SXMACE
section
variable {QR:R→Mem→Prop}{E:Xc→Mem→Prop}{μ ν:Mem}{P:PO}{N k m:Nat}{s n w:Str}{ss ns as:List Str}{d a b x:D}{ds r:List D}{sd:Sd}{xs:List Sp1}
theorem kt_of {ds:List D}(h:Kn (.tup ds))(hl:ds.length≤1000):Kt (.tup ds):=⟨h.kv,fun es e=>by cases e;exact hl,fun es e x hx=>by cases e;exact(h.it (ds:=ds) rfl x hx).kv⟩
theorem namesD_long {m:Nat}(hl:m<ds.length):namesD m (.tup ds)=false:=by
 show(decide (1≤ds.length∧ds.length≤m)&&_)=false
 rw[decide_eq_false (fun z=>by omega),Bool.false_and]
theorem namesK_s {m:Nat}(hm9:m≤9)(hd:Kn d)(h:QR (.dat (.bl (namesD m d))) μ):Sat (F_are_names [.dat d,.dat (.int m)] μ) QR E:=by
 rcases kb_cases hd.kb with rfl|⟨b,rfl⟩|⟨b,rfl⟩|⟨b,rfl⟩|⟨ds,rfl⟩|⟨b,rfl⟩|⟨b,rfl⟩
 case inr.inr.inr.inr.inl =>
  by_cases hl:ds.length≤1000
  ·exact anames_s hm9 (kt_of hd hl) h
  ·rw[namesD_long (by omega)] at h
   refine w_are_names ?_
   unfold g_are_names
   walk_at "sx"
   refine if_bT (by simp;omega) ?_
   walk_at "sx"
   refine if_bT (by simp;omega) ?_
   walk_at "sx"
   exact h
 all_goals exact anames_s hm9 ⟨hd.kv,(fun ds e=>by cases e),(fun ds e=>by cases e)⟩ h
theorem lnames_s {m:Nat}(hm9:m≤9)(hd:Kn d)(h:QR (.dat (.bl (namesD m d))) μ):Sat (F__law_are_names [.dat d,.dat (.int m)] μ) QR E:=by
 refine w__law_are_names ?_
 unfold g__law_are_names
 walk_at "sx"
 refine tup_i hd.kb ?_
 rcases kb_cases hd.kb with rfl|⟨b,rfl⟩|⟨b,rfl⟩|⟨b,rfl⟩|⟨ds,rfl⟩|⟨b,rfl⟩|⟨b,rfl⟩
 case inr.inr.inr.inr.inl =>
  have hD:namesD m (.tup ds)=(decide (1≤ds.length∧ds.length≤m)&&(ds.all nameD&&decide (ds.filterMap strO).Nodup)):=rfl
  walk_at "sx"
  by_cases h1:1≤ds.length
  ·refine if_bT (by simp;omega) ?_
   walk_at "sx"
   by_cases h2:ds.length≤m
   ·rw[decide_eq_true (show 1≤ds.length∧ds.length≤m from⟨h1,h2⟩),Bool.true_and] at hD
    rw[hD] at h
    refine if_bF (by simp;omega) ?_
    walk_at "sx"
    refine⟨sl_sz (by omega),?_⟩
    rw[←List.map_id ds]
    refine lc_filK (fun x=>!nameD x) (fun x=>x) (fun x hx=>⟨_,rfl,?_,fun _=>?_⟩) ?_
    ·walk_at "sx"
     refine lower_s (hd.it (ds:=ds) rfl x hx).kv ?_
     walk_at "sx"
     exact⟨rfl,rfl⟩
    ·walk_at "sx"
     exact⟨rfl,rfl⟩
    ·walk_at "sx"
     refine eqW_nil ?_
     walk_at "sx"
     have eb:(ds.filter fun x=>!nameD x).isEmpty=ds.all nameD:=by
      rw[Bool.eq_iff_iff,List.all_eq_true,List.isEmpty_iff,List.filter_eq_nil_iff]
      constructor
      ·intro q c hc;have:=q c hc;simpa using this
      ·intro q c hc;rw[q c hc];simp
     rw[eb]
     cases ea:ds.all nameD with
     | false =>
      rw[ea] at h
      walk_at "sx"
      exact h
     | true =>
      rw[ea] at h
      obtain⟨ss,rfl,hs⟩:=nameD_map ea
      rw[strO_map] at h
      rw[List.length_map] at h1 h2
      walk_at "sx"
      refine x_lenset ?_
      walk_at "sx"
      refine⟨(ss.map D.str).map DV.dat,ss,by rw[List.map_id];rfl,by rw[List.map_map];exact asStrs_map ss,Nat.lt_of_le_of_lt (show ss.length+1≤10 by omega) (by decide),?_⟩
      walk_at "sx"
      rw[List.map_id,List.length_map]
      have e:decide (((sortU ss).length:Int)=(ss.length:Int))=decide ss.Nodup:=decide_eq_decide.mpr (by rw[←sortU_ndl];omega)
      rw[e]
      exact h
   ·rw[decide_eq_false (fun z=>h2 z.2),Bool.false_and] at hD
    rw[hD] at h
    refine if_bT (by simp;omega) ?_
    walk_at "sx"
    exact h
  ·rw[decide_eq_false (fun z=>h1 z.1),Bool.false_and] at hD
   rw[hD] at h
   refine if_bF (decide_eq_false (by omega)) ?_
   walk_at "sx"
   exact h
 all_goals
  walk_at "sx"
  exact h
theorem stepB_1 (a:D):stepB (.tup [a])=false:=by
 unfold stepB
 split
 ·rename_i w r e
  cases e
  simp
 ·rfl
theorem stepB_ns (ha:isStrD a=false):stepB (.tup (a::r))=false:=by
 cases a <;> first|rfl|cases ha
theorem stepB_one (hw:w∈oneW):stepB (.tup (.str w::b::r))=(decide ((((D.str w::b::r).length:Nat):Int)=2)&&nameD b):=by
 show((decide (w∈oneW)&&(decide ((b::r).length=1)&&(b::r).all nameD))||(decide (w∈twoW)&&_))=_
 rw[decide_eq_true hw,decide_eq_false (one_two w hw),Bool.true_and,Bool.false_and,Bool.or_false]
 cases r with
 | nil=>simp
 | cons c r=>simp;intro h;omega
theorem stepB_two (hw:w∈twoW):stepB (.tup (.str w::b::r))=(decide ((((D.str w::b::r).length:Nat):Int)=3)&&namesD 2 (.tup (b::r))):=by
 show((decide (w∈oneW)&&_)||(decide (w∈twoW)&&(decide ((b::r).length=2)&&namesD 2 (.tup (b::r)))))=_
 rw[decide_eq_true hw,decide_eq_false (fun z=>one_two w z hw),Bool.true_and,Bool.false_and,Bool.false_or]
 congr 1
 refine decide_eq_decide.mpr ?_
 simp only[List.length_cons];omega
theorem stepB_no (h1:w∉oneW)(h2:w∉twoW):stepB (.tup (.str w::r))=false:=by
 show((decide (w∈oneW)&&_)||(decide (w∈twoW)&&_))=_
 rw[decide_eq_false h1,decide_eq_false h2];rfl
theorem kn_tl (hd:Kn (.tup (a::r))):Kn (.tup r):=.tup (Nat.le_of_succ_le (hd.len (ds:=a::r) rfl)) fun x hx=>hd.it (ds:=a::r) rfl x (List.mem_cons_of_mem _ hx)
theorem astep_s (hd:Kn d)(h:QR (.dat (.bl (stepB d))) μ):Sat (F_is_step [.dat d] μ) QR E:=by
 refine w_is_step ?_
 unfold g_is_step
 walk_at "sx"
 refine isE_dat (kb_noEo hd.kb) (tup_i hd.kb ?_)
 rcases kb_cases hd.kb with rfl|⟨b,rfl⟩|⟨b,rfl⟩|⟨b,rfl⟩|⟨ds,rfl⟩|⟨b,rfl⟩|⟨b,rfl⟩
 case inr.inr.inr.inr.inl =>
  walk_at "sx"
  match ds with
  | [] =>
   refine if_bT (decide_eq_true (by simp)) ?_
   walk_at "sx"
   exact h
  | [a] =>
   rw[stepB_1] at h
   refine if_bT (decide_eq_true (by simp)) ?_
   walk_at "sx"
   exact h
  | a::b::r =>
   refine if_bF (decide_eq_false (by simp;omega)) ?_
   walk_at "sx"
   refine isE_dat (kb_noEo (hd.it (ds:=a::b::r) rfl a (by simp)).kb) (str_i (hd.it (ds:=a::b::r) rfl a (by simp)).kb ?_)
   cases q:isStrD a with
   | false =>
    rw[stepB_ns q] at h
    walk_at "sx"
    exact h
   | true =>
    obtain⟨w,rfl⟩:∃ w,a=.str w:=by cases a <;> first|exact⟨_,rfl⟩|cases q
    walk_at "sx"
    by_cases h1:w∈oneW
    ·rw[stepB_one h1] at h
     refine if_bT (decide_eq_true h1) ?_
     walk_at "sx"
     cases q2:decide ((((D.str w::b::r).length:Nat):Int)=2) with
     | false =>
      rw[q2] at h
      walk_at "sx"
      exact h
     | true =>
      rw[q2] at h
      walk_at "sx"
      refine w_ix (l_ixT (d:=b) (DL.atI_nat (k:=1) rfl) ?_)
      walk_at "sx"
      refine aname_s (hd.it (ds:=.str w::b::r) rfl b (by simp)).kv ?_
      walk_at "sx"
      exact h
    ·refine if_bF (decide_eq_false h1) ?_
     walk_at "sx"
     by_cases h2:w∈twoW
     ·rw[stepB_two h2] at h
      refine if_bT (decide_eq_true h2) ?_
      walk_at "sx"
      cases q2:decide ((((D.str w::b::r).length:Nat):Int)=3) with
      | false =>
       rw[q2] at h
       walk_at "sx"
       exact h
      | true =>
       rw[q2] at h
       walk_at "sx"
       rw[show cutL (D.str w::b::r) (some 1) none=b::r from cut_from _ 1]
       refine namesK_s (m:=2) (by decide) (kn_tl hd) ?_
       walk_at "sx"
       exact h
     ·rw[stepB_no h1 h2] at h
      refine if_bF (decide_eq_false h2) ?_
      walk_at "sx"
      exact h
 all_goals
  walk_at "sx"
  exact h
end
--SXMACE
section
variable {QR:R→Mem→Prop}{E:Xc→Mem→Prop}{μ ν:Mem}{P:PO}{N k m:Nat}{s n w:Str}{ss ns as:List Str}{d a b x:D}{ds r:List D}{sd:Sd}{xs:List Sp1}
abbrev tV (l:List Str):List DV:=l.map fun s=>.dat (.str s)
theorem names_len (as:List Str)(xs:List Sp1):(namesU as xs).length≤(namesL as xs).length:=by
 refine nodup_le (sortU_nodup _) fun s hs=>?_
 exact(sortU_mem s _).mp hs
where
 nodup_le {l m:List Str} (h:l.Nodup) (hs:∀ x∈l,x∈m):l.length≤m.length:=by
  induction l generalizing m with
  | nil=>exact Nat.zero_le _
  | cons x l ih =>
   obtain⟨n1,n2⟩:=List.nodup_cons.mp h
   have hx:x∈m:=hs x List.mem_cons_self
   have:=ih (m:=m.erase x) n2 fun y hy=>(List.mem_erase_of_ne (fun e:y=x=>n1 (e▸hy))).mpr (hs y (List.mem_cons_of_mem _ hy))
   have e:=List.length_erase_of_mem hx
   have hp:0<m.length:=List.length_pos_of_mem hx
   rw[List.length_cons];omega
theorem lstep_s (hd:Kn d)(h:QR (.dat (.bl (stepB d))) μ):Sat (F__law_is_step [.dat d] μ) QR E:=by
 refine w__law_is_step ?_
 unfold g__law_is_step
 walk_at "sx"
 refine tup_i hd.kb ?_
 rcases kb_cases hd.kb with rfl|⟨b,rfl⟩|⟨b,rfl⟩|⟨b,rfl⟩|⟨ds,rfl⟩|⟨b,rfl⟩|⟨b,rfl⟩
 case inr.inr.inr.inr.inl =>
  walk_at "sx"
  match ds with
  | [] =>
   refine if_bT (decide_eq_true (by simp)) ?_
   walk_at "sx"
   exact h
  | [a] =>
   rw[stepB_1] at h
   refine if_bT (decide_eq_true (by simp)) ?_
   walk_at "sx"
   exact h
  | a::b::r =>
   refine if_bF (decide_eq_false (by simp;omega)) ?_
   walk_at "sx"
   refine str_i (hd.it (ds:=a::b::r) rfl a (by simp)).kb ?_
   cases q:isStrD a with
   | false =>
    rw[stepB_ns q] at h
    walk_at "sx"
    exact h
   | true =>
    obtain⟨w,rfl⟩:∃ w,a=.str w:=by cases a <;> first|exact⟨_,rfl⟩|cases q
    walk_at "sx"
    refine x_dget2 ?_
    walk_at "sx"
    refine⟨_,rfl,_,rfl,_,rfl,_,rfl,_,rfl,_,rfl,_,rfl,_,rfl,by simp,_,_,congrArg R.nk (merge_tab (t:=stepT) stepT_nd),tabV_dat _,?_⟩
    walk_at "sx"
    refine⟨rfl,?_⟩
    walk_at "sx"
    refine l_get2 (k:=.inr w) rfl (tabD_all _) ?_
    rw[tabD_val,lookup_map]
    rw[show((stepN.lookup w).map D.int).getD (.int 0)=.int (manyN w) by unfold manyN;cases stepN.lookup w <;> rfl]
    walk_at "sx"
    rw[stepB_many] at h
    cases q2:decide ((((D.str w::b::r).length:Nat):Int)=manyN w+1) with
    | false =>
     rw[q2] at h
     walk_at "sx"
     exact h
    | true =>
     rw[q2] at h
     walk_at "sx"
     rw[show cutL (D.str w::b::r) (some 1) none=b::r from cut_from _ 1]
     refine lnames_s (m:=2) (by decide) (kn_tl hd) ?_
     walk_at "sx"
     exact h
 all_goals
  walk_at "sx"
  exact h
theorem lnames_all_s (ha:as.length≤3)(hx:xs.length≤8)(hx2:∀ x∈xs,x.2.length≤2)(h:QR (.nl (tV (namesU as xs))) μ):Sat (F__law_all_names [.dat (deedD as xs)] μ) QR E:=by
 refine w__law_all_names ?_
 unfold g__law_all_names
 walk_at "sx"
 refine r_nl (Nat.le_refl _) ?_
 rw[List.map_map]
 walk_at "sx"
 have lb:∀ j,(namesL as (xs.take j)).length≤3+2*8:=fun j=>by
  have:∀ ys:List Sp1,(∀ x∈ys,x.2.length≤2)→(ys.flatMap (·.2)).length≤2*ys.length:=by
   intro ys
   induction ys with
   | nil=>intro _;exact Nat.le_refl _
   | cons y ys ih =>
    intro h
    have a:=h y List.mem_cons_self
    have b:=ih fun z hz=>h z (List.mem_cons_of_mem _ hz)
    rw[List.flatMap_cons,List.length_append,List.length_cons];omega
  have t:=this (xs.take j) fun z hz=>hx2 z (List.mem_of_mem_take hz)
  have:(xs.take j).length≤8:=by rw[List.length_take];omega
  unfold namesL
  rw[List.length_append];omega
 refine for_inv (fun j δ μ'=>δ=[some (.dat (deedD as xs)),some (.loc μ.length),none]∧μ'=μ++[.lst (tV (namesL as (xs.take j)))]) ⟨rfl,by simp[namesL,tV]⟩ (fun j d hd δ μ' hI=>?_) fun δ μ' hI=>?_
 ·obtain⟨rfl,rfl⟩:=hI
  rw[List.getElem?_map] at hd
  obtain⟨x,hxm,rfl⟩:=Option.map_eq_some_iff.mp hd
  refine⟨_,rfl,?_⟩
  unfold b__law_all_names_1
  walk_at "sx"
  rw[show cutL (D.str x.1::x.2.map D.str) (some 1) none=x.2.map D.str from cut_from _ 1]
  have l2:=hx2 x (List.mem_of_getElem? hxm)
  have l1:=lb j
  refine l_extT (xs:=tV (namesL as (xs.take j))) (by simp) (sl_sz2 (by simp[tV];omega)) ?_
  walk_at "sx"
  refine⟨by simp[cut,DL.cutV],?_⟩
  rw[List.take_of_length_le (by simp)]
  have e:namesL as (xs.take (j+1))=namesL as (xs.take j)++x.2:=by
   rw[take_snoc hxm];unfold namesL;rw[List.flatMap_append];simp
  rw[e]
  simp[tV]
 ·obtain⟨rfl,rfl⟩:=hI
  rw[List.length_map,List.take_length]
  have l1:=lb xs.length
  rw[List.take_length] at l1
  walk_at "sx"
  refine x_sortset ?_
  walk_at "sx"
  refine⟨tV (namesL as xs),namesL as xs,by unfold asS asL;simp,asStrs_map _,Nat.lt_of_le_of_lt (show _≤20 by omega) (by decide),?_⟩
  refine e_nlf (μ:=μ) (by simp) ?_
  exact h
theorem lown_s (ha:as.length≤3)(hx:xs.length≤8)(hx2:∀ x∈xs,x.2.length≤2)(hl:(namesU as xs).length≤100)(h:QR (.nl (((ownU as xs).map D.str).map DV.dat)) μ):Sat (F__law_own [.dat (deedD as xs)] μ) QR E:=by
 refine w__law_own ?_
 unfold g__law_own
 walk_at "sx"
 refine lnames_all_s ha hx hx2 ?_
 walk_at "sx"
 refine And.intro (sl_sz (by rw[List.length_map];omega)) ?_
 refine lc_filK (fun s=>!decide (s∈as)) D.str (fun s hs=>⟨_,rfl,?_,fun _=>?_⟩) ?_
 ·walk_at "sx"
  exact⟨rfl,rfl⟩
 ·walk_at "sx"
  exact⟨rfl,rfl⟩
 ·rw[show((namesU as xs).filter fun s=>!decide (s∈as)).map (fun x=>DV.dat (D.str x))=((ownU as xs).map D.str).map DV.dat by unfold ownU;rw[List.map_map];rfl]
  walk_at "sx"
  exact h
theorem flat_len2:∀ ys:List Sp1,(∀ x∈ys,x.2.length≤2)→(ys.flatMap (·.2)).length≤2*ys.length
 | [],_=>Nat.le_refl _
 | y::ys,h=>by
  have a:=h y List.mem_cons_self
  have b:=flat_len2 ys fun z hz=>h z (List.mem_cons_of_mem _ hz)
  rw[List.flatMap_cons,List.length_append,List.length_cons];omega
theorem namesU_le (hx2:∀ x∈xs,x.2.length≤2):(namesU as xs).length≤as.length+2*xs.length:=by
 have:=names_len as xs
 have:=flat_len2 xs hx2
 unfold namesL at *
 rw[List.length_append] at *
 omega
theorem ownV_put2 (ks:List Str)(s:Str):∃ ks',dput (ownV ks) (.k (.inr s)) (.dat (.bl true))=ownV ks'∧(ks.Nodup→ks'.Nodup)∧∀ z,z∈ks'↔z∈ks∨z=s:=by
 by_cases e:s∈ks
 ·refine⟨ks,?_,fun h=>h,fun z=>⟨.inl,fun h=>h.elim id fun q=>q▸e⟩⟩
  unfold dput
  rw[if_pos]
  ·unfold ownV
   rw[List.map_map]
   refine List.map_congr_left fun z _=>?_
   simp only[Function.comp_def]
   split <;> rfl
  ·rw[List.any_eq_true]
   exact⟨(.k (.inr s),.dat (.bl true)),List.mem_map.mpr ⟨s,e,rfl⟩,by simp⟩
 ·refine⟨ks++[s],?_,fun h=>List.nodup_append.mpr ⟨h,by simp,fun a ha b hb=>?_⟩,fun z=>by simp⟩
  ·rw[dput_new]
   ·unfold ownV;rw[List.map_append];rfl
   ·intro p hp e2
    unfold ownV at hp
    obtain⟨z,hz,rfl⟩:=List.mem_map.mp hp
    exact e (Sum.inr.inj (Ky.k.inj e2)▸hz)
  ·simp at hb;subst hb;exact fun z=>e (z▸ha)
theorem own2_s {m:Nat}{d1 d3:D}{ks:List Str}(hm:μ.length=m)(hk:ks.length≤100)
  (h:∀ ks':List Str,(ks.Nodup→ks'.Nodup)→(∀ z,z∈ks'↔z∈ks∨(z=s∧z∉as))→P.nx [some (.dat (deedD as xs)),some (.dat d1),some (.loc m),some (.dat d3),some (.dat (.str s))] (μ++[.dct (ownV ks')])) :
  SatS (b_is_deed_1 N [some (.dat (deedD as xs)),some (.dat d1),some (.loc m),some (.dat d3),some (.dat (.str s))] (μ++[.dct (ownV ks)])) P:=by
 subst hm
 unfold b_is_deed_1
 walk_at "sx"
 refine if_ndec (fun e=>?_) (fun e=>?_)
 ·walk_at "sx"
  obtain⟨ks',e1,e2,e3⟩:=ownV_put2 ks s
  refine⟨_,set_dct (kvs:=ownV ks) (by simp) (key_s s) (ownV_all ks) (Nat.lt_of_le_of_lt (show(ownV ks).length≤100 by unfold ownV;rw[List.length_map];exact hk) (by decide)) rfl,?_⟩
  rw[e1,show(μ++[Pl.dct (ownV ks)]).set μ.length (.dct (ownV ks'))=μ++[.dct (ownV ks')] by simp]
  exact h ks' e2 fun z=>(e3 z).trans ⟨fun q=>q.imp_right fun q=>⟨q,by rw[q];exact e⟩,fun q=>q.imp_right fun q=>q.1⟩
 ·walk_at "sx"
  exact h ks (fun q=>q) fun z=>⟨.inl,fun q=>q.elim id fun q=>absurd (q.1▸e) q.2⟩
theorem deedB_len (h:¬ds.length=2):deedB (.tup ds)=false:=by
 unfold deedB
 split
 ·rename_i e
  cases e
  exact absurd rfl h
 ·rfl
theorem adeed_s (hd:Kn d)(h:QR (.dat (.bl (deedB d))) μ):Sat (F_is_deed [.dat d] μ) QR E:=by
 refine w_is_deed ?_
 unfold g_is_deed
 walk_at "sx"
 refine isE_dat (kb_noEo hd.kb) (tup_i hd.kb ?_)
 rcases kb_cases hd.kb with rfl|⟨b,rfl⟩|⟨b,rfl⟩|⟨b,rfl⟩|⟨ds,rfl⟩|⟨b,rfl⟩|⟨b,rfl⟩
 case inr.inr.inr.inr.inl =>
  walk_at "sx"
  by_cases hl:ds.length=2
  case neg =>
   have e2:deedB (.tup ds)=false:=deedB_len hl
   rw[e2] at h
   refine if_bT (by simp;omega) ?_
   walk_at "sx"
   exact h
  obtain⟨a,b,rfl⟩:∃ a b,ds=[a,b]:=by
   match ds,hl with
   | [a,b],_=>exact⟨a,b,rfl⟩
  walk_at "sx"
  have ka:=hd.it (ds:=[a,b]) rfl a (by simp)
  have kb:=hd.it (ds:=[a,b]) rfl b (by simp)
  refine namesK_s (m:=3) (by decide) ka ?_
  cases q:namesD 3 a with
  | false =>
   have e2:deedB (.tup [a,b])=false:=by
    unfold deedB
    split
    ·rename_i e
     cases e
     rw[q];rfl
    ·rfl
   rw[e2] at h
   walk_at "sx"
   exact h
  | true =>
   walk_at "sx"
   refine isE_dat (kb_noEo kb.kb) (tup_i kb.kb ?_)
   cases q2:isTupD b with
   | false =>
    have e2:deedB (.tup [a,b])=false:=by cases b <;> first|rfl|cases q2
    rw[e2] at h
    walk_at "sx"
    exact h
   | true =>
    obtain⟨ts,rfl⟩:∃ ts,b=.tup ts:=by cases b <;> first|exact⟨_,rfl⟩|cases q2
    have hD:deedB (.tup [a,.tup ts])=(namesD 3 a&&(decide (1≤ts.length∧ts.length≤8)&&(ts.all stepB&&decide ((ownD a ts).length≤2)))):=rfl
    rw[q,Bool.true_and] at hD
    walk_at "sx"
    by_cases h1:1≤ts.length
    case neg =>
     rw[decide_eq_false (fun z=>h1 z.1),Bool.false_and] at hD
     rw[hD] at h
     refine if_bF (decide_eq_false (by omega)) ?_
     walk_at "sx"
     exact h
    refine if_bT (by simp;omega) ?_
    walk_at "sx"
    by_cases h8:ts.length≤8
    case neg =>
     rw[decide_eq_false (fun z=>h8 z.2),Bool.false_and] at hD
     rw[hD] at h
     refine if_bT (by simp;omega) ?_
     walk_at "sx"
     exact h
    rw[decide_eq_true (show 1≤ts.length∧ts.length≤8 from⟨h1,h8⟩),Bool.true_and] at hD
    refine if_bF (by simp;omega) ?_
    walk_at "sx"
    refine⟨sl_sz (by omega),?_⟩
    rw[←List.map_id ts]
    refine lc_mapK (fun x=>.bl (stepB x)) (fun x hx=>⟨_,rfl,?_⟩) ?_
    ·walk_at "sx"
     refine astep_s (kb.it (ds:=ts) rfl x hx) ?_
     walk_at "sx"
     exact⟨rfl,rfl⟩
    walk_at "sx"
    refine l_all (f:=stepB) ?_
    walk_at "sx"
    rw[show(ts.map stepB).all id=ts.all stepB by rw[List.all_map];rfl,List.map_id]
    cases q3:ts.all stepB with
    | false =>
     rw[q3,Bool.false_and] at hD
     rw[hD] at h
     walk_at "sx"
     exact h
    | true =>
     rw[q3,Bool.true_and] at hD
     obtain⟨as,rfl,a1,a3,an,ha⟩:=namesD_is q
     obtain⟨xs,rfl,hx⟩:=steps_map q3
     rw[own_eq] at hD
     rw[hD] at h
     rw[List.length_map] at h1 h8
     have hx2:∀ x∈xs,x.2.length≤2:=fun x hm=>(hx x hm).1.len.2
     have lf:=flat_len2 xs hx2
     walk_at "sx"
     refine r_nk (Nat.le_refl _) ?_
     walk_at "sx"
     refine for_inv (fun j δ μ'=>∃ ks:List Str,ks.Nodup∧(∀ z,z∈ks↔z∉as∧∃ x∈xs.take j,z∈x.2)∧δ=[some (.dat (deedD as xs)),some (.dat (.tup (xs.map stD))),some (.loc μ.length),none,none]∧μ'=μ++[.dct (ownV ks)]) ⟨[],by simp,by simp,by simp,by simp[ownV]⟩ (fun j d hd' δ μ' hI=>?_) fun δ μ' hI=>?_
     ·obtain⟨ks,hk1,hk2,rfl,rfl⟩:=hI
      rw[List.getElem?_map] at hd'
      obtain⟨x,hx',rfl⟩:=Option.map_eq_some_iff.mp hd'
      refine⟨_,rfl,?_⟩
      unfold b_is_deed_2
      walk_at "sx"
      rw[show cutL (D.str x.1::x.2.map D.str) (some 1) none=x.2.map D.str from cut_from _ 1]
      refine for_inv (fun i δ μ'=>∃ ks:List Str,ks.Nodup∧(∀ z,z∈ks↔z∉as∧((∃ x∈xs.take j,z∈x.2)∨z∈x.2.take i))∧δ=[some (.dat (deedD as xs)),some (.dat (.tup (xs.map stD))),some (.loc μ.length),some (.dat (stD x)),none]∧μ'=μ++[.dct (ownV ks)]) ⟨ks,hk1,(fun z=>by rw[hk2];simp),rfl,rfl⟩ (fun i d hd2 δ μ' hI=>?_) fun δ μ' hI=>?_
      ·obtain⟨ks,hk1,hk2,rfl,rfl⟩:=hI
       rw[List.getElem?_map] at hd2
       obtain⟨s,hs,rfl⟩:=Option.map_eq_some_iff.mp hd2
       have hkl:ks.length≤100:=by
        refine Nat.le_trans (nodup_sub (m:=xs.flatMap (·.2)) hk1 fun z hz=>?_) (by omega)
        rcases((hk2 z).mp hz).2 with⟨y,hy,q⟩|q
        ·exact List.mem_flatMap.mpr ⟨y,List.mem_of_mem_take hy,q⟩
        ·exact List.mem_flatMap.mpr ⟨x,List.mem_of_getElem? hx',List.mem_of_mem_take q⟩
       refine⟨_,rfl,own2_s rfl hkl fun ks' q1 q2=>?_⟩
       refine⟨ks',q1 hk1,fun z=>?_,by simp[cut,DL.cutV],List.take_of_length_le (by simp)⟩
       rw[q2,hk2,DL.take_snoc hs,List.mem_append,List.mem_singleton]
       constructor
       ·rintro (⟨z1,z2⟩|⟨z1,z2⟩)
        ·exact⟨z1,z2.imp_right .inl⟩
        ·exact⟨z2,.inr (.inr z1)⟩
       ·rintro ⟨z1,z2|z2|z2⟩
        ·exact .inl ⟨z1,.inl z2⟩
        ·exact .inl ⟨z1,.inr z2⟩
        ·exact .inr ⟨z2,z1⟩
      ·obtain⟨ks,hk1,hk2,rfl,rfl⟩:=hI
       rw[List.length_map,List.take_length] at hk2
       refine⟨ks,hk1,fun z=>?_,by simp[cut,DL.cutV],List.take_of_length_le (by simp)⟩
       rw[hk2,DL.take_snoc hx']
       simp only[List.mem_append,List.mem_singleton]
       constructor
       ·rintro ⟨z1,⟨y,z2,z3⟩|z2⟩
        ·exact⟨z1,y,.inl z2,z3⟩
        ·exact⟨z1,x,.inr rfl,z2⟩
       ·rintro ⟨z1,y,z2|rfl,z3⟩
        ·exact⟨z1,.inl ⟨y,z2,z3⟩⟩
        ·exact⟨z1,.inr z3⟩
     ·obtain⟨ks,hk1,hk2,rfl,rfl⟩:=hI
      rw[List.length_map,List.take_length] at hk2
      walk_at "sx"
      refine l_lenKl (kvs:=ownV ks) (by simp) (ownV_all ks) ?_
      walk_at "sx"
      have e:ks.length=(ownU as xs).length:=by
       have h1:=nd_le hk1 fun z hz=>mem_own.mpr ((hk2 z).mp hz)
       have h2:=nd_le (m:=ks) (own_nd (as:=as) (xs:=xs)) fun z hz=>(hk2 z).mpr (mem_own.mp hz)
       omega
      rw[show decide (((ownV ks).length:Int)≤2)=decide ((ownU as xs).length≤2) by
       refine decide_eq_decide.mpr ?_
       unfold ownV
       rw[List.length_map,e];omega]
      exact h
 all_goals
  walk_at "sx"
  exact h
theorem ldeed_s (hd:Kn d)(h:QR (.dat (.bl (deedB d))) μ):Sat (F__law_is_deed [.dat d] μ) QR E:=by
 refine w__law_is_deed ?_
 unfold g__law_is_deed
 walk_at "sx"
 refine tup_i hd.kb ?_
 rcases kb_cases hd.kb with rfl|⟨b,rfl⟩|⟨b,rfl⟩|⟨b,rfl⟩|⟨ds,rfl⟩|⟨b,rfl⟩|⟨b,rfl⟩
 case inr.inr.inr.inr.inl =>
  walk_at "sx"
  by_cases hl:ds.length=2
  case neg =>
   have e2:deedB (.tup ds)=false:=deedB_len hl
   rw[e2] at h
   refine if_bT (by simp;omega) ?_
   walk_at "sx"
   exact h
  obtain⟨a,b,rfl⟩:∃ a b,ds=[a,b]:=by
   match ds,hl with
   | [a,b],_=>exact⟨a,b,rfl⟩
  walk_at "sx"
  have ka:=hd.it (ds:=[a,b]) rfl a (by simp)
  have kb:=hd.it (ds:=[a,b]) rfl b (by simp)
  refine lnames_s (m:=3) (by decide) ka ?_
  cases q:namesD 3 a with
  | false =>
   have e2:deedB (.tup [a,b])=false:=by
    unfold deedB
    split
    ·rename_i e
     cases e
     rw[q];rfl
    ·rfl
   rw[e2] at h
   walk_at "sx"
   exact h
  | true =>
   walk_at "sx"
   refine tup_i kb.kb ?_
   cases q2:isTupD b with
   | false =>
    have e2:deedB (.tup [a,b])=false:=by cases b <;> first|rfl|cases q2
    rw[e2] at h
    walk_at "sx"
    exact h
   | true =>
    obtain⟨ts,rfl⟩:∃ ts,b=.tup ts:=by cases b <;> first|exact⟨_,rfl⟩|cases q2
    have hD:deedB (.tup [a,.tup ts])=(namesD 3 a&&(decide (1≤ts.length∧ts.length≤8)&&(ts.all stepB&&decide ((ownD a ts).length≤2)))):=rfl
    rw[q,Bool.true_and] at hD
    walk_at "sx"
    by_cases h1:1≤ts.length
    case neg =>
     rw[decide_eq_false (fun z=>h1 z.1),Bool.false_and] at hD
     rw[hD] at h
     refine if_bF (decide_eq_false (by omega)) ?_
     walk_at "sx"
     exact h
    refine if_bT (by simp;omega) ?_
    walk_at "sx"
    by_cases h8:ts.length≤8
    case neg =>
     rw[decide_eq_false (fun z=>h8 z.2),Bool.false_and] at hD
     rw[hD] at h
     refine if_bT (by simp;omega) ?_
     walk_at "sx"
     exact h
    rw[decide_eq_true (show 1≤ts.length∧ts.length≤8 from⟨h1,h8⟩),Bool.true_and] at hD
    refine if_bF (by simp;omega) ?_
    walk_at "sx"
    refine⟨sl_sz (by omega),?_⟩
    rw[←List.map_id ts]
    refine lc_filK (fun x=>!stepB x) (fun x=>x) (fun x hx=>⟨_,rfl,?_,fun _=>?_⟩) ?_
    ·walk_at "sx"
     refine lstep_s (kb.it (ds:=ts) rfl x hx) ?_
     walk_at "sx"
     exact⟨rfl,rfl⟩
    ·walk_at "sx"
     exact⟨rfl,rfl⟩
    walk_at "sx"
    refine eqW_nil ?_
    walk_at "sx"
    have eb:(ts.filter fun x=>!stepB x).isEmpty=ts.all stepB:=by
     rw[Bool.eq_iff_iff,List.all_eq_true,List.isEmpty_iff,List.filter_eq_nil_iff]
     constructor
     ·intro q c hc;have:=q c hc;simpa using this
     ·intro q c hc;rw[q c hc];simp
    rw[eb]
    cases q3:ts.all stepB with
    | false =>
     rw[q3,Bool.false_and] at hD
     rw[hD] at h
     walk_at "sx"
     exact h
    | true =>
     rw[q3,Bool.true_and] at hD
     obtain⟨as,rfl,a1,a3,an,ha⟩:=namesD_is q
     obtain⟨xs,rfl,hx⟩:=steps_map q3
     rw[own_eq] at hD
     rw[hD] at h
     rw[List.length_map] at h1 h8
     have hx2:∀ x∈xs,x.2.length≤2:=fun x hm=>(hx x hm).1.len.2
     have lu:=namesU_le (as:=as) hx2
     walk_at "sx"
     rw[List.map_id]
     refine lown_s a3 h8 hx2 (by omega) ?_
     walk_at "sx"
     rw[show decide ((((ownU as xs).map D.str).length:Int)<3)=decide ((ownU as xs).length≤2) by
      refine decide_eq_decide.mpr ?_
      rw[List.length_map];omega]
     exact h
 all_goals
  walk_at "sx"
  exact h
end
--SXMACE
def lineD:D→Bool
 | .tup [.int a,.int b]=>decide (0≤a)&&(decide (a<6)&&decide (1≤b))
 | _=>false
def isIntD:D→Bool
 | .int _=>true
 | _=>false
abbrev wordL:List Str:=["spoils","idle","cut","lost"]
def faultD:D→Bool
 | .str s=>decide (s∈wordL)
 | _=>false
section
variable {QR:R→Mem→Prop}{E:Xc→Mem→Prop}{μ ν:Mem}{P:PO}{N:Nat}{s:Str}{ss:List Str}{d:D}{ds:List D}
theorem integer_s (hd:KdB d=true)(h:QR (.dat (.bl (isIntD d))) μ):Sat (F_is_integer [.dat d] μ) QR E:=by
 refine w_is_integer ?_
 unfold g_is_integer
 rcases kb_cases hd with rfl|⟨b,rfl⟩|⟨b,rfl⟩|⟨b,rfl⟩|⟨b,rfl⟩|⟨b,rfl⟩|⟨b,rfl⟩ <;> (walk_at "sx";exact h)
theorem whole_s (hd:KdB d=true)(h:QR (.dat (.bl (isIntD d))) μ):Sat (F__law_is_whole [.dat d] μ) QR E:=by
 refine w__law_is_whole ?_
 unfold g__law_is_whole
 rcases kb_cases hd with rfl|⟨b,rfl⟩|⟨b,rfl⟩|⟨b,rfl⟩|⟨b,rfl⟩|⟨b,rfl⟩|⟨b,rfl⟩ <;> (walk_at "sx";exact h)
theorem cll_len (h:ds.length≠2):cllD (.tup ds)=false:=by
 match ds with
 | []=>rfl
 | [_]=>rfl
 | [_,_]=>exact absurd rfl h
 | _::_::_::_=>rfl
theorem line_len (h:ds.length≠2):lineD (.tup ds)=false:=by
 unfold lineD
 split
 ·rename_i x y e
  injection e with e
  subst e
  exact absurd rfl h
 ·rfl
theorem acall_s (hd:Kn d)(h:QR (.dat (.bl (cllD d))) μ):Sat (F_is_call [.dat d] μ) QR E:=by
 refine w_is_call ?_
 unfold g_is_call
 walk_at "sx"
 refine isE_dat (kb_noEo hd.kb) (tup_i hd.kb ?_)
 rcases kb_cases hd.kb with rfl|⟨b,rfl⟩|⟨b,rfl⟩|⟨b,rfl⟩|⟨ds,rfl⟩|⟨b,rfl⟩|⟨b,rfl⟩
 case inr.inr.inr.inr.inl =>
  walk_at "sx"
  by_cases hl:ds.length=2
  ·obtain⟨a,b,rfl⟩:∃ a b,ds=[a,b]:=by
    match ds,hl with
    | [a,b],_=>exact⟨a,b,rfl⟩
   have ka:=hd.it (ds:=[a,b]) rfl a (by simp)
   have kb:=hd.it (ds:=[a,b]) rfl b (by simp)
   rw[decide_eq_true (show(([a,b].length:Nat):Int)=2 by rfl)]
   walk_at "sx"
   refine aname_s ka.kv ?_
   have e:cllD (.tup [a,b])=(nameD a&&namesD 3 b):=rfl
   rw[e] at h
   cases q:nameD a with
   | false =>
    rw[q] at h
    walk_at "sx"
    exact h
   | true =>
    rw[q] at h
    walk_at "sx"
    refine namesK_s (m:=3) (by decide) kb ?_
    walk_at "sx"
    exact h
  ·rw[decide_eq_false (by omega)]
   rw[cll_len hl] at h
   walk_at "sx"
   exact h
 all_goals
  walk_at "sx"
  exact h
theorem lcall_s (hd:Kn d)(h:QR (.dat (.bl (cllD d))) μ):Sat (F__law_is_call [.dat d] μ) QR E:=by
 refine w__law_is_call ?_
 unfold g__law_is_call
 walk_at "sx"
 refine tup_i hd.kb ?_
 rcases kb_cases hd.kb with rfl|⟨b,rfl⟩|⟨b,rfl⟩|⟨b,rfl⟩|⟨ds,rfl⟩|⟨b,rfl⟩|⟨b,rfl⟩
 case inr.inr.inr.inr.inl =>
  walk_at "sx"
  by_cases hl:ds.length=2
  ·obtain⟨a,b,rfl⟩:∃ a b,ds=[a,b]:=by
    match ds,hl with
    | [a,b],_=>exact⟨a,b,rfl⟩
   have ka:=hd.it (ds:=[a,b]) rfl a (by simp)
   have kb:=hd.it (ds:=[a,b]) rfl b (by simp)
   rw[decide_eq_true (show(([a,b].length:Nat):Int)=2 by rfl)]
   walk_at "sx"
   refine lower_s ka.kv ?_
   have e:cllD (.tup [a,b])=(nameD a&&namesD 3 b):=rfl
   rw[e] at h
   cases q:nameD a with
   | false =>
    rw[q] at h
    walk_at "sx"
    exact h
   | true =>
    rw[q] at h
    walk_at "sx"
    refine lnames_s (m:=3) (by decide) kb ?_
    walk_at "sx"
    exact h
  ·rw[decide_eq_false (by omega)]
   rw[cll_len hl] at h
   walk_at "sx"
   exact h
 all_goals
  walk_at "sx"
  exact h
theorem word_a (hd:KdB d=true)(h:QR (.dat (.bl (faultD d))) μ):Sat (F_is_word [.dat d] μ) QR E:=by
 refine w_is_word ?_
 unfold g_is_word
 rcases kb_cases hd with rfl|⟨b,rfl⟩|⟨b,rfl⟩|⟨b,rfl⟩|⟨b,rfl⟩|⟨b,rfl⟩|⟨b,rfl⟩ <;> (walk_at "sx";exact h)
theorem line_ab {a b:D}(h:¬(isIntD a=true∧isIntD b=true)):lineD (.tup [a,b])=false:=by
 unfold lineD
 split
 ·rename_i x y e
  injection e with e
  simp at e
  obtain⟨rfl,rfl⟩:=e
  exact absurd ⟨rfl,rfl⟩ h
 ·rfl
theorem int_is {a:D}(h:isIntD a=true):∃ i,a=.int i:=by
 cases a <;> first|exact⟨_,rfl⟩|cases h
theorem line_s (hd:Kn d)(h:QR (.dat (.bl (lineD d))) μ):Sat (F_is_line [.dat d] μ) QR E:=by
 refine w_is_line ?_
 unfold g_is_line
 walk_at "sx"
 refine isE_dat (kb_noEo hd.kb) (tup_i hd.kb ?_)
 rcases kb_cases hd.kb with rfl|⟨b,rfl⟩|⟨b,rfl⟩|⟨b,rfl⟩|⟨ds,rfl⟩|⟨b,rfl⟩|⟨b,rfl⟩
 case inr.inr.inr.inr.inl =>
  walk_at "sx"
  by_cases hl:ds.length=2
  ·obtain⟨a,b,rfl⟩:∃ a b,ds=[a,b]:=by
    match ds,hl with
    | [a,b],_=>exact⟨a,b,rfl⟩
   have ka:=hd.it (ds:=[a,b]) rfl a (by simp)
   have kb:=hd.it (ds:=[a,b]) rfl b (by simp)
   refine if_bF (by simp) ?_
   walk_at "sx"
   refine integer_s ka.kb ?_
   cases q:isIntD a with
   | false =>
    rw[line_ab (fun z=>by rw[q] at z;cases z.1)] at h
    walk_at "sx"
    exact h
   | true =>
    walk_at "sx"
    refine integer_s kb.kb ?_
    cases q2:isIntD b with
    | false =>
     rw[line_ab (fun z=>by rw[q2] at z;cases z.2)] at h
     walk_at "sx"
     exact h
    | true =>
     obtain⟨i,rfl⟩:=int_is q
     obtain⟨j,rfl⟩:=int_is q2
     have e:lineD (.tup [.int i,.int j])=(decide (0≤i)&&(decide (i<6)&&decide (1≤j))):=rfl
     rw[e] at h
     walk_at "sx"
     cases q3:decide (0≤i) with
     | false =>
      rw[q3] at h
      walk_at "sx"
      exact h
     | true =>
      rw[q3] at h
      walk_at "sx"
      cases q4:decide (i<6) with
      | false =>
       rw[q4] at h
       walk_at "sx"
       exact h
      | true =>
       rw[q4] at h
       walk_at "sx"
       exact h
  ·refine if_bT (by simp;omega) ?_
   rw[line_len hl] at h
   walk_at "sx"
   exact h
 all_goals
  walk_at "sx"
  exact h
theorem lline_s (hd:Kn d)(h:QR (.dat (.bl (lineD d))) μ):Sat (F__law_is_line [.dat d] μ) QR E:=by
 refine w__law_is_line ?_
 unfold g__law_is_line
 walk_at "sx"
 refine tup_i hd.kb ?_
 rcases kb_cases hd.kb with rfl|⟨b,rfl⟩|⟨b,rfl⟩|⟨b,rfl⟩|⟨ds,rfl⟩|⟨b,rfl⟩|⟨b,rfl⟩
 case inr.inr.inr.inr.inl =>
  walk_at "sx"
  by_cases hl:ds.length=2
  ·obtain⟨a,b,rfl⟩:∃ a b,ds=[a,b]:=by
    match ds,hl with
    | [a,b],_=>exact⟨a,b,rfl⟩
   have ka:=hd.it (ds:=[a,b]) rfl a (by simp)
   have kb:=hd.it (ds:=[a,b]) rfl b (by simp)
   refine if_bF (by simp) ?_
   walk_at "sx"
   rw[show([a,b]:List D)=List.map id [a,b] from rfl]
   refine lc_filK (fun x=>!isIntD x) (fun x=>x) (fun x hx=>⟨_,rfl,?_,fun _=>?_⟩) ?_
   ·walk_at "sx"
    refine whole_s (hd.it (ds:=[a,b]) rfl x hx).kb ?_
    walk_at "sx"
    exact⟨rfl,rfl⟩
   ·walk_at "sx"
    exact⟨rfl,rfl⟩
   walk_at "sx"
   refine neW_nil ?_
   rw[show(List.map id [a,b])=[a,b] from rfl]
   cases q:isIntD a with
   | false =>
    rw[line_ab (fun z=>by rw[q] at z;cases z.1)] at h
    refine if_bT (by simp[q]) ?_
    walk_at "sx"
    exact h
   | true =>
    cases q2:isIntD b with
    | false =>
     rw[line_ab (fun z=>by rw[q2] at z;cases z.2)] at h
     refine if_bT (by simp[q,q2]) ?_
     walk_at "sx"
     exact h
    | true =>
     refine if_bF (by simp[q,q2]) ?_
     obtain⟨i,rfl⟩:=int_is q
     obtain⟨j,rfl⟩:=int_is q2
     have e:lineD (.tup [.int i,.int j])=(decide (0≤i)&&(decide (i<6)&&decide (1≤j))):=rfl
     rw[e] at h
     walk_at "sx"
     cases q3:decide (0≤i) with
     | false =>
      rw[q3] at h
      walk_at "sx"
      exact h
     | true =>
      rw[q3] at h
      walk_at "sx"
      cases q4:decide (i<6) with
      | false =>
       rw[q4] at h
       walk_at "sx"
       exact h
      | true =>
       rw[q4] at h
       walk_at "sx"
       have e5:decide (j > 0)=decide (1≤j):=decide_eq_decide.mpr (by omega)
       rw[e5]
       exact h
  ·refine if_bT (by simp;omega) ?_
   rw[line_len hl] at h
   walk_at "sx"
   exact h
 all_goals
  walk_at "sx"
  exact h
end
--SXMACE
section
variable {QR:R→Mem→Prop}{E:Xc→Mem→Prop}{μ ν:Mem}{P:PO}{N:Nat}{s:Str}{ss:List Str}{d:D}{ds:List D}
abbrev eW:D:=.eo "Wrong"
abbrev ownV6:List D:=[eW,.lst [eW],.tup [eW,eW],.tup [.str "new",eW],.tup [.tup [.str "a"],.tup [eW]],.tup [.str "go",.tup [eW]]]
theorem alike_s {x y:DV}{k w:Nat}(hx:peek μ x=some d)(hy:peek μ y=some d)(h:Fk k w d)(hk:k≤64)(hw:w≤2^20)(q:QR (.dat (.bl true)) μ):Sat (F__law_alike [x,y] μ) QR E:=by
 rw[e__law_alike];exact alikeA hx hy h hk hw q
theorem own_int (hd:d∈ownV6)(h:QR (.dat (.bl false)) μ):Sat (F_is_integer [.dat d] μ) QR E:=by
 simp only[ownV6,List.mem_cons,List.not_mem_nil,or_false] at hd
 rcases hd with rfl|rfl|rfl|rfl|rfl|rfl
 all_goals
  refine w_is_integer ?_
  unfold g_is_integer
  walk_at "sx"
  exact h
theorem own_name (hd:d∈ownV6)(h:QR (.dat (.bl false)) μ):Sat (F_is_name [.dat d] μ) QR E:=by
 simp only[ownV6,List.mem_cons,List.not_mem_nil,or_false] at hd
 rcases hd with rfl|rfl|rfl|rfl|rfl|rfl
 all_goals
  refine w_is_name ?_
  unfold g_is_name
  walk_at "sx"
  exact h
theorem own_word (hd:d∈ownV6)(h:QR (.dat (.bl false)) μ):Sat (F_is_word [.dat d] μ) QR E:=by
 simp only[ownV6,List.mem_cons,List.not_mem_nil,or_false] at hd
 rcases hd with rfl|rfl|rfl|rfl|rfl|rfl
 all_goals
  refine w_is_word ?_
  unfold g_is_word
  walk_at "sx"
  exact h
theorem own_namesT (h:QR (.dat (.bl false)) μ):Sat (F_are_names [.dat (.tup [eW]),.dat (.int 3)] μ) QR E:=by
 refine w_are_names ?_
 unfold g_are_names
 walk_at "sx"
 rw[show([eW]:List D)=List.map id [eW] from rfl]
 refine lc_mapK (fun x=>.bl false) (fun x hx=>⟨_,rfl,?_⟩) ?_
 ·simp at hx
  subst hx
  walk_at "sx"
  refine own_name (by simp) ?_
  walk_at "sx"
  exact⟨rfl,rfl⟩
 ·walk_at "sx"
  refine l_all (f:=fun _=>false) ?_
  walk_at "sx"
  exact h
theorem own_namesE (h:QR (.dat (.bl false)) μ):Sat (F_are_names [.dat eW,.dat (.int 3)] μ) QR E:=by
 refine w_are_names ?_
 unfold g_are_names
 walk_at "sx"
 exact h
theorem names_str (h:QR (.dat (.bl false)) μ):Sat (F_are_names [.dat (.str s),.dat (.int 3)] μ) QR E:=by
 refine w_are_names ?_
 unfold g_are_names
 walk_at "sx"
 exact h
theorem own_step (hd:d∈ownV6)(h:QR (.dat (.bl false)) μ):Sat (F_is_step [.dat d] μ) QR E:=by
 simp only[ownV6,List.mem_cons,List.not_mem_nil,or_false] at hd
 rcases hd with rfl|rfl|rfl|rfl|rfl|rfl
 all_goals
  refine w_is_step ?_
  unfold g_is_step
  walk_at "sx"
  try exact h
 refine own_name (by simp) ?_
 walk_at "sx"
 exact h
theorem own_deed (hd:d∈ownV6)(h:QR (.dat (.bl false)) μ):Sat (F_is_deed [.dat d] μ) QR E:=by
 simp only[ownV6,List.mem_cons,List.not_mem_nil,or_false] at hd
 rcases hd with rfl|rfl|rfl|rfl|rfl|rfl
 all_goals
  refine w_is_deed ?_
  unfold g_is_deed
  walk_at "sx"
  try exact h
 ·refine own_namesE ?_
  walk_at "sx"
  exact h
 ·refine names_str ?_
  walk_at "sx"
  exact h
 ·refine names_ok (m:=3) (ss:=["a"]) (by decide) (by decide) (by decide) (by decide) (fun s hs=>by simp at hs;subst hs;decide +kernel) ?_
  walk_at "sx"
  rw[show([eW]:List D)=List.map id [eW] from rfl]
  refine lc_mapK (fun x=>.bl false) (fun x hx=>⟨_,rfl,?_⟩) ?_
  ·simp at hx
   subst hx
   walk_at "sx"
   refine own_step (by simp) ?_
   walk_at "sx"
   exact⟨rfl,rfl⟩
  ·walk_at "sx"
   refine l_all (f:=fun _=>false) ?_
   walk_at "sx"
   exact h
 ·refine names_str ?_
  walk_at "sx"
  exact h
theorem own_call (hd:d∈ownV6)(h:QR (.dat (.bl false)) μ):Sat (F_is_call [.dat d] μ) QR E:=by
 simp only[ownV6,List.mem_cons,List.not_mem_nil,or_false] at hd
 rcases hd with rfl|rfl|rfl|rfl|rfl|rfl
 all_goals
  refine w_is_call ?_
  unfold g_is_call
  walk_at "sx"
  try exact h
 ·refine own_name (by simp) ?_
  walk_at "sx"
  exact h
 ·refine name_s (by decide +kernel) ?_
  walk_at "sx"
  refine own_namesE ?_
  walk_at "sx"
  exact h
 ·refine aname_s ⟨rfl,fun s e=>by cases e⟩ ?_
  walk_at "sx"
  exact h
 ·refine name_s (by decide +kernel) ?_
  walk_at "sx"
  refine own_namesT ?_
  walk_at "sx"
  exact h
theorem own_line (hd:d∈ownV6)(h:QR (.dat (.bl false)) μ):Sat (F_is_line [.dat d] μ) QR E:=by
 simp only[ownV6,List.mem_cons,List.not_mem_nil,or_false] at hd
 rcases hd with rfl|rfl|rfl|rfl|rfl|rfl
 all_goals
  refine w_is_line ?_
  unfold g_is_line
  walk_at "sx"
  try exact h
 ·refine own_int (by simp) ?_
  walk_at "sx"
  exact h
 all_goals
  refine integer_s rfl ?_
  walk_at "sx"
  exact h
theorem own_s (h:QR (.dat (.bl true)) μ):Sat (F__law_own_right [] μ) QR E:=by
 refine w__law_own_right ?_
 unfold g__law_own_right
 walk_at "sx"
 refine x_eErr ?_
 walk_at "sx"
 refine for_inv (fun k δ μ'=>δ=[some (.dat eW),none,none]∧μ'=μ) ⟨rfl,rfl⟩ (fun k d hd δ μ' hI=>?_) fun δ μ' hI=>?_
 ·obtain⟨rfl,rfl⟩:=hI
  have hm:d∈ownV6:=List.mem_of_getElem? hd
  refine⟨_,rfl,?_⟩
  unfold b__law_own_right_1
  walk_at "sx"
  refine own_int hm ?_
  walk_at "sx"
  refine own_name hm ?_
  walk_at "sx"
  refine own_step hm ?_
  walk_at "sx"
  refine own_deed hm ?_
  walk_at "sx"
  refine own_call hm ?_
  walk_at "sx"
  refine own_line hm ?_
  walk_at "sx"
  refine own_word hm ?_
  walk_at "sx"
  refine l_addL (sl_sz2 (by decide)) ?_
  walk_at "sx"
  refine l_rep (xs:=[.dat (.bl false)]) rfl rfl ⟨by decide,by decide,by decide⟩ ?_
  rw[show(List.replicate (Int.toNat 7) [DV.dat (D.bl false)]).flatten=(List.replicate 7 (D.bl false)).map DV.dat from rfl]
  walk_at "sx"
  have hf:Fk 1 100 (.lst (List.replicate 7 (.bl false))):=(fk_lst (k:=0) (w:=5) (n:=7) (fun d hd=>by
   rw[List.eq_of_mem_replicate hd];exact fk_bl) (by simp)).mono (by decide) (by decide)
  refine alike_s (d:=.lst (List.replicate 7 (.bl false))) rfl rfl hf (by decide) (by decide) ?_
  walk_at "sx"
  exact⟨by simp[cut,DL.cutV],List.take_length⟩
 ·obtain⟨rfl,rfl⟩:=hI
  walk_at "sx"
  exact h
end
--SXMACE
section
variable {QR:R→Mem→Prop}{E:Xc→Mem→Prop}{μ ν:Mem}{P:PO}{N k m:Nat}{s n:Str}{ss ns:List Str}{d x:D}{ds:List D}{B:Bg}
theorem deep_s (h:QR (.dat (deepD 7)) μ):Sat (F__law_deep [] μ) QR E:=by
 refine w__law_deep ?_
 unfold g__law_deep
 walk_at "sx"
 refine And.intro ⟨by decide,by decide⟩ ?_
 refine for_inv (fun k δ μ'=>δ=[some (.dat (deepD k)),none]∧μ'=μ) ⟨rfl,rfl⟩ (fun k d hd δ μ' hI=>?_) fun δ μ' hI=>?_
 ·obtain⟨rfl,rfl⟩:=hI
  refine⟨_,rfl,?_⟩
  unfold b__law_deep_1
  walk_at "sx"
  exact⟨rfl,List.take_length⟩
 obtain⟨rfl,rfl⟩:=hI
 rw[show(rngD 0 (7:Int).toNat).length=7 from rfl]
 walk_at "sx"
 exact h
theorem flat_rep {α:Type}(n:Nat)(x:α):(List.replicate n [x]).flatten=List.replicate n x:=by
 induction n with
 | zero=>rfl
 | succ n ih=>rw[List.replicate_succ,List.flatten_cons,ih,List.replicate_succ];rfl
theorem rep_map (n:Nat)(d:D):(List.replicate n [DV.dat d]).flatten=(List.replicate n d).map DV.dat:=by rw[flat_rep,List.map_replicate]
theorem l_addM {m:Nat}{xs es:List D}(e:μ[m]?=some (.lst (xs.map DV.dat)))(hl:xs.length+es.length≤sizeLine)(h:QR (.nl ((xs++es).map DV.dat)) μ):Sat (dAdd (.loc m) (.dat (.lst es)) μ) QR E:=by
 have:dAdd (.loc m) (.dat (.lst es)) μ=.ok (.nl ((xs++es).map DV.dat)) μ:=by
  unfold dAdd
  simp only[asI,asStr,asT,asM,e]
  rw[if_pos (by rw[List.length_map,List.length_map];exact hl),List.map_append]
 rw[this];exact h
theorem atI_map {k:Nat}(h:k<ds.length):atI (ds.map DV.dat) (k:Int)=some (.dat ds[k]):=DL.atI_nat (by rw[List.getElem?_map,List.getElem?_eq_getElem h];rfl)
theorem set_snoc {α:Type}(l:List α)(a b:α):(l++[a]).set l.length b=l++[b]:=by
 rw[List.set_append_right _ _ (Nat.le_refl _),Nat.sub_self];rfl
abbrev oA1:List D:=[.non,.bl true,.bl false,.int 0,.int 1,.int (-1),.int (10^39),.str "",.str "a",.str "A",.str "new",.str "share",.str "idle",.str "cut",.str "Cut",.str "a b"]
abbrev oA2:List D:=[.str "ninesigns",.str "a1",.tup [],.lst [],.dct [],.tup [.str "new",.str "a"],.lst [.str "new",.str "a"],.tup [.str "new"],.tup [.str "new",.str "a",.str "b"]]
abbrev oA3:List D:=[.tup [.str "share",.str "a"],.tup [.str "share",.str "a",.str "a"],.tup [.str "hold",.str "a",.str "b"],.tup [.str "give",.tup [.str "a"]],.tup [.str "a",.str "b"]]
abbrev oA4:List D:=[.tup [.str "a",.str "a"],.tup [.int 0,.int 1],.tup [.int 5,.int 1],.tup [.int 6,.int 1],.tup [.int 0,.int 0],.tup [.bl true,.int 1],.tup [.int 0,.bl true],.tup [.int 0,.int (10^39)],.tup [.int (-1),.int 1],.lst [.int 0,.int 1]]
abbrev oA5:List D:=[.tup [.tup [],.tup []],.tup [.tup [.str "a"],.tup []],.tup [.tup [.str "a"],.tup [.tup [.str "new",.str "a"]]],.lst (List.replicate 1900 .non),deepD 7,.tup [.str "new",.lst []],.tup [.dct [],.int 1]]
abbrev oddV:List D:=oA1++oA2++oA3++oA4++oA5++[.str "a\n"]
theorem oddV_len:oddV.length=48:=by decide +kernel
theorem odd_s (hB:B.ok)(h:∀ (d:D) (B':Bg),B'.ok→d∈oddV→QR (.dat d) (B'.pl::ν)):Sat (F__law_odd_value [.loc 0] (B.pl::ν)) QR E:=by
 refine w__law_odd_value ?_
 unfold g__law_odd_value
 walk_at "sx"
 refine l_pow (by decide +kernel) ?_
 walk_at "sx"
 rw[show(10:Int)^Int.toNat 39=10^39 from rfl]
 refine r_nl (Nat.le_refl _) ?_
 walk_at "sx"
 refine⟨[],[],rfl,rfl,?_⟩
 walk_at "sx"
 refine l_addM (xs:=oA1) (by simp) (sl_sz2 (by decide +kernel)) ?_
 refine r_nl (by simp) ?_
 walk_at "sx"
 refine l_addM (xs:=oA1++oA2) (by simp) (sl_sz2 (by decide +kernel)) ?_
 refine r_nl (by simp) ?_
 walk_at "sx"
 refine l_pow (by decide +kernel) ?_
 walk_at "sx"
 rw[show(10:Int)^Int.toNat 39=10^39 from rfl]
 refine l_addM (xs:=oA1++oA2++oA3) (by simp) (sl_sz2 (by decide +kernel)) ?_
 refine r_nl (by simp) ?_
 walk_at "sx"
 refine l_rep (xs:=[.dat .non]) rfl rfl ⟨by decide,by decide,by decide +kernel⟩ ?_
 rw[rep_map]
 walk_at "sx"
 refine deep_s ?_
 walk_at "sx"
 refine⟨[],[],rfl,rfl,?_⟩
 walk_at "sx"
 refine l_addM (xs:=oA1++oA2++oA3++oA4) (by simp) (sl_sz2 (by decide +kernel)) ?_
 refine r_nl (by simp) ?_
 walk_at "sx"
 refine l_app (xs:=(oA1++oA2++oA3++oA4++oA5).map DV.dat) (by simp) (Nat.lt_of_le_of_lt (show _≤1000 by decide +kernel) (by decide)) rfl ?_
 walk_at "sx"
 rw[set_snoc,show(oA1++oA2++oA3++oA4++oA5).map DV.dat++[DV.dat (.str "a\n")]=oddV.map DV.dat from(List.map_append (l₂:=[D.str "a\n"])).symm]
 iterate 5 rw[List.cons_append (a:=B.pl)]
 refine take_s (m:=48) hB (by decide) (by decide) fun r B2 hB2 hr=>?_
 walk_at "sx"
 have hr':r<oddV.length:=by rw[oddV_len];omega
 refine w_ix (l_ixM (xs:=oddV.map DV.dat) (by simp) (atI_map hr') ?_)
 generalize hd:oddV[r]=d
 have hm:d∈oddV:=hd▸List.getElem_mem hr'
 walk_at "sx"
 refine e_dat (show List.take _ _=B2.pl::ν from by simp) ?_
 exact h d B2 hB2 hm
end
--SXMACE
section
variable {QR:R→Mem→Prop}{E:Xc→Mem→Prop}{μ ν:Mem}{P:PO}{N k m:Nat}{s n:Str}{ss ns:List Str}{d x:D}{ds:List D}{B:Bg}
abbrev sgn39:Str:="abcdefghijklmnopqrstuvwxyzAZ09 _-~!@\x5b`{"
theorem joinL_nil:∀ cs:List Nat,TL.joinL [] (cs.map fun c=>[c])=cs
 | []=>rfl
 | [_]=>rfl
 | a::b::r=>by
  show [a]++([]++TL.joinL [] ((b::r).map fun c=>[c]))=a::b::r
  rw[joinL_nil (b::r)];rfl
theorem join_ok {cs:List Nat} (h:∀ c∈cs,c<0x110000) (hl:cs.length≤12):PyData.strOk (Txt.join "" (cs.map fun c=>(⟨#[c]⟩:Str)))=true∧(Txt.join "" (cs.map fun c=>(⟨#[c]⟩:Str))).cps.size≤12:=by
 have e:(Txt.join "" (cs.map fun c=>(⟨#[c]⟩:Str))).cps.toList=cs:=by
  have:=TL.tl_join "" (cs.map fun c=>(⟨#[c]⟩:Str))
  rw[←TL.join_eq,List.map_map] at this
  exact this.trans (joinL_nil cs)
 generalize Txt.join "" (cs.map fun c=>(⟨#[c]⟩:Str))=s at e
 refine⟨?_,by rw[←Array.length_toList,e];exact hl⟩
 show s.cps.all (·<0x110000)=true
 rw[←Array.all_toList,e,List.all_eq_true]
 exact fun c hc=>decide_eq_true (h c hc)
theorem word_s (hB:B.ok)(h:∀ (s:Str) (B':Bg),B'.ok→PyData.strOk s=true→s.cps.size≤12→QR (.dat (.str s)) (B'.pl::ν)):Sat (F__law_word [.loc 0] (B.pl::ν)) QR E:=by
 refine w__law_word ?_
 unfold g__law_word
 walk_at "sx"
 refine take_s (m:=12) hB (by decide) (by decide) fun r B1 hB1 hr=>?_
 walk_at "sx"
 refine take_s (m:=5) hB1 (by decide) (by decide) fun q B2 hB2 hq=>?_
 walk_at "sx"
 have hx:∃ m:Nat,m≤11∧([D.int 1,.int 7,.int 8,.int 9,.int r]:List D)[q]?=some (.int m):=by
  have:q=0∨q=1∨q=2∨q=3∨q=4:=by omega
  rcases this with rfl|rfl|rfl|rfl|rfl
  ·exact⟨1,by decide,rfl⟩
  ·exact⟨7,by decide,rfl⟩
  ·exact⟨8,by decide,rfl⟩
  ·exact⟨9,by decide,rfl⟩
  ·exact⟨r,by omega,rfl⟩
 obtain⟨m,hm,ex⟩:=hx
 refine w_ix (l_ixL (d:=.int m) (DL.atI_nat ex) ?_)
 walk_at "sx"
 refine And.intro ⟨by omega,by omega⟩ ?_
 refine And.intro (sz_lit' (by rw[rng_len];omega)) ?_
 refine lc_ix (fun i ys μ=>∃ (cs:List Nat) (B':Bg),B'.ok∧μ=B'.pl::ν∧cs.length=i∧(∀ c∈cs,c<0x110000)∧ys=cs.map fun c=>.dat (.str ⟨#[c]⟩)) ⟨[],B2,hB2,rfl,rfl,(fun _ h=>by cases h),rfl⟩ (fun i d hd ys μ hI=>?_) fun ys μ hI=>?_
 ·obtain⟨cs,B',hB',rfl,hl',hst,rfl⟩:=hI
  refine⟨_,rfl,?_⟩
  walk_at "sx"
  refine take_s (m:=4) hB' (by decide) (by decide) fun a B3 hB3 ha=>?_
  walk_at "sx"
  have hy:∃ k:Nat,1≤k∧k≤39∧([D.int 26,.int 26,.int 26,.int 39]:List D)[a]?=some (.int k):=by
   have:a=0∨a=1∨a=2∨a=3:=by omega
   rcases this with rfl|rfl|rfl|rfl
   ·exact⟨26,by decide,by decide,rfl⟩
   ·exact⟨26,by decide,by decide,rfl⟩
   ·exact⟨26,by decide,by decide,rfl⟩
   ·exact⟨39,by decide,by decide,rfl⟩
  obtain⟨k,hk1,hk2,ey⟩:=hy
  refine w_ix (l_ixL (d:=.int k) (DL.atI_nat ey) ?_)
  walk_at "sx"
  refine take_s (m:=k) hB3 (by omega) (by omega) fun b B4 hB4 hb=>?_
  walk_at "sx"
  have hl39:sgn39.cps.toList.length=39:=by decide +kernel
  have hb':b<sgn39.cps.toList.length:=by rw[hl39];omega
  have hc:sgn39.cps.toList[b]<0x110000:=by
   have:∀ c∈sgn39.cps.toList,c<0x110000:=by decide +kernel
   exact this _ (List.getElem_mem hb')
  refine l_ixS (z:=sgn39) (DL.atI_nat (List.getElem?_eq_getElem hb')) (by decide +kernel) ?_
  walk_at "sx"
  exact⟨cs++[sgn39.cps.toList[b]],B4,hB4,rfl,by simp[hl'],fun c z=>(List.mem_append.mp z).elim (hst c) fun q=>by simp at q;rw[q];exact hc,by simp⟩
 ·obtain⟨cs,B',hB',rfl,hl',hst,rfl⟩:=hI
  rw[rng_len] at hl'
  walk_at "sx"
  rw[show(cs.map fun c=>D.str ⟨#[c]⟩)=(cs.map fun c=>(⟨#[c]⟩:Str)).map D.str by rw[List.map_map];rfl]
  refine l_join (ys:=cs.map fun c=>⟨#[c]⟩) (by
   rw[List.map_map]
   have:(cs.map ((·.length)∘fun c=>(⟨#[c]⟩:Str))).sum=cs.length:=by
    clear hl' hst
    induction cs with
    | nil=>rfl
    | cons c cs ih=>rw[List.map_cons,List.sum_cons,ih];show 1+cs.length=_;simp;omega
   rw[this,List.length_map]
   have:("":Str).length=0:=by decide
   rw[this];omega) ?_
  walk_at "sx"
  have hj:=join_ok hst (by omega)
  exact h _ B' hB' hj.1 hj.2
end
--SXMACE
section
variable {QR:R→Mem→Prop}{E:Xc→Mem→Prop}{μ ν:Mem}{P:PO}{N k m:Nat}{s n:Str}{ss ns:List Str}{d x:D}{ds:List D}{B:Bg}
theorem odd_vo:∀ d∈oddV,Vo 10 2500 d:=vo_all (j:=12) (by decide +kernel)
def isSeqO (d:D):Bool:=(seqO d).isSome
def isLstD:D→Bool
 | .lst _=>true
 | _=>false
theorem seq_i (hd:KdB d=true) (h:QR (.dat (.bl (isSeqO d))) μ):Sat (dIsi (tabT2 "tuple" "list" []) (.dat d) μ) QR E:=by
 rcases kb_cases hd with rfl|⟨b,rfl⟩|⟨b,rfl⟩|⟨b,rfl⟩|⟨b,rfl⟩|⟨b,rfl⟩|⟨b,rfl⟩
 ·exact l_isi rfl (show tabT2 "tuple" "list" [] (.b "NoneType")=some false from by simp only[tabT2,kb_NoneType_list,kb_NoneType_tuple]) h
 ·exact l_isi rfl (show tabT2 "tuple" "list" [] (.b "bool")=some false from by simp only[tabT2,kb_bool_list,kb_bool_tuple]) h
 ·exact l_isi rfl (show tabT2 "tuple" "list" [] (.b "int")=some false from by simp only[tabT2,kb_int_list,kb_int_tuple]) h
 ·exact l_isi rfl (show tabT2 "tuple" "list" [] (.b "str")=some false from by simp only[tabT2,kb_str_list,kb_str_tuple]) h
 ·exact l_isi rfl (show tabT2 "tuple" "list" [] (.b "tuple")=some true from by simp only[tabT2,kb_tuple_list,kb_tuple_tuple]) h
 ·exact l_isi rfl (show tabT2 "tuple" "list" [] (.b "list")=some true from by simp only[tabT2,kb_list_list,kb_list_tuple]) h
 ·exact l_isi rfl (show tabT2 "tuple" "list" [] (.b "dict")=some false from by simp only[tabT2,kb_dict_list,kb_dict_tuple]) h
theorem lst_i (hd:KdB d=true) (h:QR (.dat (.bl (isLstD d))) μ):Sat (dIsi (tabT "list" []) (.dat d) μ) QR E:=by
 rcases kb_cases hd with rfl|⟨b,rfl⟩|⟨b,rfl⟩|⟨b,rfl⟩|⟨b,rfl⟩|⟨b,rfl⟩|⟨b,rfl⟩ <;> (walk_at "isi";exact h)
theorem seqlen_s (e:seqO d=some ds)(h:QR (.dat (.int ds.length)) μ):Sat (dLenA [.dat d] μ) QR E:=by
 cases d <;> simp[seqO] at e
 ·subst e;exact w_len (l_lenT h)
 ·subst e;exact w_len (l_lenL h)
theorem list_s (e:seqO d=some ds)(h:QR (.nl (ds.map DV.dat)) μ):Sat (dListA [.dat d] μ) QR E:=by
 cases d <;> simp[seqO] at e
 ·subst e;exact w_list (l_listT h)
 ·subst e;exact w_list (l_listL h)
abbrev RsO (d:D)(r:R):Prop:=r=.dat d∨∃ ds:List D,r=.nl (ds.map DV.dat)∧d=.lst ds
theorem z_rso {QV:DV→Mem→Prop}{r:R}(hr:RsO d r)(h:QV (.dat d) μ):FzK r μ QV:=by
 rcases hr with rfl|⟨ds,rfl,rfl⟩
 ·exact z_dat h
 ·exact z_nlm h
theorem seq_of (h:isSeqO d=true):∃ ds,seqO d=some ds:=Option.isSome_iff_exists.mp h
theorem l_slM {m:Nat}{es:List D}{lo hi:Option Int}(e:μ[m]?=some (.lst (es.map DV.dat)))(h:QR (.nl ((cutL es lo hi).map DV.dat)) μ):Sat (dSl (.loc m) lo hi μ) QR E:=by
 have:dSl (.loc m) lo hi μ=.ok (.nl ((cutL es lo hi).map DV.dat)) μ:=by unfold dSl;simp only[asL,e];rw[cutL_map]
 rw[this];exact h
abbrev pl2 (ν:Mem)(B:Bg)(ds:List D):Mem:=B.pl::(ν++[.lst (ds.map DV.dat)])
theorem pl2_at:(pl2 ν B ds)[ν.length+1]?=some (.lst (ds.map DV.dat)):=by simp
theorem pl2_set {d:D}(h:k<ds.length):setPl (pl2 ν B ds) (.loc (ν.length+1)) (.dat (.int k)) (.dat d)=some (pl2 ν B (ds.set k d)):=by
 have:=setPl_at (μ:=B.pl::ν) (zs:=ds.map DV.dat) (k:=k) (y:=.dat d) (X:=[]) (by rw[List.length_map];exact h) rfl
 rw[←List.map_set] at this
 exact this
theorem cutL_subl {α:Type}(xs:List α)(l u:Option Int):(cutL xs l u).Sublist xs:=(List.take_sublist _ _).trans (List.drop_sublist _ _)
theorem lst_i2 (hd:KdB d=true) (h1:isLstD d=true→QR (.dat (.bl true)) μ) (h2:isLstD d=false→QR (.dat (.bl false)) μ):Sat (dIsi (tabT "list" []) (.dat d) μ) QR E:=by
 refine lst_i hd ?_
 cases e:isLstD d with
 | true=>exact h1 e
 | false=>exact h2 e
theorem one_len {i:Nat}:(cutL ds (some (i:Int)) (some ((i:Int)+1))).length≤1:=by
 rw[show((i:Int)+1)=((i+1:Nat):Int) by push_cast;rfl]
 unfold cutL
 rw[List.length_take]
 refine Nat.le_trans (Nat.min_le_left _ _) ?_
 simp only[HT.sIx]
 repeat' split
 all_goals omega
theorem vol_dup {k S L:Nat}{i:Nat}(h:VoL k S L ds)(u v:Option Int)(hl:(cutL ds u v).length≤1):VoL k (S+S) (L+1) (cutL ds none (some (i:Int))++cutL ds u v++cutL ds (some (i:Int)) none):=by
 have hm:∀ x∈cutL ds none (some (i:Int))++cutL ds u v++cutL ds (some (i:Int)) none,x∈ds:=fun x hx=>by
  rcases List.mem_append.mp hx with q|q
  ·rcases List.mem_append.mp q with q|q <;> exact cutL_mem q
  ·exact cutL_mem q
 have h1:=sum_subW (cutL_subl ds u v)
 have h3:((ds.take i).map wtD).sum+((ds.drop i).map wtD).sum=(ds.map wtD).sum:=by rw[←List.sum_append,←List.map_append,List.take_append_drop]
 have h4:(ds.take i).length+(ds.drop i).length=ds.length:=by rw[←List.length_append,List.take_append_drop]
 have:=h.sum
 have:=h.len
 refine⟨fun x hx=>h.kn x (hm x hx),fun x hx=>h.sx x (hm x hx),?_,?_⟩
 ·rw[cut_to,cut_from ds i rfl,List.map_append,List.map_append,List.sum_append,List.sum_append];omega
 ·rw[cut_to,cut_from ds i rfl,List.length_append,List.length_append];omega
theorem vol_del {k S L:Nat}{i:Nat}(h:VoL k S L ds):VoL k S L (cutL ds none (some (i:Int))++cutL ds (some ((i:Int)+1)) none):=by
 rw[cut_to,cut_from ds (i+1) (by push_cast;rfl)]
 refine h.sub ?_
 have e:(ds.take i++ds.drop (i+1)).Sublist (ds.take i++ds.drop i):=List.Sublist.append (List.Sublist.refl _) (by rw[←List.drop_drop];exact List.drop_sublist _ _)
 rw[List.take_append_drop] at e
 exact e
theorem word_vo {k W:Nat}(hs:PyData.strOk s=true)(hl:s.cps.size≤12):Vo k (W+max W 2500+1) (.str s):=⟨kn_str (show s.cps.size≤1000 by omega),(sx_str hs).1.mono (Nat.zero_le _),by rw[(sx_str hs).2];omega⟩
theorem bent_s:∀ (j:Nat) {x:D} {k W:Nat} {B:Bg} {ν:Mem} {QR:R→Mem→Prop} {E:Xc→Mem→Prop},Vo k W x→k≤j→k≤30→W≤18000→B.ok→(∀ (d:D) (r:R) (B':Bg),B'.ok→RsO d r→Vo (k+10) (W+max W 2500+1) d→QR r (B'.pl::ν))→Sat (Fr__law_bent (j+1) [.loc 0,.dat x] (B.pl::ν)) QR E:=by
 intro j
 induction j with
 | zero =>
  intro x k W B ν QR E hx hk hk2 hW hB h
  refine wr__law_bent ?_
  unfold g__law_bent
  walk_at "sx"
  refine seq_i hx.kn.kb ?_
  walk_at "sx"
  have e:isSeqO x=false:=by
   cases e:isSeqO x with
   | false=>rfl
   | true=>obtain⟨ds,e⟩:=seq_of e;have:=(hx.items e).1;omega
  rw[e]
  refine if_bT rfl ?_
  refine if_bT rfl ?_
  walk_at "sx"
  refine odd_s hB fun d1 B1 hB1 hm1=>?_
  walk_at "sx"
  refine word_s hB1 fun s B2 hB2 hs hl=>?_
  walk_at "sx"
  refine take_s (m:=2) hB2 (by decide) (by decide) fun r B3 hB3 hr=>?_
  walk_at "sx"
  have hr2:r=0∨r=1:=by omega
  rcases hr2 with rfl|rfl
  ·refine w_ix (l_ixL (d:=d1) rfl ?_)
   walk_at "sx"
   exact h d1 _ B3 hB3 (.inl rfl) ((odd_vo d1 hm1).mono (by omega) (by omega))
  ·refine w_ix (l_ixL (d:=.str s) rfl ?_)
   walk_at "sx"
   exact h (.str s) _ B3 hB3 (.inl rfl) (word_vo hs hl)
 | succ j ih =>
  intro x k W B ν QR E hx hk hk2 hW hB h
  refine wr__law_bent ?_
  unfold g__law_bent
  walk_at "sx"
  refine seq_i hx.kn.kb ?_
  walk_at "sx"
  cases c:isSeqO x with
  | false =>
   refine if_bT rfl ?_
   refine if_bT rfl ?_
   walk_at "sx"
   refine odd_s hB fun d1 B1 hB1 hm1=>?_
   walk_at "sx"
   refine word_s hB1 fun s B2 hB2 hs hl=>?_
   walk_at "sx"
   refine take_s (m:=2) hB2 (by decide) (by decide) fun r B3 hB3 hr=>?_
   walk_at "sx"
   have hr2:r=0∨r=1:=by omega
   rcases hr2 with rfl|rfl
   ·refine w_ix (l_ixL (d:=d1) rfl ?_)
    walk_at "sx"
    exact h d1 _ B3 hB3 (.inl rfl) ((odd_vo d1 hm1).mono (by omega) (by omega))
   ·refine w_ix (l_ixL (d:=.str s) rfl ?_)
    walk_at "sx"
    exact h (.str s) _ B3 hB3 (.inl rfl) (word_vo hs hl)
  | true =>
   refine if_bF rfl ?_
   obtain⟨ds,e⟩:=seq_of c
   obtain⟨hk1,hL,hw,hl⟩:=hx.items e
   walk_at "sx"
   refine seqlen_s e ?_
   walk_at "sx"
   refine if_dec (fun c0=>?_) (fun c0=>?_)
   ·refine if_bT rfl ?_
    walk_at "sx"
    refine odd_s hB fun d1 B1' hB1' hm1=>?_
    walk_at "sx"
    refine word_s hB1' fun s B2 hB2 hs hl=>?_
    walk_at "sx"
    refine take_s (m:=2) hB2 (by decide) (by decide) fun r B3 hB3 hr=>?_
    walk_at "sx"
    have hr2:r=0∨r=1:=by omega
    rcases hr2 with rfl|rfl
    ·refine w_ix (l_ixL (d:=d1) rfl ?_)
     walk_at "sx"
     exact h d1 _ B3 hB3 (.inl rfl) ((odd_vo d1 hm1).mono (by omega) (by omega))
    ·refine w_ix (l_ixL (d:=.str s) rfl ?_)
     walk_at "sx"
     exact h (.str s) _ B3 hB3 (.inl rfl) (word_vo hs hl)
   walk_at "sx"
   refine take_s (m:=6) hB (by decide) (by decide) fun q B1 hB1 hq=>?_
   walk_at "sx"
   refine if_dec (fun c1=>?_) (fun c1=>?_)
   ·walk_at "sx"
    refine odd_s hB1 fun d1 B1' hB1' hm1=>?_
    walk_at "sx"
    refine word_s hB1' fun s B2 hB2 hs hl=>?_
    walk_at "sx"
    refine take_s (m:=2) hB2 (by decide) (by decide) fun r B3 hB3 hr=>?_
    walk_at "sx"
    have hr2:r=0∨r=1:=by omega
    rcases hr2 with rfl|rfl
    ·refine w_ix (l_ixL (d:=d1) rfl ?_)
     walk_at "sx"
     exact h d1 _ B3 hB3 (.inl rfl) ((odd_vo d1 hm1).mono (by omega) (by omega))
    ·refine w_ix (l_ixL (d:=.str s) rfl ?_)
     walk_at "sx"
     exact h (.str s) _ B3 hB3 (.inl rfl) (word_vo hs hl)
   walk_at "sx"
   refine list_s e ?_
   refine bk_nlT (Nat.le_refl _) ?_
   walk_at "sx"
   refine seqlen_s e ?_
   walk_at "sx"
   refine take_s (m:=ds.length) (ν:=ν++[.lst (ds.map DV.dat)]) hB1 (by omega) (by omega) fun i B2 hB2 hi=>?_
   walk_at "sx"
   refine take_s (m:=8) (ν:=ν++[.lst (ds.map DV.dat)]) hB2 (by decide) (by decide) fun w B3 hB3 hw=>?_
   walk_at "sx"
   have fin:∀ (B':Bg) (es:List D) (S L:Nat),B'.ok→VoL (k+9) S L es→S+L≤W+max W 2500+1→L≤20000→QR (.nl (es.map DV.dat)) (B'.pl::ν)∧QR (.dat (.tup es)) (B'.pl::ν):=fun B' es S L hB' hV h1 h2 =>
    ⟨h (.lst es) _ B' hB' (.inr ⟨es,rfl,rfl⟩) ((hV.lst h2).mono (Nat.le_refl _) h1),h (.tup es) _ B' hB' (.inl rfl) ((hV.tup h2).mono (Nat.le_refl _) h1)⟩
   have hL9:VoL (k+9) (ds.map wtD).sum ds.length ds:=hL.mono (by omega) (Nat.le_refl _) (Nat.le_refl _)
   refine if_dec (fun c2=>?_) (fun c2=>?_)
   ·walk_at "sx"
    exact e_locN (μ:=B3.pl::ν) (xs:=ds.map DV.dat) (by simp) (by simp) (by simp) (below_map ds) (h (.lst ds) _ B3 hB3 (.inr ⟨ds,rfl,rfl⟩) ((hL9.lst hl).mono (Nat.le_refl _) (by omega)))
   walk_at "sx"
   refine if_dec (fun c3=>?_) (fun c3=>?_)
   ·walk_at "sx"
    refine l_slM (pl2_at (B:=B3)) ?_
    walk_at "sx"
    refine l_slM (pl2_at (B:=B3)) ?_
    walk_at "sx"
    refine l_addL (ds:=cutL ds none (some (i:Int))) (es:=cutL ds (some ((i:Int)+1)) none) (sl_sz2 (by have:=(cutL_subl ds none (some (i:Int))).length_le;have:=(cutL_subl ds (some ((i:Int)+1)) none).length_le;omega)) ?_
    refine r_nl (by simp) ?_
    walk_at "sx"
    obtain⟨h1,h2⟩:=(fin B3 _ _ _ hB3 (vol_del (i:=i) hL9) (by omega) (by omega))
    refine lst_i2 hx.kn.kb (fun _=>?_) (fun _=>?_)
    ·walk_at "sx"
     exact e_locN (μ:=(B3.pl::ν)) (xs:=List.map DV.dat (cutL ds none (some (i:Int))++cutL ds (some ((i:Int)+1)) none)) (by simp) (by simp) (by simp) (below_map _) h1
    ·walk_at "sx"
     refine l_tupM (xs:=List.map DV.dat (cutL ds none (some (i:Int))++cutL ds (some ((i:Int)+1)) none)) (by simp) (allDat_map _) ?_
     walk_at "sx"
     first|exact e_dat (μ:=(B3.pl::ν)) (by simp) h2|exact h2
   walk_at "sx"
   refine if_dec (fun c4=>?_) (fun c4=>?_)
   ·walk_at "sx"
    refine l_slM (pl2_at (B:=B3)) ?_
    walk_at "sx"
    refine l_slM (pl2_at (B:=B3)) ?_
    walk_at "sx"
    refine l_addL (ds:=cutL ds none (some (i:Int))) (es:=cutL ds (some (i:Int)) (some ((i:Int)+1))) (sl_sz2 (by have:=(cutL_subl ds none (some (i:Int))).length_le;have:=(cutL_subl ds (some (i:Int)) (some ((i:Int)+1))).length_le;omega)) ?_
    walk_at "sx"
    refine l_slM (pl2_at (B:=B3)) ?_
    walk_at "sx"
    refine l_addL (ds:=cutL ds none (some (i:Int))++cutL ds (some (i:Int)) (some ((i:Int)+1))) (es:=cutL ds (some (i:Int)) none) (sl_sz2 (by have:=(cutL_subl ds none (some (i:Int))).length_le;have:=(cutL_subl ds (some (i:Int)) none).length_le;have:=(cutL_subl ds (some (i:Int)) (some ((i:Int)+1))).length_le;rw[List.length_append];omega)) ?_
    refine r_nl (by simp) ?_
    walk_at "sx"
    have e3:=vol_dup (i:=i) hL9 (some (i:Int)) (some ((i:Int)+1)) one_len
    obtain⟨h1,h2⟩:=(fin B3 _ _ _ hB3 e3 (by omega) (by omega))
    refine lst_i2 hx.kn.kb (fun _=>?_) (fun _=>?_)
    ·walk_at "sx"
     exact e_locN (μ:=(B3.pl::ν)) (xs:=List.map DV.dat (cutL ds none (some (i:Int))++cutL ds (some (i:Int)) (some ((i:Int)+1))++cutL ds (some (i:Int)) none)) (by simp) (by simp) (by simp) (below_map _) h1
    ·walk_at "sx"
     refine l_tupM (xs:=List.map DV.dat (cutL ds none (some (i:Int))++cutL ds (some (i:Int)) (some ((i:Int)+1))++cutL ds (some (i:Int)) none)) (by simp) (allDat_map _) ?_
     walk_at "sx"
     first|exact e_dat (μ:=(B3.pl::ν)) (by simp) h2|exact h2
   walk_at "sx"
   refine if_dec (fun c5=>?_) (fun c5=>?_)
   ·walk_at "sx"
    refine x_revB ?_
    walk_at "sx"
    refine And.intro rfl (.inr ⟨ds.map DV.dat,by simp[asL],?_⟩)
    rw[←List.map_reverse]
    refine r_nl (by simp) ?_
    walk_at "sx"
    obtain⟨h1,h2⟩:=(fin B3 _ _ _ hB3 hL9.rev (by omega) (by omega))
    refine lst_i2 hx.kn.kb (fun _=>?_) (fun _=>?_)
    ·walk_at "sx"
     exact e_locN (μ:=(B3.pl::ν)) (xs:=List.map DV.dat (ds.reverse)) (by simp) (by simp) (by simp) (below_map _) h1
    ·walk_at "sx"
     refine l_tupM (xs:=List.map DV.dat (ds.reverse)) (by simp) (allDat_map _) ?_
     walk_at "sx"
     first|exact e_dat (μ:=(B3.pl::ν)) (by simp) h2|exact h2
   walk_at "sx"
   refine if_dec (fun c6=>?_) (fun c6=>?_)
   ·walk_at "sx"
    refine odd_s (ν:=ν++[.lst (ds.map DV.dat)]) hB3 fun y B4 hB4 hy=>?_
    walk_at "sx"
    refine l_app (xs:=ds.map DV.dat) (by simp) (by rw[List.length_map];exact Nat.lt_of_le_of_lt hl (by decide)) rfl ?_
    have e3:(B4.pl::(ν++[Pl.lst (ds.map DV.dat)])).set (B1.pl::ν).length (.lst (ds.map DV.dat++[.dat y]))=pl2 ν B4 (ds++[y]):=by
     simp
    rw[e3]
    walk_at "sx"
    obtain⟨h1,h2⟩:=(fin B4 _ _ _ hB4 (hL9.app (VoL.one ((odd_vo y hy).mono (by omega) (Nat.le_refl _)))) (by omega) (by omega))
    refine lst_i2 hx.kn.kb (fun _=>?_) (fun _=>?_)
    ·walk_at "sx"
     exact e_locN (μ:=(B4.pl::ν)) (xs:=List.map DV.dat (ds++[y])) (by simp) (by simp) (by simp) (below_map _) h1
    ·walk_at "sx"
     refine l_tupM (xs:=List.map DV.dat (ds++[y])) (by simp) (allDat_map _) ?_
     walk_at "sx"
     first|exact e_dat (μ:=(B4.pl::ν)) (by simp) h2|exact h2
   walk_at "sx"
   have hi':i<ds.length:=by omega
   refine w_ix (l_ixM (xs:=ds.map DV.dat) (by simp) (atI_map hi') ?_)
   walk_at "sx"
   refine ih (ν:=ν++[.lst (ds.map DV.dat)]) (k:=k-1) (W:=wtD ds[i]) ?_ (by omega) (by omega) ?_ hB3 fun y r B4 hB4 hr hy=>?_
   ·exact⟨hL.kn _ (List.getElem_mem hi'),hL.sx _ (List.getElem_mem hi'),Nat.le_refl _⟩
   ·have:=sum_setE hi' .non
    rw[show wtD .non=0 from sx_non.2] at this
    omega
   refine z_rso hr ?_
   walk_at "sx"
   refine⟨_,pl2_set hi',?_⟩
   walk_at "sx"
   have hyL:VoL (k+9) ((ds.set i y).map wtD).sum ds.length (ds.set i y):=⟨fun z hz=>?_,fun z hz=>?_,Nat.le_refl _,by rw[List.length_set];exact Nat.le_refl _⟩
   ·have hse:=sum_setE hi' y
    have hse2:=sum_setE hi' .non
    rw[show wtD .non=0 from sx_non.2] at hse2
    have:=hy.wt
    obtain⟨h1,h2⟩:=fin B4 (ds.set i y) _ _ hB4 hyL (by omega) (by omega)
    refine lst_i2 hx.kn.kb (fun _=>?_) (fun _=>?_)
    ·walk_at "sx"
     exact e_locN (μ:=B4.pl::ν) (xs:=List.map DV.dat (ds.set i y)) (by simp) (by simp) (by simp) (below_map _) h1
    ·walk_at "sx"
     refine l_tupM (xs:=List.map DV.dat (ds.set i y)) (by simp) (allDat_map _) ?_
     walk_at "sx"
     first|exact e_dat (μ:=B4.pl::ν) (by simp) h2|exact h2
   ·rcases List.mem_or_eq_of_mem_set hz with q|rfl
    ·exact hL.kn z q
    ·exact hy.kn
   ·rcases List.mem_or_eq_of_mem_set hz with q|rfl
    ·exact(hL.sx z q).mono (by omega)
    ·exact hy.sx.mono (by omega)
end
--SXMACE
section
variable {QR:R→Mem→Prop}{E:Xc→Mem→Prop}{μ ν:Mem}{B:Bg}{P:PO}{N:Nat}{b:Bool}{s:Str}{ss as os:List Str}{xs:List Sp1}{x:Sp1}{sd:Sd}{d:Dd}{n:Str}
theorem k_nkE {kvs kvs':List (Ky×DV)}{μ':Mem}(ek:kvs=kvs')(e:μ'.take N=μ)(hb:belowA N (kvs'.map (·.2))=true)(h:QR (.nk kvs') μ):(endP N QR E).rt (.nk kvs) μ':=by
 subst ek
 show Sat (closeR N (.nk kvs) μ') QR E
 unfold closeR;simp only;rw[if_pos hb,e];exact h
theorem below_sd (sd:Sd):belowA N ((sdV sd).map (·.2))=true:=by
 unfold sdV;rw[List.map_map];exact below_mapf (fun p:Str×Dd=>ddD p.2) sd
theorem plain_s (h:QR (.nk (sdV plainSd)) μ):Sat (F__law_plain_deeds [] μ) QR E:=by
 refine w__law_plain_deeds ?_
 unfold g__law_plain_deeds
 walk_at "sx"
 refine⟨_,rfl,_,rfl,_,rfl,_,rfl,?_⟩
 refine⟨by simp,?_⟩
 exact k_nkE (merge_sd plain_ok.nd) List.take_length (below_sd _) h
end
--SXMACE
section
variable {QR:R→Mem→Prop}{E:Xc→Mem→Prop}{μ ν:Mem}{P:PO}{N:Nat}{s:Str}{ss:List Str}{d:D}{ds:List D}{B:Bg}
theorem vo_names {n:Nat}(hs:∀ s∈ss,s∈menu)(hl:ss.length≤n)(hn:n≤20):Vo 1 400 (.tup (ss.map D.str)):=by
 refine(vo_tup (k:=0) (W:=16) (n:=n) (fun x hx=>?_) (by rw[List.length_map];exact hl) (by omega)).mono (Nat.le_refl _) (by omega)
 obtain⟨s,hm,rfl⟩:=List.mem_map.mp hx
 exact vo_str (menu_fit s (hs s hm)).1 (menu_fit s (hs s hm)).2
theorem vo_stepM {x:Sp1}(h:StOk false ss x)(hs:∀ s∈ss,s∈menu):Vo 1 51 (stD x):=vo_step h fun s hm=>menu_fit s (hs s hm)
theorem pick_vo {l:List D}{k W:Nat}{i:Nat}(h:∀ d∈l,Vo k W d)(hi:i<l.length):∃ d,atI l (i:Int)=some d∧Vo k W d :=
 ⟨_,DL.atI_nat (List.getElem?_eq_getElem hi),h _ (List.getElem_mem hi)⟩
theorem vo_dc {l:List (Ky×D)}{p:PyData}(e:toPyK (.dct l)=some p)(h:(p.showable&&decide (p.depth≤10)&&p.leavesShort 45&&decide (p.weight≤2500))=true):Vo 10 2500 (.dct l):=by
 simp only[Bool.and_eq_true,decide_eq_true_eq] at h
 exact⟨.a rfl rfl (fun s e=>by cases e),⟨p,e,h.1.1.1,h.1.1.2,h.1.2⟩,by rw[wt_of e];exact h.2⟩
theorem faults6:∀ d∈([.str "spoils",.str "idle",.str "cut",.str "lost",.str "spoil",.str "Lost"]:List D),Vo 10 2500 d:=vo_all (j:=3) (by decide +kernel)
theorem thing_s (hB:B.ok)(h:∀ (d:D) (B':Bg),B'.ok→Vo 10 2500 d→QR (.dat d) (B'.pl::ν)):Sat (F__law_thing [.loc 0] (B.pl::ν)) QR E:=by
 refine w__law_thing ?_
 unfold g__law_thing
 walk_at "sx"
 refine take_s hB (by decide) (by decide) fun w B1 hB1 hw=>?_
 walk_at "sx"
 refine names_s (m:=3) hB1 (by decide) fun ss B2 hB2 hl hnd hm=>?_
 refine z_nlf (f:=D.str) ?_
 walk_at "sx"
 have hw9:w=0∨w=1∨w=2∨(w=3∨w=4)∨w=5∨w=6∨w=7∨w=8:=by omega
 rcases hw9 with rfl|rfl|rfl|hw3|rfl|rfl|rfl|rfl
 ·walk_at "sx"
  refine word_s hB2 fun s B3 hB3 hs hl=>?_
  walk_at "sx"
  exact h _ B3 hB3 ((vo_str hs (by omega)).mono (by decide) (by decide))
 ·walk_at "sx"
  refine⟨_,rfl,by decide,_,_,rfl,rfl,?_⟩
  walk_at "sx"
  refine plain_s ?_
  refine⟨_,_,rfl,sdV_dat _,?_⟩
  walk_at "sx"
  refine odd_s hB2 fun d B3 hB3 hd=>?_
  walk_at "sx"
  refine take_s hB3 (by decide) (by decide) fun r B4 hB4 hr=>?_
  walk_at "sx"
  rw[show(if(r:Int)<2 then(r:Int) else 2)=((min r 2:Nat):Int) by split <;> omega]
  have h3:∀ x∈([.dct [(Ky.k (Sum.inr "a"),.tup [.str "new",.str "a"])],.dct (sdD plainSd),d]:List D),Vo 10 2500 x:=fun x hx=>by
   simp only[List.mem_cons,List.not_mem_nil,or_false] at hx
   rcases hx with rfl|rfl|rfl
   ·exact vo_dc rfl (by decide +kernel)
   ·exact vo_dc rfl (by decide +kernel)
   ·exact odd_vo _ hd
  obtain⟨y,e,hv⟩:=pick_vo (i:=min r 2) h3 (by simp;omega)
  refine w_ix (l_ixL e ?_)
  walk_at "sx"
  exact h _ B4 hB4 hv
 ·walk_at "sx"
  refine take_s hB2 (by decide) (by decide) fun i B3 hB3 hi=>?_
  walk_at "sx"
  obtain⟨d,e,hv⟩:=pick_vo (i:=i) faults6 (by simp;omega)
  refine w_ix (l_ixL e ?_)
  walk_at "sx"
  exact h _ B3 hB3 hv
 ·refine if_bF (by simp;omega) ?_
  walk_at "sx"
  refine if_bF (by simp;omega) ?_
  walk_at "sx"
  refine if_bF (by simp;omega) ?_
  walk_at "sx"
  refine if_bT (by simp;omega) ?_
  walk_at "sx"
  refine step_s (b:=false) hB2 (by omega) (by omega) hm fun x B3 hB3 hx=>?_
  walk_at "sx"
  exact h _ B3 hB3 ((vo_stepM hx hm).mono (by decide) (by decide))
 ·obtain⟨s0,e0⟩:∃ s0,ss[0]?=some s0:=⟨_,List.getElem?_eq_getElem (by omega)⟩
  walk_at "sx"
  refine w_ix (l_ixL (at_map (k:=0) e0) ?_)
  walk_at "sx"
  refine take_s hB2 (by decide) (by decide) fun r B3 hB3 hr=>?_
  walk_at "sx"
  rw[cutL_map,show(1+(r:Int))=((1+r:Nat):Int) by push_cast;rfl,cut_to]
  have h0:=menu_fit s0 (hm s0 (List.mem_of_getElem? e0))
  have hv:Vo 10 2500 (.tup [.str s0,.tup ((ss.take (1+r)).map D.str)]):=by
   refine(vo_tup (k:=1) (W:=400) (n:=2) (fun x hx=>?_) (by simp) (by decide)).mono (by decide) (by decide)
   simp only[List.mem_cons,List.not_mem_nil,or_false] at hx
   rcases hx with rfl|rfl
   ·exact(vo_str h0.1 h0.2).mono (by decide) (by decide)
   ·exact vo_names (n:=3) (fun s hs=>hm s (List.mem_of_mem_take hs)) (by simp;omega) (by decide)
  exact h _ B3 hB3 hv
 ·walk_at "sx"
  refine take_s hB2 (by decide) (by decide) fun r B3 hB3 hr=>?_
  walk_at "sx"
  refine take_s hB3 (by decide) (by decide) fun r2 B4 hB4 hr2=>?_
  walk_at "sx"
  have hv:Vo 10 2500 (.tup [.int ((r:Int)-1),.int r2]):=by
   refine(vo_tup (k:=0) (W:=100) (n:=2) (fun x hx=>?_) (by simp) (by decide)).mono (by decide) (by decide)
   simp only[List.mem_cons,List.not_mem_nil,or_false] at hx
   rcases hx with rfl|rfl
   ·exact vo_int (by omega)
   ·exact vo_int (by omega)
  exact h _ B4 hB4 hv
 ·walk_at "sx"
  refine deed_s hB2 fun as os xs B3 hB3 hd=>?_
  walk_at "sx"
  refine take_s hB3 (by decide) (by decide) fun r B4 hB4 hr=>?_
  walk_at "sx"
  rw[show(1+(r:Int))=((1+r:Nat):Int) by push_cast;rfl]
  refine And.intro ⟨by omega,by omega⟩ (And.intro (sl_sz (by rw[rng_len];omega)) ?_)
  rw[Int.toNat_natCast]
  refine lc_ix (fun i ys μ=>∃ (zs:List D) (B':Bg),B'.ok∧μ=B'.pl::ν∧zs.length=i∧(∀ z∈zs,Vo 1 51 z)∧ys=zs.map DV.dat) ⟨[],B4,hB4,rfl,rfl,by simp,rfl⟩ (fun i d hd ys μ hI=>?_) fun ys μ hI=>?_
  ·obtain⟨zs,B',hB',rfl,hl',hst,rfl⟩:=hI
   refine⟨_,rfl,?_⟩
   walk_at "sx"
   refine names_s (m:=3) hB' (by decide) fun s3 B5 hB5 hl3 hnd3 hm3=>?_
   refine z_nlf (f:=D.str) ?_
   walk_at "sx"
   refine step_s (b:=false) hB5 (by omega) (by omega) hm3 fun x B6 hB6 hx=>?_
   walk_at "sx"
   exact⟨zs++[stD x],B6,hB6,rfl,by simp[hl'],fun z hz=>(List.mem_append.mp hz).elim (hst z) fun q=>by simp at q;rw[q];exact vo_stepM hx hm3,by simp⟩
  ·obtain⟨zs,B',hB',rfl,hl',hst,rfl⟩:=hI
   rw[rng_len] at hl'
   walk_at "sx"
   refine take_s hB' (by decide) (by decide) fun r2 B6 hB6 hr2=>?_
   walk_at "sx"
   rw[show(1+(r2:Int))=((1+r2:Nat):Int) by push_cast;rfl]
   refine names_s (m:=1+r2) hB6 (by omega) fun s4 B7 hB7 hl4 hnd4 hm4=>?_
   refine z_nlf (f:=D.str) ?_
   walk_at "sx"
   have hv:Vo 10 2500 (.tup [.tup (s4.map D.str),.tup zs]):=by
    have h1:Vo 2 1000 (.tup (s4.map D.str)):=(vo_names (n:=5) hm4 (by omega) (by decide)).mono (by decide) (by decide)
    have h2:Vo 2 1000 (.tup zs):=(vo_tup (k:=1) (W:=51) (n:=10) hst (by omega) (by decide)).mono (by decide) (by decide)
    refine(vo_tup (k:=2) (W:=1000) (n:=2) (fun x hx=>?_) (by simp) (by decide)).mono (by decide) (by decide)
    simp only[List.mem_cons,List.not_mem_nil,or_false] at hx
    rcases hx with rfl|rfl
    ·exact h1
    ·exact h2
   exact h _ B7 hB7 hv
 ·walk_at "sx"
  refine deed_s hB2 fun as os xs B3 hB3 hd=>?_
  walk_at "sx"
  exact h _ B3 hB3 (vo_deed hd.dd)
theorem bag_s {ns:List Int}(h:QR (.nl [.dat (.int (bag0 ns).a),.dat (.int (bag0 ns).b),.dat (.int (bag0 ns).c),.dat (.lst ((bag0 ns).cs.map D.int))]) μ):Sat (F__law_bag [.dat (.fro (ns.map D.int))] μ) QR E:=by
 rw[e__law_bag,bag_spec];exact h
abbrev dueD (d:D):D:=.lst [.bl (isIntD d),.bl (nameD d),.bl (stepB d),.bl (deedB d),.bl (cllD d),.bl (lineD d),.bl (faultD d)]
theorem fk_due (d:D):Fk 1 100 (dueD d):=(fk_lst (k:=0) (w:=5) (n:=7) (fun x hx=>by
 simp only[List.mem_cons,List.not_mem_nil,or_false] at hx
 rcases hx with rfl|rfl|rfl|rfl|rfl|rfl|rfl <;> exact fk_bl) (by simp)).mono (by decide) (by decide)
theorem b2_s {x0 x2 x4 x7:Option DV}{p:PyData}(hk:Kn d)(hp:toPyK d=some p)(h1:p.showable=true)(h2:p.depth≤50)(h3:p.shown.length≤2^20)
  (h:∀ y7,P.nx [x0,some (.loc 0),x2,some (.dat d),x4,some (.dat (dueD d)),some (.dat (.str p.shown)),y7] μ) :
  SatS (b_law_2 N [x0,some (.loc 0),x2,some (.dat d),x4,some (.dat (dueD d)),some (.dat (.str p.shown)),x7] μ) P:=by
 unfold b_law_2
 walk_at "sx"
 refine integer_s hk.kb ?_
 walk_at "sx"
 refine aname_s hk.kv ?_
 walk_at "sx"
 refine astep_s hk ?_
 walk_at "sx"
 refine adeed_s hk ?_
 walk_at "sx"
 refine acall_s hk ?_
 walk_at "sx"
 refine line_s hk ?_
 walk_at "sx"
 refine word_a hk.kb ?_
 walk_at "sx"
 refine l_addL (sl_sz2 (by simp)) ?_
 walk_at "sx"
 refine alike_s (d:=dueD d) rfl rfl (fk_due d) (by decide) (by decide) ?_
 walk_at "sx"
 refine reprA_ok rfl hp h1 (by omega) h3 ?_
 walk_at "sx"
 refine if_bF (by simp) ?_
 walk_at "sx"
 exact h _
abbrev wE:EM:=(eAnd (eUn (dIsi (tabT "str" [])) (eVar 3)) (eOp (dInA false) (eVar 3) (eLst (aCons (eD (.str "spoils")) (aCons (eD (.str "idle")) (aCons (eD (.str "cut")) (aCons (eD (.str "lost")) aNil)))))))
theorem lword_s {x0 x1 x2 x4 x5 x6 x7:Option DV}(hk:KdB d=true)(h:QR (.dat (.bl (faultD d))) μ):Sat (wE [x0,x1,x2,some (.dat d),x4,x5,x6,x7] μ) QR E:=by
 unfold wE
 rcases kb_cases hk with rfl|⟨b,rfl⟩|⟨b,rfl⟩|⟨b,rfl⟩|⟨b,rfl⟩|⟨b,rfl⟩|⟨b,rfl⟩
 case inr.inr.inr.inl =>
  walk_at "sx"
  rw[show([D.str "spoils",D.str "idle",D.str "cut",D.str "lost"]:List D)=wordL.map D.str from rfl]
  refine w_in (l_inL ?_)
  exact h
 all_goals
  walk_at "sx"
  exact h
def wtN:Nat→Nat
 | 0=>2500
 | n+1=>wtN n+max (wtN n) 2500+1
theorem b3_s {x0 x2 x3 x4 x5 x6 x7:Option DV}(hB:B.ok)(hx0:∃ d0,x0=some (.dat d0))(h:∀ (B':Bg) y2 y3 y4 y5 y6 y7,B'.ok→P.nx [x0,some (.loc 0),y2,y3,y4,y5,y6,y7] [B'.pl]) :
  SatS (b_law_3 0 [x0,some (.loc 0),x2,x3,x4,x5,x6,x7] [B.pl]) P:=by
 obtain⟨d0,rfl⟩:=hx0
 unfold b_law_3
 walk_at "sx"
 refine thing_s (ν:=[]) hB fun d B1 hB1 hv=>?_
 walk_at "sx"
 refine take_s (ν:=[]) hB1 (by decide) (by decide) fun r B2 hB2 hr=>?_
 walk_at "sx"
 obtain⟨m,hm3,em⟩:∃ m:Nat,m≤3∧atI ([.int 0,.int 0,.int 1,.int 3]:List D) (r:Int)=some (.int m):=by
  have h4:r=0∨r=1∨r=2∨r=3:=by omega
  rcases h4 with rfl|rfl|rfl|rfl
  ·exact⟨0,by decide,rfl⟩
  ·exact⟨0,by decide,rfl⟩
  ·exact⟨1,by decide,rfl⟩
  ·exact⟨3,by decide,rfl⟩
 refine w_ix (l_ixL em ?_)
 walk_at "sx"
 refine And.intro ⟨by omega,by omega⟩ ?_
 refine for_inv (fun k δ μ'=>∃ (d:D) (B':Bg) (y2 y4 y5 y6 y7:Option DV),B'.ok∧Vo (10+10*k) (wtN k) d∧δ=[some (.dat d0),some (.loc 0),y2,some (.dat d),y4,y5,y6,y7]∧μ'=[B'.pl]) ⟨d,B2,_,_,_,_,_,hB2,hv,rfl,rfl⟩ (fun k e he δ μ' hI=>?_) fun δ μ' hI=>?_
 ·obtain⟨d,B3,y2,y4,y5,y6,y7,hB3,hv3,rfl,rfl⟩:=hI
  have hk:k<3:=by
   have:=lt_of_at he
   simp[rngD] at this
   omega
  have hw:wtN k≤18000:=by
   have:k=0∨k=1∨k=2:=by omega
   rcases this with rfl|rfl|rfl <;> decide
  refine⟨_,rfl,?_⟩
  unfold b_law_1
  walk_at "sx"
  refine bent_s (ν:=[]) 39 hv3 (by omega) (by omega) hw hB3 fun y r B4 hB4 hr hy=>?_
  refine z_rso hr ?_
  walk_at "sx"
  exact⟨y,B4,_,_,_,_,_,hB4,hy.mono (by omega) (Nat.le_refl _),rfl,rfl⟩
 obtain⟨d,B3,y2,y4,y5,y6,y7,hB3,hv3,rfl,rfl⟩:=hI
 have hv:Vo 40 20007 d:=by
  refine hv3.mono ?_ ?_
  ·simp[rngD];omega
  ·have:m=0∨m=1∨m=2∨m=3:=by omega
   rcases this with rfl|rfl|rfl|rfl <;> simp[rngD] <;> decide
 have hk:=hv.kn
 walk_at "sx"
 refine whole_s hk.kb ?_
 walk_at "sx"
 refine lower_s hk.kv ?_
 walk_at "sx"
 refine lstep_s hk ?_
 walk_at "sx"
 refine ldeed_s hk ?_
 walk_at "sx"
 refine lcall_s hk ?_
 walk_at "sx"
 refine lline_s hk ?_
 repeat (first|(with_reducible refine lword_s hk.kb ?_)|(walk_at "sx1"))
 refine l_addL (sl_sz2 (by simp)) ?_
 walk_at "sx"
 obtain⟨p,hp,h1,h2,h3⟩:=sx_fk hv.sx
 have h4:p.shown.length≤2^20:=by
  have:=hv.wt
  omega
 refine reprA_ok rfl hp h1 (by omega) h4 ?_
 walk_at "sx"
 refine And.intro ⟨by decide,by decide⟩ ?_
 refine for_inv (fun k δ μ'=>∃ (y2 y4 y7:Option DV),δ=[some (.dat d0),some (.loc 0),y2,some (.dat d),y4,some (.dat (dueD d)),some (.dat (.str p.shown)),y7]∧μ'=[B3.pl]) ⟨_,_,_,rfl,rfl⟩ (fun k e he δ μ' hI=>?_) fun δ μ' hI=>?_
 ·obtain⟨y2,y4,y7,rfl,rfl⟩:=hI
  refine⟨_,rfl,b2_s hk hp h1 (by omega) h4 fun y7=>?_⟩
  exact⟨_,_,_,rfl,rfl⟩
 obtain⟨y2,y4,y7,rfl,rfl⟩:=hI
 walk_at "sx"
 exact h B3 _ _ _ _ _ _ hB3
theorem law_sat (ns:List Int):Sat (F_law [.dat (.fro (ns.map D.int))] []) (fun r _=>r=.dat (.bl true)) (fun _ _=>False):=by
 with_reducible refine w_law ?_
 unfold g_law
 walk_at "sx"
 with_reducible refine bag_s ?_
 with_reducible refine r_nl (Nat.zero_le _) ?_
 walk_at "sx"
 refine own_s ?_
 walk_at "sx"
 refine And.intro ⟨by decide,by decide⟩ ?_
 refine for_inv (fun k δ μ'=>∃ (B:Bg) (y2 y3 y4 y5 y6 y7:Option DV),B.ok∧δ=[some (.dat (.fro (ns.map D.int))),some (.loc 0),y2,y3,y4,y5,y6,y7]∧μ'=[B.pl]) ⟨bag0 ns,_,_,_,_,_,_,bag0_ok ns,rfl,rfl⟩ (fun k d hd δ μ' hI=>?_) fun δ μ' hI=>?_
 ·obtain⟨B,y2,y3,y4,y5,y6,y7,hB,rfl,rfl⟩:=hI
  refine⟨_,rfl,b3_s hB ⟨_,rfl⟩ fun B3 y2 y3 y4 y5 y6 y7 hB3=>?_⟩
  exact⟨B3,_,_,_,_,_,_,hB3,rfl,rfl⟩
 ·obtain⟨B,y2,y3,y4,y5,y6,y7,hB,rfl,rfl⟩:=hI
  walk_at "sx"
  exact e_dat rfl rfl
theorem law_true (ns:List Int):∃ μ',F_law [.dat (.fro (ns.map D.int))] []=.ok (.dat (.bl true)) μ':=by
 have h:=law_sat ns
 cases e:F_law [.dat (.fro (ns.map D.int))] [] with
 | ok r μ'=>rw[e] at h;exact⟨μ',by rw[show r=.dat (.bl true) from h]⟩
 | exc x μ'=>rw[e] at h;exact h.elim
 | bad=>rw[e] at h;exact h.elim
end
end K11
end
namespace K11
open PySem PySem.Spec PyProof.Rows L2 DL
theorem all_mk {l:PySem.W.OpenLaw} {w:World} {K:PySem.W.Frag} {h:Heap} {mg:Str→Option Value} {fa:Addr} (X:K.In h) (G:h.Ns mainGlobals mg) (hfa:mg "law"=some (.ref fa))
  {f0:Addr} {od0 an0:Option Addr} {sl0:Array (Option Value)} {oc0 kV0 dc0 pm0 cd0 ct0:Value}
  {f1:Addr} {od1 an1:Option Addr} {sl1:Array (Option Value)} {oc1 kV1 dc1 pm1 cd1 ct1:Value}
  {f2:Addr} {od2 an2:Option Addr} {sl2:Array (Option Value)} {oc2 kV2 dc2 pm2 cd2 ct2:Value}
  {f3:Addr} {od3 an3:Option Addr} {sl3:Array (Option Value)} {oc3 kV3 dc3 pm3 cd3 ct3:Value}
  {f4:Addr} {od4 an4:Option Addr} {sl4:Array (Option Value)} {oc4 kV4 dc4 pm4 cd4 ct4:Value}
  {f5:Addr} {od5 an5:Option Addr} {sl5:Array (Option Value)} {oc5 kV5 dc5 pm5 cd5 ct5:Value}
  {f6:Addr} {od6 an6:Option Addr} {sl6:Array (Option Value)} {oc6 kV6 dc6 pm6 cd6 ct6:Value}
  {f7:Addr} {od7 an7:Option Addr} {sl7:Array (Option Value)} {oc7 kV7 dc7 pm7 cd7 ct7:Value}
  {f8:Addr} {od8 an8:Option Addr} {sl8:Array (Option Value)} {oc8 kV8 dc8 pm8 cd8 ct8:Value}
  {f9:Addr} {od9 an9:Option Addr} {sl9:Array (Option Value)} {oc9 kV9 dc9 pm9 cd9 ct9:Value}
  {f10:Addr} {od10 an10:Option Addr} {sl10:Array (Option Value)} {oc10 kV10 dc10 pm10 cd10 ct10:Value}
  {f11:Addr} {od11 an11:Option Addr} {sl11:Array (Option Value)} {oc11 kV11 dc11 pm11 cd11 ct11:Value}
  {f12:Addr} {od12 an12:Option Addr} {sl12:Array (Option Value)} {oc12 kV12 dc12 pm12 cd12 ct12:Value}
  {f13:Addr} {od13 an13:Option Addr} {sl13:Array (Option Value)} {oc13 kV13 dc13 pm13 cd13 ct13:Value}
  {f14:Addr} {od14 an14:Option Addr} {sl14:Array (Option Value)} {oc14 kV14 dc14 pm14 cd14 ct14:Value}
  {f15:Addr} {od15 an15:Option Addr} {sl15:Array (Option Value)} {oc15 kV15 dc15 pm15 cd15 ct15:Value}
  {f16:Addr} {od16 an16:Option Addr} {sl16:Array (Option Value)} {oc16 kV16 dc16 pm16 cd16 ct16:Value}
  {f17:Addr} {od17 an17:Option Addr} {sl17:Array (Option Value)} {oc17 kV17 dc17 pm17 cd17 ct17:Value}
  {f18:Addr} {od18 an18:Option Addr} {sl18:Array (Option Value)} {oc18 kV18 dc18 pm18 cd18 ct18:Value}
  {f19:Addr} {od19 an19:Option Addr} {sl19:Array (Option Value)} {oc19 kV19 dc19 pm19 cd19 ct19:Value}
  {f20:Addr} {od20 an20:Option Addr} {sl20:Array (Option Value)} {oc20 kV20 dc20 pm20 cd20 ct20:Value}
  {f21:Addr} {od21 an21:Option Addr} {sl21:Array (Option Value)} {oc21 kV21 dc21 pm21 cd21 ct21:Value}
  {f22:Addr} {od22 an22:Option Addr} {sl22:Array (Option Value)} {oc22 kV22 dc22 pm22 cd22 ct22:Value}
  {f23:Addr} {od23 an23:Option Addr} {sl23:Array (Option Value)} {oc23 kV23 dc23 pm23 cd23 ct23:Value}
  {f24:Addr} {od24 an24:Option Addr} {sl24:Array (Option Value)} {oc24 kV24 dc24 pm24 cd24 ct24:Value}
  {f25:Addr} {od25 an25:Option Addr} {sl25:Array (Option Value)} {oc25 kV25 dc25 pm25 cd25 ct25:Value}
  {f26:Addr} {od26 an26:Option Addr} {sl26:Array (Option Value)} {oc26 kV26 dc26 pm26 cd26 ct26:Value}
  {f27:Addr} {od27 an27:Option Addr} {sl27:Array (Option Value)} {oc27 kV27 dc27 pm27 cd27 ct27:Value}
  {f28:Addr} {od28 an28:Option Addr} {sl28:Array (Option Value)} {oc28 kV28 dc28 pm28 cd28 ct28:Value}
  {f29:Addr} {od29 an29:Option Addr} {sl29:Array (Option Value)} {oc29 kV29 dc29 pm29 cd29 ct29:Value}
  {f30:Addr} {od30 an30:Option Addr} {sl30:Array (Option Value)} {oc30 kV30 dc30 pm30 cd30 ct30:Value}
  {f31:Addr} {od31 an31:Option Addr} {sl31:Array (Option Value)} {oc31 kV31 dc31 pm31 cd31 ct31:Value}
  {f32:Addr} {od32 an32:Option Addr} {sl32:Array (Option Value)} {oc32 kV32 dc32 pm32 cd32 ct32:Value}
  (a0:PySem.W.nsIn K mainGlobals "_law_alike"=some (some (.ref f0)))
  (l0:K.lookup f0=some ⟨oc0,od0,.func (PySem.W.fnOf "_law_alike" "_law_alike" (defArgs s__law_alike) (defBody s__law_alike) (defScope s__law_alike) .none kV0 dc0 pm0 an0 cd0 ct0),sl0⟩) (c0:PySem.W.codeIn K cd0 "_law_alike"=true) (k0:PySem.W.keepIn K (.ref f0)=true)
  (a1:PySem.W.nsIn K mainGlobals "_law_bag"=some (some (.ref f1)))
  (l1:K.lookup f1=some ⟨oc1,od1,.func (PySem.W.fnOf "_law_bag" "_law_bag" (defArgs s__law_bag) (defBody s__law_bag) (defScope s__law_bag) .none kV1 dc1 pm1 an1 cd1 ct1),sl1⟩) (c1:PySem.W.codeIn K cd1 "_law_bag"=true) (k1:PySem.W.keepIn K (.ref f1)=true)
  (a2:PySem.W.nsIn K mainGlobals "_law_deep"=some (some (.ref f2)))
  (l2:K.lookup f2=some ⟨oc2,od2,.func (PySem.W.fnOf "_law_deep" "_law_deep" (defArgs s__law_deep) (defBody s__law_deep) (defScope s__law_deep) .none kV2 dc2 pm2 an2 cd2 ct2),sl2⟩) (c2:PySem.W.codeIn K cd2 "_law_deep"=true) (k2:PySem.W.keepIn K (.ref f2)=true)
  (a3:PySem.W.nsIn K mainGlobals "_law_take"=some (some (.ref f3)))
  (l3:K.lookup f3=some ⟨oc3,od3,.func (PySem.W.fnOf "_law_take" "_law_take" (defArgs s__law_take) (defBody s__law_take) (defScope s__law_take) .none kV3 dc3 pm3 an3 cd3 ct3),sl3⟩) (c3:PySem.W.codeIn K cd3 "_law_take"=true) (k3:PySem.W.keepIn K (.ref f3)=true)
  (a4:PySem.W.nsIn K mainGlobals "_law_odd_value"=some (some (.ref f4)))
  (l4:K.lookup f4=some ⟨oc4,od4,.func (PySem.W.fnOf "_law_odd_value" "_law_odd_value" (defArgs s__law_odd_value) (defBody s__law_odd_value) (defScope s__law_odd_value) .none kV4 dc4 pm4 an4 cd4 ct4),sl4⟩) (c4:PySem.W.codeIn K cd4 "_law_odd_value"=true) (k4:PySem.W.keepIn K (.ref f4)=true)
  (a5:PySem.W.nsIn K mainGlobals "_law_word"=some (some (.ref f5)))
  (l5:K.lookup f5=some ⟨oc5,od5,.func (PySem.W.fnOf "_law_word" "_law_word" (defArgs s__law_word) (defBody s__law_word) (defScope s__law_word) .none kV5 dc5 pm5 an5 cd5 ct5),sl5⟩) (c5:PySem.W.codeIn K cd5 "_law_word"=true) (k5:PySem.W.keepIn K (.ref f5)=true)
  (a6:PySem.W.nsIn K mainGlobals "_law_bent"=some (some (.ref f6)))
  (l6:K.lookup f6=some ⟨oc6,od6,.func (PySem.W.fnOf "_law_bent" "_law_bent" (defArgs s__law_bent) (defBody s__law_bent) (defScope s__law_bent) .none kV6 dc6 pm6 an6 cd6 ct6),sl6⟩) (c6:PySem.W.codeIn K cd6 "_law_bent"=true) (k6:PySem.W.keepIn K (.ref f6)=true)
  (a7:PySem.W.nsIn K mainGlobals "_law_lower"=some (some (.ref f7)))
  (l7:K.lookup f7=some ⟨oc7,od7,.func (PySem.W.fnOf "_law_lower" "_law_lower" (defArgs s__law_lower) (defBody s__law_lower) (defScope s__law_lower) .none kV7 dc7 pm7 an7 cd7 ct7),sl7⟩) (c7:PySem.W.codeIn K cd7 "_law_lower"=true) (k7:PySem.W.keepIn K (.ref f7)=true)
  (a8:PySem.W.nsIn K mainGlobals "_law_are_names"=some (some (.ref f8)))
  (l8:K.lookup f8=some ⟨oc8,od8,.func (PySem.W.fnOf "_law_are_names" "_law_are_names" (defArgs s__law_are_names) (defBody s__law_are_names) (defScope s__law_are_names) .none kV8 dc8 pm8 an8 cd8 ct8),sl8⟩) (c8:PySem.W.codeIn K cd8 "_law_are_names"=true) (k8:PySem.W.keepIn K (.ref f8)=true)
  (a9:PySem.W.nsIn K mainGlobals "_law_is_call"=some (some (.ref f9)))
  (l9:K.lookup f9=some ⟨oc9,od9,.func (PySem.W.fnOf "_law_is_call" "_law_is_call" (defArgs s__law_is_call) (defBody s__law_is_call) (defScope s__law_is_call) .none kV9 dc9 pm9 an9 cd9 ct9),sl9⟩) (c9:PySem.W.codeIn K cd9 "_law_is_call"=true) (k9:PySem.W.keepIn K (.ref f9)=true)
  (a10:PySem.W.nsIn K mainGlobals "_law_is_step"=some (some (.ref f10)))
  (l10:K.lookup f10=some ⟨oc10,od10,.func (PySem.W.fnOf "_law_is_step" "_law_is_step" (defArgs s__law_is_step) (defBody s__law_is_step) (defScope s__law_is_step) .none kV10 dc10 pm10 an10 cd10 ct10),sl10⟩) (c10:PySem.W.codeIn K cd10 "_law_is_step"=true) (k10:PySem.W.keepIn K (.ref f10)=true)
  (a11:PySem.W.nsIn K mainGlobals "_law_all_names"=some (some (.ref f11)))
  (l11:K.lookup f11=some ⟨oc11,od11,.func (PySem.W.fnOf "_law_all_names" "_law_all_names" (defArgs s__law_all_names) (defBody s__law_all_names) (defScope s__law_all_names) .none kV11 dc11 pm11 an11 cd11 ct11),sl11⟩) (c11:PySem.W.codeIn K cd11 "_law_all_names"=true) (k11:PySem.W.keepIn K (.ref f11)=true)
  (a12:PySem.W.nsIn K mainGlobals "_law_own"=some (some (.ref f12)))
  (l12:K.lookup f12=some ⟨oc12,od12,.func (PySem.W.fnOf "_law_own" "_law_own" (defArgs s__law_own) (defBody s__law_own) (defScope s__law_own) .none kV12 dc12 pm12 an12 cd12 ct12),sl12⟩) (c12:PySem.W.codeIn K cd12 "_law_own"=true) (k12:PySem.W.keepIn K (.ref f12)=true)
  (a13:PySem.W.nsIn K mainGlobals "_law_is_deed"=some (some (.ref f13)))
  (l13:K.lookup f13=some ⟨oc13,od13,.func (PySem.W.fnOf "_law_is_deed" "_law_is_deed" (defArgs s__law_is_deed) (defBody s__law_is_deed) (defScope s__law_is_deed) .none kV13 dc13 pm13 an13 cd13 ct13),sl13⟩) (c13:PySem.W.codeIn K cd13 "_law_is_deed"=true) (k13:PySem.W.keepIn K (.ref f13)=true)
  (a14:PySem.W.nsIn K mainGlobals "_law_is_whole"=some (some (.ref f14)))
  (l14:K.lookup f14=some ⟨oc14,od14,.func (PySem.W.fnOf "_law_is_whole" "_law_is_whole" (defArgs s__law_is_whole) (defBody s__law_is_whole) (defScope s__law_is_whole) .none kV14 dc14 pm14 an14 cd14 ct14),sl14⟩) (c14:PySem.W.codeIn K cd14 "_law_is_whole"=true) (k14:PySem.W.keepIn K (.ref f14)=true)
  (a15:PySem.W.nsIn K mainGlobals "_law_is_line"=some (some (.ref f15)))
  (l15:K.lookup f15=some ⟨oc15,od15,.func (PySem.W.fnOf "_law_is_line" "_law_is_line" (defArgs s__law_is_line) (defBody s__law_is_line) (defScope s__law_is_line) .none kV15 dc15 pm15 an15 cd15 ct15),sl15⟩) (c15:PySem.W.codeIn K cd15 "_law_is_line"=true) (k15:PySem.W.keepIn K (.ref f15)=true)
  (a16:PySem.W.nsIn K mainGlobals "is_name"=some (some (.ref f16)))
  (l16:K.lookup f16=some ⟨oc16,od16,.func (PySem.W.fnOf "is_name" "is_name" (defArgs s_is_name) (defBody s_is_name) (defScope s_is_name) .none kV16 dc16 pm16 an16 cd16 ct16),sl16⟩) (c16:PySem.W.codeIn K cd16 "is_name"=true) (k16:PySem.W.keepIn K (.ref f16)=true)
  (a17:PySem.W.nsIn K mainGlobals "are_names"=some (some (.ref f17)))
  (l17:K.lookup f17=some ⟨oc17,od17,.func (PySem.W.fnOf "are_names" "are_names" (defArgs s_are_names) (defBody s_are_names) (defScope s_are_names) .none kV17 dc17 pm17 an17 cd17 ct17),sl17⟩) (c17:PySem.W.codeIn K cd17 "are_names"=true) (k17:PySem.W.keepIn K (.ref f17)=true)
  (a18:PySem.W.nsIn K mainGlobals "is_call"=some (some (.ref f18)))
  (l18:K.lookup f18=some ⟨oc18,od18,.func (PySem.W.fnOf "is_call" "is_call" (defArgs s_is_call) (defBody s_is_call) (defScope s_is_call) .none kV18 dc18 pm18 an18 cd18 ct18),sl18⟩) (c18:PySem.W.codeIn K cd18 "is_call"=true) (k18:PySem.W.keepIn K (.ref f18)=true)
  (a19:PySem.W.nsIn K mainGlobals "is_step"=some (some (.ref f19)))
  (l19:K.lookup f19=some ⟨oc19,od19,.func (PySem.W.fnOf "is_step" "is_step" (defArgs s_is_step) (defBody s_is_step) (defScope s_is_step) .none kV19 dc19 pm19 an19 cd19 ct19),sl19⟩) (c19:PySem.W.codeIn K cd19 "is_step"=true) (k19:PySem.W.keepIn K (.ref f19)=true)
  (a20:PySem.W.nsIn K mainGlobals "is_deed"=some (some (.ref f20)))
  (l20:K.lookup f20=some ⟨oc20,od20,.func (PySem.W.fnOf "is_deed" "is_deed" (defArgs s_is_deed) (defBody s_is_deed) (defScope s_is_deed) .none kV20 dc20 pm20 an20 cd20 ct20),sl20⟩) (c20:PySem.W.codeIn K cd20 "is_deed"=true) (k20:PySem.W.keepIn K (.ref f20)=true)
  (a21:PySem.W.nsIn K mainGlobals "is_integer"=some (some (.ref f21)))
  (l21:K.lookup f21=some ⟨oc21,od21,.func (PySem.W.fnOf "is_integer" "is_integer" (defArgs s_is_integer) (defBody s_is_integer) (defScope s_is_integer) .none kV21 dc21 pm21 an21 cd21 ct21),sl21⟩) (c21:PySem.W.codeIn K cd21 "is_integer"=true) (k21:PySem.W.keepIn K (.ref f21)=true)
  (a22:PySem.W.nsIn K mainGlobals "is_line"=some (some (.ref f22)))
  (l22:K.lookup f22=some ⟨oc22,od22,.func (PySem.W.fnOf "is_line" "is_line" (defArgs s_is_line) (defBody s_is_line) (defScope s_is_line) .none kV22 dc22 pm22 an22 cd22 ct22),sl22⟩) (c22:PySem.W.codeIn K cd22 "is_line"=true) (k22:PySem.W.keepIn K (.ref f22)=true)
  (a23:PySem.W.nsIn K mainGlobals "is_word"=some (some (.ref f23)))
  (l23:K.lookup f23=some ⟨oc23,od23,.func (PySem.W.fnOf "is_word" "is_word" (defArgs s_is_word) (defBody s_is_word) (defScope s_is_word) .none kV23 dc23 pm23 an23 cd23 ct23),sl23⟩) (c23:PySem.W.codeIn K cd23 "is_word"=true) (k23:PySem.W.keepIn K (.ref f23)=true)
  (a24:PySem.W.nsIn K mainGlobals "_law_own_right"=some (some (.ref f24)))
  (l24:K.lookup f24=some ⟨oc24,od24,.func (PySem.W.fnOf "_law_own_right" "_law_own_right" (defArgs s__law_own_right) (defBody s__law_own_right) (defScope s__law_own_right) .none kV24 dc24 pm24 an24 cd24 ct24),sl24⟩) (c24:PySem.W.codeIn K cd24 "_law_own_right"=true) (k24:PySem.W.keepIn K (.ref f24)=true)
  (a25:PySem.W.nsIn K mainGlobals "_law_mixed"=some (some (.ref f25)))
  (l25:K.lookup f25=some ⟨oc25,od25,.func (PySem.W.fnOf "_law_mixed" "_law_mixed" (defArgs s__law_mixed) (defBody s__law_mixed) (defScope s__law_mixed) .none kV25 dc25 pm25 an25 cd25 ct25),sl25⟩) (c25:PySem.W.codeIn K cd25 "_law_mixed"=true) (k25:PySem.W.keepIn K (.ref f25)=true)
  (a26:PySem.W.nsIn K mainGlobals "_law_names"=some (some (.ref f26)))
  (l26:K.lookup f26=some ⟨oc26,od26,.func (PySem.W.fnOf "_law_names" "_law_names" (defArgs s__law_names) (defBody s__law_names) (defScope s__law_names) .none kV26 dc26 pm26 an26 cd26 ct26),sl26⟩) (c26:PySem.W.codeIn K cd26 "_law_names"=true) (k26:PySem.W.keepIn K (.ref f26)=true)
  (a27:PySem.W.nsIn K mainGlobals "_law_one"=some (some (.ref f27)))
  (l27:K.lookup f27=some ⟨oc27,od27,.func (PySem.W.fnOf "_law_one" "_law_one" (defArgs s__law_one) (defBody s__law_one) (defScope s__law_one) .none kV27 dc27 pm27 an27 cd27 ct27),sl27⟩) (c27:PySem.W.codeIn K cd27 "_law_one"=true) (k27:PySem.W.keepIn K (.ref f27)=true)
  (a28:PySem.W.nsIn K mainGlobals "_law_step"=some (some (.ref f28)))
  (l28:K.lookup f28=some ⟨oc28,od28,.func (PySem.W.fnOf "_law_step" "_law_step" (defArgs s__law_step) (defBody s__law_step) (defScope s__law_step) .none kV28 dc28 pm28 an28 cd28 ct28),sl28⟩) (c28:PySem.W.codeIn K cd28 "_law_step"=true) (k28:PySem.W.keepIn K (.ref f28)=true)
  (a29:PySem.W.nsIn K mainGlobals "_law_deed"=some (some (.ref f29)))
  (l29:K.lookup f29=some ⟨oc29,od29,.func (PySem.W.fnOf "_law_deed" "_law_deed" (defArgs s__law_deed) (defBody s__law_deed) (defScope s__law_deed) .none kV29 dc29 pm29 an29 cd29 ct29),sl29⟩) (c29:PySem.W.codeIn K cd29 "_law_deed"=true) (k29:PySem.W.keepIn K (.ref f29)=true)
  (a30:PySem.W.nsIn K mainGlobals "_law_plain_deeds"=some (some (.ref f30)))
  (l30:K.lookup f30=some ⟨oc30,od30,.func (PySem.W.fnOf "_law_plain_deeds" "_law_plain_deeds" (defArgs s__law_plain_deeds) (defBody s__law_plain_deeds) (defScope s__law_plain_deeds) .none kV30 dc30 pm30 an30 cd30 ct30),sl30⟩) (c30:PySem.W.codeIn K cd30 "_law_plain_deeds"=true) (k30:PySem.W.keepIn K (.ref f30)=true)
  (a31:PySem.W.nsIn K mainGlobals "_law_thing"=some (some (.ref f31)))
  (l31:K.lookup f31=some ⟨oc31,od31,.func (PySem.W.fnOf "_law_thing" "_law_thing" (defArgs s__law_thing) (defBody s__law_thing) (defScope s__law_thing) .none kV31 dc31 pm31 an31 cd31 ct31),sl31⟩) (c31:PySem.W.codeIn K cd31 "_law_thing"=true) (k31:PySem.W.keepIn K (.ref f31)=true)
  (a32:PySem.W.nsIn K mainGlobals "law"=some (some (.ref f32)))
  (l32:K.lookup f32=some ⟨oc32,od32,.func (PySem.W.fnOf "law" "law" (defArgs s_law) (defBody s_law) (defScope s_law) .none kV32 dc32 pm32 an32 cd32 ct32),sl32⟩) (c32:PySem.W.codeIn K cd32 "law"=true) (k32:PySem.W.keepIn K (.ref f32)=true)
  (z_abs:PySem.W.nsIn K mainGlobals "abs"=some none)
  (z_all:PySem.W.nsIn K mainGlobals "all"=some none)
  (z_bool:PySem.W.nsIn K mainGlobals "bool"=some none)
  (z_int:PySem.W.nsIn K mainGlobals "int"=some none)
  (z_isinstance:PySem.W.nsIn K mainGlobals "isinstance"=some none)
  (z_len:PySem.W.nsIn K mainGlobals "len"=some none)
  (z_list:PySem.W.nsIn K mainGlobals "list"=some none)
  (z_min:PySem.W.nsIn K mainGlobals "min"=some none)
  (z_range:PySem.W.nsIn K mainGlobals "range"=some none)
  (z_repr:PySem.W.nsIn K mainGlobals "repr"=some none)
  (z_set:PySem.W.nsIn K mainGlobals "set"=some none)
  (z_sorted:PySem.W.nsIn K mainGlobals "sorted"=some none)
  (z_str:PySem.W.nsIn K mainGlobals "str"=some none)
  (z_tuple:PySem.W.nsIn K mainGlobals "tuple"=some none)
  {tk_LETTERS:Tok} (v_LETTERS:PySem.W.nsIn K mainGlobals "LETTERS"=some (some (.str "abcdefghijklmnopqrstuvwxyz" tk_LETTERS)))
  {tk_MOST_ARGUMENTS:Tok} (v_MOST_ARGUMENTS:PySem.W.nsIn K mainGlobals "MOST_ARGUMENTS"=some (some (.int 3 tk_MOST_ARGUMENTS)))
  {tk_MOST_LETTERS:Tok} (v_MOST_LETTERS:PySem.W.nsIn K mainGlobals "MOST_LETTERS"=some (some (.int 8 tk_MOST_LETTERS)))
  {tk_MOST_MARKS:Tok} (v_MOST_MARKS:PySem.W.nsIn K mainGlobals "MOST_MARKS"=some (some (.int 6 tk_MOST_MARKS)))
  {tk_MOST_OWN:Tok} (v_MOST_OWN:PySem.W.nsIn K mainGlobals "MOST_OWN"=some (some (.int 2 tk_MOST_OWN)))
  {tk_MOST_STEPS:Tok} (v_MOST_STEPS:PySem.W.nsIn K mainGlobals "MOST_STEPS"=some (some (.int 8 tk_MOST_STEPS)))
  {c_ONE_NAME:Addr} {oc_ONE_NAME:Option Addr} {its_ONE_NAME:Array Value} {n_ONE_NAME:Nat} {sl_ONE_NAME:Array (Option Value)} (q_ONE_NAME:PySem.W.nsIn K mainGlobals "ONE_NAME"=some (some (.ref c_ONE_NAME))) (v_ONE_NAME:K.lookup c_ONE_NAME=some ⟨.type "tuple",oc_ONE_NAME,.seq its_ONE_NAME n_ONE_NAME,sl_ONE_NAME⟩) (x_ONE_NAME:its_ONE_NAME.size≤sizeLine) (y_ONE_NAME:absL its_ONE_NAME.toList=some ((["new","end","leave","more","less","write"]:List Str).map V.str))
  {c_TWO_NAMES:Addr} {oc_TWO_NAMES:Option Addr} {its_TWO_NAMES:Array Value} {n_TWO_NAMES:Nat} {sl_TWO_NAMES:Array (Option Value)} (q_TWO_NAMES:PySem.W.nsIn K mainGlobals "TWO_NAMES"=some (some (.ref c_TWO_NAMES))) (v_TWO_NAMES:K.lookup c_TWO_NAMES=some ⟨.type "tuple",oc_TWO_NAMES,.seq its_TWO_NAMES n_TWO_NAMES,sl_TWO_NAMES⟩) (x_TWO_NAMES:its_TWO_NAMES.size≤sizeLine) (y_TWO_NAMES:absL its_TWO_NAMES.toList=some ((["share","hold"]:List Str).map V.str))
  {c_WORDS:Addr} {oc_WORDS:Option Addr} {its_WORDS:Array Value} {n_WORDS:Nat} {sl_WORDS:Array (Option Value)} (q_WORDS:PySem.W.nsIn K mainGlobals "WORDS"=some (some (.ref c_WORDS))) (v_WORDS:K.lookup c_WORDS=some ⟨.type "tuple",oc_WORDS,.seq its_WORDS n_WORDS,sl_WORDS⟩) (x_WORDS:its_WORDS.size≤sizeLine) (y_WORDS:absL its_WORDS.toList=some ((["spoils","idle","cut","lost"]:List Str).map V.str))
  {c_Wrong:Addr}
  (q_Wrong:PySem.W.nsIn K mainGlobals "Wrong"=some (some (.ref c_Wrong)))
  (ga_Wrong:PySem.W.findIn K (.ref c_Wrong) "__getattribute__"=some (some (.builtin "BaseException.__getattribute__"))) (gg_Wrong:PySem.W.findIn K (.ref c_Wrong) "__getattr__"=some none) (exC_Wrong:PySem.W.subIn K (.ref c_Wrong) (.type "BaseException")=some true) (hdC_Wrong:PySem.W.hasDictIn K c_Wrong=true) (cc_Wrong:PySem.W.findIn K (.ref c_Wrong) "__class__"=some (some (.builtin "object.__class__"))) (mo_Wrong:PySem.W.mroIn K c_Wrong (.type "object")=some true) (iC_Wrong:PySem.W.isClsIn K c_Wrong=true) (tyC_Wrong:PySem.W.typeIn K (.ref c_Wrong)=some (.type "type"))
  (noN_Wrong:PySem.W.findIn K (.ref c_Wrong) "place"=some none)
  (ns_Wrong_bool:PySem.W.subIn K (.ref c_Wrong) (.type "bool")=some false)
  (ns_Wrong_int:PySem.W.subIn K (.ref c_Wrong) (.type "int")=some false)
  (ns_Wrong_str:PySem.W.subIn K (.ref c_Wrong) (.type "str")=some false)
  (ns_Wrong_tuple:PySem.W.subIn K (.ref c_Wrong) (.type "tuple")=some false)
  (cls_sp:PySem.W.specialIn K (.builtin "object.__class__") "__get__"=some (some (.builtin "getset_descriptor.__get__"))) (cls_tk:PySem.W.takesIn K (.builtin "object.__class__")=some true)
  (op_any:PySem.W.nsIn K cStatics "thirdparty.any"=some none) (z_super:PySem.W.nsIn K mainGlobals "super"=some none) (top_s:(l.prog.main.scope.names.lookup ("super":Str)).isSome=false)
  {i_Wrong:Addr} {nmx_Wrong qx_Wrong:Str} {Nx_Wrong:Addr} {bsx_Wrong bmx_Wrong:List Value} {snx_Wrong:List Str} {sbx_Wrong:List Value} {abx_Wrong:Bool} {cox_Wrong:Option Bool} {ddx_Wrong:Option Addr} {k0x_Wrong k1x_Wrong k2x_Wrong k3x_Wrong k5x_Wrong:Option Value}
  {ocx_Wrong:Value} {odx_Wrong:Option Addr} {dcx_Wrong pmx_Wrong:Value} {anx_Wrong:Option Addr} {ctx_Wrong:Value} {slx_Wrong:Array (Option Value)} {qlx_Wrong:Str} {p1x_Wrong p2x_Wrong q1x_Wrong q2x_Wrong q3x_Wrong q4x_Wrong q5x_Wrong q6x_Wrong q7x_Wrong q8x_Wrong q9x_Wrong q10x_Wrong:Pos} {cdx_Wrong ccx_Wrong:Addr} {clx_Wrong cmx_Wrong:Value} {dex_Wrong dfx_Wrong:Option Addr} {vsx_Wrong:Array Value} {csx_Wrong ctl_Wrong:Array (Option Value)} {fix_Wrong:Str} {tfx_Wrong:Tok} {plx_Wrong:Sem Bool}
  (lk_Wrong:K.lookup c_Wrong=some (excClassObj nmx_Wrong qx_Wrong c_Wrong Nx_Wrong bsx_Wrong bmx_Wrong true snx_Wrong sbx_Wrong abx_Wrong cox_Wrong ddx_Wrong k0x_Wrong k1x_Wrong k2x_Wrong k3x_Wrong k5x_Wrong "ValueError.__new__"))
  (sa_Wrong:PySem.W.findIn K (.ref c_Wrong) "__setattr__"=some (some (.builtin "object.__setattr__"))) (in_Wrong:PySem.W.findIn K (.ref c_Wrong) "__init__"=some (some (.ref i_Wrong))) (tf_Wrong:PySem.W.typeIn K (.ref i_Wrong)=some (.type "function")) (kC_Wrong:PySem.W.keepIn K (.ref c_Wrong)=true) (exV_Wrong:PySem.W.subIn K (.ref c_Wrong) (.type "ValueError")=some true) (su_Wrong:PySem.W.ks_superIn K c_Wrong c_Wrong "__init__"=some (some (.builtin "ValueError.__init__"))) (mr_Wrong:PySem.W.mroIn K c_Wrong (.ref c_Wrong)=some true)
  (lfn_Wrong:K.lookup i_Wrong=some ⟨ocx_Wrong,odx_Wrong,.func (PySem.W.ksFn "__init__" qlx_Wrong (DX.eArgs "place" p1x_Wrong p2x_Wrong) (DX.eBody "place" q1x_Wrong q2x_Wrong q3x_Wrong q4x_Wrong q5x_Wrong q6x_Wrong q7x_Wrong q8x_Wrong q9x_Wrong q10x_Wrong) (DX.eScope "place") .none .none dcx_Wrong pmx_Wrong anx_Wrong (.ref cdx_Wrong) ctx_Wrong ccx_Wrong),slx_Wrong⟩)
  (cod_Wrong:PySem.W.codeIn K (.ref cdx_Wrong) qlx_Wrong=true) (lcd_Wrong:K.lookup cdx_Wrong=some ⟨clx_Wrong,dex_Wrong,.fields vsx_Wrong,csx_Wrong⟩) (lcc_Wrong:K.lookup ccx_Wrong=some ⟨cmx_Wrong,dfx_Wrong,.cell (some (.ref c_Wrong)),ctl_Wrong⟩)
  (rv_Wrong:PySem.HandSPX.refsVE bmx_Wrong=true) (v2_Wrong:vsx_Wrong[2]?=some (.str fix_Wrong tfx_Wrong)) (fl_Wrong:((l.prog.main.file:Str)==fix_Wrong)=true)
  (ev_Wrong:∀ env:PySem.Env,eval (.Call (.Attribute (.Call (.Name "super" q1x_Wrong) [] [] q2x_Wrong) "__init__" q3x_Wrong) [.Name "place" q4x_Wrong] [] q5x_Wrong) env=(do
   let ov ←attributeBase (.Call (.Name "super" q1x_Wrong) [] [] q2x_Wrong) "__init__" env (eval (.Call (.Name "super" q1x_Wrong) [] [] q2x_Wrong) env)
   standAt q3x_Wrong.atName
   let (f1,first) ←holding [ov] (getMethod ov "__init__" plx_Wrong)
   callWith q5x_Wrong f1 first (backTo q5x_Wrong (starEach [.Name "place" q4x_Wrong] env)) []))
  (s1_Wrong:∀ env:PySem.Env,swapsWith (.Call (.Attribute (.Call (.Name "super" q1x_Wrong) [] [] q2x_Wrong) "__init__" q3x_Wrong) [.Name "place" q4x_Wrong] [] q5x_Wrong) none q6x_Wrong.line env=pure false) (s2_Wrong:∀ env:PySem.Env,swapsWith (.Name "place" q9x_Wrong) (some (.Attribute (.Name "self" q7x_Wrong) "place" q8x_Wrong)) q10x_Wrong.line env=pure false)
  : ∃ fd:FuncData,(∀ (s:Shared) (v:Value),BindsTo s fd ⟨[v],[]⟩ [("_law_script",v)])∧∀ base:Heap,K.In base→base.Ns mainGlobals mg→FnG l.prog w K mg base CX0 44 fa fd ["_law_script"] (spF K 1 F_law):=by
 have e:=hfa.symm.trans (PySem.W.mg_of X G a32)
 cases e
 have er_Wrong:DX.ErrTxt l.prog K mg "Wrong" "place" c_Wrong i_Wrong:=DX.errTxt_mk (PySem.W.mg_of X G q_Wrong) lk_Wrong sa_Wrong ga_Wrong gg_Wrong noN_Wrong in_Wrong tf_Wrong kC_Wrong exC_Wrong exV_Wrong tyC_Wrong hdC_Wrong su_Wrong mr_Wrong op_any (PySem.W.mg_none_of X G z_super) lfn_Wrong cod_Wrong lcd_Wrong lcc_Wrong rv_Wrong top_s (by decide) (by decide) rfl rfl rfl (fun _ _ _ _ _ _ _ _ _ _ _ _=>rfl) v2_Wrong fl_Wrong ev_Wrong s1_Wrong s2_Wrong
 have t2:TabOk K (tabT "bool" []) (fun t b=>PySem.W.kitOne K t (.type "bool")=some b):=tabT_ok (fun _ h=>nomatch h)
 have t3:TabOk K (tabT "int" []) (fun t b=>PySem.W.kitOne K t (.type "int")=some b):=tabT_ok (fun _ h=>nomatch h)
 have t4:TabOk K (tabT "list" []) (fun t b=>PySem.W.kitOne K t (.type "list")=some b):=tabT_ok (fun _ h=>nomatch h)
 have t5:TabOk K (tabT "str" []) (fun t b=>PySem.W.kitOne K t (.type "str")=some b):=tabT_ok (fun _ h=>nomatch h)
 have t6:TabOk K (tabT "tuple" []) (fun t b=>PySem.W.kitOne K t (.type "tuple")=some b):=tabT_ok (fun _ h=>nomatch h)
 have t7:TabOk K (tabT2 "tuple" "list" []) (fun t b=>PySem.W.kitAny K t [.type "tuple",.type "list"]=some b):=tabT2_ok (fun _ h=>nomatch h)
 have t8:TabOk K (tabTE "bool" ["Wrong"]) (fun t b=>PySem.W.kitOne K t (.type "bool")=some b):=tabTE_ok (fun _ h=>by
   simp only[List.mem_cons,List.not_mem_nil,or_false] at h
   subst h
   ·exact⟨⟨c_Wrong,q_Wrong,⟨hcl_of hdC_Wrong,ga_Wrong,gg_Wrong,exC_Wrong,cc_Wrong,mo_Wrong⟩⟩,c_Wrong,q_Wrong,kit_noT ns_Wrong_bool (by decide +kernel)⟩)
 have t9:TabOk K (tabTE "int" ["Wrong"]) (fun t b=>PySem.W.kitOne K t (.type "int")=some b):=tabTE_ok (fun _ h=>by
   simp only[List.mem_cons,List.not_mem_nil,or_false] at h
   subst h
   ·exact⟨⟨c_Wrong,q_Wrong,⟨hcl_of hdC_Wrong,ga_Wrong,gg_Wrong,exC_Wrong,cc_Wrong,mo_Wrong⟩⟩,c_Wrong,q_Wrong,kit_noT ns_Wrong_int (by decide +kernel)⟩)
 have t10:TabOk K (tabTE "str" ["Wrong"]) (fun t b=>PySem.W.kitOne K t (.type "str")=some b):=tabTE_ok (fun _ h=>by
   simp only[List.mem_cons,List.not_mem_nil,or_false] at h
   subst h
   ·exact⟨⟨c_Wrong,q_Wrong,⟨hcl_of hdC_Wrong,ga_Wrong,gg_Wrong,exC_Wrong,cc_Wrong,mo_Wrong⟩⟩,c_Wrong,q_Wrong,kit_noT ns_Wrong_str (by decide +kernel)⟩)
 have t11:TabOk K (tabTE "tuple" ["Wrong"]) (fun t b=>PySem.W.kitOne K t (.type "tuple")=some b):=tabTE_ok (fun _ h=>by
   simp only[List.mem_cons,List.not_mem_nil,or_false] at h
   subst h
   ·exact⟨⟨c_Wrong,q_Wrong,⟨hcl_of hdC_Wrong,ga_Wrong,gg_Wrong,exC_Wrong,cc_Wrong,mo_Wrong⟩⟩,c_Wrong,q_Wrong,kit_noT ns_Wrong_tuple (by decide +kernel)⟩)
 have T:Tx l.prog w K mg c_ONE_NAME c_TWO_NAMES c_WORDS c_Wrong i_Wrong:=⟨PySem.W.mg_none_of X G z_abs,PySem.W.mg_none_of X G z_all,PySem.W.mg_none_of X G z_bool,PySem.W.mg_none_of X G z_int,PySem.W.mg_none_of X G z_isinstance,PySem.W.mg_none_of X G z_len,PySem.W.mg_none_of X G z_list,PySem.W.mg_none_of X G z_min,PySem.W.mg_none_of X G z_range,PySem.W.mg_none_of X G z_repr,PySem.W.mg_none_of X G z_set,PySem.W.mg_none_of X G z_sorted,PySem.W.mg_none_of X G z_str,PySem.W.mg_none_of X G z_tuple,⟨tk_LETTERS,PySem.W.mg_of X G v_LETTERS⟩,⟨tk_MOST_ARGUMENTS,PySem.W.mg_of X G v_MOST_ARGUMENTS⟩,⟨tk_MOST_LETTERS,PySem.W.mg_of X G v_MOST_LETTERS⟩,⟨tk_MOST_MARKS,PySem.W.mg_of X G v_MOST_MARKS⟩,⟨tk_MOST_OWN,PySem.W.mg_of X G v_MOST_OWN⟩,⟨tk_MOST_STEPS,PySem.W.mg_of X G v_MOST_STEPS⟩,PySem.W.mg_of X G q_ONE_NAME,rp_ktup v_ONE_NAME x_ONE_NAME y_ONE_NAME,PySem.W.mg_of X G q_TWO_NAMES,rp_ktup v_TWO_NAMES x_TWO_NAMES y_TWO_NAMES,PySem.W.mg_of X G q_WORDS,rp_ktup v_WORDS x_WORDS y_WORDS,PySem.W.mg_of X G q_Wrong,q_Wrong,er_Wrong,t2,t3,t4,t5,t6,t7,t8,t9,t10,t11⟩
 refine⟨PySem.W.fnOf "law" "law" (defArgs s_law) (defBody s_law) (defScope s_law) .none kV32 dc32 pm32 an32 cd32 ct32,fun s v=>.of_eq rfl,fun base _ _=>?_⟩
 have C__law_alike:=ok__law_alike (P:=l.prog) (w:=w) (base:=base) (fun_mk (st:=s__law_alike) l0 c0 k0) (PySem.W.mg_of X G a0) T
 have C__law_bag:=ok__law_bag (P:=l.prog) (w:=w) (base:=base) (fun_mk (st:=s__law_bag) l1 c1 k1) (PySem.W.mg_of X G a1) T
 have C__law_deep:=ok__law_deep (P:=l.prog) (w:=w) (base:=base) (fun_mk (st:=s__law_deep) l2 c2 k2) (PySem.W.mg_of X G a2) T
 have C__law_take:=ok__law_take (P:=l.prog) (w:=w) (base:=base) (fun_mk (st:=s__law_take) l3 c3 k3) (PySem.W.mg_of X G a3) T
 have C__law_odd_value:=ok__law_odd_value (P:=l.prog) (w:=w) (base:=base) (fun_mk (st:=s__law_odd_value) l4 c4 k4) (PySem.W.mg_of X G a4) T C__law_deep C__law_take
 have C__law_word:=ok__law_word (P:=l.prog) (w:=w) (base:=base) (fun_mk (st:=s__law_word) l5 c5 k5) (PySem.W.mg_of X G a5) T C__law_take
 have C__law_bent:=ok__law_bent (P:=l.prog) (w:=w) (base:=base) (fun_mk (st:=s__law_bent) l6 c6 k6) (PySem.W.mg_of X G a6) T C__law_odd_value C__law_take C__law_word
 have C__law_lower:=ok__law_lower (P:=l.prog) (w:=w) (base:=base) (fun_mk (st:=s__law_lower) l7 c7 k7) (PySem.W.mg_of X G a7) T
 have C__law_are_names:=ok__law_are_names (P:=l.prog) (w:=w) (base:=base) (fun_mk (st:=s__law_are_names) l8 c8 k8) (PySem.W.mg_of X G a8) T C__law_lower
 have C__law_is_call:=ok__law_is_call (P:=l.prog) (w:=w) (base:=base) (fun_mk (st:=s__law_is_call) l9 c9 k9) (PySem.W.mg_of X G a9) T C__law_are_names C__law_lower
 have C__law_is_step:=ok__law_is_step (P:=l.prog) (w:=w) (base:=base) (fun_mk (st:=s__law_is_step) l10 c10 k10) (PySem.W.mg_of X G a10) T C__law_are_names
 have C__law_all_names:=ok__law_all_names (P:=l.prog) (w:=w) (base:=base) (fun_mk (st:=s__law_all_names) l11 c11 k11) (PySem.W.mg_of X G a11) T
 have C__law_own:=ok__law_own (P:=l.prog) (w:=w) (base:=base) (fun_mk (st:=s__law_own) l12 c12 k12) (PySem.W.mg_of X G a12) T C__law_all_names
 have C__law_is_deed:=ok__law_is_deed (P:=l.prog) (w:=w) (base:=base) (fun_mk (st:=s__law_is_deed) l13 c13 k13) (PySem.W.mg_of X G a13) T C__law_are_names C__law_is_step C__law_own
 have C__law_is_whole:=ok__law_is_whole (P:=l.prog) (w:=w) (base:=base) (fun_mk (st:=s__law_is_whole) l14 c14 k14) (PySem.W.mg_of X G a14) T
 have C__law_is_line:=ok__law_is_line (P:=l.prog) (w:=w) (base:=base) (fun_mk (st:=s__law_is_line) l15 c15 k15) (PySem.W.mg_of X G a15) T C__law_is_whole
 have C_is_name:=ok_is_name (P:=l.prog) (w:=w) (base:=base) (fun_mk (st:=s_is_name) l16 c16 k16) (PySem.W.mg_of X G a16) T
 have C_are_names:=ok_are_names (P:=l.prog) (w:=w) (base:=base) (fun_mk (st:=s_are_names) l17 c17 k17) (PySem.W.mg_of X G a17) T C_is_name
 have C_is_call:=ok_is_call (P:=l.prog) (w:=w) (base:=base) (fun_mk (st:=s_is_call) l18 c18 k18) (PySem.W.mg_of X G a18) T C_are_names C_is_name
 have C_is_step:=ok_is_step (P:=l.prog) (w:=w) (base:=base) (fun_mk (st:=s_is_step) l19 c19 k19) (PySem.W.mg_of X G a19) T C_are_names C_is_name
 have C_is_deed:=ok_is_deed (P:=l.prog) (w:=w) (base:=base) (fun_mk (st:=s_is_deed) l20 c20 k20) (PySem.W.mg_of X G a20) T C_are_names C_is_step
 have C_is_integer:=ok_is_integer (P:=l.prog) (w:=w) (base:=base) (fun_mk (st:=s_is_integer) l21 c21 k21) (PySem.W.mg_of X G a21) T
 have C_is_line:=ok_is_line (P:=l.prog) (w:=w) (base:=base) (fun_mk (st:=s_is_line) l22 c22 k22) (PySem.W.mg_of X G a22) T C_is_integer
 have C_is_word:=ok_is_word (P:=l.prog) (w:=w) (base:=base) (fun_mk (st:=s_is_word) l23 c23 k23) (PySem.W.mg_of X G a23) T
 have C__law_own_right:=ok__law_own_right (P:=l.prog) (w:=w) (base:=base) (fun_mk (st:=s__law_own_right) l24 c24 k24) (PySem.W.mg_of X G a24) T C__law_alike C_is_call C_is_deed C_is_integer C_is_line C_is_name C_is_step C_is_word
 have C__law_mixed:=ok__law_mixed (P:=l.prog) (w:=w) (base:=base) (fun_mk (st:=s__law_mixed) l25 c25 k25) (PySem.W.mg_of X G a25) T C__law_take
 have C__law_names:=ok__law_names (P:=l.prog) (w:=w) (base:=base) (fun_mk (st:=s__law_names) l26 c26 k26) (PySem.W.mg_of X G a26) T C__law_mixed C__law_take
 have C__law_one:=ok__law_one (P:=l.prog) (w:=w) (base:=base) (fun_mk (st:=s__law_one) l27 c27 k27) (PySem.W.mg_of X G a27) T C__law_take
 have C__law_step:=ok__law_step (P:=l.prog) (w:=w) (base:=base) (fun_mk (st:=s__law_step) l28 c28 k28) (PySem.W.mg_of X G a28) T C__law_one
 have C__law_deed:=ok__law_deed (P:=l.prog) (w:=w) (base:=base) (fun_mk (st:=s__law_deed) l29 c29 k29) (PySem.W.mg_of X G a29) T C__law_names C__law_step C__law_take
 have C__law_plain_deeds:=ok__law_plain_deeds (P:=l.prog) (w:=w) (base:=base) (fun_mk (st:=s__law_plain_deeds) l30 c30 k30) (PySem.W.mg_of X G a30) T
 have C__law_thing:=ok__law_thing (P:=l.prog) (w:=w) (base:=base) (fun_mk (st:=s__law_thing) l31 c31 k31) (PySem.W.mg_of X G a31) T C__law_deed C__law_names C__law_odd_value C__law_plain_deeds C__law_step C__law_take C__law_word
 exact ok_law (fun_mk (st:=s_law) l32 c32 k32) T C__law_alike C__law_bag C__law_bent C__law_is_call C__law_is_deed C__law_is_line C__law_is_step C__law_is_whole C__law_lower C__law_own_right C__law_take C__law_thing C_is_call C_is_deed C_is_integer C_is_line C_is_name C_is_step C_is_word
end K11
open PySem PySem.W PyProof.Rows
set_option maxHeartbeats 0 in
theorem PySem.Challenge.cw_smallcount_k11_kinds_of_any_value_holds : PySem.Challenge.rw_smallcount_k11_kinds_of_any_value.Holds := by
 refine K11HD.hd ?_
 k_fill
 refine DL.walk_ofG (l:=PySem.Challenge.rw_smallcount_k11_kinds_of_any_value) (n:=63) (k:=44) (x:="_law_script") (cx:=fun _=>L2.CX0) (sp:=fun w=>DL.spF _ 1 K11.F_law) rfl (by decide) rfl ⟨rfl,by decide,by decide⟩ (fun w h Y=>PySem.W.kIn_of Y) ?F (fun _ _ a ns _ _ hS=>let ⟨_,h⟩:=K11.law_true ns;DL.law_sp hS h) (fun _ _ _ _ _ h=>h)
 case F =>
  intro w mg fa h KX G hmg
  refine' K11.all_mk KX G hmg ?a0 ?l0 ?c0 ?k0 ?a1 ?l1 ?c1 ?k1 ?a2 ?l2 ?c2 ?k2 ?a3 ?l3 ?c3 ?k3 ?a4 ?l4 ?c4 ?k4 ?a5 ?l5 ?c5 ?k5 ?a6 ?l6 ?c6 ?k6 ?a7 ?l7 ?c7 ?k7 ?a8 ?l8 ?c8 ?k8 ?a9 ?l9 ?c9 ?k9 ?a10 ?l10 ?c10 ?k10 ?a11 ?l11 ?c11 ?k11 ?a12 ?l12 ?c12 ?k12 ?a13 ?l13 ?c13 ?k13 ?a14 ?l14 ?c14 ?k14 ?a15 ?l15 ?c15 ?k15 ?a16 ?l16 ?c16 ?k16 ?a17 ?l17 ?c17 ?k17 ?a18 ?l18 ?c18 ?k18 ?a19 ?l19 ?c19 ?k19 ?a20 ?l20 ?c20 ?k20 ?a21 ?l21 ?c21 ?k21 ?a22 ?l22 ?c22 ?k22 ?a23 ?l23 ?c23 ?k23 ?a24 ?l24 ?c24 ?k24 ?a25 ?l25 ?c25 ?k25 ?a26 ?l26 ?c26 ?k26 ?a27 ?l27 ?c27 ?k27 ?a28 ?l28 ?c28 ?k28 ?a29 ?l29 ?c29 ?k29 ?a30 ?l30 ?c30 ?k30 ?a31 ?l31 ?c31 ?k31 ?a32 ?l32 ?c32 ?k32 ?z_abs ?z_all ?z_bool ?z_int ?z_isinstance ?z_len ?z_list ?z_min ?z_range ?z_repr ?z_set ?z_sorted ?z_str ?z_tuple ?v_LETTERS ?v_MOST_ARGUMENTS ?v_MOST_LETTERS ?v_MOST_MARKS ?v_MOST_OWN ?v_MOST_STEPS ?q_ONE_NAME ?v_ONE_NAME ?x_ONE_NAME ?y_ONE_NAME ?q_TWO_NAMES ?v_TWO_NAMES ?x_TWO_NAMES ?y_TWO_NAMES ?q_WORDS ?v_WORDS ?x_WORDS ?y_WORDS ?q_Wrong ?ga_Wrong ?gg_Wrong ?exC_Wrong ?hdC_Wrong ?cc_Wrong ?mo_Wrong ?iC_Wrong ?tyC_Wrong ?noN_Wrong ?ns_Wrong_bool ?ns_Wrong_int ?ns_Wrong_str ?ns_Wrong_tuple ?cls_sp ?cls_tk ?op_any ?z_super ?top_s ?lk_Wrong ?sa_Wrong ?in_Wrong ?tf_Wrong ?kC_Wrong ?exV_Wrong ?su_Wrong ?mr_Wrong ?lfn_Wrong ?cod_Wrong ?lcd_Wrong ?lcc_Wrong ?rv_Wrong ?v2_Wrong ?fl_Wrong ?ev_Wrong ?s1_Wrong ?s2_Wrong
  (case a0=>k_is)
  (case l0=>k_is)
  (case c0=>k_is)
  (case k0=>k_is)
  (case a1=>k_is)
  (case l1=>k_is)
  (case c1=>k_is)
  (case k1=>k_is)
  (case a2=>k_is)
  (case l2=>k_is)
  (case c2=>k_is)
  (case k2=>k_is)
  (case a3=>k_is)
  (case l3=>k_is)
  (case c3=>k_is)
  (case k3=>k_is)
  (case a4=>k_is)
  (case l4=>k_is)
  (case c4=>k_is)
  (case k4=>k_is)
  (case a5=>k_is)
  (case l5=>k_is)
  (case c5=>k_is)
  (case k5=>k_is)
  (case a6=>k_is)
  (case l6=>k_is)
  (case c6=>k_is)
  (case k6=>k_is)
  (case a7=>k_is)
  (case l7=>k_is)
  (case c7=>k_is)
  (case k7=>k_is)
  (case a8=>k_is)
  (case l8=>k_is)
  (case c8=>k_is)
  (case k8=>k_is)
  (case a9=>k_is)
  (case l9=>k_is)
  (case c9=>k_is)
  (case k9=>k_is)
  (case a10=>k_is)
  (case l10=>k_is)
  (case c10=>k_is)
  (case k10=>k_is)
  (case a11=>k_is)
  (case l11=>k_is)
  (case c11=>k_is)
  (case k11=>k_is)
  (case a12=>k_is)
  (case l12=>k_is)
  (case c12=>k_is)
  (case k12=>k_is)
  (case a13=>k_is)
  (case l13=>k_is)
  (case c13=>k_is)
  (case k13=>k_is)
  (case a14=>k_is)
  (case l14=>k_is)
  (case c14=>k_is)
  (case k14=>k_is)
  (case a15=>k_is)
  (case l15=>k_is)
  (case c15=>k_is)
  (case k15=>k_is)
  (case a16=>k_is)
  (case l16=>k_is)
  (case c16=>k_is)
  (case k16=>k_is)
  (case a17=>k_is)
  (case l17=>k_is)
  (case c17=>k_is)
  (case k17=>k_is)
  (case a18=>k_is)
  (case l18=>k_is)
  (case c18=>k_is)
  (case k18=>k_is)
  (case a19=>k_is)
  (case l19=>k_is)
  (case c19=>k_is)
  (case k19=>k_is)
  (case a20=>k_is)
  (case l20=>k_is)
  (case c20=>k_is)
  (case k20=>k_is)
  (case a21=>k_is)
  (case l21=>k_is)
  (case c21=>k_is)
  (case k21=>k_is)
  (case a22=>k_is)
  (case l22=>k_is)
  (case c22=>k_is)
  (case k22=>k_is)
  (case a23=>k_is)
  (case l23=>k_is)
  (case c23=>k_is)
  (case k23=>k_is)
  (case a24=>k_is)
  (case l24=>k_is)
  (case c24=>k_is)
  (case k24=>k_is)
  (case a25=>k_is)
  (case l25=>k_is)
  (case c25=>k_is)
  (case k25=>k_is)
  (case a26=>k_is)
  (case l26=>k_is)
  (case c26=>k_is)
  (case k26=>k_is)
  (case a27=>k_is)
  (case l27=>k_is)
  (case c27=>k_is)
  (case k27=>k_is)
  (case a28=>k_is)
  (case l28=>k_is)
  (case c28=>k_is)
  (case k28=>k_is)
  (case a29=>k_is)
  (case l29=>k_is)
  (case c29=>k_is)
  (case k29=>k_is)
  (case a30=>k_is)
  (case l30=>k_is)
  (case c30=>k_is)
  (case k30=>k_is)
  (case a31=>k_is)
  (case l31=>k_is)
  (case c31=>k_is)
  (case k31=>k_is)
  (case a32=>k_is)
  (case l32=>k_is)
  (case c32=>k_is)
  (case k32=>k_is)
  (case z_abs=>k_is)
  (case z_all=>k_is)
  (case z_bool=>k_is)
  (case z_int=>k_is)
  (case z_isinstance=>k_is)
  (case z_len=>k_is)
  (case z_list=>k_is)
  (case z_min=>k_is)
  (case z_range=>k_is)
  (case z_repr=>k_is)
  (case z_set=>k_is)
  (case z_sorted=>k_is)
  (case z_str=>k_is)
  (case z_tuple=>k_is)
  (case v_LETTERS=>k_is)
  (case v_MOST_ARGUMENTS=>k_is)
  (case v_MOST_LETTERS=>k_is)
  (case v_MOST_MARKS=>k_is)
  (case v_MOST_OWN=>k_is)
  (case v_MOST_STEPS=>k_is)
  (case q_ONE_NAME=>k_is)
  (case v_ONE_NAME=>k_is)
  (case q_TWO_NAMES=>k_is)
  (case v_TWO_NAMES=>k_is)
  (case q_WORDS=>k_is)
  (case v_WORDS=>k_is)
  (case q_Wrong=>k_is)
  (case ga_Wrong=>k_is)
  (case gg_Wrong=>k_is)
  (case exC_Wrong=>k_is)
  (case hdC_Wrong=>k_is)
  (case cc_Wrong=>k_is)
  (case mo_Wrong=>k_is)
  (case iC_Wrong=>k_is)
  (case tyC_Wrong=>k_is)
  (case noN_Wrong=>k_is)
  (case ns_Wrong_bool=>k_is)
  (case ns_Wrong_int=>k_is)
  (case ns_Wrong_str=>k_is)
  (case ns_Wrong_tuple=>k_is)
  (case cls_sp=>k_is)
  (case cls_tk=>k_is)
  (case op_any=>k_is)
  (case z_super=>k_is)
  (case lk_Wrong=>k_is)
  (case sa_Wrong=>k_is)
  (case in_Wrong=>k_is)
  (case tf_Wrong=>k_is)
  (case kC_Wrong=>k_is)
  (case exV_Wrong=>k_is)
  (case su_Wrong=>ks_is)
  (case mr_Wrong=>k_is)
  (case lfn_Wrong=>k_is)
  (case cod_Wrong=>k_is)
  (case lcd_Wrong=>k_is)
  (case lcc_Wrong=>k_is)
  (case x_ONE_NAME=>decide)
  (case y_ONE_NAME=>rfl)
  (case x_TWO_NAMES=>decide)
  (case y_TWO_NAMES=>rfl)
  (case x_WORDS=>decide)
  (case y_WORDS=>rfl)
  (case top_s=>rfl)
  (case rv_Wrong=>decide +kernel)
  (case v2_Wrong=>rfl)
  (case fl_Wrong=>first|rfl|decide +kernel)
  (case ev_Wrong=>exact fun _=>rfl)
  (case s1_Wrong=>exact fun _=>rfl)
  (case s2_Wrong=>exact fun _=>rfl)
