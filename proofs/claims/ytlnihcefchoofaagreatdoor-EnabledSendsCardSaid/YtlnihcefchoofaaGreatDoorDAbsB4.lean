import Derived.Test.YtlnihcefchoofaaGreatDoorDAbsB1
import Derived.Test.YtlnihcefchoofaaGreatDoorDAbsB3
set_option linter.all false
namespace Go.Abs
variable [GTab] [Glob]
def rcS(h:List TObj)(bad:List Nat)(e size:Nat)(ts:List CT)(v:TV):Option (List (denL ts)) :=
 match v with
 |.row t ver=>match tget h t ver with
  |some o=>if o.e=e/\o.size=size then Zgf (frzT h bad 6) ts o.el else none|none=>none
 |_=>none
variable {h:List TObj}
theorem Yve{bad:List Nat}{e size:Nat}{ts:List CT}{v:TV}{y:List (denL ts)}(hv:rcS h bad e size ts v=some y):rcOf (erH h) bad true v.er=some (.s e size (y.map (pvL ts))):=by
 unfold rcS at hv;split at hv;split at hv;rename_i o ho;split at hv;rename_i hc;have h1:=Zk9 (g:=frz (erH h) bad 6) (λt x v=>Zah) (λx=>rfl) hv;simp only[TV.er,rcOf,if_true,Yf ho];rw[show o.er.elems=o.el.er from rfl,h1];simp only[<- hc.1,<- hc.2];rfl;grind;grind;grind
def rcV(h:List TObj)(bad:List Nat):(x:RCT)->TV->Option x.den
 |.p t,v=>match v with
  |.row _ _=>none|v=>frzT h bad 6 t v
 |.s e size ts,v=>rcS h bad e size ts v|.ifc,v=>match v with|.ifb b=>some b|_=>none
def rcVs(h:List TObj)(bad:List Nat):(xs:List RCT)->List TV->Option (Zha xs)
 |[],[]=>some ()|x::xs,v::vs=>match rcV h bad x v,rcVs h bad xs vs with|some a,some b=>some (a,b)|_,_=>none
 |[],_::_=>none|_::_,[]=>none
def raV(h:List TObj)(bad:List Nat):(x:RT)->TV->Option x.den
 |.c x,v=>match v with
  |.agg _=>none|v=>rcV h bad x v
 |.a xs,v=>match v with|.agg cs=>rcVs h bad xs cs|_=>none
def raVs(h:List TObj)(bad:List Nat):(xs:List RT)->List TV->Option (Xj xs)
 |[],[]=>some ()|x::xs,v::vs=>match raV h bad x v,raVs h bad xs vs with|some a,some b=>some (a,b)|_,_=>none
 |[],_::_=>none|_::_,[]=>none
variable {a:AV}
theorem Ycb{h:List AObj}{bad:List Nat}{own:Bool}{v:PV}(hn:∀t ver,a ≠ .row t ver)(hf:frz h bad 6 a=some v):rcOf h bad own a=some (.c v):=by
 unfold rcOf;split;grind;cases hf;grind
theorem Z4z{bad:List Nat}{d:Nat}{t:CT}{i ver:Nat}{v:t.den}:frzT h bad (d+1) t (.raw (.row i ver))≠some v:=by intro hf;have hf:nilC t (.row i ver)=some v:=hf;cases t<;>cases hf
variable {x:RCT}
theorem Zgj{bad:List Nat}{v:TV}{y:x.den}(hv:rcV h bad x v=some y):rcOf (erH h) bad true v.er=some (x.rc y):=by
 cases x with
 |p t => have fin:(∀t ver,v.er ≠ .row t ver)->frzT h bad 6 t v=some y->rcOf (erH h) bad true v.er=some (RCT.rc (.p t) y):=λhne hf=>Ycb hne (Zah hf);cases v with|row i ver=>cases(show(none:Option t.den)=some y from hv)|raw w=>refine fin (λi ver e=>?_) hv;have e:w = .row i ver:=e;subst e;exact Z4z (h:=h) (bad:=bad) (d:=5) hv|_=>exact fin (λ_ _ e=>by cases e) hv
 |s e size ts=>exact Yve (y:=y) hv|ifc => cases v with|ifb b=>obtain rfl:=J0a (show some b=some y from hv);rfl|_=>cases(show(none:Option Bool)=some y from hv)
theorem Ygc{h:List TObj}{bad:List Nat}:∀{xs:List RCT} {vs:List TV} {y:Zha xs},rcVs h bad xs vs=some y->Zjz (erH h) bad true (erL vs)=some (rcL xs y)
 |[],[],y,hv=>rfl|[],_::_,y,hv=>by simp[rcVs]at hv|_::_,[],y,hv=>by simp[rcVs]at hv|x::xs,v::vs,y,hv=>by
  simp only[rcVs]at hv;split at hv;rename_i a b ha hb;obtain rfl:=J0a hv;simp only[erL,Zjz,Zgj ha,Ygc hb,rcL];grind
theorem Qp{h:List AObj}{bad:List Nat}{own:Bool}{v:RC}(hn:∀cs,a ≠ .agg cs)(hf:rcOf h bad own a=some v):raOf h bad own a=some (.c v):=by unfold raOf;grind
theorem Z8j{bad:List Nat}{cs:List AV}{y:x.den}:rcV h bad x (.raw (.agg cs))≠some y:=by
 intro hv;cases x with|p t=>have hf:nilC t (.agg cs)=some y:=hv;cases t<;>cases hf|s e size ts=>cases(show(none:Option (List (denL ts)))=some y from hv)|ifc=>cases(show(none:Option Bool)=some y from hv)
theorem Yvf{bad:List Nat}{x:RT}{v:TV}{y:x.den}(hv:raV h bad x v=some y):raOf (erH h) bad true v.er=some (x.ra y):=by
 cases x with
 |c x => cases v with|agg cs=>cases(show(none:Option x.den)=some y from hv)|raw w=>refine Qp (λcs e=>?_) (Zgj (v:=.raw w) hv);have e:w = .agg cs:=e;subst e;exact Z8j (show rcV h bad x (.raw (.agg cs))=some y from hv)|p t w=>exact Qp (λ_ e=>by cases e) (Zgj (v:=.p t w) hv)|xf ts xs=>exact Qp (λ_ e=>by cases e) (Zgj (v:=.xf ts xs) hv)|row i ver=>exact Qp (λ_ e=>by cases e) (Zgj (v:=.row i ver) hv)|sl i ver lo len ex=>exact Qp (λ_ e=>by cases e) (Zgj (v:=.sl i ver lo len ex) hv)|ptr i ver j off=>exact Qp (λ_ e=>by cases e) (Zgj (v:=.ptr i ver j off) hv)|fptr ts e=>exact Qp (λ_ e=>by cases e) (Zgj (v:=.fptr ts e) hv)|tuple vs=>exact Qp (λ_ e=>by cases e) (Zgj (v:=.tuple vs) hv)|fn f caps=>exact Qp (λ_ e=>by cases e) (Zgj (v:=.fn f caps) hv)|ifb b=>exact Qp (λ_ e=>by cases e) (Zgj (v:=.ifb b) hv)
 |a xs => cases v with|agg cs=>have hv:rcVs h bad xs cs=some y:=hv;show(match Zjz (erH h) bad true (erL cs)with|some l=>some (RA.a l)|none=>none)=_;rw[Ygc hv];rfl|_=>cases(show(none:Option (Zha xs))=some y from hv)
theorem Ygd{h:List TObj}{bad:List Nat}:∀{xs:List RT} {vs:List TV} {y:Xj xs},raVs h bad xs vs=some y->Zcc (erH h) bad true (erL vs)=some (raL xs y)
 |[],[],y,hv=>rfl|[],_::_,y,hv=>by simp[raVs]at hv|_::_,[],y,hv=>by simp[raVs]at hv|x::xs,v::vs,y,hv=>by
  simp only[raVs]at hv;split at hv;rename_i a b ha hb;obtain rfl:=J0a hv;simp only[erL,Zcc,Yvf ha,Ygd hb,raL];grind
def Ytm(st:TSt):ARes->Option TV|.tmp t=>some (st.slots.getD t (.raw .any))|.cell t (some n)=>tread st.heap n (st.slots.getD t (.raw .any)) λcs=>some (.agg cs)|.cell t none=>tread st.heap 1 (st.slots.getD t (.raw .any)) λcs=>match cs with | [c]=>some c|_=>none
def Z8k(st:TSt):List ARes->Option (List TV)|[]=>some []|r::rs=>match Ytm st r,Z8k st rs with|some x,some xs=>some (x::xs)|_,_=>none
theorem Z40(s:List TV)(n:Nat):(erL s).getD n .any=(s.getD n (.raw .any)).er:=(Zk6 s (.t n)).symm
theorem Yle{st:TSt}{r:ARes}{v:TV}(h:Ytm st r=some v):res1 st.er r=some v.er:=by
 cases r with|tmp t=>obtain rfl:=J0a h;exact congrArg some (Z40 st.slots t)|cell t m => cases m with|some n=>obtain⟨cs,h1,h2⟩:=Zux (show tread st.heap n (st.slots.getD t (.raw .any)) (λcs=>some (.agg cs))=some v from h);obtain rfl:=J0a h2;simp only[res1,TSt.er,Z40,h1,TV.er]|none => obtain⟨cs,h1,h2⟩:=Zux (show tread st.heap 1 (st.slots.getD t (.raw .any)) (λcs=>match cs with | [c]=>some c|_=>none)=some v from h);split at h2;obtain rfl:=J0a h2;simp only[res1,TSt.er,Z40,h1,erL];grind
theorem Zwz{st:TSt}:∀{rs:List ARes} {xs:List TV},Z8k st rs=some xs->resV st.er rs=some (erL xs)
 |[],xs,h=>by obtain rfl:=J0a h;rfl|r::rs,xs,h=>by
  simp only[Z8k]at h;split at h;rename_i x ys hx hy;obtain rfl:=J0a h;simp only[resV,Yle hx,Zwz hy,erL];grind
def AT.tv:(a:AT)->a.den->TV|.c t,v=>.p t v|.q ts,e=>.fptr ts e|.a ts,e=>.agg (Zpd ts e)
def tvAs:(as:List AT)->Zg9 as->List TV|[],_=>[]|a::as,e=>a.tv e.1::tvAs as e.2
def Z41(nt:Nat)(args:List TV):List TV:=args++List.replicate (nt-args.length) (.raw .u)
theorem AT.tv_er:∀(a:AT) (v:a.den),(a.tv v).er=(a.pa v).av|.c t,v=>rfl|.q ts,e=>rfl|.a ts,e=>congrArg AV.agg (Zh8 ts e)
theorem Yge:∀(as:List AT) (e:Zg9 as),erL (tvAs as e)=(pasL as e).map PA.av|[],_=>rfl|a::as,e=>by simp only[tvAs,erL,pasL,List.map_cons,AT.tv_er,Yge as]
theorem Z2u(nt:Nat)(args:List TV):erL (Z41 nt args)=start nt (erL args):=by simp[Z41,start,Yk,TV.er]
end Go.Abs
namespace Go.Abs
variable [GTab] [Glob]
inductive CCode where
 |skip|reg (pre:Option (List Nat)) (steps:List AStep)|seq (a b:CCode)|cond (c:AOpd) (a b:CCode)|block (id:Nat) (c:CCode)|loop (i:Nat) (c:CCode)|cut (i:Nat) (c:CCode)|exit (id:Nat)|ret|bad|range (n:Nat) (z:AOpd) (ps:List Nat) (a c:ACode) (alts:CCode)|regi (c:CCode)|inl (n:Nat) (s1:List AStep) (s:AStep) (alts rest:CCode)|alt (f:FuncId) (nt:Nat) (res:List ARes) (body next:CCode)|yld (pos:Nat) (ps:List Nat) (a c next:CCode)|scope (c:CCode)|loopU (k:Nat) (c:CCode)
 deriving Inhabited
def CCode.ers:CCode->List AStep|.reg none ss=>ss|.inl _ s1 s _ rest=>s1++s::rest.ers|_=>[]
def CCode.er:CCode->ACode|.skip=>.skip|.reg p ss=>.reg p ss|.seq a b=>.seq a.er b.er|.cond z a b=>.cond z a.er b.er|.block id a=>.block id a.er|.loop _ a=>.loop a.er|.cut _ a=>a.er|.scope a=>.scope a.er|.loopU _ a=>.loop a.er|.exit id=>.exit id|.ret=>.ret|.range _ z ps a c _=>.range z ps a c|.regi c=>.reg none c.ers|_=>.bad
abbrev Lows:=List (List TV)
def erLL(l:Lows):List (List AV):=l.map erL
abbrev KK(R:Type):=TSt->Lows->Option R
mutual
def TV.noY:TV->Bool|.raw v=>v.noY|.agg cs=>Zqq cs|.tuple cs=>Zqq cs|.fn _ cs=>Zqq cs|_=>true
def Zqq:List TV->Bool|[]=>true|x::xs=>x.noY&&Zqq xs
end
def TE.noY:TE->Bool|.sym _ _=>true|.lit es=>es.all Zqq
def tnoY(st:TSt)(l:Lows):Bool:=Zqq st.slots&&st.heap.all (λo=>o.el.noY)&&l.all Zqq
def Zld:CCode->FuncId->Bool|.alt g _ _ _ next,f=>(g==f)||Zld next f|.yld _ _ _ _ next,f=>Zld next f|_,_=>false
def Zpf:CCode->Bool|.alt _ _ res _ next=>res.isEmpty&&Zpf next|.yld _ _ _ _ next=>Zpf next|_=>true
def Zw0(s:List TV):List (Nat×TV)->List TV|[]=>s|(t,v)::rest=>Zw0 (s.set t v) rest
section
variable {R:Type}
def popK(res:List ARes)(dst:Option Nat)(k:KK R):KK R:=λs l => match l with|low::l' => (match Z8k s res with|some xs=>k ⟨Zac low dst (retT xs),s.heap⟩ l' | none=>none)|[]=>none
def rndK(pos:Nat)(dst:Option Nat)(b:Bool)(p:Int)(k:KK R):KK R:=λs l => match l with|low::l' => k ⟨Zac low dst (.p .bool b),s.heap⟩ (l'.set pos [.p (.int .u64) p])|[]=>none
def Z42(body:KK R->KK R):Nat->KK R|0=>λ_ _=>none|k+1=>λs l=>body (Z42 body k) s l
def rfGo(kn kr:KK R)(ke:Nat->KK R)(p:Int):KK R:=λs l=>cond (isK p 0) (kn s l) (cond (isK p 1) (kr s l) (cond (decide ((2:Int)<=p)) (ke (p-2).toNat s l) none))
def rfK(kn kr:KK R)(ke:Nat->KK R):KK R:=λs l => match l with|pd::low::l' => (match pd with | [.p (.int .u64) p]=>rfGo kn kr ke p ⟨low,s.heap⟩ l' | _=>none)|_=>none
def rfE(kn kr:KK R)(ke:Nat->KK R)(res:List ARes):KK R:=match res with | []=>rfK kn kr ke|_=>λ_ _=>none
variable (tab:Tab) (M:Nat->FuncId->Option R) (J:Nat->KK R)
mutual
def runC:CCode->TSt->Lows->KK R->(Nat->KK R)->KK R->Option R
 |.skip,st,l,kn,_,_=>kn st l|.reg none ss,st,l,kn,_,_=>Zlb tab ss st (λs=>kn s l)|.reg (some pre) ss,st,l,kn,_,_=>Zqj tab (ordT pre ss) ss [] st (λs=>kn s l)|.seq a b,st,l,kn,ke,kr=>runC a st l (λs l=>runC b s l kn ke kr) ke kr|.cond z a b,st,l,kn,ke,kr=>match z with
  |.t d=>Zwq st d (λt s=>match t with|true=>runC a s l kn ke kr|false=>runC b s l kn ke kr) none|.c (.p (.bool true))=>runC a st l kn ke kr|.c (.p (.bool false))=>runC b st l kn ke kr|_=>none
 |.block id a,st,l,kn,ke,kr=>runC a st l kn (λid' s l=>if id' = id then kn s l else ke id' s l) kr|.scope a,st,l,kn,ke,kr=>runC a st l kn ke kr|.loopU k a,st,l,_,ke,kr=>Z42 (λkk s l=>runC a s l kk ke kr) k st l|.loop i _,st,l,_,_,_=>J i st l|.cut i _,st,l,_,_,_=>J i st l|.exit id,st,l,_,ke,_=>ke id st l|.ret,st,l,_,_,kr=>kr st l|.range n z ps a c alts,st,l,kn,ke,kr=>cond (tnoY st l&&Zpf alts) (match z.tev st.slots with
  |.fn f caps=>cond (Zld alts f) (runA alts f (.raw .yl::caps) st.heap ([.p (.int .u64) (0:Int)]::st.slots::l) (rfE kn kr ke)) (M n f)|_=>none) none
 |.regi c,st,l,kn,_,_=>runR c st l kn|_,_,_,_,_,_=>none
def runR:CCode->TSt->Lows->KK R->Option R
 |.reg none ss,st,l,kn=>Zlb tab ss st (λs=>kn s l)|.inl n s1 s alts rest,st,l,kn=>Zlb tab s1 st λst=>Zws st s.guard λb st =>
  match b with
  |false=>runR rest ⟨Zac st.slots s.dst (.raw .u),st.heap⟩ l kn|true=>match s.op with
   |.call f args=>cond (Zld alts f) (runA alts f (args.map (AOpd.tev st.slots)) st.heap (st.slots::l) (λres=>popK res s.dst λs l=>runR rest s l kn)) (M n f)|.callv x args=>match x.tev st.slots with
    |.fn f caps=>cond (Zld alts f) (runA alts f (args.map (AOpd.tev st.slots)++caps) st.heap (st.slots::l) (λres=>popK res s.dst λs l=>runR rest s l kn))
     (match tab f with|some _=>Z4w (tab f) st.heap (args.map (AOpd.tev st.slots)++caps) λy os=>runR rest ⟨Zac st.slots s.dst y,st.heap++os⟩ l kn|none=>M n f)
    |.raw .yl=>runY n alts (args.map (AOpd.tev st.slots)) st l s.dst (λs l=>runR rest s l kn)|_=>none
   |_=>none
 |_,_,_,_=>none
def runA:CCode->FuncId->List TV->List TObj->Lows->(List ARes->KK R)->Option R|.alt g nt res body next,f,avs,h,l,kend=>cond (g==f) (runC body ⟨Z41 nt avs,h⟩ l (kend res) (λ_ _ _=>none) (kend res)) (runA next f avs h l kend)|.yld _ _ _ _ next,f,avs,h,l,kend=>runA next f avs h l kend|_,_,_,_,_,_=>none
def runY(n:Nat):CCode->List TV->TSt->Lows->Option Nat->KK R->Option R
 |.yld pos ps a c next,xs,st,l,dst,k =>
  match l[pos]? with
  |some pd=>(match pd with
   |[.p (.int .u64) p]=>cond (isK p 0) (match l[pos+1]? with
    |some ls=>cond (xs.length==ps.length) (runC a ⟨Zw0 ls (ps.zip xs),st.heap⟩ (st.slots::l)
        (λs l=>runC c s l (rndK pos dst true 0 k) (λid=>rndK pos dst false ((id:Int)+2) k) (rndK pos dst false 1 k)) (λ_ _ _=>none) (λ_ _=>none)) none
    |none=>none) none
   |_=>none)
  |none=>none
 |.alt _ _ _ _ next,xs,st,l,dst,k=>runY n next xs st l dst k|_,_,_,_,_,_=>M n 4294967295
end
mutual
def Zdt:CCode->KK R->(Nat->KK R)->KK R->List (Nat×KK R)|.seq a b,kn,ke,kr=>Zdt a (λs l=>runC tab M J b s l kn ke kr) ke kr++Zdt b kn ke kr|.cond _ a b,kn,ke,kr=>Zdt a kn ke kr++Zdt b kn ke kr|.block id a,kn,ke,kr=>Zdt a kn (λid' s l=>if id' = id then kn s l else ke id' s l) kr|.scope a,kn,ke,kr=>Zdt a kn ke kr|.loopU _ a,_,ke,kr=>Zdt a (λ_ _=>none) ke kr|.loop i a,kn,ke,kr=>(i,λs l=>runC tab M J a s l (J i) ke kr)::Zdt a (J i) ke kr|.cut i a,kn,ke,kr=>(i,λs l=>runC tab M J a s l kn ke kr)::Zdt a kn ke kr|.range _ _ _ _ _ alts,kn,ke,kr=>Z2v alts (rfE kn kr ke)|.regi c,kn,_,_=>Ygf c kn|_,_,_,_=>[]
def Ygf:CCode->KK R->List (Nat×KK R)|.inl _ _ s alts rest,kn=>Z2v alts (λres=>popK res s.dst λs l=>runR tab M J rest s l kn)++(Z8l alts s.dst (λs l=>runR tab M J rest s l kn)++Ygf rest kn)|_,_=>[]
def Z2v:CCode->(List ARes->KK R)->List (Nat×KK R)|.alt _ _ res body next,kend=>Zdt body (kend res) (λ_ _ _=>none) (kend res)++Z2v next kend|.yld _ _ _ _ next,kend=>Z2v next kend|_,_=>[]
def Z8l:CCode->Option Nat->KK R->List (Nat×KK R)
 |.yld pos _ a c next,dst,k=>Zdt a (λs l=>runC tab M J c s l (rndK pos dst true 0 k) (λid=>rndK pos dst false ((id:Int)+2) k) (rndK pos dst false 1 k)) (λ_ _ _=>none) (λ_ _=>none) ++
     (Zdt c (rndK pos dst true 0 k) (λid=>rndK pos dst false ((id:Int)+2) k) (rndK pos dst false 1 k)++Z8l next dst k)
 |.alt _ _ _ _ next,dst,k=>Z8l next dst k|_,_,_=>[]
end
end
mutual
def posC:CCode->List Fr->List (Nat×List Fr)|.seq a b,frs=>posC a (.code b.er::frs)++posC b frs|.cond _ a b,frs=>posC a frs++posC b frs|.block id a,frs=>posC a (.blk id::frs)|.scope a,frs=>posC a (.scp::frs)|.loopU _ a,frs=>posC a (.lp a.er::frs)|.loop i a,frs=>(i,.code a.er :: .lp a.er::frs)::posC a (.lp a.er::frs)|.cut i a,frs=>(i,.code a.er::frs)::posC a frs|.range _ _ ps a c alts,frs=>posA alts (λ_=>.rf ps a c::frs)|.regi c,frs=>posR c frs|_,_=>[]
def posR:CCode->List Fr->List (Nat×List Fr)|.inl _ _ s alts rest,frs=>posA alts (λres=>.fn res s.dst :: .steps rest.ers::frs)++(posY alts s.dst (.steps rest.ers::frs)++posR rest frs)|_,_=>[]
def posA:CCode->(List ARes->List Fr)->List (Nat×List Fr)|.alt _ _ res body next,bf=>posC body (bf res)++posA next bf|.yld _ _ _ _ next,bf=>posA next bf|_,_=>[]
def posY:CCode->Option Nat->List Fr->List (Nat×List Fr)|.yld pos _ a c next,dst,frs=>posC a (.brd :: .code c.er :: .rnd dst (pos+1)::frs)++(posC c (.rnd dst (pos+1)::frs)++posY next dst frs)|.alt _ _ _ _ next,dst,frs=>posY next dst frs|_,_,_=>[]
end
abbrev Ctx:=Option (Option (Nat×List Nat×ACode×ACode))
def Ctx.up:Ctx->Ctx|some (some (p,r))=>some (some (p+1,r))|c=>c
def Zj1:Ctx->List Fr->Prop|none,frs=>noRf frs=true|some none,_=>True|some (some x),frs=>rfAt frs=some x/\Zw frs=false/\Zhu frs=false
mutual
def OKC(P:Program):Ctx->CCode->Prop|x,.seq a b=>OKC P x a/\OKC P x b|x,.cond _ a b=>OKC P x a/\OKC P x b|x,.block _ a=>OKC P x a|x,.scope a=>OKC P x a|x,.loopU _ a=>OKC P x a|x,.loop _ a=>OKC P x a|x,.cut _ a=>OKC P x a|x,.range _ _ ps a c alts=>(alts = .bad)∨(x=none/\OKA P (some (some (0,ps,a,c))) none alts)|x,.regi c=>OKR P x c|_,_=>True
def OKR(P:Program):Ctx->CCode->Prop|_,.reg none _=>True|x,.inl _ _ _ alts rest=>OKA P x.up x alts/\OKR P x rest|_,_=>False
def OKA(P:Program):Ctx->Ctx->CCode->Prop|x,y,.alt f nt res body next=>(Z0 P f=some ⟨nt,res,body.er⟩/\callable P f=true)/\(OKC P x body/\OKA P x y next)|x,y,.yld pos ps a c next=>y=some (some (pos,ps,a.er,c.er))/\(OKC P (some none) a/\(OKC P (some none) c/\OKA P x y next))|_,_,_=>True
end
end Go.Abs
