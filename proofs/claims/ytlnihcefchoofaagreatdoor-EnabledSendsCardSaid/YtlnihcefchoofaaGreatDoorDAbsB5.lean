import Derived.Test.YtlnihcefchoofaaGreatDoorDAbsSeg3
set_option linter.all false
namespace Go.Abs
variable [GTab] [Glob]
section
variable {R:Type} {P:Program} {Q:R->Exit->St->Prop}
variable {tab:Tab} {M:Nat->FuncId->Option R} {J:Nat->KK R} {F:Nat->List Fr}
variable (ht:tab.ok P) (hcb:∀f c,tab f=some c->callable P f=true) (hM:∀n f,M n f=none) (hJ:∀i,HN P Q (J i) (F i))
include ht hcb hM hJ
mutual
theorem Zbf:∀(c:CCode) (x:Ctx) (frs:List Fr) {kn:KK R} {ke:Nat->KK R} {kr:KK R},OKC P x c->Zj1 x frs->PosOK F (posC c frs)->HN P Q kn frs->HE P Q ke frs->HR P Q kr frs ->
    ∀p∈Zdt tab M J c kn ke kr,HN P Q p.2 (F p.1)
  |.seq a b,x,frs,kn,ke,kr,ho,hx,hp,hn,he,hr,p,hm=>by
   simp only[Zdt,List.mem_append]at hm;rcases hm with hm|hm
   exact Zbf a x (.code b.er::frs) ho.1 (Za1 hx rfl) hp.left (λs l r h1=>Zas ht hcb hM hJ b x frs ho.2 hx hp.right hn he hr h1) (he.push rfl λ_=>rfl) (hr.push rfl) p hm;exact Zbf b x frs ho.2 hx hp.right hn he hr p hm
  |.cond z a b,x,frs,kn,ke,kr,ho,hx,hp,hn,he,hr,p,hm=>by
   simp only[Zdt,List.mem_append]at hm;rcases hm with hm|hm
   exact Zbf a x frs ho.1 hx hp.left hn he hr p hm;exact Zbf b x frs ho.2 hx hp.right hn he hr p hm
  |.block id a,x,frs,kn,ke,kr,ho,hx,hp,hn,he,hr,p,hm=>Zbf a x (.blk id::frs) ho (Za1 hx rfl) hp (λs l r h1=>.unblk (hn s l r h1)) (.block hn he) (hr.push rfl) p hm|.scope a,x,frs,kn,ke,kr,ho,hx,hp,hn,he,hr,p,hm=>Zbf a x (.scp::frs) ho (Za1 hx rfl) hp (λs l r h1=>.unscp (hn s l r h1)) (he.push rfl λ_=>rfl) (hr.push rfl) p hm|.loopU k a,x,frs,kn,ke,kr,ho,hx,hp,hn,he,hr,p,hm=>Zbf a x (.lp a.er::frs) ho (Za1 hx rfl) hp (λs l r h=>by cases h) (he.push rfl λ_=>rfl) (hr.push rfl) p hm|.loop i a,x,frs,kn,ke,kr,ho,hx,hp,hn,he,hr,p,hm=>by
   have hF:F i = .code a.er :: .lp a.er::frs:=hp (i,.code a.er :: .lp a.er::frs) (by simp[posC]);have hp2:PosOK F (posC a (.lp a.er::frs)):=λq hq=>hp q (by simp[posC,hq]);have hJi:HN P Q (J i) (.lp a.er::frs):=λs l r h1=>by have:=hJ i s l r h1;rw[hF]at this;exact .again this
   simp only[Zdt,List.mem_cons]at hm;rcases hm with rfl|hm
   rw[hF];exact λs l r h=>Zas ht hcb hM hJ a x (.lp a.er::frs) ho (Za1 hx rfl) hp2 hJi (he.push rfl λ_=>rfl) (hr.push rfl) h;exact Zbf a x (.lp a.er::frs) ho (Za1 hx rfl) hp2 hJi (he.push rfl λ_=>rfl) (hr.push rfl) p hm
  |.cut i a,x,frs,kn,ke,kr,ho,hx,hp,hn,he,hr,p,hm=>by
   have hF:F i = .code a.er::frs:=hp (i,.code a.er::frs) (by simp[posC]);have hp2:PosOK F (posC a frs):=λq hq=>hp q (by simp[posC,hq]);simp only[Zdt,List.mem_cons]at hm;rcases hm with rfl|hm
   rw[hF];exact λs l r h=>Zas ht hcb hM hJ a x frs ho hx hp2 hn he hr h;exact Zbf a x frs ho hx hp2 hn he hr p hm
  |.range n z ps a c alts,x,frs,kn,ke,kr,ho,hx,hp,hn,he,hr,p,hm=>by
   rcases ho with rfl|⟨rfl,ho⟩
   cases hm;have hrf:noRf frs=true:=hx;have hnr:=Zqp hrf;exact Zu0 alts (some (some (0,ps,a,c))) none (λ_=>.rf ps a c::frs) ho (λ_=>⟨rfl,hnr,(show Zhu (.rf ps a c::frs)=false from Zwy (frs:=frs) hrf)⟩) hp (λres=>Ylh hn he hr hnr res) p hm
  |.regi c,x,frs,kn,ke,kr,ho,hx,hp,hn,he,hr,p,hm=>Ygi c x frs ho hx hp hn p hm|.skip,x,frs,kn,ke,kr,ho,hx,hp,hn,he,hr,p,hm=>by cases hm|.reg _ _,x,frs,kn,ke,kr,ho,hx,hp,hn,he,hr,p,hm=>by cases hm|.exit _,x,frs,kn,ke,kr,ho,hx,hp,hn,he,hr,p,hm=>by cases hm|.ret,x,frs,kn,ke,kr,ho,hx,hp,hn,he,hr,p,hm=>by cases hm|.bad,x,frs,kn,ke,kr,ho,hx,hp,hn,he,hr,p,hm=>by cases hm|.inl _ _ _ _ _,x,frs,kn,ke,kr,ho,hx,hp,hn,he,hr,p,hm=>by cases hm|.alt _ _ _ _ _,x,frs,kn,ke,kr,ho,hx,hp,hn,he,hr,p,hm=>by cases hm|.yld _ _ _ _ _,x,frs,kn,ke,kr,ho,hx,hp,hn,he,hr,p,hm=>by cases hm
theorem Ygi:∀(c:CCode) (x:Ctx) (frs:List Fr) {kn:KK R},OKR P x c->Zj1 x frs->PosOK F (posR c frs)->HN P Q kn frs -> ∀p∈Ygf tab M J c kn,HN P Q p.2 (F p.1)
 |.inl n s1 s alts rest,x,frs,kn,ho,hx,hp,hn,p,hm=>by
  have hrest:HN P Q (λs l=>runR tab M J rest s l kn) (.steps rest.ers::frs):=λs l r h=>Ycd ht hcb hM hJ rest x frs ho.2 hx hp.right.right hn h;simp only[Ygf,List.mem_append]at hm;rcases hm with hm|hm|hm
  exact Zu0 alts x.up x (λres=>.fn res s.dst :: .steps rest.ers::frs) ho.1 (λres=>Ycc hx res s.dst rest.ers) hp.left (λres=>Z43 rfl (Ygg hrest)) p hm;exact Z44 alts x.up x s.dst rest.ers frs ho.1 hx hp.right.left hrest p hm;exact Ygi rest x frs ho.2 hx hp.right.right hn p hm
 |.skip,x,frs,kn,ho,hx,hp,hn,p,hm=>by cases hm|.reg _ _,x,frs,kn,ho,hx,hp,hn,p,hm=>by cases hm|.seq _ _,x,frs,kn,ho,hx,hp,hn,p,hm=>by cases hm|.cond _ _ _,x,frs,kn,ho,hx,hp,hn,p,hm=>by cases hm|.block _ _,x,frs,kn,ho,hx,hp,hn,p,hm=>by cases hm|.loop _ _,x,frs,kn,ho,hx,hp,hn,p,hm=>by cases hm|.cut _ _,x,frs,kn,ho,hx,hp,hn,p,hm=>by cases hm|.exit _,x,frs,kn,ho,hx,hp,hn,p,hm=>by cases hm|.ret,x,frs,kn,ho,hx,hp,hn,p,hm=>by cases hm|.bad,x,frs,kn,ho,hx,hp,hn,p,hm=>by cases hm|.range _ _ _ _ _ _,x,frs,kn,ho,hx,hp,hn,p,hm=>by cases hm|.regi _,x,frs,kn,ho,hx,hp,hn,p,hm=>by cases hm|.alt _ _ _ _ _,x,frs,kn,ho,hx,hp,hn,p,hm=>by cases hm|.yld _ _ _ _ _,x,frs,kn,ho,hx,hp,hn,p,hm=>by cases hm|.scope _,x,frs,kn,ho,hx,hp,hn,p,hm=>by cases hm|.loopU _ _,x,frs,kn,ho,hx,hp,hn,p,hm=>by cases hm
theorem Zu0:∀(c:CCode) (x y:Ctx) (bf:List ARes->List Fr) {kend:List ARes->KK R},OKA P x y c->(∀res,Zj1 x (bf res))->PosOK F (posA c bf)->(∀res,HN P Q (kend res) (bf res)/\HR P Q (kend res) (bf res)) -> ∀p∈Z2v tab M J c kend,HN P Q p.2 (F p.1)
 |.alt g nt res body next,x,y,bf,kend,ho,hx,hp,hk,p,hm=>by
  simp only[Z2v,List.mem_append]at hm;rcases hm with hm|hm
  exact Zbf body x (bf res) ho.2.1 (hx res) hp.left (hk res).1 HE.none (hk res).2 p hm
  . exact Zu0 next x y bf ho.2.2 hx hp.right hk p hm
 |.yld pos ps a c next,x,y,bf,kend,ho,hx,hp,hk,p,hm=>Zu0 next x y bf ho.2.2.2 hx hp hk p hm|.skip,x,y,bf,kend,ho,hx,hp,hk,p,hm=>by cases hm|.reg _ _,x,y,bf,kend,ho,hx,hp,hk,p,hm=>by cases hm|.seq _ _,x,y,bf,kend,ho,hx,hp,hk,p,hm=>by cases hm|.cond _ _ _,x,y,bf,kend,ho,hx,hp,hk,p,hm=>by cases hm|.block _ _,x,y,bf,kend,ho,hx,hp,hk,p,hm=>by cases hm|.loop _ _,x,y,bf,kend,ho,hx,hp,hk,p,hm=>by cases hm|.cut _ _,x,y,bf,kend,ho,hx,hp,hk,p,hm=>by cases hm|.exit _,x,y,bf,kend,ho,hx,hp,hk,p,hm=>by cases hm|.ret,x,y,bf,kend,ho,hx,hp,hk,p,hm=>by cases hm|.bad,x,y,bf,kend,ho,hx,hp,hk,p,hm=>by cases hm|.range _ _ _ _ _ _,x,y,bf,kend,ho,hx,hp,hk,p,hm=>by cases hm|.regi _,x,y,bf,kend,ho,hx,hp,hk,p,hm=>by cases hm|.inl _ _ _ _ _,x,y,bf,kend,ho,hx,hp,hk,p,hm=>by cases hm|.scope _,x,y,bf,kend,ho,hx,hp,hk,p,hm=>by cases hm|.loopU _ _,x,y,bf,kend,ho,hx,hp,hk,p,hm=>by cases hm
theorem Z44:∀(c:CCode) (x y:Ctx) (dst:Option Nat) (ss:List AStep) (frs:List Fr) {k:KK R},OKA P x y c->Zj1 y frs->PosOK F (posY c dst (.steps ss::frs))->HN P Q k (.steps ss::frs) -> ∀p∈Z8l tab M J c dst k,HN P Q p.2 (F p.1)
 |.yld pos ps a c next,x,y,dst,ss,frs,k,ho,hx,hp,hk,p,hm=>by
  obtain⟨rfl,ho1,ho2,ho3⟩:=ho;obtain⟨hx1,hx2,hx3⟩:=hx;obtain⟨r1,r2,r3⟩:=Ygh (pos:=pos) (dst:=dst) hk (show Zw (.steps ss::frs)=false from hx2);have hbody:HN P Q (λs' l=>runC tab M J c s' l (rndK pos dst true 0 k) (λid=>rndK pos dst false ((id:Int)+2) k) (rndK pos dst false 1 k)) (.brd :: .code c.er :: .rnd dst (pos+1) :: .steps ss::frs):=λs' l r h =>
   .brd (dst:=dst) (pos:=pos+1) (frs0:=.steps ss::frs) rfl hx3 (Zas ht hcb hM hJ c (some none) (.rnd dst (pos+1) :: .steps ss::frs) ho2 trivial hp.right.left r1 r2 r3 h)
  simp only[Z8l,List.mem_append]at hm;rcases hm with hm|hm|hm
  exact Zbf a (some none) (.brd :: .code c.er :: .rnd dst (pos+1) :: .steps ss::frs) ho1 trivial hp.left hbody HE.none HR.none p hm;exact Zbf c (some none) (.rnd dst (pos+1) :: .steps ss::frs) ho2 trivial hp.right.left r1 r2 r3 p hm
  . exact Z44 next x _ dst ss frs ho3 ⟨hx1,hx2,hx3⟩ hp.right.right hk p hm
 |.alt g nt res body next,x,y,dst,ss,frs,k,ho,hx,hp,hk,p,hm=>Z44 next x y dst ss frs ho.2.2 hx hp hk p hm|.skip,x,y,dst,ss,frs,k,ho,hx,hp,hk,p,hm=>by cases hm|.reg _ _,x,y,dst,ss,frs,k,ho,hx,hp,hk,p,hm=>by cases hm|.seq _ _,x,y,dst,ss,frs,k,ho,hx,hp,hk,p,hm=>by cases hm|.cond _ _ _,x,y,dst,ss,frs,k,ho,hx,hp,hk,p,hm=>by cases hm|.block _ _,x,y,dst,ss,frs,k,ho,hx,hp,hk,p,hm=>by cases hm|.loop _ _,x,y,dst,ss,frs,k,ho,hx,hp,hk,p,hm=>by cases hm|.cut _ _,x,y,dst,ss,frs,k,ho,hx,hp,hk,p,hm=>by cases hm|.exit _,x,y,dst,ss,frs,k,ho,hx,hp,hk,p,hm=>by cases hm|.ret,x,y,dst,ss,frs,k,ho,hx,hp,hk,p,hm=>by cases hm|.bad,x,y,dst,ss,frs,k,ho,hx,hp,hk,p,hm=>by cases hm|.range _ _ _ _ _ _,x,y,dst,ss,frs,k,ho,hx,hp,hk,p,hm=>by cases hm|.regi _,x,y,dst,ss,frs,k,ho,hx,hp,hk,p,hm=>by cases hm|.inl _ _ _ _ _,x,y,dst,ss,frs,k,ho,hx,hp,hk,p,hm=>by cases hm|.scope _,x,y,dst,ss,frs,k,ho,hx,hp,hk,p,hm=>by cases hm|.loopU _ _,x,y,dst,ss,frs,k,ho,hx,hp,hk,p,hm=>by cases hm
end
end
def Z8n:List (Nat×List Fr)->Nat->List Fr|[],_=>[]|(j,f)::rest,i=>if j=i then f else Z8n rest i
theorem Z2y:∀{l:List (Nat×List Fr)},(l.map (·.1)).Nodup -> ∀p∈l,Z8n l p.1=p.2
 |[],_,p,hp=>by cases hp|(j,f)::rest,hn,p,hp=>by
  simp only[List.map_cons,List.nodup_cons]at hn;rcases List.mem_cons.1 hp with rfl|hp
  simp[Z8n];have hne:j≠p.1:=λe=>hn.1 (by grind);simp only[Z8n,if_neg hne];exact Z2y hn.2 p hp
abbrev Plan:=List (Nat×List FuncId)
def Zhv:Plan->Nat->List FuncId|[],_=>[]|(j,fs)::rest,i=>if j=i then fs else Zhv rest i
def Yvh(s:AStep):Bool:=match s.op with|.callv _ _=>true|.call _ _=>true|_=>false
def Yvi(s:AStep):Bool:=match s.op with|.call _ _=>true|_=>false
section
variable (F:FuncId->Option AFun) (cb:FuncId->Bool) (cs:List Nat) (plan:Plan) (rec:Ctx->ACode->Nat->CCode×Nat)
def Zcg(x y:Ctx):List FuncId->Nat->CCode×Nat
 |[],n=>(.bad,n)|f::fs,n =>
  if f=4294967295 then
   (match y with|some (some (pos,ps,a,c))=>(.yld pos ps (rec (some none) a n).1 (rec (some none) c (rec (some none) a n).2).1 (Zcg x y fs (rec (some none) c (rec (some none) a n).2).2).1,(Zcg x y fs (rec (some none) c (rec (some none) a n).2).2).2)|_=>Zcg x y fs n)
  else
   match F f with|some af=>if cb f then(.alt f af.nt af.res (rec x af.body n).1 (Zcg x y fs (rec x af.body n).2).1,(Zcg x y fs (rec x af.body n).2).2)else Zcg x y fs n|none=>Zcg x y fs n
def Zhw(x:Ctx):List AStep->List AStep->Nat->CCode×Nat
 |[],acc,n=>(.reg none acc.reverse,n)|s::ss,acc,n =>
  if Yvh s then
   (if Yvi s&&(Zhv plan n).isEmpty then Zhw x ss (s::acc) (n+1)
   else(.inl n acc.reverse s (Zcg F cb rec x.up x (Zhv plan n) (n+1)).1 (Zhw x ss [] (Zcg F cb rec x.up x (Zhv plan n) (n+1)).2).1,(Zhw x ss [] (Zcg F cb rec x.up x (Zhv plan n) (n+1)).2).2))
  else Zhw x ss (s::acc) n
def Ylj:CCode->CCode|.reg p ss=>.reg p ss|c=>.regi c
def Yn(x:Ctx):ACode->Nat->CCode×Nat
 |.skip,n=>(.skip,n)|.reg none ss,n=>(Ylj (Zhw F cb plan rec x ss [] n).1,(Zhw F cb plan rec x ss [] n).2)|.reg (some p) ss,n=>(.reg (some p) ss,n)|.seq a b,n=>(.seq (Yn x a (n+1)).1 (if cs.contains n then .cut n (Yn x b (Yn x a (n+1)).2).1 else(Yn x b (Yn x a (n+1)).2).1),(Yn x b (Yn x a (n+1)).2).2)|.cond z a b,n=>(.cond z (Yn x a n).1 (Yn x b (Yn x a n).2).1,(Yn x b (Yn x a n).2).2)|.block id a,n=>(.block id (Yn x a n).1,(Yn x a n).2)|.loop a,n=>(match Zhv plan n with|k::_=>.loopU k (Yn x a (n+1)).1 | []=>.loop n (Yn x a (n+1)).1,(Yn x a (n+1)).2)|.scope a,n=>(.scope (Yn x a n).1,(Yn x a n).2)|.exit id,n=>(.exit id,n)|.ret,n=>(.ret,n)|.bad,n=>(.bad,n)|.range z ps a c,n=>match x with
  |none=>(.range n z ps a c (Zcg F cb rec (some (some (0,ps,a,c))) none (Zhv plan n) (n+1)).1,(Zcg F cb rec (some (some (0,ps,a,c))) none (Zhv plan n) (n+1)).2)|some _=>(.range n z ps a c .bad,n+1)
end
def Z45(F:FuncId->Option AFun)(cb:FuncId->Bool)(cs:List Nat)(plan:Plan):Nat->Ctx->ACode->Nat->CCode×Nat|0,x,c,n=>Yn (λ_=>none) (λ_=>false) cs [] (λ_ _ n=>(.bad,n)) x c n|d+1,x,c,n=>Yn F cb cs plan (Z45 F cb cs plan d) x c n
section
variable {P:Program} {F:FuncId->Option AFun} {cb:FuncId->Bool} {cs:List Nat} {plan:Plan} {rec:Ctx->ACode->Nat->CCode×Nat}
variable (hF:∀f af,F f=some af->Z0 P f=some af) (hcb:∀f,cb f=true->callable P f=true)
include hF hcb
theorem Zr2(x y:Ctx):∀(fs:List FuncId) (n:Nat),(fs=[] ∨ ∀x c n,(rec x c n).1.er=c/\OKC P x (rec x c n).1)->OKA P x y (Zcg F cb rec x y fs n).1
 |[],n,_=>trivial|f::fs,n,h=>by
  have hr:=h.resolve_left (by simp);have ih:=λn=>Zr2 x y fs n (.inr hr);unfold Zcg;split;split;rename_i pos ps a c;obtain⟨b1,b2⟩:=hr (some none) c (rec (some none) a n).2;obtain⟨a1,a2⟩:=hr (some none) a n;exact⟨by grind,a2,b2,ih _⟩;grind;split;rename_i af haf;split;rename_i hc;obtain⟨a1,a2⟩:=hr x af.body n;exact⟨⟨by simp_all,hcb f hc⟩,a2,ih _⟩;grind;grind
variable (hrec:plan=[] ∨ ∀x c n,(rec x c n).1.er=c/\OKC P x (rec x c n).1)
include hrec
theorem Ygj(n:Nat):Zhv plan n=[] ∨ ∀x c n,(rec x c n).1.er=c/\OKC P x (rec x c n).1:=by
 rcases hrec with rfl|h
 exact .inl rfl;grind
theorem Znt(x:Ctx):∀(ss acc:List AStep) (n:Nat),(Zhw F cb plan rec x ss acc n).1.ers=acc.reverse++ss/\OKR P x (Zhw F cb plan rec x ss acc n).1
 |[],acc,n=>by simp only[Zhw,CCode.ers,List.append_nil,true_and];trivial|s::ss,acc,n=>by
  unfold Zhw;split;split;obtain⟨h1,h2⟩:=Znt x ss (s::acc) (n+1);grind;obtain⟨h1,h2⟩:=Znt x ss [] (Zcg F cb rec x.up x (Zhv plan n) (n+1)).2;refine⟨?_,Zr2 hF hcb x.up x _ _ (Ygj hF hcb hrec n),h2⟩;grind[CCode.ers];obtain⟨h1,h2⟩:=Znt x ss (s::acc) n;grind
omit hF hcb hrec in
theorem Ylk{x:Ctx}{c:CCode}{ss:List AStep}(h1:c.ers=ss)(h2:OKR P x c):(Ylj c).er = .reg none ss/\OKC P x (Ylj c):=by
 cases c with
 |reg p l => cases p with|none=>exact⟨by rw[<- h1];rfl,trivial⟩|some p=>exact h2.elim
 |inl n s1 s alts rest=>exact⟨by rw[<- h1];rfl,h2⟩|_=>exact h2.elim
theorem Zbg(x:Ctx):∀(c:ACode) (n:Nat),(Yn F cb cs plan rec x c n).1.er=c/\OKC P x (Yn F cb cs plan rec x c n).1
 |.skip,n=>⟨rfl,trivial⟩|.reg none ss,n=>by obtain⟨h1,h2⟩:=Znt hF hcb hrec x ss [] n;exact Ylk h1 h2|.reg (some p) ss,n=>⟨rfl,trivial⟩|.seq a b,n=>by
  obtain⟨h1,h2⟩:=Zbg x a (n+1);obtain⟨h3,h4⟩:=Zbg x b (Yn F cb cs plan rec x a (n+1)).2;simp only[Yn];split;exact⟨by grind[CCode.er],h2,h4⟩;exact⟨by grind[CCode.er],h2,h4⟩
 |.cond z a b,n=>by obtain⟨h1,h2⟩:=Zbg x a n;obtain⟨h3,h4⟩:=Zbg x b (Yn F cb cs plan rec x a n).2;exact⟨by grind[Yn,CCode.er],h2,h4⟩|.block id a,n=>by obtain⟨h1,h2⟩:=Zbg x a n;exact⟨by grind[Yn,CCode.er],h2⟩|.scope a,n=>by obtain⟨h1,h2⟩:=Zbg x a n;exact⟨by grind[Yn,CCode.er],h2⟩|.loop a,n=>by obtain⟨h1,h2⟩:=Zbg x a (n+1);simp only[Yn];split<;>exact⟨by grind[CCode.er],h2⟩|.exit id,n=>⟨rfl,trivial⟩|.ret,n=>⟨rfl,trivial⟩|.bad,n=>⟨rfl,trivial⟩|.range z ps a c,n=>by
  simp only[Yn];split;exact⟨rfl,.inr ⟨rfl,Zr2 hF hcb _ _ _ _ (Ygj hF hcb hrec n)⟩⟩;exact⟨rfl,.inl rfl⟩
end
theorem Yiz{P:Program}{cs:List Nat}{plan:Plan}(d:Nat):∀(x:Ctx) (c:ACode) (n:Nat),(Z45 (Z0 P) (callable P) cs plan d x c n).1.er=c/\OKC P x (Z45 (Z0 P) (callable P) cs plan d x c n).1:=by
 induction d with|zero=>exact λx c n=>Zbg (λf af h=>by cases h) (λf h=>by cases h) (.inl rfl) x c n|succ d ih=>exact λx c n=>Zbg (λf af h=>h) (λf h=>h) (.inr ih) x c n
end Go.Abs
namespace Go.Abs
variable [GTab] [Glob]
abbrev Cuts:=List (Nat×Cut)
def Zdu:Cuts->Nat->Cut|[],_=>[]|(j,c)::rest,i=>if j=i then c else Zdu rest i
def Zgm:List (Nat×List Nat)->Nat->List Nat|[],_=>[]|(j,c)::rest,i=>if j=i then c else Zgm rest i
def Zi6{α:Type}:List Nat->List α->List (List α)|[],_=>[]|n::ns,xs=>xs.take n::Zi6 ns (xs.drop n)
def sumL:List Nat->Nat|[]=>0|n::ns=>n+sumL ns
def Yll(s:TSt)(l:Lows):TSt:=match l with | []=>s|_=>⟨s.slots++l.flatten,s.heap⟩
def Zi7(ls:List Nat)(s:TSt):TSt:=match ls with | []=>s|_=>⟨s.slots.take (s.slots.length-sumL ls),s.heap⟩
def Zi8(ls:List Nat)(s:TSt):Lows:=match ls with | []=>[]|_=>Zi6 ls (s.slots.drop (s.slots.length-sumL ls))
def Zr3:List Nat->Lows->Bool|[],[]=>true|n::ns,x::xs=>Nat.beq x.length n&&Zr3 ns xs|_,_=>false
theorem Z2z:∀{ls:List Nat} {l:Lows},Zr3 ls l=true->l.map List.length=ls|[],[],_=>rfl|n::ns,x::xs,h=>by simp only[Zr3,J0e]at h;have h1:=Nat.eq_of_beq_eq_true h.1;have h2:=Z2z h.2;grind|[],_::_,h=>by cases h|_::_,[],h=>by cases h
variable {h:List AObj}{ι:Em}
theorem VRs.app{w:World}{x1 x2:List AV}{v1 v2:List Value}(a:VRs h ι w x1 v1)(b:VRs h ι w x2 v2):VRs h ι w (x1++x2) (v1++v2):=by
 refine⟨by simp[a.1,b.1],λi x v hx hv=>?_⟩;by_cases hi:i<x1.length;rw[List.getElem?_append_left hi]at hx;rw[List.getElem?_append_left (by rw[a.1];exact hi)]at hv;exact a.2 i x v hx hv;rw[J0o (by omega)]at hx;rw[J0o (by rw[a.1];omega),a.1]at hv;exact b.2 _ x v hx hv
variable {xs:List AV}{vs:List Value}
theorem VRs.take{w:World}(a:VRs h ι w xs vs)(n:Nat):VRs h ι w (xs.take n) (vs.take n):=by
 refine⟨by simp[a.1],λi x v hx hv=>?_⟩;rw[List.getElem?_take]at hx hv;split at hx;rename_i hi;rw[if_pos hi]at hv;exact a.2 i x v hx hv;grind
theorem VRs.drop{w:World}(a:VRs h ι w xs vs)(n:Nat):VRs h ι w (xs.drop n) (vs.drop n):=by refine⟨by simp[a.1],λi x v hx hv=>?_⟩;rw[List.getElem?_drop]at hx hv;exact a.2 _ x v hx hv
theorem LRel.flat{w:World}:∀{xs:List (List AV)} {vs:List (List Value)},LRel h ι w xs vs->VRs h ι w xs.flatten vs.flatten|[],[],_=>⟨rfl,λi x v hx=>by grind⟩|x::xs,v::vs,hr=>by simp only[List.flatten_cons];exact hr.1.app (LRel.flat hr.2)|[],_::_,hr=>hr.elim|_::_,[],hr=>hr.elim
theorem Z20{h:List AObj}{ι:Em}{w:World}:∀{vs:List (List Value)} {ys:List AV},VRs h ι w ys vs.flatten->LRel h ι w (Zi6 (vs.map List.length) ys) vs
 |[],ys,hr=>trivial|v::vs,ys,hr=>by
  simp only[List.flatten_cons]at hr;refine⟨?_,?_⟩;have:=hr.take v.length;grind;have:=hr.drop v.length;refine Z20 ?_;grind
theorem LRel.lens{w:World}:∀{xs:List (List AV)} {vs:List (List Value)},LRel h ι w xs vs->vs.map List.length=xs.map List.length|[],[],_=>rfl|x::xs,v::vs,hr=>by simp[hr.1.1,LRel.lens hr.2]|[],_::_,hr=>hr.elim|_::_,[],hr=>hr.elim
theorem Z8o:∀(l:Lows),erL l.flatten=(erLL l).flatten|[]=>rfl|x::l=>by simp[erLL,Zi2,Z8o l]
theorem Ylm(l:Lows):(erLL l).map List.length=l.map List.length:=by simp[erLL,Y9,Function.comp_def]
theorem Zw2:∀(ls:List Nat) (xs:List TV),erLL (Zi6 ls xs)=Zi6 ls (erL xs)|[],xs=>rfl|n::ns,xs=>by simp only[Zi6,erLL,List.map_cons];rw[show erL (xs.take n)=(erL xs).take n by grind[Yk,List.map_take],<- show erL (xs.drop n)=(erL xs).drop n by grind[Yk,List.map_drop]];exact congrArg _ (Zw2 ns (xs.drop n))
theorem Z8p:∀(vs:List (List Value)),vs.flatten.length=sumL (vs.map List.length)|[]=>rfl|v::vs=>by simp[sumL,Z8p vs]
variable {B:Nat}{w0:World}{st:St}{a:Act}
theorem SR.vrs{w: World}(hs:SR B w0 st ι a w):VRs st.heap ι w st.slots a.tmps.toList:=⟨by rw[Array.length_toList];exact hs.len,λi x v hx hv=>hs.slot i x v hx (by grind)⟩
theorem SR.of_vrs{w: World}(hh:HRel B w0 h ι w)(hv:VRs h ι w xs a.tmps.toList)(hd:a.defers=ι.D):SR B w0 ⟨xs,h⟩ ι a w:=⟨hh,by rw[<- Array.length_toList];exact hv.1,λi x v hx hvv=>hv.2 i x v hx (by grind),hd⟩
theorem Yi0{c:Cut}{st:TSt}{l:Lows}{ls:List Nat}(hls:Zr3 ls l=true){x:denL (Zez c [])}(hg:gc c (Yll st l)=some x):WeakL st.er (erLL l) (Zi7 ls (fill c x)).er (erLL (Zi8 ls (fill c x))):=by
 have hlen:=Z2z hls;intro B w0 ι a w lt hs hl;cases l with
 |nil => simp only[List.map_nil]at hlen;subst hlen;obtain⟨κ,h1,h2⟩:=(Z4t hg).2 B w0 ι a w hs (Nat.zero_le _);refine⟨κ,h1,?_,h2.oeq.1,h2.oeq.2.1⟩;cases lt with|nil=>trivial|cons v vs=>exact hl.elim
 |cons l0 l' =>
  have hfl:=hl.flat;rw[<- Z8o]at hfl;have htop:VRs st.er.heap ι w (erL st.slots) a.tmps.toList:=hs.vrs;have hall:=htop.app hfl;rw[<- Zi2]at hall;obtain⟨tm,htm⟩:∃t:Array Value,t.toList=a.tmps.toList++lt.flatten:=⟨(a.tmps.toList++lt.flatten).toArray,by simp⟩;rw[<- htm]at hall;obtain⟨a',ha',hda'⟩:∃a' : Act,a'.tmps=tm/\a'.defers=ι.D:=⟨⟨tm,ι.D⟩,rfl,rfl⟩;rw[<- ha']at hall htm;have hs' : SR B w0 (Yll st (l0::l')).er ι a' w:=.of_vrs hs.heap hall hda';obtain⟨κ,h1,h2⟩:=(Z4t hg).2 B w0 ι a' w hs' (Nat.zero_le _);have hls2:lt.map List.length=ls:=by rw[hl.lens,Ylm];grind
  have hv:VRs (fill c x).er.heap κ w (erL (fill c x).slots) (a.tmps.toList++lt.flatten):=by have:=h1.vrs;rw[htm]at this;exact this
  have hn:(fill c x).slots.length-sumL ls=a.tmps.size:=by have h3:=hv.1;grind[Y9,Z8p]
  have hlsne:ls≠[]:=by grind
  have eT:(Zi7 ls (fill c x)).er=⟨(erL (fill c x).slots).take a.tmps.size,(fill c x).er.heap⟩:=by grind[Zi7,TSt.er,Yk,List.map_take]
  have eL:erLL (Zi8 ls (fill c x))=Zi6 ls ((erL (fill c x).slots).drop a.tmps.size):=by grind[Zi8,Zw2,Yk,List.map_drop]
  have hsz:a.tmps.toList.length=a.tmps.size:=by simp
  refine⟨κ,?_,?_,h2.oeq.1,h2.oeq.2.1⟩;rw[eT];have ht:=hv.take a.tmps.size;have e1:(a.tmps.toList++lt.flatten).take a.tmps.size=a.tmps.toList:=by grind
  rw[e1]at ht;exact .of_vrs h1.heap ht (by rw[hs.defers,<- hda'];exact h1.defers);rw[eL,<- hls2];have hd:=hv.drop a.tmps.size;grind[Z20]
structure TFun where
 cs:List Nat
 cuts:Cuts
 args:List AT
 res:List RT
 rc:Cut
 plan:Plan
 lens:List (Nat×List Nat)
 dep:Nat
def retK(f:TFun)(res:List ARes):KK (Xj f.res):=λst l =>
 match l with
 |[]=>(match gc f.rc st with
  |some x=>(match Z8k (fill f.rc x) res with
   |some xs=>if nodupB (tops (erL xs))then raVs (fill f.rc x).heap (tops (erL xs)) f.res xs else none|none=>none)
  |none=>none)
 |_::_=>none
def Ygk(f:TFun)(J:(i:Nat)->denL (Zez (Zdu f.cuts i) [])->Option (Xj f.res))(i:Nat):KK (Xj f.res):=λst l => cond (Zr3 (Zgm f.lens i) l) (match gc (Zdu f.cuts i) (Yll st l)with|some x=>J i x|none=>none) none
def codeF(P:Program)(f:TFun)(af:AFun):CCode:=(Z45 (Z0 P) (callable P) f.cs f.plan f.dep none af.body 0).1
section
variable {R:Type}
def Z8q(l:List (Nat×KK R))(i:Nat)(st:TSt)(lo:Lows):Option R := match l with|[]=>none|(j,g)::rest=>if j=i then g st lo else Z8q rest i st lo
theorem Yr1{l:List (Nat×KK R)}{i:Nat}{st:TSt}{lo:Lows}{r:R}(h:Z8q l i st lo=some r):∃p∈l,p.1=i/\p.2 st lo=some r:=by
 induction l with|nil=>simp[Z8q]at h|cons p l ih=>grind[Z8q]
end
def seg(tab:Tab)(P:Program)(f:TFun)(af:AFun)(J:(i:Nat)->denL (Zez (Zdu f.cuts i) [])->Option (Xj f.res))(i:Nat)(x:denL (Zez (Zdu f.cuts i) [])):Option (Xj f.res):=Z8q (Zdt tab (λ_ _=>none) (Ygk f J) (codeF P f af) (retK f af.res) (λ_ _ _=>none) (retK f af.res)) i (Zi7 (Zgm f.lens i) (fill (Zdu f.cuts i) x)) (Zi8 (Zgm f.lens i) (fill (Zdu f.cuts i) x))
def seg0(tab:Tab)(P:Program)(f:TFun)(af:AFun)(J:(i:Nat)->denL (Zez (Zdu f.cuts i) [])->Option (Xj f.res))(a:Zg9 f.args):Option (Xj f.res):=runC tab (λ_ _=>none) (Ygk f J) (codeF P f af) ⟨Z41 af.nt (tvAs f.args a),[]⟩ [] (retK f af.res) (λ_ _ _=>none) (retK f af.res)
def iter(tab:Tab)(P:Program)(f:TFun)(af:AFun):Nat->(i:Nat)->denL (Zez (Zdu f.cuts i) [])->Option (Xj f.res)|0,_,_=>none|n+1,i,x=>seg tab P f af (iter tab P f af n) i x
theorem Yln{f:TFun}{res:List ARes}{st:TSt}{l:Lows}{r:Xj f.res}(h:retK f res st l=some r):l=[] /\ ∃st',Weak 0 st.er st' /\ ∃xs,resV st' res=some xs/\Zky st'.heap true xs=some (raL f.res r):=by
 unfold retK at h;split at h;refine⟨rfl,?_⟩;split at h;rename_i x hx;split at h;rename_i xs hxs;split at h;rename_i hn;refine⟨_,Z4t hx,erL xs,Zwz hxs,?_⟩;simp only[Zky,if_true];rw[if_pos hn];exact Ygd h;grind;grind;grind;grind
theorem WeakL.of{st': St}(h:Weak 0 st st'):WeakL st [] st' []:=λB w0 ι a w lt hs hl=>by
 obtain⟨κ,h1,h2⟩:=h.2 B w0 ι a w hs (Nat.zero_le _);refine⟨κ,h1,?_,h2.oeq.1,h2.oeq.2.1⟩;cases lt with|nil=>trivial|cons v vs=>exact hl.elim
section
variable {P:Program} {tab:Tab} {f:TFun} {af:AFun} (ht:tab.ok P) (hcb:∀g c,tab g=some c->callable P g=true) (hn:nodupB ((posC (codeF P f af) []).map (·.1))=true)
include ht hcb hn
theorem Yvj(n:Nat):let F:=Z8n (posC (codeF P f af) [])
    let Q:Xj f.res->Exit->St->Prop:=λr=>RetQ af.res true (raL f.res r)
    (∀i x r,iter tab P f af n i x=some r->KAW P (F i) (Q r) (Zi7 (Zgm f.lens i) (fill (Zdu f.cuts i) x)).er (erLL (Zi8 (Zgm f.lens i) (fill (Zdu f.cuts i) x)))) /\
    ∀a r,seg0 tab P f af (iter tab P f af n) a=some r->KAW P [.code af.body] (Q r) ⟨start af.nt ((pasL f.args a).map PA.av),[]⟩ []:=by
  intro F Q;obtain⟨her,hok⟩:=Yiz (P:=P) (cs:=f.cs) (plan:=f.plan) f.dep none af.body 0;have hpos:PosOK F (posC (codeF P f af) []):=λp hp=>Z2y (Zfk hn) p hp;have hN:HN P Q (retK f af.res) []:=λst l r h=>by obtain⟨rfl,st',h1,xs,h2,h3⟩:=Yln h;exact .weak (WeakL.of h1) (.here ⟨.inl rfl,xs,h2,h3⟩)
  have hR:HR P Q (retK f af.res) []:=λst l r h g hg=>by obtain⟨rfl,st',h1,xs,h2,h3⟩:=Yln h;exact .weak (WeakL.of h1) (.retB (by rw[Zgl hg];rfl) ⟨.inr rfl,xs,h2,h3⟩)
  have jump:∀J:(i:Nat)->denL (Zez (Zdu f.cuts i) [])->Option (Xj f.res),(∀i x r,J i x=some r->KAW P (F i) (Q r) (Zi7 (Zgm f.lens i) (fill (Zdu f.cuts i) x)).er (erLL (Zi8 (Zgm f.lens i) (fill (Zdu f.cuts i) x)))) -> ∀i,HN P Q (Ygk f J i) (F i):=λJ hJ i st l r h=>by
   unfold Ygk at h;cases hls:Zr3 (Zgm f.lens i) l with|false=>grind|true => rw[hls]at h;simp only[cond_true]at h;split at h;rename_i x hx;exact .weak (Yi0 hls hx) (hJ i x r h);grind
  have main:∀i x r,iter tab P f af n i x=some r->KAW P (F i) (Q r) (Zi7 (Zgm f.lens i) (fill (Zdu f.cuts i) x)).er (erLL (Zi8 (Zgm f.lens i) (fill (Zdu f.cuts i) x))):=by
   induction n with|zero=>grind[iter]|succ n ih=>intro i x r h;simp only[iter,seg]at h;obtain⟨p,h1,h2,h3⟩:=Yr1 h;have:=Zbf ht hcb (λ_ _=>rfl) (jump _ ih) (codeF P f af) none [] hok rfl hpos hN HE.none hR p h1;subst h2;exact this _ _ r h3
  refine⟨main,λa r h=>?_⟩;have:=Zas ht hcb (λ_ _=>rfl) (jump _ main) (codeF P f af) none [] hok rfl hpos hN HE.none hR h;rw[show(codeF P f af).er=af.body from her]at this;simp only[TSt.er,Z2u,Yge]at this;exact this
theorem Ylo{g:FuncId}(hf:Z0 P g=some af)(n:Nat){a:Zg9 f.args}{r:Xj f.res}(h:seg0 tab P f af (iter tab P f af n) a=some r):Spec P g (pasL f.args a) (raL f.res r):=Zwg hf (own:=true) ((Yvj ht hcb hn n).2 a r h)
end
end Go.Abs
