import Derived.Test.YtmkkpgcecpnejaaGreatDoorEGC
/- graph.order, as the machine takes it: from its walk. -/
set_option linter.unusedVariables false
set_option linter.unusedSimpArgs false
namespace Tg
open Go Go.Abs Go.RowKit Go.Proofs
def Yd9 (x:Gr):Option (List Int):=Tn.Zas (x.2.1.map Tj.tch) (x.1.length+x.2.1.length+1) (Tn.Xw (x.2.1.map Tj.tch) (Tn.zer x.1.length)) []
def Zrb (x:Gr):Option (List (Int×Unit)×Unit):=bif decide (x.1.length<=64)&&(decide (x.2.1.length<=256)&&x.2.1.all fun c=>decide (0<=c.2.2.1)&&decide (c.2.2.1<=1000)) then (Yd9 x).map fun r=>(r.map fun i=>(i,()),()) else none
noncomputable def Qs (x:Gr):Option (List (Int×Unit)×Unit):=hid Zrb x
theorem Zvq (x:Gr)(h1:x.1.length<=64)(h2:x.2.1.length<=256)(h3:∀ c∈x.2.1,0<=c.2.2.1/\c.2.2.1<=1000):Qs x=(Yd9 x).map fun r=>(r.map fun i=>(i,()),()):=by
 rw [Qs,Zbw,Zrb,decide_eq_true h1,decide_eq_true h2];have:(x.2.1.all fun c=>decide (0<=c.2.2.1)&&decide (c.2.2.1<=1000))=true:=by rw [List.all_eq_true];intro c hc;rw [J0e,J0h,J0h];exact h3 c hc
 rw [this];rfl
theorem spO (x:Gr)(r:List (Int×Unit)×Unit)(h:Zrb x=some r):Spec Tryz.prog 59 [.a [.sl (x.1.map opP),.sl (x.2.1.map chP)]] [.c (.s 3 1 (r.1.map fun y=>[.int .i64 y.1]))]:=by
 rw [Zrb] at h;obtain⟨hc,h⟩:=Xd h;rw [J0e,J0e,J0h,J0h,List.all_eq_true] at hc;obtain⟨r0,h0,rfl⟩:=J0f.1 h;have e:((r0.map fun i=>(i,())).map fun y:Int×Unit=>[PV.int .i64 y.1])=r0.map fun i=>[PV.int .i64 i]:=by rw [List.map_map];rfl
 rw [e];refine Spec.row1 (pv:=fun i:Int=>PV.int .i64 i) (vv:=fun i=>Value.int .i64 i) (fun a w O=>.int _ _) fun O w cargs hg hp=>?_;obtain⟨u,v,rfl,h1,h2⟩:∃ u v,cargs=#[.agg #[u,v]]/\PRel w O (.sl (x.1.map opP)) u/\PRel w O (.sl (x.2.1.map chP)) v:=by
  obtain⟨h1,h2⟩:=hp;obtain⟨l⟩:=cargs
  match l,h1 with
  | [u],_ =>
   have e1:=h2 0 _ u rfl rfl;cases e1 with
   | a _ vs hl hr =>
    obtain⟨vs⟩:=vs
    match vs,hl with
    | [x,y],_=>exact⟨x,y,rfl,hr 0 _ x rfl rfl,hr 1 _ y rfl rfl⟩
 obtain⟨a1,n1,c1,rfl,g1⟩:=Zxr (f:=Tj.opC) (sz:=2) (fun _=>rfl) (fun x w O i v p a b u hu=>Z53 x w O i v p a b u hu) (fun _=>rfl) h1;obtain⟨a2,n2,c2,rfl,g2⟩:=Zxr (f:=Tj.chC) (sz:=5) (fun _=>rfl) (fun x w O i v p a b u hu=>Z52 x w O i v p a b u hu) (fun _=>rfl) h2;have e1:=g1.1;have e2:=g2.1;refine Tn.Zow a1 a2 n1 c1 n2 c2 (x.2.1.map Tj.tch) w (by omega) (by rw [List.length_map];exact e2) (by omega) g2.chs (fun c hc' => ?_) r0 (by rw [e1,e2];exact h0);obtain⟨d,hd,rfl⟩:=List.mem_map.1 hc';have:=hc.2.2 d hd;rw [J0e,J0h,J0h] at this;exact this
noncomputable def Z8p:TCon:=⟨[.a [.sl [.int .u8,.int .i64],.sl [.int .i64,.int .i64,.int .i64,.int .i64,.int .i64]]],[.c (.s 3 1 [.int .i64])],fun a=>Qs a.1⟩
theorem ok59:Z8p.ok Tryz.prog 59:=fun a r h=>by
 obtain⟨⟨ops,chs,u⟩,u'⟩:=a;have key:∀ (x:Gr) (r:List (Int×Unit)×Unit),Qs x=some r->Spec Tryz.prog 59 [.a [.sl (x.1.map opP),.sl (x.2.1.map chP)]] [.c (.s 3 1 (r.1.map fun y=>[.int .i64 y.1]))]:=fun x r h=>by rw [Qs,Zbw] at h;exact spO x r h
 exact key (ops,chs,()) r h
noncomputable def Yea:TCon:=⟨Z8p.args,[.c (.p (.sl [.int .i64]))],Z8p.fn⟩
theorem Ym2:Yea.ok Tryz.prog 59:=TCon.frz (c:=Z8p) ok59 rfl
end Tg

/- What graph.order answers: each operator once, behind those that lead to it. -/
namespace Tg
open Go Go.RowKit Tn
theorem Ym3 {E:List Ch}(hE:E.length<=1000):∀ (m:Nat) (W:List (Int×Int)) (out r:List Int),Inv E W->Zas E m W out=some r ->
    ∃ s,r=out++s/\s.Nodup/\(∀ x∈s,x∈keys W) /\ ∀ (i:Nat) (op:Int),s[i]? = some op -> ∀ c∈E,c.2.2.1=op->c.1∈keys W -> ∃ j,j<i/\s[j]? = some c.1:=by
  intro m
  induction m with
  | zero=>intro W out r hI h;cases h
  | succ m ih =>
   intro W out r hI hr;cases W with
   | nil=>exact⟨[],by rw [List.append_nil];exact (J0a hr).symm,List.nodup_nil,by simp,by simp⟩
   | cons p W' =>
    generalize hW:p::W' = W at hr hI;have hne:W≠[]:=by rw [<- hW];simp
    have hkne:keys W≠[]:=by rw [<- hW];simp [keys]
    have hdef:Zas E (m+1) W out=if Zam W<0 then some out else Zas E m (Xr (Zam W) E (Y8 (Zam W) W)) (out++[Zam W]):=by rw [<- hW];rfl
    have hlen:W.length=W'.length+1:=by rw [<- hW];rfl
    rcases NX.next hI.nd hI.pos with ⟨h0,h1⟩ | ⟨h0,h1,_,_⟩
    . rw [hdef,if_pos (by omega)] at hr;exact⟨[],by rw [List.append_nil];exact (J0a hr).symm,List.nodup_nil,by simp,by simp⟩
    . rw [hdef,if_neg (by omega)] at hr;generalize hnx:Zam W=nx at h0 h1 hr;have hkn:nx∈keys W:=(Zi nx).1 (by rw [h1];rfl);have hcz:cntW E (keys W) nx=0:=by have:=hI.cnt nx hkn;rw [h1] at this;have:=J0a this;omega
      have hself:∀ c∈E,c.2.2.1=nx->c.1 ∉ keys W:=fun c hc h=>Z2t hcz hc h;have hmem:∀ x,x∈keys (Y8 nx W)↔x≠nx/\x∈keys W:=fun x=>by
       rw [<- Zi,Zak hI.nd];by_cases e:x=nx
       . simp [e]
       . rw [if_neg e,Zi];simp [e]
      have hout:∀ c∈E,c.1=nx->c.2.2.1∈keys (Y8 nx W):=fun c hc h=>by rw [hmem];refine⟨fun e=>hself c hc e (by rw [h];exact hkn),hI.cl c hc (by rw [h];exact hkn)⟩
      have hlook:=Zla nx E (Y8 nx W) hout (fun k v hv=>by
       rw [Zak hI.nd] at hv;split at hv
       . cases hv
       . have hk:k∈keys W:=(Zi k).1 (by rw [hv];rfl);have:=hI.cnt k hk;rw [hv] at this;have:=J0a this;have:=Z77 E (keys W) k;omega)
      have hkeys:∀ x,x∈keys (Xr nx E (Y8 nx W))↔x≠nx/\x∈keys W:=fun x=>by rw [<- Zi,hlook,<- hmem,<- Zi];cases lookW x (Y8 nx W) <;> simp
      have hInd:(keys (Xr nx E (Y8 nx W))).Nodup:=Zmh nx E _ (List.Nodup.sublist (Zk8 nx W) hI.nd);have hI2:Inv E (Xr nx E (Y8 nx W)):=by
       refine⟨hInd,fun k hk=>?_,fun c hc h=>?_,fun k hk=>?_⟩
       . obtain⟨g1,g2⟩:=(hkeys k).1 hk;rw [hlook,Zak hI.nd,if_neg g1,hI.cnt k g2];simp only [Option.map_some,J0b];have:=Zxj E (keys W) (keys (Xr nx E (Y8 nx W))) nx k (fun x=>by
          rw [hkeys];by_cases e:x=nx
          . simp [e,hkn]
          . simp [e]) (fun h=>((hkeys nx).1 h).1 rfl)
         omega
       . obtain⟨g1,g2⟩:=(hkeys c.1).1 h;exact (hkeys _).2 ⟨fun e=>hself c hc e g2,hI.cl c hc g2⟩
       . have:=(hkeys k).1 ((Zi k).1 hk);exact hI.pos k ((Zi k).2 this.2)
      obtain⟨s,e1,e2,e3,e4⟩:=ih (Xr nx E (Y8 nx W)) (out++[nx]) r hI2 hr;refine⟨nx::s,by rw [e1,List.append_assoc];rfl,List.nodup_cons.2 ⟨fun h=>((hkeys nx).1 (e3 nx h)).1 rfl,e2⟩,fun x hx=>?_,fun i op hi c hc hop hin=>?_⟩
      . rcases List.mem_cons.1 hx with rfl | hx
        . exact hkn
        . exact ((hkeys x).1 (e3 x hx)).2
      . cases i with
        | zero=>obtain rfl:nx=op:=J0a hi;exact absurd hin (hself c hc hop)
        | succ i =>
         have hi:s[i]? = some op:=by simpa using hi
         by_cases e:c.1=nx
         . exact⟨0,by omega,by rw [e];rfl⟩
         . obtain⟨j,j1,j2⟩:=e4 i op hi c hc hop ((hkeys c.1).2 ⟨e,hin⟩);exact⟨j+1,by omega,by simpa using j2⟩
theorem Z55 (n:Nat)(E:List Ch)(hn:n<=1000)(hE:E.length<=1000)(h:∀ c∈E,0<=c.1/\c.1<n/\0<=c.2.2.1/\c.2.2.1<n)(m:Nat)(r:List Int)(hr:Zas E m (Xw E (zer n)) []=some r) :
    r.Nodup/\(∀ x∈r,0<=x/\x<n) /\ ∀ (i:Nat) (op:Int),r[i]? = some op -> ∀ c∈E,c.2.2.1=op -> ∃ j,j<i/\r[j]? = some c.1:=by
  have hz:∀ k,k∈keys (zer n)↔0<=k/\k<n:=fun k=>by
   rw [<- Zi,Zd1];split
   . rename_i h;simp [h]
   . rename_i h;simp [h]
  have hto:∀ c∈E,c.2.2.1∈keys (zer n):=fun c hc=>(hz _).2 ⟨(h c hc).2.2.1,(h c hc).2.2.2⟩;have hlook:=Zox E (zer n) hto (fun k v hv=>by
   rw [Zd1] at hv;split at hv
   . obtain rfl:=J0a hv;omega
   . cases hv)
  have hk:∀ k,k∈keys (Xw E (zer n))↔0<=k/\k<n:=fun k=>by rw [<- Zi,hlook,<- hz,<- Zi];cases lookW k (zer n) <;> simp
  have hlen:(Xw E (zer n)).length=n:=by rw [Ztb E _ hto,Zze]
  have hI:Inv E (Xw E (zer n)):=by
   refine⟨Zmi E _ (Zoy n),fun k hk1=>?_,fun c hc _=>(hk _).2 ⟨(h c hc).2.2.1,(h c hc).2.2.2⟩,fun k hk1=>?_⟩
   . rw [hlook,Zd1,if_pos ((hk k).1 hk1)];simp only [Option.map_some,J0b];have:toW k E=cntW E (keys (Xw E (zer n))) k:=by
      unfold toW cntW;congr 1;apply List.filter_congr;intro c hc;have:(keys (Xw E (zer n))).contains c.1=true:=by rw [List.contains_iff_mem];exact (hk _).2 ⟨(h c hc).1,(h c hc).2.1⟩
      rw [this,Bool.and_true]
     omega
   . have:=(hk k).1 ((Zi k).1 hk1);omega
  obtain⟨s,e1,e2,e3,e4⟩:=Ym3 hE m (Xw E (zer n)) [] r hI hr;rw [List.nil_append] at e1;subst e1;exact⟨e2,fun x hx=>(hk x).1 (e3 x hx),fun i op hi c hc hop=>e4 i op hi c hc hop ((hk _).2 ⟨(h c hc).1,(h c hc).2.1⟩)⟩
end Tg
