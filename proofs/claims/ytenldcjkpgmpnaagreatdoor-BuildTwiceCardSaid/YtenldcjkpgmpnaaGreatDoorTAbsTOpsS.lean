/- The abstract machine and its soundness, part TOpsS. -/
import Derived.Test.YtenldcjkpgmpnaaGreatDoorTAbsA9
set_option linter.constructorNameAsVariable false
set_option linter.unusedVariables false
set_option linter.unusedSectionVars false
set_option linter.unusedSimpArgs false
namespace Go.Abs
variable [GTab] [Glob]
section
variable {R:Type} {r:R}

theorem Xi {b:Bool}{x:Option R}(h:cond b x none=some r):b=true/\x=some r:=by grind
theorem Zoa {b:Bool}{x:Option R}(h:cond b none x=some r):b=false/\x=some r:=by grind

theorem Ze5 {v:TV}{k:Nat->Option R}(h:tasN v k=some r):∃ n,asN v.er=some n/\k n=some r:=by
 unfold tasN at h;split at h
 . rename_i kd n;obtain⟨h1,h2⟩:=Xi (show cond (decide (0<=(show Int from n))) (k (show Int from n).toNat) none=some r from h);refine⟨_,?_,h2⟩;simp only [TV.er,CT.pv,asN];grind
 grind

theorem Z1d {n:Nat}{k:Nat->Option R}:∀ {m:Nat},Zze n k m=some r->n<m/\k n=some r
 | 0,h=>by simp [Zze] at h
 | m+1,h=>by
  simp only [Zze] at h;by_cases e:n=m
  . grind
  . simp [e] at h;obtain⟨h1,h2⟩:=Z1d h;grind

theorem Ykz {op:BinOp}{k:IntKind}{a b:Int}{kk:TV->Option R}(h:Yfa op k a b kk=some r):∃ v y,binI op k a b=some v/\(y:TV).er = .p v/\kk y=some r:=by
 cases op <;> simp only [Yfa] at h <;> first | (cases h;done) | skip
 case quo=>obtain⟨h1,h2⟩:=Zoa h;exact⟨_,_,by simp only [binI];rw [if_neg (of_decide_eq_false h1)];rfl,rfl,h2⟩
 case rem=>obtain⟨h1,h2⟩:=Zoa h;exact⟨_,_,by simp only [binI];rw [if_neg (of_decide_eq_false h1)];rfl,rfl,h2⟩
 all_goals exact⟨_,_,rfl,rfl,h⟩

theorem Ydd {op:BinOp}{k:IntKind}{a b:Int}{kk:TV->Option R}(h:Z1b op k a b kk=some r):∃ v y,Z0r op k a b=some v/\(y:TV).er = .p v/\kk y=some r:=by
 cases op <;> simp only [Z1b] at h <;> first | grind | skip
 all_goals
  obtain⟨h1,h2⟩:=Zoa h;exact⟨_,_,by simp only [Z0r];rw [if_neg (of_decide_eq_false h1)];rfl,rfl,h2⟩

theorem Yk0 {op:BinOp}{a b:List UInt8}{kk:TV->Option R}(h:Yfb op a b kk=some r):∃ v y,binS op a b=some v/\(y:TV).er = .p v/\kk y=some r:=by
 cases op <;> simp only [Yfb] at h <;> first | (cases h;done) | skip
 case add=>obtain⟨h1,h2⟩:=Xi h;exact⟨_,_,by simp only [binS];rw [if_pos (of_decide_eq_true h1)];rfl,rfl,h2⟩
 all_goals exact⟨_,_,rfl,rfl,h⟩

theorem Yoj {op:BinOp}{x y:TV}{kk:TV->Option R}(h:tbin op x y kk=some r):∃ v z,binA op x.er y.er=some v/\(z:TV).er = .p v/\kk z=some r:=by
 unfold tbin at h;split at h
 . rename_i k a k' b;split at h
   . rename_i hs;obtain⟨v,z,h1,h2,h3⟩:=Ydd h;exact⟨v,z,by simp only [TV.er,CT.pv,binA];grind,h2,h3⟩
   . rename_i hs;split at h
     . rename_i hk;obtain⟨v,z,h1,h2,h3⟩:=Ykz h;exact⟨v,z,by simp only [TV.er,CT.pv,binA];grind,h2,h3⟩
     grind
 . obtain⟨v,z,h1,h2,h3⟩:=Yk0 h;exact⟨v,z,h1,h2,h3⟩
 grind

theorem Yrn {op:UnOp}{x v:TV}(h:tun op x=some v):∃ w,unA op x.er=some w/\v.er = .p w:=by
 unfold tun at h;split at h
 . cases op <;> simp only [J0b] at h <;> first | (cases h;done) | skip
   all_goals
    subst h;exact⟨_,rfl,rfl⟩
 . cases op <;> simp only [J0b] at h <;> first | grind | skip
   subst h;exact⟨_,rfl,rfl⟩
 grind

theorem Yk1 {n:Nat}{x y:TV}{b:Bool}(h:Yfc n x y=some b):pvEq n x.er y.er=some b:=by
 unfold Yfc at h;split at h
 . exact h
 . exact h
 . exact h
 grind
theorem Ya5 {xs ys:List TV}:∀ {ix:List (Nat×Nat)} {b:Bool},Ya1 xs ys ix=some b->eqIx (erL xs) (erL ys) ix=some b
 | [],b,h=>h
 | (i,kd)::is,b,h=>by
  simp only [Ya1] at h;split at h
  . rename_i x y hx hy;split at h
    . rename_i c d hc hd;simp only [eqIx,Zbr,hx,hy,Option.map_some,Yk1 hc,Ya5 hd];exact h
    grind
  grind

theorem Zuo {ρ:AOpd->TV}{x:Option AOpd}{k:Nat->Option R}(h:tlow ρ x k=some r):∃ n,lowA (fun o=>(ρ o).er) x=some n/\k n=some r:=by
 cases x with
 | none=>exact⟨0,rfl,h⟩
 | some x=>exact Ze5 h

theorem Yk2 {len:Nat}{ex:Bool}{ρ:AOpd->TV}{lo hi:Option AOpd}{k:Nat->Nat->Option R}(h:Yfd len ρ lo hi k=some r):∃ l n b,bndA len ex (fun o=>(ρ o).er) lo hi none=some (l,n,b)/\k l n=some r:=by
 unfold Yfd at h;split at h
 . obtain⟨l,h1,h2⟩:=Zuo h;obtain⟨h3,h4⟩:=Xi h2;have h3:=of_decide_eq_true h3;exact⟨l,len,ex,by simp only [bndA,h1];grind,h4⟩
 . obtain⟨n,h0,h5⟩:=Ze5 h;obtain⟨l,h1,h2⟩:=Zuo h5;obtain⟨h3,h4⟩:=Xi h2;simp only [J0e,J0h] at h3;exact⟨l,n,ex&&n==len,by simp only [bndA,h0,Option.map_some,h1];grind,h4⟩

theorem Z1e {len:Nat}{ex:Bool}{ρ:AOpd->TV}{lo hi mx:Option AOpd}{k:Nat->Nat->Bool->Option R}(h:tbnd len ex ρ lo hi mx k=some r):∃ l n b,bndA len ex (fun o=>(ρ o).er) lo hi mx=some (l,n,b)/\k l n b=some r:=by
 unfold tbnd at h;split at h
 . obtain⟨l,h1,h2⟩:=Zuo h;obtain⟨h3,h4⟩:=Xi h2;have h3:=of_decide_eq_true h3;exact⟨l,len,ex,by simp only [bndA,h1];grind,h4⟩
 . obtain⟨n,h0,h5⟩:=Ze5 h;obtain⟨l,h1,h2⟩:=Zuo h5;obtain⟨h3,h4⟩:=Xi h2;simp only [J0e,J0h] at h3;exact⟨l,n,ex&&n==len,by simp only [bndA,h0,Option.map_some,h1];grind,h4⟩
 . obtain⟨n,h0,h5⟩:=Ze5 h;obtain⟨m,h6,h7⟩:=Ze5 h5;obtain⟨h8,h9⟩:=Xi h7;have h8:=of_decide_eq_true h8;obtain⟨l,h1,h2⟩:=Zuo h9;obtain⟨h3,h4⟩:=Xi h2;simp only [J0e,J0h] at h3;exact⟨l,n,true,by simp only [bndA,h0,h6,h8,if_true,h1];grind,h4⟩
 grind

theorem Z7u {ts:List CT}{size:Nat}(hs:ts.length=size)(xs:List (denL ts)):Zn size ((xs.map (pvL ts)).map (·.map AV.p))=true:=by have:=TE.fits_er (size:=size) (e:=.sym ts xs) (by simp [TE.fits,hs]);simpa [TE.er,List.map_map,Function.comp_def] using this

theorem Zzg {h:List AObj}{ts:List CT}{ex:Bool}{size:Nat}{ρ:AOpd->TV}{xs:List (denL ts)}{lo hi mx:Option AOpd}{k:TV->Option R}(hr:Zs1 ts ex size ρ xs lo hi mx k=some r) :
    (ex=false -> ∃ y:TV,Za6 h size (fun o=>(ρ o).er) (.p (.sl (xs.map (pvL ts)))) lo hi mx=some y.er/\k y=some r)/\(ex=true -> ∃ y:TV,Za6 h size (fun o=>(ρ o).er) (.xf (xs.map (pvL ts))) lo hi mx=some y.er/\k y=some r):=by
  unfold Zs1 at hr;obtain⟨l,n,b,h1,h2⟩:=Z1e hr;split at h2
  . rename_i hs;have key:∀ f:List (List PV)->Option AV,f=(fun es=>if l=n then some (if b then .e0 else .p (.sl [])) else if Zn size (es.map (·.map AV.p)) then some (if b then .xf ((es.take n).drop l) else .p (.sl ((es.take n).drop l))) else none) -> ∃ y:TV,f (xs.map (pvL ts))=some y.er/\k y=some r:=by
     rintro f rfl;simp only [Z7u hs,if_true];cases b with
     | true =>
      simp only [cond_true] at h2;by_cases e:l=n
      . subst e;simp only [decide_true,cond_true] at h2;exact⟨_,by simp [TV.er],h2⟩
      . simp only [e,decide_false,cond_false] at h2;exact⟨_,by simp [e,TV.er,List.map_take,List.map_drop],h2⟩
     | false =>
      simp only [cond_false] at h2;refine⟨_,?_,h2⟩;by_cases e:l=n
      . subst e;simp [TV.er,CT.pv]
      . simp [e,TV.er,CT.pv,List.map_take,List.map_drop]
    refine⟨fun e=>?_,fun e=>?_⟩
    . subst e;simp only [Za6,List.length_map,h1];grind
    . subst e;simp only [Za6,List.length_map,h1];grind
  grind

theorem Yfg {h:List TObj}{size:Nat}{ρ:AOpd->TV}{x:TV}{lo hi mx:Option AOpd}{k:TV->Option R}(hr:Z7r h size ρ x lo hi mx k=some r) :
    ∃ y:TV,Za6 (erH h) size (fun o=>(ρ o).er) x.er lo hi mx=some y.er/\k y=some r:=by
  unfold Z7r at hr;split at hr
  . obtain⟨l,n,b,h1,h2⟩:=Z1e hr;exact⟨_,by simp only [TV.er,Za6,h1],h2⟩
  . rename_i ts xs;exact (Zzg (h:=erH h) hr).1 rfl
  . rename_i ts xs;exact (Zzg (h:=erH h) hr).2 rfl
  . rename_i t ver;split at hr
    . rename_i o ho;split at hr
      . rename_i hs;obtain⟨l,n,b,h1,h2⟩:=Z1e hr;rw [<- TE.len_er] at h1;have h1' : bndA o.er.elems.length false (fun o=>(ρ o).er) lo hi mx=some (l,n,b):=h1;simp only [TV.er,Za6,Yi ho];rw [if_pos (show o.er.size=size from hs),h1'];by_cases hf:(lo.isNone&&mx.isNone)=true
        . simp only [hf,cond_true] at h2;dsimp only;rw [if_pos hf];by_cases e:hi.isNone=true
          . simp only [e,cond_true] at h2;exact⟨_,by rw [if_pos e];rfl,h2⟩
          . simp only [e,cond_false] at h2;exact⟨_,by rw [if_neg e];rfl,h2⟩
        simp only [hf,cond_false] at h2;dsimp only;rw [if_neg hf];by_cases e:l=n
        . subst e;simp only [decide_true,cond_true] at h2;cases b with
          | true=>exact⟨_,by simp [TV.er],h2⟩
          | false=>exact⟨_,by simp [TV.er],h2⟩
        . simp only [e,decide_false,cond_false] at h2;exact⟨_,by simp [e,TV.er],h2⟩
      grind
    grind
  . rename_i t ver lo0 len0 ex;split at hr
    . rename_i o ho;split at hr
      . rename_i hs;obtain⟨l,n,b,h1,h2⟩:=Z1e hr;simp only [TV.er,Za6,Yi ho];rw [if_pos (show o.er.size=size from hs),h1];obtain⟨hxb,h2⟩:=Zoa h2;dsimp only;rw [if_neg (by grind)];by_cases hf:(lo.isNone&&mx.isNone&&lo0==0 && !ex)=true
        . simp only [hf,cond_true] at h2;exact⟨_,by rw [if_pos hf];rfl,h2⟩
        simp only [hf,cond_false] at h2;rw [if_neg hf];by_cases e:l=n
        . subst e;simp only [decide_true,cond_true] at h2;cases b with
          | true=>exact⟨_,by simp [TV.er],h2⟩
          | false=>exact⟨_,by simp [TV.er],h2⟩
        . simp only [e,decide_false,cond_false] at h2;exact⟨_,by simp [e,TV.er],h2⟩
      grind
    grind
  grind

theorem Yok {h:List TObj}{x:TV}{n:Nat}(hx:tlen h x=some n):lenA (erH h) x.er=some n:=by
 unfold tlen at hx;split at hx
 case h_1=>obtain rfl:=J0a hx;exact congrArg some (List.length_map ..)
 case h_2=>simpa [TV.er,lenA] using hx
 case h_7 =>
  split at hx
  . rename_i o ho;obtain rfl:=J0a hx;simp [TV.er,lenA,Yi ho,TObj.er,TE.len_er]
  grind
 case h_8 =>
  split at hx
  . rename_i o ho;obtain rfl:=J0a hx;simp [TV.er,lenA,Yi ho]
  grind
 case h_9=>obtain rfl:=J0a hx;rfl
 case h_10=>cases hx
 all_goals simpa [TV.er,lenA] using hx

theorem Ya6 {ts:List CT}{n size:Nat}{xs:List (denL ts)}{k:TV->Option R}(hs:ts.length=size)(h:Ya2 ts n xs k=some r):∃ y:TV,(match (xs.map (pvL ts))[n]? with | some e=>if e.length=size then some (AV.fptr e) else none | none=>none)=some y.er/\k y=some r:=by
 unfold Ya2 at h;split at h
 . rename_i e he;exact⟨_,by simp [TV.er,he,Zdy,hs],h⟩
 grind

theorem Yk3 {n:Nat}{s:List UInt8}{k:TV->Option R}(h:Yfe n s k=some r):∃ b,s[n]? = some b/\k (.p (.int .u8) (b.toNat:Int))=some r:=by unfold Yfe at h;grind

theorem Ya7 {h:List AObj}{ts:List CT}{xs:List (denL ts)}{k:Bool->Option R}(hr:Ya3 ts xs k=some r):(∃ b,nilA h (.p (.sl (xs.map (pvL ts))))=some b/\k b=some r)/\(∃ b,nilA h (.xf (xs.map (pvL ts)))=some b/\k b=some r):=by
 unfold Ya3 at hr;split at hr
 . cases hr
 . exact⟨⟨false,by simp [nilA],hr⟩,⟨false,by simp [nilA],hr⟩⟩

theorem Yol {h:List TObj}{size:Nat}{x i:TV}{k:TV->Option R}(hr:tixa h size x i k=some r):∃ y:TV,ixA (erH h) size x.er i.er=some y.er/\k y=some r:=by
 unfold tixa at hr;obtain⟨n,h1,h2⟩:=Ze5 hr;simp only [ixA,h1];split at h2
 . rename_i ts xs;split at h2
   . rename_i hs;obtain⟨e,h3,h4⟩:=Ya6 hs h2;exact⟨_,h3,h4⟩
   grind
 . rename_i ts xs;split at h2
   . rename_i hs;obtain⟨e,h3,h4⟩:=Ya6 hs h2;exact⟨_,h3,h4⟩
   grind
 . split at h2
   . rename_i o ho;split at h2
     . rename_i hs;obtain⟨h3,h4⟩:=Xi h2;have h3:=of_decide_eq_true h3;exact⟨_,by simp only [TV.er,Yi ho];rw [if_pos ⟨by rw [show o.er.elems=o.el.er from rfl,TE.len_er];exact h3,hs⟩],h4⟩
     grind
   grind
 . split at h2
   . rename_i o ho;split at h2
     . rename_i hs;obtain⟨h3,h4⟩:=Xi h2;have h3:=of_decide_eq_true h3;exact⟨_,by simp only [TV.er,Yi ho];rw [if_pos ⟨h3,hs⟩],h4⟩
     grind
   grind
 grind

theorem Yom {h:List TObj}{x:TV}{k:Bool->Option R}(hr:tnil h x k=some r):∃ b,nilA (erH h) x.er=some b/\k b=some r:=by
 unfold tnil at hr;split at hr
 . exact⟨_,rfl,hr⟩
 . exact⟨_,rfl,hr⟩
 . exact⟨_,rfl,hr⟩
 . exact (Ya7 hr).1
 . exact (Ya7 hr).2
 . split at hr
   . rename_i o ho;obtain⟨h1,h2⟩:=Zoa hr;have h1:=of_decide_eq_false h1;rw [<- TE.len_er] at h1;refine⟨false,?_,h2⟩;simp only [TV.er,nilA,Yi ho];have:o.er.elems.isEmpty=false:=by show o.el.er.isEmpty=false;grind
     grind
   grind
 . split at hr
   . rename_i o ho;obtain⟨h0,hr⟩:=Zoa hr;have h0:=of_decide_eq_false h0;exact⟨false,by simp [TV.er,nilA,Yi ho,h0],hr⟩
   grind
 grind

theorem Ya8 {cs:List TV}{off:Nat}{n:Option Nat}{v:TV}(h:Ya4 cs off n=some v):Zm5 (erL cs) off n=some v.er:=by
 unfold Ya4 at h;split at h
 . split at h
   . rename_i hc;obtain rfl:=J0a h;simp only [Zm5,Z0,if_pos hc,TV.er];simp only [Yo,List.map_take,List.map_drop]
   grind
 . simp only [Zm5,Zbr,h,Option.map_some]

theorem Zs3 {h:List TObj}{n:Nat}{x:TV}{k:List TV->Option R}(hr:tread h n x k=some r):∃ cs,Y8 (erH h) n x.er=some (erL cs)/\k cs=some r:=by
 unfold tread at hr;split at hr
 . rename_i t ver i off;split at hr
   . rename_i o ho;simp only [TV.er,Y8,Yi ho];split at hr
     . rename_i es hel;split at hr
       . rename_i e he;split at hr
         . rename_i hc;refine⟨_,?_,hr⟩;have:o.er.elems[i]? = some (erL e):=by show o.el.er[i]? = _;rw [hel];simp [TE.er,he]
           simp only [this,Z0,if_pos hc];simp only [Yo,List.map_take,List.map_drop]
         grind
       grind
     . rename_i ts xs hel;split at hr
       . rename_i hc;split at hr
         . rename_i e he;refine⟨_,?_,hr⟩;have:o.er.elems[i]? = some ((pvL ts e).map .p):=by show o.el.er[i]? = _;rw [hel];simp [TE.er,he]
           simp only [this,List.length_map,Zdy,if_pos hc];rw [<- Zhs];simp only [Yo,List.map_take,List.map_drop]
         grind
       grind
   grind
 . rename_i ts e;split at hr
   . rename_i hc;refine⟨_,?_,hr⟩;simp only [TV.er,Y8,Zdy,if_pos hc];rw [show erL ((Zig ts e).take n)=(erL (Zig ts e)).take n by simp [Yo,List.map_take],Zhs,List.map_take]
   grind
 grind

theorem Zgw {len bytes:Nat}(h:Zb len bytes=true):len * bytes<=Zx/\len<=maxLen:=by simpa [Zb] using h

theorem Yde {h:List TObj}{T e size bytes:Nat}{s:TV}{es:TE}{k:TV->TEff->Option R}(hr:Z1c h T e size bytes s es k=some r) :
    ∃ (y:TV) (eff:TEff),Qo (erH h) T e size bytes s.er es.er=some (y.er,eff.er)/\k y eff=some r:=by
  unfold Z1c at hr;split at hr
  . split at hr
    . rename_i hf;obtain⟨h1,h2⟩:=Xi hr;have hb:=Zgw h1;refine⟨_,_,?_,h2⟩;simp only [TV.er,Qo,TE.len_er];rw [if_pos ⟨TE.fits_er hf,hb⟩];rfl
    grind
  . split at hr
    . rename_i o ho;split at hr
      . rename_i hc;split at hr
        . rename_i el hel;obtain⟨h1,h2⟩:=Xi hr;have hb:=Zgw h1;refine⟨_,_,?_,h2⟩;simp only [TV.er,Qo,Yi ho];rw [if_pos ⟨hc.1,hc.2.1,TE.fits_er hc.2.2,by rw [show o.er.elems=o.el.er from rfl,TE.len_er,TE.len_er];exact hb⟩];simp [TEff.er,TObj.er,Zf7 hel]
        grind
      grind
    grind
  . by_cases e0:es.len=0
    . simp only [e0,decide_true,cond_true] at hr;refine⟨_,_,?_,hr⟩;have:es.er=[]:=by rw [<- List.length_eq_zero_iff,TE.len_er];exact e0
      simp [TV.er,Qo,this,TEff.er]
    . simp only [e0,decide_false,cond_false] at hr;split at hr
      . rename_i hf;obtain⟨h1,h2⟩:=Xi hr;have hb:=Zgw h1;refine⟨_,_,?_,h2⟩;have:es.er≠[]:=by intro h0;rw [<- List.length_eq_zero_iff,TE.len_er] at h0;grind
        simp only [TV.er,Qo,TE.len_er];rw [if_neg this,if_pos ⟨TE.fits_er hf,hb⟩];rfl
      grind
  . rename_i ts xs;split at hr
    . rename_i hc;split at hr
      . rename_i el hel;obtain⟨h0,hr⟩:=Zoa hr;have h0:=of_decide_eq_false h0;obtain⟨h1,h2⟩:=Xi hr;have hb:=Zgw h1;refine⟨_,_,?_,h2⟩;have hne:es.er.isEmpty=false:=by rw [<- TE.len_er] at h0;grind
        simp only [TV.er,Qo,hne,J0r,if_false];rw [if_pos ⟨Z7u hc.1 xs,TE.fits_er hc.2,by simp only [List.length_map,TE.len_er];exact hb⟩];have h3:el.er=(xs.map fun x=>(pvL ts x).map AV.p)++es.er:=Zf7 hel;simp [TEff.er,TObj.er,h3,TV.er,List.map_map,Function.comp_def]
      grind
    grind
  . rename_i t ver lo len ex;split at hr
    . rename_i o ho;split at hr
      . rename_i hc;split at hr
        . rename_i el hel;by_cases h0:es.len=0
          . simp only [h0,decide_true,cond_true] at hr;have he:es.er.isEmpty=true:=by rw [<- TE.len_er] at h0;grind
            refine⟨_,.none,?_,hr⟩;simp only [TV.er,Qo,Yi ho];rw [if_pos ⟨he,hc.2.1⟩];rfl
          simp only [h0,decide_false,cond_false] at hr;obtain⟨h1,h2⟩:=Xi hr;have hb:=Zgw h1;refine⟨_,_,?_,h2⟩;have hne:es.er.isEmpty=false:=by rw [<- TE.len_er] at h0;grind
          have hold:(o.er.elems.drop lo).take len=((o.el.drop lo).take len).er:=by rw [TE.take_er,TE.drop_er];rfl
          simp only [TV.er,Qo,Yi ho,hold];rw [if_neg (by grind),if_pos ⟨hc.1,hne,hc.2.1,TE.fits_er hc.2.2.1,TE.fits_er hc.2.2.2,by simp only [TE.len_er];exact hb⟩];simp [TEff.er,TObj.er,Zf7 hel,TV.er]
        grind
      . split at hr
        . rename_i hc;obtain⟨hex,hlo,hoe,hosz,hfits⟩:=hc;subst hex;subst hlo;split at hr
          . rename_i el hel;by_cases h0:es.len=0
            . simp only [h0,decide_true,cond_true] at hr;have he:es.er.isEmpty=true:=by rw [<- TE.len_er] at h0;grind
              refine⟨_,.none,?_,hr⟩;simp only [TV.er,Qo,Yi ho];rw [if_pos ⟨he,hosz⟩];rfl
            simp only [h0,decide_false,cond_false] at hr;obtain⟨h1,h2⟩:=Xi hr;rw [J0e] at h1;have hle:=of_decide_eq_true h1.1;have hb:=Zgw h1.2;refine⟨_,_,?_,h2⟩;have hne:es.er.isEmpty=false:=by rw [<- TE.len_er] at h0;grind
            simp only [TV.er,Qo,Yi ho];rw [if_neg (by grind),if_neg (by simp),if_pos ⟨trivial,trivial,hne,hoe,hosz,by rw [show o.er.elems=o.el.er from rfl,TE.len_er];exact hle,TE.fits_er hfits,by simp only [TE.len_er];exact hb⟩];simp [TEff.er,TObj.er,Zf7 hel,TV.er,TE.take_er]
          grind
        grind
    grind
  grind

theorem Yk4 {h:List TObj}{size:Nat}{d:TV}{es:TE}{k:TV->TEff->Option R}(hr:Yff h size d es k=some r) :
    ∃ (y:TV) (eff:TEff),Zot (erH h) size d.er es.er=some (y.er,eff.er)/\k y eff=some r:=by
  unfold Yff at hr;split at hr
  . exact⟨_,_,rfl,hr⟩
  . split at hr
    . rename_i o ho;split at hr
      . rename_i hc;split at hr
        . rename_i el hel;refine⟨_,_,?_,hr⟩;simp only [TV.er,Zot,Yi ho];rw [if_pos ⟨hc.1,TE.fits_er hc.2⟩];have:=Zf7 hel;rw [TE.take_er,TE.drop_er] at this;simp only [TE.len_er,show o.er.elems=o.el.er from rfl,TEff.er,TObj.er,this,CT.pv]
        grind
      grind
    grind
  . split at hr
    . rename_i o ho;split at hr
      . rename_i hc;split at hr
        . rename_i el1 hel1;split at hr
          . rename_i el hel;obtain⟨h1,h2⟩:=Xi hr;have h1:=of_decide_eq_true h1;refine⟨_,_,?_,h2⟩;simp only [TV.er,Zot,Yi ho];rw [if_pos ⟨hc.1,TE.fits_er hc.2,by rw [show o.er.elems=o.el.er from rfl,TE.len_er];exact h1⟩];have g1:=Zf7 hel1;have g2:=Zf7 hel;rw [TE.take_er,TE.drop_er] at g1;rw [TE.take_er,g1] at g2;simp only [TE.len_er,show o.er.elems=o.el.er from rfl,TEff.er,TObj.er,g2,CT.pv]
          grind
        grind
      grind
    grind
  grind

theorem Yfh {h:List TObj}{n:Nat}{a x:TV}{k:TV->TEff->Option R}(hr:Z7s h n a x k=some r){T:Nat}{ρ:AOpd->AV}{oa ox:AOpd}(ha:ρ oa=a.er)(hx:ρ ox=x.er) :
    ∃ (y:TV) (eff:TEff),Zc (erH h) T ρ (.store n oa ox)=some (y.er,eff.er)/\k y eff=some r:=by
  unfold Z7s at hr;split at hr
  . rename_i cs t ver i off hcs;simp only [Zc,ha,hx,Zpa hcs,TV.er];split at hr
    . rename_i o ho;simp only [Yi ho];split at hr
      . rename_i es hel;split at hr
        . rename_i e he;split at hr
          . rename_i hc;refine⟨_,_,?_,hr⟩;have h1:o.er.elems=es.map erL:=by show o.el.er=_;rw [hel];rfl
            have:o.er.elems[i]? = some (erL e):=by grind
            simp only [this,Z0];rw [if_pos hc,h1];simp [TEff.er,TObj.er,TE.er,TV.er,List.map_set,Ya0]
          grind
        grind
      . rename_i ts xs hel;split at hr
        . rename_i hc;split at hr
          . rename_i f hf;split at hr
            . rename_i e he;refine⟨_,_,?_,hr⟩;have h1:o.er.elems=xs.map fun x=>(pvL ts x).map AV.p:=by show o.el.er=_;rw [hel];rfl
              have:o.er.elems[i]? = some ((pvL ts e).map .p):=by grind
              simp only [this,Z0,List.length_map,Zdy];rw [if_pos hc,h1];simp [TEff.er,TObj.er,TE.er,TV.er,List.map_set,(Z08 hf e).1]
            grind
          grind
        grind
    grind
  grind

theorem Yk5 {h:List TObj}{T:Nat}{ρ:AOpd->TV}{ρ' : AOpd->AV}(hρ:∀ o,(ρ o).er=ρ' o){op:AOp}{k:TV->TEff->Option R}(hr:Zzf h T ρ op k=some r) :
    ∃ (y:TV) (eff:TEff),Zc (erH h) T ρ' op=some (y.er,eff.er)/\k y eff=some r:=by
  obtain rfl:(fun o=>(ρ o).er)=ρ' := funext hρ;cases op <;> simp only [Zzf] at hr
  case mv x=>exact⟨_,_,rfl,hr⟩
  case pick c a b =>
   split at hr
   . rename_i v hv;have hc:(ρ c).er = .p (.bool v):=by rw [hv];rfl
     cases v with
     | true=>exact⟨_,_,by simp only [Zc,hc,if_true];rfl,hr⟩
     | false=>exact⟨_,_,by simp only [Zc,hc,J0r,if_false];rfl,hr⟩
   grind
  case box e size x =>
   split at hr
   . rename_i cs hcs;split at hr
     . rename_i hc;refine⟨_,_,?_,hr⟩;simp only [Zc,Zpa hcs,Z0];rw [if_pos hc];rfl
     grind
   grind
  case build zero parts =>
   split at hr
   . rename_i cs hcs;refine⟨_,_,?_,hr⟩;have:=Zzc hcs;have hz:erL (zero.map ofC)=zero:=by rw [Yo,List.map_map];refine (List.map_congr_left fun x _=>?_).trans (List.map_id _);exact Zqq x
     simp only [List.map_map,Function.comp_def,hz] at this;simp only [Zc,this];rfl
   grind
  case bslice e size len zero parts =>
   split at hr
   . rename_i es hes;split at hr
     . rename_i hc;refine⟨_,_,?_,hr⟩;have:=Zzd hes;have hz:erL (zero.map ofC)=zero:=by rw [Yo,List.map_map];refine (List.map_congr_left fun x _=>?_).trans (List.map_id _);exact Zqq x
       simp only [List.map_map,Function.comp_def,List.map_replicate,hz] at this;simp only [Zc,this];rw [if_pos hc];simp [TV.er,TEff.er,TObj.er,Yaz]
     grind
   grind
  case load n x =>
   cases n with
   | some n=>simp only at hr;obtain⟨cs,h1,h2⟩:=Zs3 hr;exact⟨_,_,by simp only [Zc,h1];rfl,h2⟩
   | none =>
    simp only at hr;obtain⟨cs,h1,h2⟩:=Zs3 hr;split at h2
    . exact⟨_,_,by simp only [Zc,h1,erL];rfl,h2⟩
    grind
  case store n a x=>exact Yfh hr rfl rfl
  case nilchk x =>
   split at hr
   . rename_i t ver i off hx;split at hr
     . rename_i o ho;exact⟨_,_,by simp only [Zc,hx,TV.er,Yi ho];rfl,hr⟩
     grind
   . rename_i ts e hx;exact⟨_,_,by simp only [Zc,hx,TV.er];rfl,hr⟩
   . rename_i f cs hx;exact⟨_,_,by simp only [Zc,hx,TV.er];rfl,hr⟩
   grind
  case bin op x y=>obtain⟨v,z,h1,h2,h3⟩:=Yoj hr;exact⟨z,.none,by simp only [Zc,h1,h2];rfl,h3⟩
  case beq neg x y =>
   split at hr
   . rename_i a b hx hy;exact⟨_,_,by simp only [Zc,hx,hy,TV.er,CT.pv];rfl,hr⟩
   grind
  case eqnil neg x=>obtain⟨b,h1,h2⟩:=Yom hr;exact⟨_,_,by simp only [Zc,h1];rfl,h2⟩
  case eqagg neg size ix x y =>
   split at hr
   . rename_i xs ys hx hy;split at hr
     . rename_i hc;split at hr
       . rename_i b hb;refine⟨_,_,?_,hr⟩;simp only [Zc,hx,hy,TV.er,Z0];rw [if_pos hc,Ya5 hb];rfl
       grind
     grind
   grind
  case un op x =>
   split at hr
   . rename_i v hv;obtain⟨w,h1,h2⟩:=Yrn hv;exact⟨_,_,by simp only [Zc,h1,h2];rfl,hr⟩
   grind
  case conv kd x =>
   split at hr
   . rename_i k' n hx;exact⟨_,_,by simp only [Zc,hx,TV.er,CT.pv];rfl,hr⟩
   grind
  case bstr x =>
   split at hr
   . rename_i e hx;split at hr
     . rename_i s hs;exact⟨_,_,by simp only [Zc,Zqr hx,Ydc hs,TV.er,CT.pv];rfl,hr⟩
     grind
   grind
  case eqi neg x =>
   split at hr
   . rename_i b hx;exact⟨_,_,by simp only [Zc,hx,TV.er];rfl,hr⟩
   grind
  case convs x =>
   split at hr
   . rename_i s hx;exact⟨_,_,by simp only [Zc,hx,TV.er,CT.pv];rfl,hr⟩
   grind
  case mksl e size bytes zero len cap =>
   obtain⟨n,h1,h2⟩:=Ze5 hr;obtain⟨c,h3,h4⟩:=Ze5 h2;split at h4
   . rename_i hc;obtain⟨h5,h6⟩:=Xi h4;simp only [J0e,J0h] at h5;have hz:erL (zero.map ofC)=zero:=by rw [Yo,List.map_map];refine (List.map_congr_left fun x _=>?_).trans (List.map_id _);exact Zqq x
     simp only [Zc,h1,h3];rw [if_pos ⟨h5.1,h5.2.1,h5.2.2,hc⟩];split at h6
     . split at h6
       . rename_i z hz';refine⟨_,_,?_,h6⟩;have:=Zs0 hz';rw [hz] at this;simp [TV.er,TEff.er,TObj.er,TE.er,this]
       grind
     . refine⟨_,_,?_,h6⟩;simp [TV.er,TEff.er,TObj.er,TE.er,hz]
   grind
  case slice size x lo hi mx=>obtain⟨y,h1,h2⟩:=Yfg hr;exact⟨y,.none,by simp only [Zc,h1];rfl,h2⟩
  case sstr x lo hi =>
   split at hr
   . rename_i s hx;obtain⟨l,n,b,h1,h2⟩:=Yk2 (ex:=true) hr;refine⟨_,_,?_,h2⟩;simp only [Zc,hx,TV.er,CT.pv];have h1' : bndA (List.length s) true (fun o=>(ρ o).er) lo hi none=some (l,n,b):=h1;rw [h1'];rfl
   grind
  case fld off x =>
   split at hr
   . rename_i t ver i o hx;split at hr
     . rename_i p hp;exact⟨_,_,by simp only [Zc,hx,TV.er,Yi hp];rfl,hr⟩
     grind
   . rename_i ts e hx;exact⟨_,_,by simp only [Zc,hx,TV.er];rw [<- Zum];rfl,hr⟩
   grind
  case field off n x =>
   split at hr
   . rename_i cs hx;split at hr
     . rename_i v hv;exact⟨_,_,by simp only [Zc,hx,TV.er,Ya8 hv];rfl,hr⟩
     grind
   grind
  case ixa size x i=>obtain⟨y,h1,h2⟩:=Yol hr;exact⟨y,.none,by simp only [Zc,h1];rfl,h2⟩
  case ixarr len size x i =>
   obtain⟨n,h1,h2⟩:=Ze5 hr;obtain⟨h3,h4⟩:=Z1d h2;simp only [Zc,h1];rw [if_pos h3];split at h4
   . rename_i t ver i o hx;split at h4
     . rename_i p hp;exact⟨_,_,by simp only [hx,TV.er,Yi hp];rfl,h4⟩
     grind
   . rename_i ts e hx;exact⟨_,_,by simp only [hx,TV.er];rw [<- Zum];rfl,h4⟩
   grind
  case ixv len size m x i =>
   obtain⟨n,h1,h2⟩:=Ze5 hr;obtain⟨h3,h4⟩:=Z1d h2;simp only [Zc,h1];rw [if_pos h3];split at h4
   . rename_i cs hx;split at h4
     . rename_i v hv;exact⟨_,_,by simp only [hx,TV.er,Ya8 hv];rfl,h4⟩
     grind
   grind
  case ixs x i =>
   obtain⟨n,h1,h2⟩:=Ze5 hr;split at h2
   . rename_i s hx;obtain⟨b,hb,h3⟩:=Yk3 h2;refine⟨_,_,?_,h3⟩;simp only [Zc,h1,hx,TV.er,CT.pv];rw [hb];rfl
   grind
  case extract i x =>
   split at hr
   . rename_i vs hx;split at hr
     . rename_i v hv;exact⟨_,_,by simp only [Zc,hx,TV.er,Zbr,hv,Option.map_some];rfl,hr⟩
     grind
   grind
  case len x =>
   split at hr
   . rename_i n hn;exact⟨_,_,by simp only [Zc,Yok hn];rfl,hr⟩
   grind
  case lens x =>
   split at hr
   . rename_i s hx;exact⟨_,_,by simp only [Zc,hx,TV.er,CT.pv];rfl,hr⟩
   grind
  case capn x =>
   split at hr
   . rename_i hx;exact⟨_,_,by simp only [Zc,hx,TV.er];rfl,hr⟩
   grind
  case appz e size bytes zero s n =>
   split at hr
   . rename_i hs;obtain⟨m,h1,h2⟩:=Ze5 hr;split at h2
     . rename_i hc;obtain⟨h5,h6⟩:=Xi h2;simp only [J0e,J0h] at h5;have hb:=Zgw h5.2;have hz:erL (zero.map ofC)=zero:=by rw [Yo,List.map_map];refine (List.map_congr_left fun x _=>?_).trans (List.map_id _);exact Zqq x
       simp only [Zc,h1,hs,TV.er];rw [if_pos ⟨h5.1,hb.1,hb.2,hc⟩];split at h6
       . split at h6
         . rename_i z hz';refine⟨_,_,?_,h6⟩;have:=Zs0 hz';rw [hz] at this;simp [TV.er,TEff.er,TObj.er,TE.er,this]
         grind
       . refine⟨_,_,?_,h6⟩;simp [TV.er,TEff.er,TObj.er,TE.er,hz]
     grind
   grind
  case append e size bytes s x =>
   split at hr
   . rename_i es hes;split at hr
     . rename_i h0;obtain⟨y,eff,h1,h2⟩:=Yde hr;exact⟨y,eff,by simp only [Zc,Zqr hes];grind,h2⟩
     grind
   grind
  case copy size d s =>
   split at hr
   . rename_i es hes;obtain⟨y,eff,h1,h2⟩:=Yk4 hr;exact⟨y,eff,by simp only [Zc,Zqr hes];exact h1,h2⟩
   grind
  case mm mx x y =>
   split at hr
   . rename_i kd a k' b hx hy;refine⟨_,_,?_,hr⟩;simp only [Zc,hx,hy,TV.er,CT.pv];rfl
   grind
  case mkfn f caps=>refine⟨_,_,?_,hr⟩;simp [Zc,TV.er,Yo,List.map_map,Function.comp_def,TEff.er]
  all_goals cases hr
end
end Go.Abs
