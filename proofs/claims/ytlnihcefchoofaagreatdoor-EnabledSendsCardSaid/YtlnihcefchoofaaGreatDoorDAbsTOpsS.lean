import Derived.Test.YtlnihcefchoofaaGreatDoorDAbsA9
set_option linter.all false
namespace Go.Abs
variable [GTab] [Glob]
section
variable {R:Type} {r:R}
variable {b:Bool}
theorem Qo{x:Option R}(h:cond b x none=some r):b=true/\x=some r:=by grind
theorem Zry{x:Option R}(h:cond b none x=some r):b=false/\x=some r:=by grind
theorem Zge{v:TV}{k:Nat->Option R}(h:tasN v k=some r):∃n,asN v.er=some n/\k n=some r:=by
 unfold tasN at h;split at h;rename_i kd n;obtain⟨h1,h2⟩:=Qo (show cond (decide (0<=(show Int from n))) (k (show Int from n).toNat) none=some r from h);grind[TV.er,CT.pv,asN];grind
theorem Z4p{n:Nat}{k:Nat->Option R}:∀{m:Nat},Z2j n k m=some r->n<m/\k n=some r
 |0,h=>by simp[Z2j]at h|m+1,h=>by
  simp only[Z2j]at h;by_cases e:n=m;grind;simp[e]at h;obtain⟨h1,h2⟩:=Z4p h;grind
variable {k:IntKind}{a:Int}
theorem Yri{op:BinOp}{b: Int}{kk:TV->Option R}(h:Yku op k a b kk=some r):∃v y,binI op k a b=some v/\(y:TV).er = .p v/\kk y=some r:=by
 cases op<;>simp only[Yku]at h<;>first|(cases h;done)|skip
 case quo=>obtain⟨h1,h2⟩:=Zry h;exact⟨_,_,by simp only[binI];rw[if_neg (of_decide_eq_false h1)];rfl,rfl,h2⟩
 case rem=>obtain⟨h1,h2⟩:=Zry h;exact⟨_,_,by simp only[binI];rw[if_neg (of_decide_eq_false h1)];rfl,rfl,h2⟩
 all_goals exact⟨_,_,rfl,rfl,h⟩
theorem Yio{op:BinOp}{b: Int}{kk:TV->Option R}(h:Z4n op k a b kk=some r):∃v y,Z33 op k a b=some v/\(y:TV).er = .p v/\kk y=some r:=by
 cases op<;>simp only[Z4n]at h<;>first|grind|skip
 all_goals
  obtain⟨h1,h2⟩:=Zry h;exact⟨_,_,by simp only[Z33];rw[if_neg (of_decide_eq_false h1)];rfl,rfl,h2⟩
theorem Yrj{op:BinOp}{a b:List UInt8}{kk:TV->Option R}(h:Ykv op a b kk=some r):∃v y,binS op a b=some v/\(y:TV).er = .p v/\kk y=some r:=by
 cases op<;>simp only[Ykv]at h<;>first|(cases h;done)|skip
 case add=>obtain⟨h1,h2⟩:=Qo h;exact⟨_,_,by simp only[binS];rw[if_pos (of_decide_eq_true h1)];rfl,rfl,h2⟩
 all_goals exact⟨_,_,rfl,rfl,h⟩
variable {x:TV}
theorem Yu4{op:BinOp}{y: TV}{kk:TV->Option R}(h:tbin op x y kk=some r):∃v z,binA op x.er y.er=some v/\(z:TV).er = .p v/\kk z=some r:=by unfold tbin at h;grind[Yio,TV.er,CT.pv,binA,Yri,Yrj]
theorem Yye{op:UnOp}{v: TV}(h:tun op x=some v):∃w,unA op x.er=some w/\v.er = .p w:=by
 unfold tun at h;split at h
 . cases op<;>simp only[J0b]at h<;>first|(cases h;done)|skip
   all_goals
    subst h;exact⟨_,rfl,rfl⟩
 cases op<;>simp only[J0b]at h<;>first|grind|skip
 subst h;exact⟨_,rfl,rfl⟩;grind
variable {n:Nat}
theorem Yrk{y: TV}(h:Ykw n x y=some b):pvEq n x.er y.er=some b:=by
 unfold Ykw at h;split at h;exact h;exact h;exact h;grind
theorem Yf4{xs ys:List TV}:∀{ix:List (Nat×Nat)} {b:Bool},Yf0 xs ys ix=some b->eqIx (erL xs) (erL ys) ix=some b
 |[],b,h=>h|(i,kd)::is,b,h=>by
  simp only[Yf0]at h;split at h;rename_i x y hx hy;split at h;rename_i c d hc hd;simp only[eqIx,Zb0,hx,hy,Option.map_some,Yrk hc,Yf4 hd];exact h;grind;grind
variable {ρ:AOpd->TV}
theorem Zwm{x:Option AOpd}{k:Nat->Option R}(h:tlow ρ x k=some r):∃n,lowA (λo=>(ρ o).er) x=some n/\k n=some r:=by
 cases x with|none=>exact⟨0,rfl,h⟩|some x=>exact Zge h
variable {ex:Bool}{lo hi:Option AOpd}
theorem Yrl{len:Nat}{k:Nat->Nat->Option R}(h:Ykx len ρ lo hi k=some r):∃l n b,bndA len ex (λo=>(ρ o).er) lo hi none=some (l,n,b)/\k l n=some r:=by
 unfold Ykx at h;split at h;obtain⟨l,h1,h2⟩:=Zwm h;obtain⟨h3,h4⟩:=Qo h2;have h3:=of_decide_eq_true h3;exact⟨l,len,ex,by grind[bndA],h4⟩;obtain⟨n,h0,h5⟩:=Zge h;obtain⟨l,h1,h2⟩:=Zwm h5;obtain⟨h3,h4⟩:=Qo h2;simp only[J0e,J0h]at h3;exact⟨l,n,ex&&n==len,by grind[bndA],h4⟩
variable {mx:Option AOpd}
theorem Z4q{len:Nat}{k:Nat->Nat->Bool->Option R}(h:tbnd len ex ρ lo hi mx k=some r):∃l n b,bndA len ex (λo=>(ρ o).er) lo hi mx=some (l,n,b)/\k l n b=some r:=by
 unfold tbnd at h;split at h;grind[Zwm,bndA];grind[Zge,Zwm,bndA];grind[Zge,Zwm,bndA];grind
variable {ts:List CT}
theorem Ybw{size:Nat}(hs:ts.length=size)(xs:List (denL ts)):Zn size ((xs.map (pvL ts)).map (·.map AV.p))=true:=by have:=TE.fits_er (size:=size) (e:=.sym ts xs) (by simp[TE.fits,hs]);grind[TE.er,Function.comp_def]
theorem Z2l{h:List AObj}{size:Nat}{xs:List (denL ts)}{k:TV->Option R}(hr:Zuv ts ex size ρ xs lo hi mx k=some r) :
    (ex=false -> ∃y:TV,Zbo h size (λo=>(ρ o).er) (.p (.sl (xs.map (pvL ts)))) lo hi mx=some y.er/\k y=some r)/\(ex=true -> ∃y:TV,Zbo h size (λo=>(ρ o).er) (.xf (xs.map (pvL ts))) lo hi mx=some y.er/\k y=some r):=by
  grind[Zuv,Z4q,Ybw,TV.er,List.map_take,List.map_drop,CT.pv,Zbo]
variable {h:List TObj}
theorem Yk0{size:Nat}{k:TV->Option R}(hr:Ybt h size ρ x lo hi mx k=some r) :
    ∃y:TV,Zbo (erH h) size (λo=>(ρ o).er) x.er lo hi mx=some y.er/\k y=some r:=by
  unfold Ybt at hr;split at hr;grind[Z4q,TV.er,Zbo];rename_i ts xs;exact(Z2l (h:=erH h) hr).1 rfl;rename_i ts xs;exact(Z2l (h:=erH h) hr).2 rfl;rename_i t ver;split at hr;rename_i o ho;split at hr;rename_i hs;obtain⟨l,n,b,h1,h2⟩:=Z4q hr;rw[<- TE.len_er]at h1;have h1' : bndA o.er.elems.length false (λo=>(ρ o).er) lo hi mx=some (l,n,b):=h1;simp only[TV.er,Zbo,Yf ho];rw[if_pos (show o.er.size=size from hs),h1'];grind[TV.er];grind;grind;rename_i t ver lo0 len0 ex;split at hr;rename_i o ho;split at hr;rename_i hs;obtain⟨l,n,b,h1,h2⟩:=Z4q hr;simp only[TV.er,Zbo,Yf ho];rw[if_pos (show o.er.size=size from hs),h1];grind[TV.er];grind;grind;grind
theorem Yu5(hx:tlen h x=some n):lenA (erH h) x.er=some n:=by
 unfold tlen at hx;split at hx
 case h_1=>obtain rfl:=J0a hx;exact congrArg some (List.length_map ..)
 case h_2=>grind[TV.er,lenA]
 case h_7 => split at hx;rename_i o ho;obtain rfl:=J0a hx;simp[TV.er,lenA,Yf ho,TObj.er,TE.len_er];grind
 case h_8 => split at hx;rename_i o ho;obtain rfl:=J0a hx;simp[TV.er,lenA,Yf ho];grind
 case h_9=>obtain rfl:=J0a hx;rfl
 case h_10=>cases hx
 all_goals grind[TV.er,lenA]
theorem Yf5{size: Nat}{xs:List (denL ts)}{k:TV->Option R}(hs:ts.length=size)(h:Yf1 ts n xs k=some r):∃y:TV,(match (xs.map (pvL ts))[n]? with|some e=>if e.length=size then some (AV.fptr e)else none|none=>none)=some y.er/\k y=some r:=by grind[Yf1,TV.er,Zdx]
theorem Yrm{s:List UInt8}{k:TV->Option R}(h:Yky n s k=some r):∃b,s[n]? = some b/\k (.p (.int .u8) (b.toNat:Int))=some r:=by grind[Yky]
theorem Yf6{h:List AObj}{xs:List (denL ts)}{k:Bool->Option R}(hr:Yf2 ts xs k=some r):(∃b,nilA h (.p (.sl (xs.map (pvL ts))))=some b/\k b=some r)/\(∃b,nilA h (.xf (xs.map (pvL ts)))=some b/\k b=some r):=by unfold Yf2 at hr;grind[nilA]
theorem Yu6{size:Nat}{i: TV}{k:TV->Option R}(hr:tixa h size x i k=some r):∃y:TV,ixA (erH h) size x.er i.er=some y.er/\k y=some r:=by
 unfold tixa at hr;obtain⟨n,h1,h2⟩:=Zge hr;simp only[ixA,h1];split at h2;rename_i ts xs;split at h2;rename_i hs;obtain⟨e,h3,h4⟩:=Yf5 hs h2;exact⟨_,h3,h4⟩;grind;rename_i ts xs;split at h2;rename_i hs;obtain⟨e,h3,h4⟩:=Yf5 hs h2;exact⟨_,h3,h4⟩;grind;split at h2;rename_i o ho;split at h2;rename_i hs;obtain⟨h3,h4⟩:=Qo h2;have h3:=of_decide_eq_true h3;exact⟨_,by simp only[TV.er,Yf ho];rw[if_pos ⟨by rw[show o.er.elems=o.el.er from rfl,TE.len_er];exact h3,hs⟩],h4⟩;grind;grind;split at h2;rename_i o ho;split at h2;rename_i hs;obtain⟨h3,h4⟩:=Qo h2;have h3:=of_decide_eq_true h3;exact⟨_,by simp only[TV.er,Yf ho];rw[if_pos ⟨h3,hs⟩],h4⟩;grind;grind;grind
theorem Yu7{k:Bool->Option R}(hr:tnil h x k=some r):∃b,nilA (erH h) x.er=some b/\k b=some r:=by
 unfold tnil at hr;split at hr;exact⟨_,rfl,hr⟩;exact⟨_,rfl,hr⟩;exact⟨_,rfl,hr⟩;exact(Yf6 hr).1;exact(Yf6 hr).2;split at hr;rename_i o ho;obtain⟨h1,h2⟩:=Zry hr;have h1:=of_decide_eq_false h1;rw[<- TE.len_er]at h1;refine⟨false,?_,h2⟩;simp only[TV.er,nilA,Yf ho];have:o.er.elems.isEmpty=false:=by show o.el.er.isEmpty=false;grind
 grind;grind;split at hr;rename_i o ho;obtain⟨h0,hr⟩:=Zry hr;have h0:=of_decide_eq_false h0;exact⟨false,by simp[TV.er,nilA,Yf ho,h0],hr⟩;grind;grind
theorem Yf7{cs:List TV}{off:Nat}{n:Option Nat}{v:TV}(h:Yf3 cs off n=some v):Zpw (erL cs) off n=some v.er:=by unfold Yf3 at h;grind[Zpw,TV.er,Yk,List.map_take,List.map_drop]
theorem Zux{k:List TV->Option R}(hr:tread h n x k=some r):∃cs,Xg (erH h) n x.er=some (erL cs)/\k cs=some r:=by
 unfold tread at hr;split at hr;rename_i t ver i off;split at hr;rename_i o ho;simp only[TV.er,Xg,Yf ho];split at hr;rename_i es hel;split at hr;rename_i e he;split at hr;rename_i hc;refine⟨_,?_,hr⟩;have:o.er.elems[i]? = some (erL e):=by show o.el.er[i]? = _;grind[TE.er]
 grind[Yk,List.map_take,List.map_drop];grind;grind;rename_i ts xs hel;split at hr;rename_i hc;split at hr;rename_i e he;refine⟨_,?_,hr⟩;have:o.er.elems[i]? = some ((pvL ts e).map .p):=by show o.el.er[i]? = _;grind[TE.er]
 grind[Zdx,Zh8,Yk,List.map_take,List.map_drop];grind;grind;grind;grind[TV.er,Xg,Zdx,Yk,List.map_take,Zh8];grind
variable {bytes:Nat}
theorem Zg8{len: Nat}(h:Ze len bytes=true):len*bytes<=Zx/\len<=maxLen:=by simpa[Ze]using h
variable {T:Nat}{es:TE}
theorem Yip{e size: Nat}{s:TV}{k:TV->TEff->Option R}(hr:Z4o h T e size bytes s es k=some r) :
    ∃(y:TV) (eff:TEff),Qh (erH h) T e size bytes s.er es.er=some (y.er,eff.er)/\k y eff=some r:=by
  unfold Z4o at hr;split at hr;split at hr;rename_i hf;obtain⟨h1,h2⟩:=Qo hr;have hb:=Zg8 h1;refine⟨_,_,?_,h2⟩;simp only[TV.er,Qh,TE.len_er];rw[if_pos ⟨TE.fits_er hf,hb⟩];rfl;grind;split at hr;rename_i o ho;split at hr;rename_i hc;split at hr;rename_i el hel;obtain⟨h1,h2⟩:=Qo hr;have hb:=Zg8 h1;refine⟨_,_,?_,h2⟩;simp only[TV.er,Qh,Yf ho];grind[TE.fits_er,TE.len_er,TEff.er,TObj.er,Zgd];grind;grind;grind;by_cases e0:es.len=0;grind[TE.len_er,TV.er,Qh,TEff.er];simp only[e0,decide_false,cond_false]at hr;split at hr;rename_i hf;obtain⟨h1,h2⟩:=Qo hr;have hb:=Zg8 h1;refine⟨_,_,?_,h2⟩;have:es.er≠[]:=by grind[TE.len_er]
  simp only[TV.er,Qh,TE.len_er];rw[if_neg this,if_pos ⟨TE.fits_er hf,hb⟩];rfl;grind;rename_i ts xs;split at hr;rename_i hc;split at hr;rename_i el hel;obtain⟨h0,hr⟩:=Zry hr;have h0:=of_decide_eq_false h0;obtain⟨h1,h2⟩:=Qo hr;have hb:=Zg8 h1;refine⟨_,_,?_,h2⟩;have hne:es.er.isEmpty=false:=by grind[TE.len_er]
  simp only[TV.er,Qh,hne,J0r,if_false];rw[if_pos ⟨Ybw hc.1 xs,TE.fits_er hc.2,by grind[TE.len_er]⟩];have h3:el.er=(xs.map λx=>(pvL ts x).map AV.p)++es.er:=Zgd hel;grind[TEff.er,TObj.er,Function.comp_def];grind;grind;rename_i t ver lo len ex;split at hr;rename_i o ho;split at hr;rename_i hc;split at hr;rename_i el hel;by_cases h0:es.len=0;simp only[h0,decide_true,cond_true]at hr;have he:es.er.isEmpty=true:=by grind[TE.len_er]
  refine⟨_,.none,?_,hr⟩;simp only[TV.er,Qh,Yf ho];rw[if_pos ⟨he,hc.2.1⟩];rfl;simp only[h0,decide_false,cond_false]at hr;obtain⟨h1,h2⟩:=Qo hr;have hb:=Zg8 h1;refine⟨_,_,?_,h2⟩;have hne:es.er.isEmpty=false:=by grind[TE.len_er]
  have hold:(o.er.elems.drop lo).take len=((o.el.drop lo).take len).er:=by rw[TE.take_er,TE.drop_er];rfl
  grind[TV.er,Qh,Yf,TE.fits_er,TE.len_er,TEff.er,TObj.er,Zgd];grind;split at hr;rename_i hc;obtain⟨hex,hlo,hoe,hosz,hfits⟩:=hc;subst hex;subst hlo;split at hr;rename_i el hel;by_cases h0:es.len=0;simp only[h0,decide_true,cond_true]at hr;have he:es.er.isEmpty=true:=by grind[TE.len_er]
  refine⟨_,.none,?_,hr⟩;simp only[TV.er,Qh,Yf ho];rw[if_pos ⟨he,hosz⟩];rfl;simp only[h0,decide_false,cond_false]at hr;obtain⟨h1,h2⟩:=Qo hr;rw[J0e]at h1;have hle:=of_decide_eq_true h1.1;have hb:=Zg8 h1.2;refine⟨_,_,?_,h2⟩;have hne:es.er.isEmpty=false:=by grind[TE.len_er]
  simp only[TV.er,Qh,Yf ho];grind[TE.len_er,TE.fits_er,TEff.er,TObj.er,Zgd,TE.take_er];grind;grind;grind;grind
theorem Yrn{size:Nat}{d:TV}{k:TV->TEff->Option R}(hr:Ykz h size d es k=some r) :
    ∃(y:TV) (eff:TEff),Zpx (erH h) size d.er es.er=some (y.er,eff.er)/\k y eff=some r:=by
  unfold Ykz at hr;split at hr;exact⟨_,_,rfl,hr⟩;split at hr;rename_i o ho;split at hr;rename_i hc;split at hr;rename_i el hel;refine⟨_,_,?_,hr⟩;simp only[TV.er,Zpx,Yf ho];grind[TE.fits_er,Zgd,TE.take_er,TE.drop_er,TE.len_er,TEff.er,TObj.er,CT.pv];grind;grind;grind;split at hr;rename_i o ho;split at hr;rename_i hc;split at hr;rename_i el1 hel1;split at hr;rename_i el hel;obtain⟨h1,h2⟩:=Qo hr;have h1:=of_decide_eq_true h1;refine⟨_,_,?_,h2⟩;simp only[TV.er,Zpx,Yf ho];rw[if_pos ⟨hc.1,TE.fits_er hc.2,by rw[show o.er.elems=o.el.er from rfl,TE.len_er];exact h1⟩];have g1:=Zgd hel1;grind[Zgd,TE.take_er,TE.drop_er,TE.len_er,TEff.er,TObj.er,CT.pv];grind;grind;grind;grind;grind
theorem Yk1{a: TV}{k:TV->TEff->Option R}(hr:Ybu h n a x k=some r){ρ:AOpd->AV}{oa ox:AOpd}(ha:ρ oa=a.er)(hx:ρ ox=x.er) :
    ∃(y:TV) (eff:TEff),Zb (erH h) T ρ (.store n oa ox)=some (y.er,eff.er)/\k y eff=some r:=by
  unfold Ybu at hr;split at hr;rename_i cs t ver i off hcs;simp only[Zb,ha,hx,Zqe hcs,TV.er];split at hr;rename_i o ho;simp only[Yf ho];split at hr;grind[Y9,TEff.er,TObj.er,TE.er,TV.er,List.map_set,Yfz];rename_i ts xs hel;split at hr;rename_i hc;split at hr;grind[Y9,Zdx,TEff.er,TObj.er,TE.er,TV.er,List.map_set,Z4k];grind;grind;grind;grind
theorem Yro{ρ' : AOpd->AV}(hρ:∀o,(ρ o).er=ρ' o){op:AOp}{k:TV->TEff->Option R}(hr:Z2k h T ρ op k=some r) :
    ∃(y:TV) (eff:TEff),Zb (erH h) T ρ' op=some (y.er,eff.er)/\k y eff=some r:=by
  obtain rfl:(λo=>(ρ o).er)=ρ' := funext hρ;cases op<;>simp only[Z2k]at hr
  case mv x=>exact⟨_,_,rfl,hr⟩
  case pick c a b =>
   split at hr;rename_i v hv;have hc:(ρ c).er = .p (.bool v):=by rw[hv];rfl
   cases v with|true=>exact⟨_,_,by simp only[Zb,hc,if_true];rfl,hr⟩|false=>exact⟨_,_,by simp only[Zb,hc,J0r,if_false];rfl,hr⟩
   grind
  case box e size x => split at hr;rename_i cs hcs;split at hr;rename_i hc;refine⟨_,_,?_,hr⟩;simp only[Zb,Zqe hcs,Y9];rw[if_pos hc];rfl;grind;grind
  case build zero parts =>
   split at hr;rename_i cs hcs;refine⟨_,_,?_,hr⟩;have:=Z2h hcs;have hz:erL (zero.map ofC)=zero:=by rw[Yk,List.map_map];refine(List.map_congr_left λx _=>?_).trans (List.map_id _);exact Zrw x
   simp only[List.map_map,Function.comp_def,hz]at this;simp only[Zb,this];rfl;grind
  case bslice e size len zero parts =>
   split at hr;rename_i es hes;split at hr;rename_i hc;refine⟨_,_,?_,hr⟩;have:=Z2i hes;have hz:erL (zero.map ofC)=zero:=by rw[Yk,List.map_map];refine(List.map_congr_left λx _=>?_).trans (List.map_id _);exact Zrw x
   grind[Function.comp_def,List.map_replicate,Zb,TV.er,TEff.er,TObj.er,Yfy];grind;grind
  case load n x => cases n with|some n=>simp only at hr;obtain⟨cs,h1,h2⟩:=Zux hr;exact⟨_,_,by simp only[Zb,h1];rfl,h2⟩|none => simp only at hr;obtain⟨cs,h1,h2⟩:=Zux hr;split at h2;exact⟨_,_,by simp only[Zb,h1,erL];rfl,h2⟩;grind
  case store n a x=>exact Yk1 hr rfl rfl
  case nilchk x => split at hr;rename_i t ver i off hx;split at hr;rename_i o ho;exact⟨_,_,by simp only[Zb,hx,TV.er,Yf ho];rfl,hr⟩;grind;rename_i ts e hx;exact⟨_,_,by simp only[Zb,hx,TV.er];rfl,hr⟩;rename_i f cs hx;exact⟨_,_,by simp only[Zb,hx,TV.er];rfl,hr⟩;grind
  case bin op x y=>obtain⟨v,z,h1,h2,h3⟩:=Yu4 hr;exact⟨z,.none,by simp only[Zb,h1,h2];rfl,h3⟩
  case beq neg x y => split at hr;rename_i a b hx hy;exact⟨_,_,by simp only[Zb,hx,hy,TV.er,CT.pv];rfl,hr⟩;grind
  case eqnil neg x=>obtain⟨b,h1,h2⟩:=Yu7 hr;exact⟨_,_,by simp only[Zb,h1];rfl,h2⟩
  case eqagg neg size ix x y => split at hr;rename_i xs ys hx hy;split at hr;rename_i hc;split at hr;rename_i b hb;refine⟨_,_,?_,hr⟩;simp only[Zb,hx,hy,TV.er,Y9];rw[if_pos hc,Yf4 hb];rfl;grind;grind;grind
  case un op x => split at hr;rename_i v hv;obtain⟨w,h1,h2⟩:=Yye hv;exact⟨_,_,by simp only[Zb,h1,h2];rfl,hr⟩;grind
  case conv kd x => split at hr;rename_i k' n hx;exact⟨_,_,by simp only[Zb,hx,TV.er,CT.pv];rfl,hr⟩;grind
  case bstr x => split at hr;rename_i e hx;split at hr;rename_i s hs;exact⟨_,_,by simp only[Zb,Zrx hx,Yin hs,TV.er,CT.pv];rfl,hr⟩;grind;grind
  case eqi neg x => split at hr;rename_i b hx;exact⟨_,_,by simp only[Zb,hx,TV.er];rfl,hr⟩;grind
  case convs x => split at hr;rename_i s hx;exact⟨_,_,by simp only[Zb,hx,TV.er,CT.pv];rfl,hr⟩;grind
  case mksl e size bytes zero len cap =>
   obtain⟨n,h1,h2⟩:=Zge hr;obtain⟨c,h3,h4⟩:=Zge h2;split at h4;rename_i hc;obtain⟨h5,h6⟩:=Qo h4;simp only[J0e,J0h]at h5;have hz:erL (zero.map ofC)=zero:=by rw[Yk,List.map_map];refine(List.map_congr_left λx _=>?_).trans (List.map_id _);exact Zrw x
   simp only[Zb,h1,h3];rw[if_pos ⟨h5.1,h5.2.1,h5.2.2,hc⟩];split at h6;split at h6;rename_i z hz';refine⟨_,_,?_,h6⟩;have:=Zuu hz';rw[hz]at this;simp[TV.er,TEff.er,TObj.er,TE.er,this];grind;refine⟨_,_,?_,h6⟩;simp[TV.er,TEff.er,TObj.er,TE.er,hz];grind
  case slice size x lo hi mx=>obtain⟨y,h1,h2⟩:=Yk0 hr;exact⟨y,.none,by simp only[Zb,h1];rfl,h2⟩
  case sstr x lo hi => split at hr;rename_i s hx;obtain⟨l,n,b,h1,h2⟩:=Yrl (ex:=true) hr;refine⟨_,_,?_,h2⟩;simp only[Zb,hx,TV.er,CT.pv];have h1' : bndA (List.length s) true (λo=>(ρ o).er) lo hi none=some (l,n,b):=h1;rw[h1'];rfl;grind
  case fld off x => split at hr;rename_i t ver i o hx;split at hr;rename_i p hp;exact⟨_,_,by simp only[Zb,hx,TV.er,Yf hp];rfl,hr⟩;grind;rename_i ts e hx;exact⟨_,_,by simp only[Zb,hx,TV.er];rw[<- Zwk];rfl,hr⟩;grind
  case field off n x => split at hr;rename_i cs hx;split at hr;rename_i v hv;exact⟨_,_,by simp only[Zb,hx,TV.er,Yf7 hv];rfl,hr⟩;grind;grind
  case ixa size x i=>obtain⟨y,h1,h2⟩:=Yu6 hr;exact⟨y,.none,by simp only[Zb,h1];rfl,h2⟩
  case ixarr len size x i => obtain⟨n,h1,h2⟩:=Zge hr;obtain⟨h3,h4⟩:=Z4p h2;simp only[Zb,h1];rw[if_pos h3];split at h4;rename_i t ver i o hx;split at h4;rename_i p hp;exact⟨_,_,by simp only[hx,TV.er,Yf hp];rfl,h4⟩;grind;rename_i ts e hx;exact⟨_,_,by simp only[hx,TV.er];rw[<- Zwk];rfl,h4⟩;grind
  case ixv len size m x i => obtain⟨n,h1,h2⟩:=Zge hr;obtain⟨h3,h4⟩:=Z4p h2;simp only[Zb,h1];rw[if_pos h3];split at h4;rename_i cs hx;split at h4;rename_i v hv;exact⟨_,_,by simp only[hx,TV.er,Yf7 hv];rfl,h4⟩;grind;grind
  case ixs x i => obtain⟨n,h1,h2⟩:=Zge hr;split at h2;rename_i s hx;obtain⟨b,hb,h3⟩:=Yrm h2;refine⟨_,_,?_,h3⟩;simp only[Zb,h1,hx,TV.er,CT.pv];rw[hb];rfl;grind
  case extract i x => split at hr;rename_i vs hx;split at hr;rename_i v hv;exact⟨_,_,by simp only[Zb,hx,TV.er,Zb0,hv,Option.map_some];rfl,hr⟩;grind;grind
  case len x => split at hr;rename_i n hn;exact⟨_,_,by simp only[Zb,Yu5 hn];rfl,hr⟩;grind
  case lens x => split at hr;rename_i s hx;exact⟨_,_,by simp only[Zb,hx,TV.er,CT.pv];rfl,hr⟩;grind
  case capn x => split at hr;rename_i hx;exact⟨_,_,by simp only[Zb,hx,TV.er];rfl,hr⟩;grind
  case appz e size bytes zero s n =>
   split at hr;rename_i hs;obtain⟨m,h1,h2⟩:=Zge hr;split at h2;rename_i hc;obtain⟨h5,h6⟩:=Qo h2;simp only[J0e,J0h]at h5;have hb:=Zg8 h5.2;have hz:erL (zero.map ofC)=zero:=by rw[Yk,List.map_map];refine(List.map_congr_left λx _=>?_).trans (List.map_id _);exact Zrw x
   simp only[Zb,h1,hs,TV.er];rw[if_pos ⟨h5.1,hb.1,hb.2,hc⟩];split at h6;split at h6;rename_i z hz';refine⟨_,_,?_,h6⟩;have:=Zuu hz';rw[hz]at this;simp[TV.er,TEff.er,TObj.er,TE.er,this];grind;refine⟨_,_,?_,h6⟩;simp[TV.er,TEff.er,TObj.er,TE.er,hz];grind;grind
  case append e size bytes s x=>grind[Yip,Zb,Zrx]
  case copy size d s=>grind[Yrn,Zb,Zrx]
  case mm mx x y => split at hr;rename_i kd a k' b hx hy;refine⟨_,_,?_,hr⟩;simp only[Zb,hx,hy,TV.er,CT.pv];rfl;grind
  case mkfn f caps=>grind[Zb,TV.er,Yk,Function.comp_def,TEff.er]
  all_goals cases hr
end
end Go.Abs
