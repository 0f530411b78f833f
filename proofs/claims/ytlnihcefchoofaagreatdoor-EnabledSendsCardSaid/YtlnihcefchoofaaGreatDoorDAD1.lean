import Derived.Test.YtlnihcefchoofaaGreatDoorDWJ0
import Derived.Test.YtlnihcefchoofaaGreatDoorDWP
import Derived.Deep.Upon
import Derived.Deep.CutRange
set_option linter.all false
namespace Tj
open Go Go.RowKit Go.Proofs
section
variable {P:Program} {Q:Exit->Act->World->Prop} {md:Region.Mode} {S:World->Prop} {l:List Oper} {sk:List Nat×List Nat} {f n k:Nat} {a:Act} {w:World} {oi:Oper} {d:Option Tmp} {v:Value} {op:Op} {ty:TypeId} {ps:String} {af:Array Edge} {gd:Option (Nat×Bool)}
abbrev wpR(P:Program)(md:Region.Mode)(l:List Oper)(Q:Exit->Act->World->Prop)(S:World->Prop):=wpN P md l Q (λ_=>S) 99
variable {id:Nat}
theorem Zrd(n:Nat)(S:World->Prop)(hS:S w.drew)(h:S w.drew->wpR P .any l Q S ([],[]) n 0 a w.drew)
    (hn:l.toArray.size=n:=by kernel_rfl) (hm:P.follows .mixedOrders=true:=by kernel_rfl) (hc:((Array.replicate n false).toList==(lsd l.length 0 ([],[])).toList)=true:=by kernel_rfl):(Code.region id l.toArray true).wp P Q a w:=Z24 99 n ([],[]) (λ_=>S) hS h hn hm hc
theorem R_go(hS:S w)(hi:nth l n=some ⟨d,op,ty,ps,af,gd⟩)(hw:Region.wanted ⟨d,op,ty,ps,af,gd⟩ (yielded l.toArray a.tmps)=true)
    (hy:∀w,S w->(execOp a.eval ⟨d,op,ty,ps,af,gd⟩).run P w = .ok (.value v) w) (h:wpR P md l Q S sk f (n+1) (a.put d v) w)
    (hQ:∀c a w,Q (.panic c) (a.put d v) w->Q (.panic c) a w:=by exact λ_ _ _ h=>h) (hc:okN md l 99 sk false true n=true:=by kernel_rfl):wpR P md l Q S sk (f+1) n a w:=N_go false true (λ_ h=>h) hS hi hQ hw hy h hc
theorem Zy8(hS:S w)(hi:nth l n=some ⟨d,op,ty,ps,af,gd⟩)(hw:Region.wanted ⟨d,op,ty,ps,af,gd⟩ (yielded l.toArray a.tmps)=false)(h:wpR P md l Q S sk f (n+1) (a.put d undef) w)
    (hQ:∀c a w,Q (.panic c) (a.put d undef) w->Q (.panic c) a w:=by exact λ_ _ _ h=>h) (hc:okN md l 99 sk false true n=true:=by kernel_rfl):wpR P md l Q S sk (f+1) n a w:=Z8x false true (λ_ h=>h) hS hi hQ hw h hc
theorem Zjr(ho:nth l n=some oi)
    (h:∀K' : Act->World->Prop,Shut (∀a w,S w->(S w->wpR P md l Q S sk f (n+1) a w)->K' a w)->if Region.wanted oi (yielded l.toArray a.tmps)=true then Oper.wp P oi a w K' Q else K' (a.put oi.dst undef) w)
    (hc:(decide (Region.ready md l.toArray (lsd l.length n sk)=[n])&&(((lsd l.length n sk).setIfInBounds n true).getD 99 true==true&&Z23 l sk n))=true:=by kernel_rfl):wpR P md l Q S sk (f+1) n a w:=Zhy true ho h hc
theorem Y0z{i j:Nat}{oj:Oper}(s1 s2:List Nat×List Nat)(n1 n2:Nat)(hi:nth l i=some oi)(hj:nth l j=some oj)
    (h1:∀K' : Act->World->Prop,Shut (∀a w,S w->(S w->wpR P md l Q S s1 f n1 a w)->K' a w)->if Region.wanted oi (yielded l.toArray a.tmps)=true then Oper.wp P oi a w K' Q else K' (a.put oi.dst undef) w)
    (h2:∀K' : Act->World->Prop,Shut (∀a w,S w->(S w->wpR P md l Q S s2 f n2 a w)->K' a w)->if Region.wanted oj (yielded l.toArray a.tmps)=true then Oper.wp P oj a w K' Q else K' (a.put oj.dst undef) w)
    (hr:Region.ready md l.toArray (lsd l.length n sk)=[i,j]:=by kernel_rfl)
    (hc:(((lsd l.length n sk).setIfInBounds i true).getD 99 true&&(((lsd l.length n sk).setIfInBounds j true).getD 99 true&&((((lsd l.length n sk).setIfInBounds i true).toList==(lsd l.length n1 s1).toList)&&(((lsd l.length n sk).setIfInBounds j true).toList==(lsd l.length n2 s2).toList))))=true:=by kernel_rfl):wpR P md l Q S sk (f+1) n a w:=by
  simp only[J0e]at hc;obtain⟨h3,h4,h5,h6⟩:=hc;exact Zeh hr (by simp) (AllT.cons' true h3 hi (λK hK=>h1 K (λa w hs hp=>hK.out a w hs λh=>N_in s1 n1 (hp h) h5)) (AllT.cons' true h4 hj (λK hK=>h2 K (λa w hs hp=>hK.out a w hs λh=>N_in s2 n2 (hp h) h6)) AllT.nil))
abbrev wpM(P:Program)(md:Region.Mode)(l:List Oper)(Q:Exit->Act->World->Prop)(S:World->Prop)(k:Nat):=wpN P md l Q (λb w=>b=false->S w) k
theorem Y00(k n:Nat)(S:World->Prop)(hS:S w.drew)(h:S w.drew->wpM P .any l Q S k ([],[]) n 0 a w.drew)
    (hn:l.toArray.size=n:=by kernel_rfl) (hm:P.follows .mixedOrders=true:=by kernel_rfl) (hc:((Array.replicate n false).toList==(lsd l.length 0 ([],[])).toList)=true:=by kernel_rfl):(Code.region id l.toArray true).wp P Q a w:=Z24 k n ([],[]) (λb w=>b=false->S w) (λ_=>hS) (λh1=>h (h1 rfl)) hn hm hc
theorem M_go(hS:S w)(hi:nth l n=some ⟨d,op,ty,ps,af,gd⟩)(hw:Region.wanted ⟨d,op,ty,ps,af,gd⟩ (yielded l.toArray a.tmps)=true)
    (hy:∀w,S w->(execOp a.eval ⟨d,op,ty,ps,af,gd⟩).run P w = .ok (.value v) w) (h:wpM P md l Q S k sk f (n+1) (a.put d v) w)
    (hQ:∀c a w,Q (.panic c) (a.put d v) w->Q (.panic c) a w:=by exact λ_ _ _ h=>h) (hc:okN md l k sk true false n=true:=by kernel_rfl):wpM P md l Q S k sk (f+1) n a w:=N_go true false (λ_ _ h=>by cases h) (λ_=>hS) hi hQ hw (λw h=>hy w (h rfl)) h hc
theorem Yxj(ho:nth l n=some oi)
    (h:∀K' : Act->World->Prop,Shut (∀a w,wpM P md l Q S k sk f (n+1) a w->K' a w)->if Region.wanted oi (yielded l.toArray a.tmps)=true then Oper.wp P oi a w K' Q else K' (a.put oi.dst undef) w)
    (hc:(decide (Region.ready md l.toArray (lsd l.length n sk)=[n])&&(((lsd l.length n sk).setIfInBounds n true).getD k true==true&&Z23 l sk n))=true:=by kernel_rfl):wpM P md l Q S k sk (f+1) n a w:=Zhy true ho (λK hK=>h K (λa w hp=>hK.out a w (λh=>by cases h) (λ_=>hp))) hc
end
theorem Xv{P:Program}{op:Oper}{a:Act}{w:World}(ty:TypeId)(x:Operand)(ho:op.op = .load ty x)
    (b o:Nat) (hx:a.eval x = .pointer (some ⟨b,o,none⟩)) (cs:List Value) (d:TypeDesc) (hc:w.rangeAt b o cs)
    (hu:P.underlying ty=some d) (hd:d.isRow=true) (hi:(P.info? ty).map (·.size)=some cs.length):(execOp a.eval op).run P w = .ok (.value (.agg cs.toArray)) w:=by
  unfold execOp;simp only[ho,hx,Instr.loadAt,Instr.sureAddr,Sem.run_bind,Sem.run_pure,Result.andThen_ok,run_loadVar_mid w b o ty cs d hc hu hd hi]
end Tj
set_option maxRecDepth 100000
namespace Tj
open Go Go.RowKit Go.Proofs Go.Abs
abbrev Ent:=Tg.Ent
def entL(x:Ent):List Value:=[.int .i64 x.1,.int .i64 x.2.1,.int .i64 x.2.2.1,.int .i64 x.2.2.2.1,.int .i64 x.2.2.2.2.1,.int .i64 x.2.2.2.2.2.1,.int .i64 x.2.2.2.2.2.2.1,.int .i64 x.2.2.2.2.2.2.2.1,.int .i64 x.2.2.2.2.2.2.2.2.1,.int .i64 x.2.2.2.2.2.2.2.2.2.1,.int .i64 x.2.2.2.2.2.2.2.2.2.2.1]
def entA(x:Ent):Array Value:=#[.int .i64 x.1,.int .i64 x.2.1,.int .i64 x.2.2.1,.int .i64 x.2.2.2.1,.int .i64 x.2.2.2.2.1,.int .i64 x.2.2.2.2.2.1,.int .i64 x.2.2.2.2.2.2.1,.int .i64 x.2.2.2.2.2.2.2.1,.int .i64 x.2.2.2.2.2.2.2.2.1,.int .i64 x.2.2.2.2.2.2.2.2.2.1,.int .i64 x.2.2.2.2.2.2.2.2.2.2.1]
def Ym(es:List Ent):List Value:=es.flatMap entL
theorem Zip(x:Ent):(entL x).length=11:=rfl
theorem Zd8:∀es:List Ent,(Ym es).length=es.length*11|[]=>rfl|x::es=>by have:=Zd8 es;grind[Ym,Zip]
noncomputable def ordI(x y:Ent):Int:=Classical.choose (Tg.Z5t x y)
theorem Yxk(x y:Ent):Tg.Zhd x y=some (ordI x y,()):=(Classical.choose_spec (Tg.Z5t x y)).1
abbrev no:Nat->Prop:=λ_=>False
variable {O:Nat->Prop}
theorem Zy9{w:World}:∀{l:List Int} {i:Nat} {x:PV} {v:Value},(l.map λn=>PV.int .i64 n)[i]? = some x->(l.map λn=>Value.int .i64 n)[i]? = some v->PRel w O x v:=λ{l i x v} h1 h2=>by
 rw[J0m]at h1 h2;cases h:l[i]? with|none=>grind|some n=>rw[h]at h1 h2;cases h1;cases h2;exact .int _ _
abbrev entI(x:Ent):List Int:=[x.1,x.2.1,x.2.2.1,x.2.2.2.1,x.2.2.2.2.1,x.2.2.2.2.2.1,x.2.2.2.2.2.2.1,x.2.2.2.2.2.2.2.1,x.2.2.2.2.2.2.2.2.1,x.2.2.2.2.2.2.2.2.2.1,x.2.2.2.2.2.2.2.2.2.2.1]
theorem Yhu{w:World}(x:Ent):PARel w O (.a ((entI x).map λn=>PV.int .i64 n)) (.agg (entA x)):=.a _ _ rfl λi p v h1 h2=>Zy9 (l:=entI x) h1 (by rw[<- Array.getElem?_toList]at h2;exact h2)
variable {W:World}
theorem Ysx(x y:Ent)(hg:Zv W.heap.size W):Calls Tryz.prog 183 #[.agg (entA x),.agg (entA y)] W λe w' => e = .returned (.int .i64 (ordI x y))/\Below W.heap.size W w' := by
 have h:=Tg.Ytt (x,y,()) (ordI x y,()) (Yxk x y);refine(h no W #[.agg (entA x),.agg (entA y)] (λ_ h=>h.elim) hg ⟨rfl,λi p v hp hv=>?_⟩).mono λe w' ⟨v,ι,he,_,hr,hv⟩=>?_
 match i,hp,hv with|0,hp,hv=>cases hp;cases hv;exact Yhu x|1,hp,hv=>cases hp;cases hv;exact Yhu y
 cases hv with|p _ _ hp=>cases hp;exact⟨he,hr.below⟩
theorem Qy:(Tryz.prog.info? 152).map (·.size)=some 11:=by kernel_rfl
abbrev EnR(W:World)(B:Nat)(v:Value)(es:List Ent):Prop:=W.ownsRow B 152 11 v es.length (Ym es)
theorem Z98:∀{es:List Ent} {i:Nat} {x:Ent},es[i]? = some x -> ∀{j:Nat} {u:Value},(entL x)[j]? = some u->(Ym es)[i*11+j]? = some u|[],i,x,h,j,u,hj=>by simp at h|y::es,0,x,h,j,u,hj=>by grind[Ym]|y::es,i+1,x,h,j,u,hj=>by have ih:=Z98 (es:=es) (i:=i) (by simpa using h) hj;grind[Ym,Zip]
theorem EnR.range{B g c n:Nat}{es:List Ent}(h:W.ownsRow B 152 11 (.slice (some ⟨g,0,none⟩) n c) es.length (Ym es)){i:Nat}{x:Ent}(hx:es[i]? = some x):W.rangeAt g (i*11) (entL x):=λj u hj=>by
 have hn:n=es.length:=by
  rcases h.2 with⟨h1,_⟩|⟨g',cap,cur,h1,_⟩
  cases h1;cases h1;rfl
 subst hn;have hi:=(J0d.1 hx).1;have hj2:=(J0d.1 hj).1;rw[Zip]at hj2;rw[h.cellAt _ (by omega)];exact Z98 hx hj
end Tj
namespace Tj
open Go Go.RowKit Go.Proofs Go.Abs
theorem Zt0{w w' : World}(h:Zv w.heap.size w)(hb:Below w.heap.size w w'):Zv w'.heap.size w' := ⟨Nat.le_trans h.1 hb.size,Glob.stable w w' h.2 (hb.mono h.1)⟩
theorem Zdi(w:World)(o:Obj):Below w.heap.size w (w.alloc o):=(Below.refl _ _).alloc (Nat.le_refl _) _
structure Bx1(w wr:World) (x:Array Value):Prop where
 near:Below w.heap.size w wr
 box:wr.rangeAt w.heap.size 0 x.toList
 size:w.heap.size<wr.heap.size
theorem Bx1.start(w:World)(x:Array Value):Bx1 w (w.alloc (.cells x 152)) x:=⟨Zdi w _,λj u hj=>by rw[Nat.zero_add];exact(Yc (heap_alloc_new w (.cells x 152)) (by rw[<- Array.getElem?_toList];exact hj)).1,by simp⟩
variable {wr:World}
theorem Zbc{w: World}{n g o:Nat}{cs:List Value}(hb:Below n w wr)(hg:g<n)(h:w.rangeAt g o cs):wr.rangeAt g o cs:=λj u hj=>by have:=h j u hj;exact(hb.cell (p:=⟨g,o+j,none⟩) hg).trans this
variable {x:Array Value}
theorem Bx1.next{w w1: World}(h:Bx1 w wr x)(hb:Below wr.heap.size wr w1):Bx1 w w1 x:=⟨h.near.trans (hb.mono h.near.size),Zbc hb h.size h.box,Nat.lt_of_lt_of_le h.size hb.size⟩
theorem Bx1.drew{w: World}(h:Bx1 w wr x):Bx1 w wr.drew x:=⟨h.near.drew,h.box,h.size⟩
def bsK(k:Nat->Int)(lo hi:Nat):Nat:=if h:lo<hi then(if k ((lo+hi) / 2)<0 then bsK k ((lo+hi) / 2+1) hi else bsK k lo ((lo+hi) / 2))else lo
termination_by hi-lo
variable {k:Nat->Int}{lo hi:Nat}
theorem Ypb(h:lo<hi)(hk:k ((lo+hi) / 2)<0):bsK k lo hi=bsK k ((lo+hi) / 2+1) hi:=by rw[bsK,dif_pos h,if_pos hk]
theorem Ypc(h:lo<hi)(hk:¬k ((lo+hi) / 2)<0):bsK k lo hi=bsK k lo ((lo+hi) / 2):=by rw[bsK,dif_pos h,if_neg hk]
theorem Zu9(h:¬lo<hi):bsK k lo hi=lo:=by rw[bsK,dif_neg h]
set_option maxHeartbeats 4000000 in
theorem Z99(XA:Array Value)(hX:XA.size=11)(k:Nat->Int)(YA:Nat->Array Value)(n g c:Nat)(w:World)(hn:n<=100000)(hY:∀i,i<n->(YA i).size=11/\w.rangeAt g (i*11) (YA i).toList)(hgl:g<w.heap.size)
    (hC:∀i W,i<n->Below w.heap.size w W->Calls Tryz.prog 183 #[.agg (YA i),.agg XA] W λe w' => e = .returned (.int .i64 (k i))/\Below W.heap.size W w') :
    Calls Tryz.prog 231 #[.slice (some ⟨g,0,none⟩) n c,.agg XA,.func (.func 183) #[] #[]] w λe w' =>
     e = .returned (.tuple #[.int .i64 (bsK k 0 n:Nat),.bool (decide (bsK k 0 n<n)&&decide (k (bsK k 0 n)=0))])/\Below w.heap.size w w' := by
  have HY:=Lib.hid hY;have HC:=Lib.hid hC;have HN:=Lib.hid (Bx1.start w XA);have hXl:XA.toList.length=11:=by simpa using hX
  clear hY hC;generalize hR:bsK k 0 n=R;have H0:=Lib.hid hR;clear hR;go_enter Tryz.func231,Tryz.ntmps231;go_wp2;go_loopg[9,10] n (λkx s9 s10 wr=>∃lo hi:Nat,s9 = .int .i64 lo/\s10 = .int .i64 hi/\lo<=hi/\hi<=n/\hi-lo<=kx/\Aside (bsK k lo hi=R)/\Aside (Bx1 w wr XA))
  case atStart=>exact⟨0,n,rfl,rfl,Nat.zero_le _,Nat.le_refl _,by omega,H0.out,HN.out⟩
  case round =>
   obtain⟨lo,hi,rfl,rfl,hlh,hin,hgg,S1,I⟩:=hrel;by_cases hlt:lo<hi
   . have HYh:=Lib.hid (HY.out ((lo+hi) / 2) (by omega));have hl1:(YA ((lo+hi) / 2)).toList.length=11:=by simpa using HYh.out.1
     have HCh:=Lib.hid (λW hb=>HC.out ((lo+hi) / 2) W (by omega) hb);have e1:=S1.out;have HI:=Lib.hid I.out;clear H0 HY HC HN S1 I;go_upto_region 5 with fail
     have hidx:((lo:Int)+(hi:Int)) / 2=(((lo+hi) / 2:Nat):Int):=by omega
     have hidl:(lo+hi) / 2<n:=by omega
     have hid2:lo<=(lo+hi) / 2/\(lo+hi) / 2<hi:=by omega
     simp only[hidx];have E2:∀kx,k ((lo+hi) / 2)=kx->(kx<0->bsK k ((lo+hi) / 2+1) hi=R)/\(¬kx<0->bsK k lo ((lo+hi) / 2)=R):=λkx hx=>⟨λh=>by rw[<- Ypb hlt (by rw[hx];exact h)];exact e1,λh=>by rw[<- Ypc hlt (by rw[hx];exact h)];exact e1⟩;have HE:=Lib.hid E2;clear E2 e1;generalize (lo+hi) / 2=h at *;refine Zrd 8 (λw' => Bx1 w w' XA) (HI.out.drew) (λhS=>?_)
     iterate 4(first|(refine R_go (v:=?_) hS rfl (by rfl) ?_ ?_;rotate_left;(focus(intro wS hSw;go_simp<;>first|rfl|rw[if_pos (by omega)]));try simp only[Act.put,pA,pB,pC])|(refine Zy8 hS rfl (by rfl) ?_;try simp only[Act.put,pA,pB,pC]))
     refine R_go (v:=.agg ((YA (h)).toList).toArray) hS rfl (by rfl) ?_ ?_;intro wS hSw;exact Xv 152 (.tmp 27) rfl (g) ((h)*11) rfl ((YA (h)).toList) _ (Zbc hSw.near hgl HYh.out.2) Tryz.underlying152 rfl (by rw[hl1];exact Qy);try simp only[Act.put,pA,pB,pC]
     refine R_go (v:=.agg (XA.toList).toArray) hS rfl (by rfl) ?_ ?_;intro wS hSw;exact Xv 152 (.tmp 4) rfl (w.heap.size) (0) rfl (XA.toList) _ (hSw.box) Tryz.underlying152 rfl (by rw[hXl];exact Qy);try simp only[Act.put,pA,pB,pC]
     refine Zjr rfl (λK hK=>?_);go_simp;refine(HCh.out _ hS.near).mono ?_;rintro e w1 ⟨rfl,hb1⟩;refine hK.out _ _ (hS.next hb1) (λhS=>?_);clear hK K;try simp only[Act.put,pA,pB,pC]
     iterate 1(first|(refine R_go (v:=?_) hS rfl (by rfl) ?_ ?_;rotate_left;(focus(intro wS hSw;go_simp<;>first|rfl|rw[if_pos (by omega)]));try simp only[Act.put,pA,pB,pC])|(refine Zy8 hS rfl (by rfl) ?_;try simp only[Act.put,pA,pB,pC]))
     refine Zci ?_;obtain⟨E1,E2⟩:=HE.out (k h) rfl;have HS:=Lib.hid hS;have HE1:=Lib.hid E1;have HE2:=Lib.hid E2;clear hS E1 E2 HE HYh HCh HI hb1 hl1;generalize k h=kh at *;by_cases hyx:kh<0
     . go_wp2;go_roundg(hi-(h+1))
       case measure=>omega
       case rel=>exact⟨h+1,hi,by rw[show((h:Int)+1)=((h+1:Nat):Int) by omega],rfl,by omega,hin,Nat.le_refl _,HE1.out hyx,HS.out⟩
     . go_wp2;go_roundg(h-lo)
       case measure=>omega
       case rel=>exact⟨lo,h,rfl,rfl,by omega,by omega,Nat.le_refl _,HE2.out hyx,HS.out⟩
   . obtain rfl:hi=lo:=by omega
     have eR:R=hi:=by have:=S1.out;rw[Zu9 (by omega)]at this;exact this.symm
     have HI:=Lib.hid I.out;subst eR;clear S1 I HN H0;go_upto_region 8 with fail
     by_cases hln:R<n
     . have hlnI:(R:Int)<(n:Int):=by omega
       have hlnD:decide ((R:Int)<(n:Int))=true:=decide_eq_true hlnI;have HYh:=Lib.hid (HY.out R hln);have hl1:(YA R).toList.length=11:=by simpa using HYh.out.1
       have HCh:=Lib.hid (λW hb=>HC.out R W hln hb);clear HY HC;refine Zrd 16 (λw' => Bx1 w w' XA) (HI.out.drew) (λhS=>?_)
       iterate 9(first|(refine R_go (v:=?_) hS rfl (by rfl) ?_ ?_;rotate_left;(focus(intro wS hSw;go_simp<;>first|rfl|rw[if_pos (by omega)]));try simp only[Act.put,pA,pB,pC])|(refine Zy8 hS rfl (by rfl) ?_;try simp only[Act.put,pA,pB,pC]))
       refine R_go (v:=.agg ((YA R).toList).toArray) hS rfl (by rfl) ?_ ?_;intro wS hSw;exact Xv 152 (.tmp 43) rfl (g) (R*11) rfl ((YA R).toList) _ (Zbc hSw.near hgl HYh.out.2) Tryz.underlying152 rfl (by rw[hl1];exact Qy);try simp only[Act.put,pA,pB,pC]
       refine R_go (v:=.agg (XA.toList).toArray) hS rfl (by rfl) ?_ ?_;intro wS hSw;exact Xv 152 (.tmp 4) rfl (w.heap.size) (0) rfl (XA.toList) _ (hSw.box) Tryz.underlying152 rfl (by rw[hXl];exact Qy);try simp only[Act.put,pA,pB,pC]
       refine Zjr rfl (λK hK=>?_);go_simp;refine(HCh.out _ hS.near).mono ?_;rintro e w1 ⟨rfl,hb1⟩;refine hK.out _ _ (hS.next hb1) (λhS=>?_);clear hK K;try simp only[Act.put,pA,pB,pC]
       iterate 4(first|(refine R_go (v:=?_) hS rfl (by rfl) ?_ ?_;rotate_left;(focus(intro wS hSw;go_simp<;>first|rfl|rw[if_pos (by omega)]));try simp only[Act.put,pA,pB,pC])|(refine Zy8 hS rfl (by rfl) ?_;try simp only[Act.put,pA,pB,pC]))
       refine Zci ?_;have hN:=hS.near;go_wp2;go_ret2;exact⟨by simp[hln];rw[Bool.eq_iff_iff];simp,hN⟩
     . have hlnI:¬(R:Int)<(n:Int):=by omega
       have hlnD:decide ((R:Int)<(n:Int))=false:=decide_eq_false hlnI;clear HY HC;refine Zrd 16 (λw' => Bx1 w w' XA) (HI.out.drew) (λhS=>?_)
       iterate 16(first|(refine R_go (v:=?_) hS rfl (by rfl) ?_ ?_;rotate_left;(focus(intro wS hSw;go_simp<;>first|rfl|rw[if_pos (by omega)]));try simp only[Act.put,pA,pB,pC])|(refine Zy8 hS rfl (by rfl) ?_;try simp only[Act.put,pA,pB,pC]))
       refine Zci ?_;have hN:=hS.near;go_wp2;go_ret2;exact⟨by simp[hln],hN⟩
end Tj
namespace Tj
open Go Go.RowKit Go.Proofs Go.Abs
theorem Z6l:(Tryz.prog.info? 150).map (·.size)=some 8:=by kernel_rfl
theorem Zfv:(Tryz.prog.info? 149).map (·.size)=some 4:=by kernel_rfl
structure Mrg(w X wr:World) (b:Nat):Prop where
 grow:w.grownBy wr (some b)
 blk:wr.heap[b]? = X.heap[b]?
theorem Mrg.refl(w:World)(b:Nat):Mrg w w w b:=⟨⟨rfl,rfl,rfl,Nat.le_refl _,λ_ _ _=>rfl⟩,rfl⟩
variable {X wr:World}{b:Nat}
theorem Mrg.alloc{w: World}(h:Mrg w X wr b)(hb:b<w.heap.size)(o:Obj):Mrg w X (wr.alloc o) b:=⟨h.grow.trans (World.grownBy_alloc _ _ _),(Below.heap_alloc _ _ _ (Nat.lt_of_lt_of_le hb h.grow.size)).trans h.blk⟩
variable {o:Nat}
theorem Mrg.range{w: World}{cs:List Value}(h:Mrg w X wr b)(hr:X.rangeAt b o cs):wr.rangeAt b o cs:=λj v hv=>(World.cell?_of_block (a:=⟨b,o+j,none⟩) h.blk).trans (hr j v hv)
variable {n:Nat}
theorem Mrg.there{w: World}(h:Mrg w X wr b)(hr:X.there b o n):wr.there b o n:=λj hj=>by rw[World.cell?_of_block (a:=⟨b,o+j,none⟩) h.blk,World.frozen?_of_block (a:=⟨b,o+j,none⟩) h.blk];exact hr j hj
theorem Mrg.near{w w1: World}(h:Mrg w X wr b)(hb:b<w.heap.size)(hn:Below wr.heap.size wr w1):Mrg w X w1 b:=⟨h.grow.trans ⟨hn.os,hn.tape,hn.output,hn.size,λk hk _=>hn.block k hk⟩,(hn.block b (Nat.lt_of_lt_of_le hb h.grow.size)).trans h.blk⟩
theorem Yaa{w w' : World}(v:Value)(h:w.heap[b]? = w'.heap[b]?):(w.setCell ⟨b,o,none⟩ v).heap[b]? = (w'.setCell ⟨b,o,none⟩ v).heap[b]? := by simp only[World.setCell,Array.getElem?_modify,if_true,h]
theorem Zre{b:Nat}:∀(vs:List Value) (o:Nat) {w w' : World},w.heap[b]? = w'.heap[b]? -> (w.setCells b o vs).heap[b]? = (w'.setCells b o vs).heap[b]?|[],_,_,_,h=>h|v::vs,o,_,_,h=>Zre vs (o+1) (Yaa v h)
theorem Zaa(b:Nat):∀(vs:List Value) (o:Nat) (w:World),w.grownBy (w.setCells b o vs) (some b)|[],_,w=>⟨rfl,rfl,rfl,Nat.le_refl _,λ_ _ _=>rfl⟩|v::vs,o,w=>by have h1:w.grownBy (w.setCell ⟨b,o,none⟩ v) (some b):=⟨rfl,rfl,rfl,by simp[World.setCell],λk _ hk=>Below.heap_setCell w ⟨b,o,none⟩ v k (λe=>hk (by rw[e]))⟩;exact h1.trans (Zaa b vs (o+1) _)
theorem Mrg.set{w: World}(h:Mrg w X wr b)(o:Nat)(vs:List Value):Mrg w (X.setCells b o vs) (wr.setCells b o vs) b:=⟨h.grow.trans (Zaa _ _ _ _),Zre vs o h.blk⟩
theorem Mrg.drew{w: World}(h:Mrg w X wr b):Mrg w X wr.drew b:=⟨h.grow.trans ⟨rfl,rfl,rfl,Nat.le_refl _,λ_ _ _=>rfl⟩,h.blk⟩
theorem Mrg.below{w: World}(h:Mrg w X wr b)(hb:b<w.heap.size):Below b w wr:=⟨h.grow.os,h.grow.tape,h.grow.output,h.grow.size,λk hk=>h.grow.block k (Nat.lt_trans hk hb) (λe=>by cases e;exact Nat.lt_irrefl _ hk)⟩
theorem Mrg.glob{w: World}(h:Mrg w X wr b)(hb:b<w.heap.size)(hg:Zv b w):Zv wr.heap.size wr:=⟨Nat.le_trans hg.1 (Nat.le_trans (Nat.le_of_lt hb) h.grow.size),Glob.stable w wr hg.2 ((h.below hb).mono hg.1)⟩
noncomputable def mrgX(w:World)(b o:Nat)(R:Nat->Array Value):Nat->World|0=>w|k+1=>(mrgX w b o R k).setCells b (o+3+k*4) (R k).toList
theorem Zza{w:World}{b o:Nat}{R:Nat->Array Value}{b' o' n:Nat}(h:w.there b' o' n):∀k,(mrgX w b o R k).there b' o' n|0=>h|k+1=>World.there_setCells (Zza h k) _ _ _
theorem Zzb{w:World}{b o:Nat}{R:Nat->Array Value}{o' : Nat}{cs:List Value}(h:w.rangeAt b o' cs):∀k,(∀i,i<k->(R i).toList.length=4)->o+3+k*4<=o' -> (mrgX w b o R k).rangeAt b o' cs|0,_,_=>h|k+1,hR,ho=>World.rangeAt_setCells_apart (Zzb h k (λi hi=>hR i (by omega)) (by omega)) _ _ _ (Or.inr (Or.inr (by rw[hR k (by omega)];omega)))
theorem Yjm{E:Nat->Int}{k:Nat}(h0:∀i,i<k->E i=0)(h:E k=0):∀i,i<k+1->E i=0:=λi hi=>by
 rcases Nat.lt_succ_iff_lt_or_eq.1 hi with h1|h1
 exact h0 i h1;rw[h1];exact h
theorem Zso{w:World}{C:Array Value}{t:TypeId}(h:w.heap[b]? = some (.cells C t))(hn:n<=C.size):w.there b 0 n:=λj hj=>by rw[Nat.zero_add];have:=Yc h (Array.getElem?_eq_getElem (by omega:j<C.size));exact⟨by rw[this.1];rfl,by simp[World.frozen?,h]⟩
theorem Ze6{n b:Nat}(h:n<=b):∀(vs:List Value) (o:Nat) (w:World),Below n w (w.setCells b o vs)|[],_,w=>Below.refl _ _|v::vs,o,w=>((Below.refl n w).setCell (p:=⟨b,o,none⟩) h v).trans (Ze6 h vs (o+1) _)
theorem Yab(w:World)(cs:Array Value)(t:TypeId):(w.alloc (.cells cs t)).rangeAt w.heap.size 0 cs.toList:=λj u hj=>by rw[Nat.zero_add];exact(Yc (heap_alloc_new w (.cells cs t)) (by rw[<- Array.getElem?_toList];exact hj)).1
set_option maxHeartbeats 4000000 in
theorem Yjn(b o:Nat)(A V R:Nat->Array Value)(E:Nat->Int)(w:World)(hb:b<w.heap.size)(vv:Array Value)(hvv:vv.size=8)(hix:∀k,k<2 -> ∀w,(Instr.index 150 (.agg vv.toList.toArray) (.int .i64 (k:Nat))).run Tryz.prog w = .ok (.agg (V k)) w)
    (hV:∀k,(V k).size=4/\(V k).all (·.oneCell')=true) (hR:∀k,(R k).size=4/\(R k).all (·.oneCell')=true)
    (hA:∀k,k<2->(A k).size=4/\w.rangeAt b (o+3+k*4) (A k).toList/\w.there b (o+3+k*4) 4) (hg:Zv b w)
    (hJ:∀k,k<2->(∀i,i<k->E i=0) -> ∀W,Zv W.heap.size W->Calls Tryz.prog 265 #[.agg (A k),.agg (V k)] W λe w' => e = .returned (.tuple #[.agg (R k),.int .i64 (E k)])/\Below W.heap.size W w') :
    Calls Tryz.prog 227 #[.pointer (some ⟨b,o,none⟩),.agg vv] w λe w' => e = .returned (.int .i64 (if E 0=0 then E 1 else E 0)) /\
     Mrg w (mrgX w b o R (if E 0=0 then(if E 1=0 then 2 else 1)else 0)) w' b:=by
  have HA:=Lib.hid hA;have HJ:=Lib.hid hJ;have HG:=Lib.hid hg;have HIX:=Lib.hid hix;have HRR:=Lib.hid hR;have hRl:∀k,(R k).toList.length=4:=λk=>by rw[Array.length_toList];exact(hR k).1
  have HXX:=Lib.hid (show ∀k,k<2->(mrgX w b o R k).rangeAt b (o+3+k*4) (A k).toList/\(mrgX w b o R k).there b (o+3+k*4) 4 from λk hk=>⟨Zzb (hA k hk).2.1 k (λi hi=>hRl i) (Nat.le_refl _),Zza (hA k hk).2.2 k⟩);have HM0:=Lib.hid ((Mrg.refl w b).alloc hb (.cells vv 150));clear hA hJ hg hR hix hRl;go_enter Tryz.func227,Tryz.ntmps227;go_wp2_with(refine wpList_load_mid rfl 150 _ rfl w.heap.size 0 rfl vv.toList _ (Yab w vv 150) Tryz.underlying150 rfl (by rw[Array.length_toList,hvv];exact Z6l) ?_);go_loopg[10] 2 (λkx s10 wr=>∃k:Nat,s10 = .int .i64 k/\k<=2/\2-k<=kx/\Aside ((∀i,i<k->E i=0)/\Mrg w (mrgX w b o R k) wr b))
  case atStart=>exact⟨0,rfl,by omega,by omega,⟨λi hi=>absurd hi (by omega),HM0.out⟩⟩
  case round =>
   obtain⟨k,rfl,hk,hkx,I⟩:=hrel;by_cases hlt:k<2
   . have HI:=Lib.hid I.out;clear I HM0;go_upto_region 4 with fail
     rw[HIX.out k hlt];have hth:(wr.alloc (.cells #[.int .i64 0,.int .i64 0,.int .i64 0,.int .i64 0] 149)).there wr.heap.size 0 (V k).size:=by rw[(hV k).1];exact Zso (heap_alloc_new _ _) (by simp)
     go_upto_region 4 with(refine wpList_store_mid rfl 149 _ _ rfl wr.heap.size 0 (V k) rfl rfl hth (by rw[(hV k).1];exact Zfv) (hV k).2 ?_)
     have hn:Below wr.heap.size wr ((wr.alloc (.cells #[.int .i64 0,.int .i64 0,.int .i64 0,.int .i64 0] 149)).setCells wr.heap.size 0 (V k).toList):=((Below.refl _ _).alloc (Nat.le_refl _) _).trans (Ze6 (Nat.le_refl _) _ _ _);have hM1:=HI.out.2.near hb hn;have hp1:=World.rangeAt_setCells_same _ wr.heap.size 0 (V k).toList (by rw[Array.length_toList];exact hth);have hp2:wr.heap.size<((wr.alloc (.cells #[.int .i64 0,.int .i64 0,.int .i64 0,.int .i64 0] 149)).setCells wr.heap.size 0 (V k).toList).heap.size:=Nat.lt_of_lt_of_le (by simp) (Zaa _ _ _ _).size;have hbp:b<wr.heap.size:=Nat.lt_of_lt_of_le hb HI.out.2.grow.size;have hE0:=HI.out.1;clear HI hn hth;generalize (wr.alloc (.cells #[.int .i64 0,.int .i64 0,.int .i64 0,.int .i64 0] 149)).setCells wr.heap.size 0 (V k).toList=w1 at *;generalize wr.heap.size=p at *;have HA1:=Lib.hid (hM1.range (HXX.out k hlt).1);have Hp1:=Lib.hid hp1;have HM1:=Lib.hid hM1;have HJ1:=Lib.hid (λW hW=>HJ.out k hlt hE0 W hW);clear hp1 hM1;refine Zrd 14 (λw' => Below w1.heap.size w1 w') ((Below.refl _ _).drew) (λhS=>?_)
     iterate 5(refine R_go (v:=?_) hS rfl (by rfl) ?_ ?_;rotate_left;(focus(intro wS hSw;go_simp<;>first|rfl|rw[if_pos (by omega)]));try simp only[Act.put,pA,pB,pC])
     refine R_go (v:=.agg (A k).toList.toArray) hS rfl (by rfl) ?_ ?_;intro wS hSw;exact Xv 149 (.tmp 19) rfl b (o+3+k*4) rfl (A k).toList _ (Zbc hSw (Nat.lt_trans hbp hp2) HA1.out) Tryz.underlying149 rfl (by rw[Array.length_toList,(HA.out k hlt).1];exact Zfv);try simp only[Act.put,pA,pB,pC]
     refine R_go (v:=.agg (V k).toList.toArray) hS rfl (by rfl) ?_ ?_;intro wS hSw;exact Xv 149 (.tmp 6) rfl p 0 rfl (V k).toList _ (Zbc hSw hp2 Hp1.out) Tryz.underlying149 rfl (by rw[Array.length_toList,(hV k).1];exact Zfv);try simp only[Act.put,pA,pB,pC]
     refine Y0z (i:=7) (j:=11) ([],[]) ([],[11]) 8 7 rfl rfl (λK hK=>?ca) (λK hK=>?cb)
     case' ca =>
      go_simp;refine(HJ1.out _ (Zt0 (HM1.out.glob hb HG.out) hS)).mono ?_;rintro e w2 ⟨rfl,hb2⟩;have hb0:=hS;refine hK.out _ _ (hS.trans (hb2.mono hS.size)) (λhS=>?_);clear hK K;try simp only[Act.put,pA,pB,pC]
      iterate 3(refine R_go (v:=?_) hS rfl (by rfl) ?_ ?_;rotate_left;(focus(intro wS hSw;go_simp<;>first|rfl|rw[if_pos (by omega)]));try simp only[Act.put,pA,pB,pC])
      refine Zjr rfl (λK hK=>?_);go_simp;refine hK.out _ _ (hS.trans ((Below.refl _ _).alloc hS.size _)) (λhS=>?_);clear hK K;try simp only[Act.put,pA,pB,pC]
      have hth:(w2.alloc (.cells #[.int .i64 0,.int .i64 0,.int .i64 0,.int .i64 0] 149)).there w2.heap.size 0 (R k).size:=by rw[(HRR.out k).1];exact Zso (heap_alloc_new _ _) (by simp)
      refine Zjr rfl (λK hK=>?_);rw[if_pos (by rfl)];refine wp_store_mid 149 (.tmp 7) (.tmp 23) rfl w2.heap.size 0 (R k) rfl rfl hth (by rw[(HRR.out k).1];exact Zfv) (HRR.out k).2 ?_;refine hK.out _ _ (hS.trans (Ze6 (Nat.le_trans hb0.size hb2.size) _ _ _)) (λhS=>?_);clear hK K;try simp only[Act.put,pA,pB,pC]
      iterate 1(refine R_go (v:=?_) hS rfl (by rfl) ?_ ?_;rotate_left;(focus(intro wS hSw;go_simp<;>first|rfl|rw[if_pos (by omega)]));try simp only[Act.put,pA,pB,pC])
      refine Zci ?_;have hqb:b<w2.heap.size:=Nat.lt_of_lt_of_le (Nat.lt_trans hbp hp2) (Nat.le_trans hb0.size hb2.size);have HM3:=Lib.hid (HM1.out.near hb hS);have HB7:=Lib.hid (World.rangeAt_setCells_same _ w2.heap.size 0 (R k).toList (by rw[Array.length_toList];exact hth));clear hS hb2 hb0 HM1 HJ1 HA1 Hp1 hth;generalize (w2.alloc (.cells #[.int .i64 0,.int .i64 0,.int .i64 0,.int .i64 0] 149)).setCells w2.heap.size 0 (R k).toList=W3 at *;generalize w2.heap.size=q at *
     case' cb =>
      go_simp;refine hK.out _ _ (hS.trans ((Below.refl _ _).alloc hS.size _)) (λhS=>?_);clear hK K;try simp only[Act.put,pA,pB,pC]
      refine Zjr rfl (λK hK=>?_);go_simp;refine(HJ1.out _ (Zt0 (HM1.out.glob hb HG.out) hS)).mono ?_;rintro e w2 ⟨rfl,hb2⟩;refine hK.out _ _ (hS.trans (hb2.mono hS.size)) (λhS=>?_);clear hK K;try simp only[Act.put,pA,pB,pC]
      iterate 3(refine R_go (v:=?_) hS rfl (by rfl) ?_ ?_;rotate_left;(focus(intro wS hSw;go_simp<;>first|rfl|rw[if_pos (by omega)]));try simp only[Act.put,pA,pB,pC])
      have hth:w2.there w1.heap.size 0 (R k).size:=by rw[(HRR.out k).1];exact Zso ((hb2.block _ (by simp)).trans (heap_alloc_new _ _)) (by simp)
      refine N_sk ?_;refine Zjr rfl (λK hK=>?_);rw[if_pos (by rfl)];refine wp_store_mid 149 (.tmp 7) (.tmp 23) rfl w1.heap.size 0 (R k) rfl rfl hth (by rw[(HRR.out k).1];exact Zfv) (HRR.out k).2 ?_;refine hK.out _ _ (hS.trans (Ze6 (Nat.le_refl _) _ _ _)) (λhS=>?_);clear hK K;try simp only[Act.put,pA,pB,pC]
      iterate 1(refine R_go (v:=?_) hS rfl (by rfl) ?_ ?_;rotate_left;(focus(intro wS hSw;go_simp<;>first|rfl|rw[if_pos (by omega)]));try simp only[Act.put,pA,pB,pC])
      refine Zci ?_;have hqb:b<w1.heap.size:=Nat.lt_trans hbp hp2;have HM3:=Lib.hid (HM1.out.near hb hS);have HB7:=Lib.hid (World.rangeAt_setCells_same w2 w1.heap.size 0 (R k).toList (by rw[Array.length_toList];exact hth));clear hS hb2 HM1 HJ1 HA1 Hp1 hth;generalize w2.setCells w1.heap.size 0 (R k).toList=W3 at *;generalize w1.heap.size=q at *
     all_goals
      by_cases hE:E k=0
      . go_upto_region 7 with fail
        refine Zrd 7 (λw' => w'.rangeAt q 0 (R k).toList) ((World.rangeAt_drew _ _ _ _).2 HB7.out) (λhS=>?_)
        iterate 2(refine R_go (v:=?_) hS rfl (by rfl) ?_ ?_;rotate_left;(focus(intro wS hSw;go_simp<;>first|rfl|rw[if_pos (by omega)]));try simp only[Act.put,pA,pB,pC])
        refine R_go (v:=.agg (R k).toList.toArray) hS rfl (by rfl) ?_ ?_;intro wS hSw;exact Xv 149 (.tmp 7) rfl q 0 rfl (R k).toList _ hSw Tryz.underlying149 rfl (by rw[Array.length_toList,(HRR.out k).1];exact Zfv);try simp only[Act.put,pA,pB,pC]
        iterate 3(refine R_go (v:=?_) hS rfl (by rfl) ?_ ?_;rotate_left;(focus(intro wS hSw;go_simp<;>first|rfl|rw[if_pos (by omega)]));try simp only[Act.put,pA,pB,pC])
        refine Zjr rfl (λK hK=>?_);rw[if_pos (by rfl)];refine wp_store_mid 149 (.tmp 33) (.tmp 30) rfl b (o+3+k*4) (R k) rfl rfl (by rw[(HRR.out k).1];exact(World.there_drew _ _ _ _).2 (HM3.out.there (HXX.out k hlt).2)) (by rw[(HRR.out k).1];exact Zfv) (HRR.out k).2 ?_;have hM4:=HM3.out.drew.set (o+3+k*4) (R k).toList;refine hK.out _ _ (World.rangeAt_setCells_apart hS _ _ _ (Or.inl (Nat.ne_of_gt hqb))) (λhS=>?_);clear hK K;try simp only[Act.put,pA,pB,pC]
        refine Zci ?_;go_wp2;go_roundg(1-k)
        case measure=>omega
        case rel=>exact⟨k+1,by go_num,by omega,by omega,⟨Yjm hE0 hE,hM4⟩⟩
      . rcases(by omega:k=0∨k=1)with rfl|rfl
        . go_wp2;go_ret;exact⟨rfl,HM3.out⟩
        . have hEz:E 0=0:=hE0 0 (by omega);go_wp2;go_ret;exact⟨rfl,HM3.out⟩
   . obtain rfl:k=2:=by omega
     have hE0:=I.out.1;have hM:=I.out.2;have h0:E 0=0:=hE0 0 (by omega);have h1:E 1=0:=hE0 1 (by omega);clear I HM0;go_wp2;go_ret;exact⟨rfl,hM⟩
end Tj
