import Derived.Test.YtlnihcefchoofaaGreatDoorDAbsA4
set_option linter.all false
namespace Go.Abs
open Go.RowKit (Below)
variable [GTab] [Glob]
section
variable {P:Program} {B:Nat} {w0 w:World} {h:List AObj} {ι:Em} {slots:List AV} {a:Act} {o:Oper} {ao:AOp} {T:Nat} {y:AV} {eff:Eff}
variable (hr:HRel B w0 h ι w) (hsl:∀(i:Nat) (x:AV) (v:Value),slots[i]? = some x->a.tmps[i]? = some v->VR h ι w x v) (hl:a.tmps.size=slots.length)
variable (hc:Zo P o=some ao) (he:Zb h T (AOpd.eval slots) ao=some (y,eff))
include hr hsl hl hc he
variable {t:TypeId}{parts:Array (Nat×Operand)}
theorem Yic(hop:o.op = .build t parts):Xp P B h ι w T a o y eff:=by
 simp only[Zo,hop]at hc;obtain⟨z,hz,hc⟩:=bind_some.1 hc;obtain⟨zc,hzc,hc⟩:=bind_some.1 hc;obtain⟨d,hd,hc⟩:=bind_some.1 hc;obtain⟨i,zv,hi,hzv,hcr,hvr,_⟩:=Zdw (h:=h) (ι:=ι) (w:=w) hz hzc;have hmap:(parts.map λ(i,x)=>(i,a.eval x))=(parts.toList.map λq=>(q.1,a.eval q.2)).toArray:=by grind
 have hx:execOp a.eval o=(do pure (.value (<- Instr.build t (parts.map λ(i,x)=>(i,a.eval x)))):Sem Next):=by grind[execOp]
 rw[hmap]at hx;split at hc;rename_i fs;split at hc;rename_i hall;obtain⟨qs,hqs,hc⟩:=bind_some.1 hc;simp only[pure,J0b]at hc;subst hc;obtain⟨h1,h2,h3⟩:=Z11 hsl hl hqs;simp only[Zb]at he;split at he;rename_i cs hcs;simp only[J0b,J0i]at he;obtain⟨rfl,rfl⟩:=he;obtain⟨v,hrun,hvr2⟩:=Zrq hd hi hzv hcr (λf hf=>by have:=List.all_eq_true.1 hall f hf;exact Option.isSome_iff_exists.1 this) (by simp[h1]) h3 hcs;exact Zh hx hrun ⟨rfl,hvr2⟩;grind;grind;rename_i n e;obtain⟨s,hs,hc⟩:=bind_some.1 hc;obtain⟨qs,hqs,hc⟩:=bind_some.1 hc;simp only[pure,J0b]at hc;subst hc;obtain⟨ie,hie,rfl⟩:=X3 hs;obtain⟨h1,h3⟩:=Zvk hsl hl hqs;simp only[Zb]at he;split at he;rename_i cs hcs;simp only[J0b,J0i]at he;obtain⟨rfl,rfl⟩:=he;obtain⟨v,hrun,hvr2⟩:=Zt5 hd hi hzv hcr hie (by simp[h1]) h3 hcs;exact Zh hx hrun ⟨rfl,hvr2⟩;grind;grind
theorem Z12{es:List (List AV)}{e size:Nat}{sv:Value}{w' : World}{s:Sem Value}(hx:execOp a.eval o=(do pure (.value (<- s)):Sem Next))(hrun:s.run P w = .ok sv w')(hok:Zn7 B h ι w ⟨1,e,size,es⟩ sv w')(hy:y = .row T 1)(hef:eff = .new ⟨1,e,size,es⟩):Xp P B h ι w T a o y eff:=by subst hy;subst hef;exact Zh hx hrun ⟨rfl,sv,hok,.inl ⟨rfl,rfl⟩⟩
theorem Ybg{n:Nat}(hop:o.op = .buildSlice t n parts):Xp P B h ι w T a o y eff:=by
 have hc0:=hc;have he0:=he;simp only[Zo,hop]at hc;obtain⟨d,hd,hc⟩:=bind_some.1 hc;split at hc;rename_i e;obtain⟨s,hs,hc⟩:=bind_some.1 hc;split at hc;cases hc;rename_i hbig;obtain⟨z,hz,hc⟩:=bind_some.1 hc;obtain⟨zc,hzc,hc⟩:=bind_some.1 hc;obtain⟨qs,hqs,hc⟩:=bind_some.1 hc;simp only[pure,J0b]at hc;subst hc;obtain⟨i,zv,hi,hzv,hcr,hvr,_⟩:=Zdw (h:=h) (ι:=ι) (w:=w) hz hzc;obtain⟨i2,hi2,hs2⟩:=X3 hs;rw[hi]at hi2;obtain rfl:=J0a hi2;obtain⟨h1,h3⟩:=Zvl hsl hl hqs;have hmap:(parts.map λ(i,x)=>(i,a.eval x))=(parts.toList.map λq=>(q.1,a.eval q.2)).toArray:=by grind
 have hx:execOp a.eval o=(do pure (.value (<- Instr.buildSlice t n (parts.map λ(i,x)=>(i,a.eval x)))):Sem Next):=by grind[execOp]
 rw[hmap]at hx;simp only[Zb]at he;split at he;rename_i es hes;split at he;rename_i hcond;simp only[J0b,J0i]at he;obtain⟨rfl,rfl⟩:=he;obtain⟨sv,w',hrun,hok⟩:=Ybc hr hd hi hzv hs2 hcond.1 hcr hcond.2 hbig (by simp[h1]) h3 hes;grind[Z12];grind;grind;grind
theorem Yka{l c:Operand}(hop:o.op = .makeSlice t l c):Xp P B h ι w T a o y eff:=by
 have hc0:=hc;have he0:=he;simp only[Zo,hop]at hc;obtain⟨d,hd,hc⟩:=bind_some.1 hc;split at hc;rename_i e;obtain⟨z,hz,n,hn,nb,hnb,zc,hzc,L,hL,C,hC,rfl⟩:∃z,zeroOf P e=some z /\ ∃n,Z6 P e=some n /\ ∃nb,Zir P e=some nb /\ ∃zc,z.cells=some zc /\ ∃L,opd l=some L /\ ∃C,opd c=some C/\AOp.mksl e n nb zc L C=ao:=by simpa[J0n]using hc
 obtain⟨i,zv,hi,hzv,hcr,hvr,_⟩:=Zdw (h:=h) (ι:=ι) (w:=w) hz hzc;obtain⟨i2,hi2,hs2⟩:=X3 hn;rw[hi]at hi2;obtain rfl:=J0a hi2;have hb2:i.bytes=nb:=by grind[Zir]
 simp only[Zb]at he;split at he;rename_i n1 c1 hn1 hc1;split at he;rename_i hcond;obtain⟨g1,g2,g3,g4,g5⟩:=hcond;simp only[J0b,J0i]at he;obtain⟨rfl,rfl⟩:=he;obtain⟨kl,hkl⟩:=Zcp (Zf hsl hl hL) hn1;obtain⟨kc,hkc⟩:=Zcp (Zf hsl hl hC) hc1;obtain⟨sv,w',hrun,hok⟩:=Yj3 hr hd hi hzv hs2 g4 hcr g5 kl kc g1 (by grind) g3;exact Z12 hr hsl hl hc0 he0 (s:=Instr.makeSlice t (.int kl n1) (.int kc c1)) (by grind[execOp]) hrun hok rfl rfl;grind;grind;grind
theorem Yid{x:Operand}{lo hi mx:Option Operand}(hop:o.op = .slice t x lo hi mx):Xp P B h ι w T a o y eff:=by
 simp only[Zo,hop]at hc;obtain⟨d,hd,hc⟩:=bind_some.1 hc;have hx:execOp a.eval o=(do pure (.value (<- Instr.sliceAt t (a.eval x) (lo.map a.eval) (hi.map a.eval) (mx.map a.eval))):Sem Next):=by grind[execOp]
 split at hc;rename_i e;obtain⟨n,hn,X,hX,L,hL,H,hH,M,hM,rfl⟩:∃n,Z6 P e=some n /\ ∃X,opd x=some X /\ ∃L,optO lo=some L /\ ∃H,optO hi=some H /\ ∃M,optO mx=some M/\AOp.slice n X L H M=ao:=by simpa[J0n]using hc
 obtain⟨i,hi',hs⟩:=X3 hn;simp only[Zb]at he;split at he;rename_i v hv;simp only[J0b,J0i]at he;obtain⟨rfl,rfl⟩:=he;obtain⟨v',hrun,hvr⟩:=Ybe hr hd hi' hs (Zf hsl hl hX) (Zku hsl hl hL) (Zku hsl hl hH) (Zku hsl hl hM) hv;exact Zh hx hrun ⟨rfl,hvr⟩;grind;cases mx with
 |some m=>grind|none =>
  obtain⟨X,hX,L,hL,H,hH,rfl⟩:∃X,opd x=some X /\ ∃L,optO lo=some L /\ ∃H,optO hi=some H/\AOp.sstr X L H=ao:=by grind[Option.bind_eq_some_iff]
  have h1:=Zf hsl hl hX;simp only[Zb]at he;split at he;rename_i s hs;split at he;rename_i l n b hb;simp only[J0b,J0i]at he;obtain⟨rfl,rfl⟩:=he;rw[hs]at h1;generalize hev:a.eval x=v at h1 hx;cases h1 with
  |p _ _ h1 =>
   cases h1;obtain⟨m,hrun,g1,g2,g3,g4,g5⟩:=Zks (P:=P) (cap:=s.length) (Zku hsl hl hL) (Zku hsl hl hH) (mx:=none) (vm:=none) trivial hb (Nat.le_refl _) (λ_=>rfl) false;have hsz:(ByteArray.mk s.toArray).size=s.length:=by simp[ByteArray.size]
   refine Zh hx (cv:=.string ⟨((s.take n).drop l).toArray⟩) (w' := w) ?_ ⟨rfl,.p _ _ (.str _)⟩;simp only[Option.map_none];rw[run_sliceAt_string w t _ _ _ _ hd];simp only[Instr.slice,Sem.run_bind,run_underlying hd,Result.andThen_ok,Option.isSome_none,J0r,if_false,hsz,hrun,Sem.run_pure];congr 2;apply ByteArray.ext;simp[<- Array.toList_inj,List.drop_take]
  grind;grind
 grind
variable {f:Nat}
theorem Zz4{x:Operand}(hop:o.op = .fieldAddr t x f):Xp P B h ι w T a o y eff:=by
 simp only[Zo,hop]at hc;obtain⟨d,hd,hc⟩:=bind_some.1 hc;split at hc;rename_i fs;obtain⟨fd,hfd,hc⟩:=bind_some.1 hc;obtain⟨n,hn,hc⟩:=bind_some.1 hc;split at hc;cases hc;rename_i hn0;obtain⟨X,hX,hc⟩:=bind_some.1 hc;simp only[pure,J0b]at hc;subst hc;obtain⟨i,hi,hin⟩:=X3 hn;have h1:=Zf hsl hl hX;have run:∀ad:Addr,(Instr.fieldAt t (.pointer (some ad)) f).run P w = .ok (.pointer (some (ad.add fd.offset))) w:=λad=>by simp only[Instr.fieldAt,Sem.run_bind,run_underlying hd,Result.andThen_ok,hfd,Instr.sureAddr,Sem.run_pure,fieldPlace,run_sizeOf hi,hin];simp_all
 simp only[Zb]at he;split at he;rename_i tg ver k off hxe;split at he;rename_i ob hgo;simp only[J0b,J0i]at he;obtain⟨rfl,rfl⟩:=he;obtain⟨hot,hov⟩:=Zi hgo;rw[hxe]at h1;generalize hev:a.eval x=v at h1;cases h1 with|ptr _ _ _ _ _ ht hone hob=>obtain⟨g,N,C,hsv,rfl,hil⟩:=(hob ob hot).2 hov;refine Zh (s:=Instr.fieldAt t (a.eval x) f) (by grind[execOp]) (by rw[hev];exact run _) ⟨rfl,.ptr tg ver k (off+fd.offset) _ ht rfl λo' ho' => ?_⟩;rw[hot]at ho';obtain rfl:=J0a ho';exact⟨by omega,λ_=>⟨g,N,C,hsv,by grind[Addr.add_lit],hil⟩⟩
 grind;rename_i cs hxe;simp only[J0b,J0i]at he;obtain⟨rfl,rfl⟩:=he;rw[hxe]at h1;generalize hev:a.eval x=v at h1;cases h1 with|fptr _ ad u hO hlt hcell hrel => refine Zh (s:=Instr.fieldAt t (a.eval x) f) (by grind[execOp]) (by rw[hev];exact run _) ⟨rfl,.fptr _ _ (λj=>u (fd.offset+j)) (by grind[Zc]) (by grind[Zc]) (λj z hz=>?_) (λj z hz=>?_)⟩;grind[Zf2];grind
 grind;grind
omit hr hsl hl hc he in
theorem Z7a{m:Option Nat}(hm:Zco P t=some m){cs:List AV}{us:Array Value}(h2:us.size=cs.length)(h3:∀(i:Nat) (x:AV) (v:Value),cs[i]? = some x->us[i]? = some v->VR h ι w x v){off:Nat}{z:AV}
    (hz:Zpw cs off m=some z):∃v,(part t us off).run P w = .ok v w/\VR h ι w z v:=by
  obtain⟨d,i,hd,hi,rfl⟩:=Zpz hm;by_cases hda:Qm d=true;simp only[hda,if_true,Zpw]at hz;split at hz;rename_i hle;obtain rfl:=J0a hz;refine⟨_,Zp1 hd hda hi us off,.agg _ _ (by grind) λj x v hx hv=>?_⟩;grind;grind;have hda:Qm d=false:=by grind
  simp only[hda,J0r,if_false,Zpw]at hz;have hlt:off<us.size:=by grind
  exact⟨_,Zp2 hd hda us off (Array.getElem?_eq_getElem hlt),h3 off _ _ hz (Array.getElem?_eq_getElem hlt)⟩
theorem Yie{x:Operand}(hop:o.op = .field t x f):Xp P B h ι w T a o y eff:=by
 have hc0:=hc;have he0:=he;simp only[Zo,hop]at hc;obtain⟨d,hd,hc⟩:=bind_some.1 hc;split at hc;rename_i fs;obtain⟨fd,hfd,m,hm,X,hX,rfl⟩:∃fd,fs[f]? = some fd /\ ∃m,Zco P fd.type=some m /\ ∃X,opd x=some X/\AOp.field fd.offset m X=ao:=by grind[Option.bind_eq_some_iff]
 have h1:=Zf hsl hl hX;simp only[Zb]at he;split at he;rename_i cs hxe;rw[hxe]at h1;generalize hev:a.eval x=v at h1;cases h1 with|agg _ us h2 h3 => split at he;rename_i z hz;simp only[J0b,J0i]at he;obtain⟨rfl,rfl⟩:=he;obtain⟨v,hrun,hvr⟩:=Z7a hm h2 h3 hz;exact Zh (s:=Instr.field t (.agg us) f) (by grind[execOp]) (by simp only[Instr.field,Sem.run_bind,run_underlying hd,Result.andThen_ok,hfd,asAgg,Sem.run_pure];grind) ⟨rfl,hvr⟩;grind
 grind;grind
theorem Zz5{x i:Operand}(hop:o.op = .indexAddr t x i):Xp P B h ι w T a o y eff:=by
 simp only[Zo,hop]at hc;obtain⟨d,hd,hc⟩:=bind_some.1 hc;split at hc;rename_i e;obtain⟨n,hn,X,hX,I,hI,rfl⟩:∃n,Z6 P e=some n /\ ∃X,opd x=some X /\ ∃I,opd i=some I/\AOp.ixa n X I=ao:=by grind[Option.bind_eq_some_iff]
 obtain⟨ie,hie,hs⟩:=X3 hn;simp only[Zb]at he;split at he;rename_i v hv;simp only[J0b,J0i]at he;obtain⟨rfl,rfl⟩:=he;obtain⟨v',hrun,hvr⟩:=Yqu hr hd hie hs (Zf hsl hl hX) (Zf hsl hl hI) hv;exact Zh (s:=Instr.indexAt t (a.eval x) (a.eval i)) (by grind[execOp]) hrun ⟨rfl,hvr⟩;grind;rename_i len e;obtain⟨n,hn,X,hX,I,hI,rfl⟩:∃n,Z6 P e=some n /\ ∃X,opd x=some X /\ ∃I,opd i=some I/\AOp.ixarr len n X I=ao:=by grind[Option.bind_eq_some_iff]
 obtain⟨ie,hie,hs⟩:=X3 hn;have h1:=Zf hsl hl hX;simp only[Zb]at he;split at he;cases he;rename_i k hk;obtain⟨kk,hkk⟩:=Zcp (Zf hsl hl hI) hk;split at he;rename_i hlt;have hal:P.arrayLen t=len:=by grind[Program.arrayLen]
 have hel:P.elem t=e:=by grind[Program.elem]
 have run:∀ad:Addr,(Instr.indexAt t (.pointer (some ad)) (.int kk (k:Int))).run P w = .ok (.pointer (some (ad.add (k*n)))) w:=λad=>by rw[run_indexAt_array w t ad kk _ (by grind),if_pos (by grind)];simp[hel,run_sizeOf hie,hs]
 split at he;rename_i tg ver j off hxe;split at he;rename_i ob hgo;simp only[J0b,J0i]at he;obtain⟨rfl,rfl⟩:=he;obtain⟨hot,hov⟩:=Zi hgo;rw[hxe]at h1;generalize hev:a.eval x=v at h1;cases h1 with|ptr _ _ _ _ _ ht hone hob=>obtain⟨g,N,C,hsv,rfl,hil⟩:=(hob ob hot).2 hov;refine Zh (s:=Instr.indexAt t (a.eval x) (a.eval i)) (by grind[execOp]) (by rw[hev,hkk];exact run _) ⟨rfl,.ptr tg ver j (off+k*n) _ ht rfl λo' ho' => ?_⟩;rw[hot]at ho';obtain rfl:=J0a ho';exact⟨by omega,λ_=>⟨g,N,C,hsv,by grind[Addr.add_lit],hil⟩⟩
 grind;rename_i cs hxe;simp only[J0b,J0i]at he;obtain⟨rfl,rfl⟩:=he;rw[hxe]at h1;generalize hev:a.eval x=v at h1;cases h1 with|fptr _ ad u hO hlt' hcell hrel => refine Zh (s:=Instr.indexAt t (a.eval x) (a.eval i)) (by grind[execOp]) (by rw[hev,hkk];exact run _) ⟨rfl,.fptr _ _ (λj=>u (k*n+j)) (by grind[Zc]) (by grind[Zc]) (λj z hz=>?_) (λj z hz=>?_)⟩;grind[Zf2];grind
 rename_i g off hxe;simp only[J0b,J0i]at he;obtain⟨rfl,rfl⟩:=he;rw[hxe]at h1;generalize hev:a.eval x=v at h1;cases h1 with|gp _ _=>exact Zh (s:=Instr.indexAt t (a.eval x) (a.eval i)) (by grind[execOp]) (by rw[hev,hkk];exact run _) ⟨rfl,by rw[Addr.add_lit];exact .gp _ _⟩
 grind;grind;grind
theorem Yif{x i:Operand}(hop:o.op = .index t x i):Xp P B h ι w T a o y eff:=by
 have hc0:=hc;have he0:=he;simp only[Zo,hop]at hc;obtain⟨d,hd,hc⟩:=bind_some.1 hc;split at hc;rename_i len e;obtain⟨n,hn,m,hm,X,hX,I,hI,rfl⟩:∃n,Z6 P e=some n /\ ∃m,Zco P e=some m /\ ∃X,opd x=some X /\ ∃I,opd i=some I/\AOp.ixv len n m X I=ao:=by simpa[J0n]using hc
 obtain⟨ie,hie,hs⟩:=X3 hn;have h1:=Zf hsl hl hX;simp only[Zb]at he;split at he;cases he;rename_i k hk;obtain⟨kk,hkk⟩:=Zcp (Zf hsl hl hI) hk;split at he;rename_i hlt;split at he;rename_i cs hxe;rw[hxe]at h1;generalize hev:a.eval x=v at h1;cases h1 with|agg _ us h2 h3 => split at he;rename_i z hz;simp only[J0b,J0i]at he;obtain⟨rfl,rfl⟩:=he;obtain⟨v,hrun,hvr⟩:=Z7a (P:=P) hm h2 h3 hz;refine Zh (s:=Instr.index t (.agg us) (.int kk k)) (by grind[execOp]) ?_ ⟨rfl,hvr⟩;simp only[Instr.index,asIntOf,Sem.run_bind,Sem.run_pure,Result.andThen_ok,run_underlying hd];grind[Sem.run_bind,run_sizeOf,Result.andThen_ok];grind
 grind;grind;obtain⟨X,hX,I,hI,rfl⟩:∃X,opd x=some X /\ ∃I,opd i=some I/\AOp.ixs X I=ao:=by grind[Option.bind_eq_some_iff]
 have h1:=Zf hsl hl hX;simp only[Zb]at he;split at he;rename_i k s hk hs;obtain⟨kk,hkk⟩:=Zcp (Zf hsl hl hI) hk;split at he;rename_i b hb;simp only[J0b,J0i]at he;obtain⟨rfl,rfl⟩:=he;rw[hs]at h1;generalize hev:a.eval x=v at h1;cases h1 with
 |p _ _ h1 =>
  cases h1;refine Zh (s:=Instr.index t (.string ⟨s.toArray⟩) (.int kk k)) (by grind[execOp]) (cv:=.int .u8 b.toNat) (w' := w) ?_ ⟨rfl,.p _ _ (.int _ _)⟩;simp only[Instr.index,asIntOf,Sem.run_bind,Sem.run_pure,Result.andThen_ok,run_underlying hd];have:(ByteArray.mk s.toArray)[(k:Nat)]? = some b:=by
   have hlt:k<s.length:=(J0d.1 hb).1;have hlt2:k<(ByteArray.mk s.toArray).size:=by grind[ByteArray.size]
   rw[getElem?_pos (ByteArray.mk s.toArray) k hlt2];congr 1;rw[J0c hlt]at hb;exact J0a hb
  simp[this]
 grind;grind;grind
theorem Ykb{fn:Fn}{first caps:Array Operand}(hop:o.op = .makeFunc fn first caps):Xp P B h ι w T a o y eff:=by
 simp only[Zo,hop]at hc;cases fn with
 |func f =>
  simp only at hc;split at hc;rename_i h0;obtain⟨cs,hcs,rfl⟩:∃cs,caps.toList.mapM opd=some cs/\AOp.mkfn f cs=ao:=by grind[Option.bind_eq_some_iff]
  simp only[Zb,J0b,J0i]at he;obtain⟨rfl,rfl⟩:=he;obtain⟨h1,h2⟩:=Zay hsl hl hcs;have hf:first=#[]:=by grind
  refine Zh (s:=Instr.makeFunc (.func f) (first.map a.eval) (caps.map a.eval)) (by grind[execOp]) (cv:=.func (.func f) #[] (caps.map a.eval)) (w' := w) (by simp[Instr.makeFunc,hf]) ⟨rfl,.fn f _ _ (by grind) λi x v hx hv=>h2 i x v hx (by grind)⟩;split at hc;rename_i h0;obtain⟨cs,hcs,rfl⟩:∃cs,first.toList.mapM opd=some cs/\AOp.mkfb f cs=ao:=by grind[Option.bind_eq_some_iff]
  simp only[Zb,J0b,J0i]at he;obtain⟨rfl,rfl⟩:=he;obtain⟨h1,h2⟩:=Zay hsl hl hcs;have hf:caps=#[]:=by simpa using h0
  refine Zh (s:=Instr.makeFunc (.func f) (first.map a.eval) (caps.map a.eval)) (by grind[execOp]) (cv:=.func (.func f) (first.map a.eval) #[]) (w' := w) (by simp[Instr.makeFunc,hf]) ⟨rfl,.fb f _ _ (by simpa using h1) λi x v hx hv=>h2 i x v hx (by simpa using hv)⟩;cases hc
 |_=>grind
end
end Go.Abs
namespace Go.Abs
open Go.RowKit (Below)
variable [GTab] [Glob]
variable {α:Type}
theorem Yfi{xs:Array α}{x:α}(h:xs.toList=[x]):xs=#[x]:=by grind
theorem Z13{xs:Array α}{x y:α}(h:xs.toList=[x,y]):xs=#[x,y]:=by grind
section
variable {P:Program} {B:Nat} {w0 w:World} {h:List AObj} {ι:Em} {slots:List AV} {a:Act} {o:Oper} {ao:AOp} {T:Nat} {y:AV} {eff:Eff}
variable (hr:HRel B w0 h ι w) (hsl:∀(i:Nat) (x:AV) (v:Value),slots[i]? = some x->a.tmps[i]? = some v->VR h ι w x v) (hl:a.tmps.size=slots.length)
variable (hc:Zo P o=some ao) (he:Zb h T (AOpd.eval slots) ao=some (y,eff))
include hr hsl hl hc he
variable {t:TypeId}
theorem Yqz{x:Operand}(hop:o.op = .call { callee:=.builtin .len,args:=#[x],argTypes:=#[t] }):Xp P B h ι w T a o y eff:=by
 simp only[Zo,hop]at hc;obtain⟨d,hd,hc⟩:=bind_some.1 hc;have hx:execOp a.eval o=(do pure (.value (<- Builtin.len_ #[t] o.type #[a.eval x])):Sem Next):=by grind[execOp,resolve,invoke,builtin]
 split at hc;obtain⟨X,hX,rfl⟩:∃X,opd x=some X/\AOp.len X=ao:=by grind[Option.bind_eq_some_iff]
 have h1:=Zf hsl hl hX;simp only[Zb]at he;split at he;rename_i n hn;simp only[J0b,J0i]at he;obtain⟨rfl,rfl⟩:=he;have hval:∃ad c,a.eval x = .slice ad n c:=by
  unfold lenA at hn;generalize hev:a.eval x=v at h1;generalize hxe:X.eval slots=xe at h1 hn;split at hn;obtain rfl:=J0a hn;cases h1 with|p _ _ h1 => cases h1 with|nil a c=>grind|sl _ _ _ _ _ _ _ _ hn=>grind
  obtain rfl:=J0a hn;cases h1 with|xf _ _ _ h1 => cases h1 with|nil=>grind|sl _ _ _ _ _ _ _ _ hn=>grind
  obtain rfl:=J0a hn;cases h1;grind;obtain rfl:=J0a hn;cases h1;grind;obtain rfl:=J0a hn;cases h1;grind;obtain rfl:=J0a hn;cases h1;grind;rename_i tg ver;rw[J0f]at hn;obtain⟨ob,hgo,rfl⟩:=hn;obtain⟨hot,hov⟩:=Zi hgo;cases h1 with
  |row _ _ _ htl hone hob =>
   obtain rfl:=(hob ob hot).2 hov;obtain⟨hs,xs,hown,_⟩:=Xm hr hot (Zq hgo);rcases hown.2 with⟨hv,h0⟩|⟨g,cap,cur,hv,_⟩
   grind;grind
  rename_i tg ver lo len ex;rw[J0f]at hn;obtain⟨ob,hgo,rfl⟩:=hn;obtain⟨hot,hov⟩:=Zi hgo;cases h1 with|sl _ _ _ _ _ _ htl hone hob=>grind[Zni,Zq]
  grind
 obtain⟨ad,c,hv⟩:=hval;exact Zh hx (cv:=.int .i64 n) (w' := w) (by simp[Builtin.len_,run_underlying hd,hv,goInt]) ⟨rfl,.p _ _ (.int _ _)⟩;grind;obtain⟨X,hX,rfl⟩:∃X,opd x=some X/\AOp.lens X=ao:=by grind[Option.bind_eq_some_iff]
 have h1:=Zf hsl hl hX;simp only[Zb]at he;split at he;rename_i s hs;simp only[J0b,J0i]at he;obtain⟨rfl,rfl⟩:=he;rw[hs]at h1;generalize hev:a.eval x=v at h1 hx;cases h1 with|p _ _ h1 =>
  cases h1;have hsz:(ByteArray.mk s.toArray).size=s.length:=by simp[ByteArray.size]
  exact Zh hx (cv:=.int .i64 s.length) (w' := w) (by simp only[Builtin.len_,List.getElem?_toArray,J0q,Sem.run_bind,run_underlying hd,Result.andThen_ok,goInt,hsz,Sem.run_pure]) ⟨rfl,.p _ _ (.int _ _)⟩
 grind;rename_i n e;obtain rfl:=J0a hc;simp only[Zb,AOpd.eval,J0b,J0i]at he;obtain⟨rfl,rfl⟩:=he;exact Zh hx (cv:=.int .i64 n) (w' := w) (by simp[Builtin.len_,run_underlying hd,goInt]) ⟨rfl,.p _ _ (.int _ _)⟩;grind
variable {t':TypeId}
theorem Ybh{s x:Operand}(hop:o.op = .call { callee:=.builtin .append,args:=#[s,x],argTypes:=#[t,t'] }):Xp P B h ι w T a o y eff:=by
 simp only[Zo,hop]at hc;split at hc;split at hc;rename_i kn e htn hd;obtain⟨z,hz,n,hn,nb,hnb,zc,hzc,S,hS,X,hX,rfl⟩:∃z,zeroOf P e=some z /\ ∃n,Z6 P e=some n /\ ∃nb,Zir P e=some nb /\ ∃zc,z.cells=some zc /\ ∃S,opd s=some S /\ ∃X,opd x=some X/\AOp.appz e n nb zc S X=ao:=by simpa[J0n]using hc
 obtain⟨i,zv,hi,hzv,hcr,hvr,_⟩:=Zdw (h:=h) (ι:=ι) (w:=w) hz hzc;obtain⟨i2,hi2,hs2⟩:=X3 hn;rw[hi]at hi2;obtain rfl:=J0a hi2;have hb2:i.bytes=nb:=by grind[Zir]
 simp only[Zb]at he;split at he;rename_i m hSn hXm;split at he;rename_i hcond;obtain⟨g0,g1,g2,g4,g5⟩:=hcond;simp only[J0b,J0i]at he;obtain⟨rfl,rfl⟩:=he;obtain⟨kx,hkx⟩:=Zcp (Zf hsl hl hX) hXm;have hSv:=Zf hsl hl hS;rw[hSn]at hSv;generalize hsv:a.eval s=sv0 at hSv;cases hSv with|nil=>obtain⟨sv,w',hrun,hok⟩:=Yj4 (P:=P) (ty:=o.type) (k:=kx) hr hd htn hi hzv hs2 hb2 g4 hcr g5 g0 g1 g2;exact Zh (s:=Builtin.append_ #[t,t'] o.type #[.slice none 0 0,.int kx (m:Int)]) (by grind[execOp,resolve,invoke,builtin]) hrun ⟨rfl,sv,hok,.inl ⟨rfl,rfl⟩⟩
 grind;grind;grind;rename_i htt;have htt:t=t' := by grind
 subst htt;obtain⟨d,hd,hc⟩:=bind_some.1 hc;split at hc;rename_i e;obtain⟨z,hz,hc⟩:=bind_some.1 hc;obtain⟨zc,hzc,hc⟩:=bind_some.1 hc;obtain⟨n,hn,hc⟩:=bind_some.1 hc;split at hc;cases hc;rename_i hzl;have hzl:zc.length=n:=by grind
 obtain⟨nb,hnb,S,hS,X,hX,rfl⟩:∃nb,Zir P e=some nb /\ ∃S,opd s=some S /\ ∃X,opd x=some X/\AOp.append e n nb S X=ao:=by grind[Option.bind_eq_some_iff]
 obtain⟨i,zv,hi,hzv,hcr,hvr,_⟩:=Zdw (h:=h) (ι:=ι) (w:=w) hz hzc;obtain⟨i2,hi2,hs2⟩:=X3 hn;rw[hi]at hi2;obtain rfl:=J0a hi2;have hb2:i.bytes=nb:=by grind[Zir]
 have hx:execOp a.eval o=(do pure (.value (<- Builtin.append_ #[t,t] o.type #[a.eval s,a.eval x])):Sem Next):=by grind[execOp,resolve,invoke,builtin]
 simp only[Zb]at he;split at he;rename_i es hes;split at he;rename_i hpos;obtain⟨sv,w',hrun,hres⟩:=Z65 (P:=P) (ty:=o.type) hr hd hi hzv hs2 hb2 (by rw[hcr.1,hzl]) hpos (Zf hsl hl hS) (Zf hsl hl hX) hes he;rcases hres with⟨rfl,rfl,hv⟩|⟨ob,rfl,h1,rfl,hok⟩|⟨tg,o',rfl,rfl,hok⟩
 exact Zh hx hrun ⟨rfl,hv⟩;exact Zh hx hrun ⟨h1,sv,hok,.inl ⟨rfl,rfl⟩⟩;exact Zh hx hrun ⟨sv,hok,.inl ⟨rfl,rfl⟩⟩;grind;grind;grind
theorem Ykc{d s:Operand}(hop:o.op = .call { callee:=.builtin .copy,args:=#[d,s],argTypes:=#[t,t'] }):Xp P B h ι w T a o y eff:=by
 simp only[Zo,hop]at hc;obtain⟨dt,hd,hc⟩:=bind_some.1 hc;obtain⟨dt',hd',hc⟩:=bind_some.1 hc;split at hc;rename_i e _ _;obtain⟨n,hn,D,hD,S,hS,rfl⟩:∃n,Z6 P e=some n /\ ∃D,opd d=some D /\ ∃S,opd s=some S/\AOp.copy n D S=ao:=by grind[Option.bind_eq_some_iff]
 obtain⟨i,hi,hs⟩:=X3 hn;have hx:execOp a.eval o=(do pure (.value (<- Builtin.copy_ #[t,t'] o.type #[a.eval d,a.eval s])):Sem Next):=by grind[execOp,resolve,invoke,builtin]
 simp only[Zb]at he;split at he;rename_i es hes;obtain⟨k,rfl,w',hrun,hres⟩:=Yh6 (P:=P) (ty:=o.type) (sT:=t') hr hd hi hs (Zf hsl hl hD) (Zf hsl hl hS) hes he;rcases hres with⟨rfl,rfl⟩|⟨tg,o',rfl,hok⟩
 exact Zh hx hrun ⟨rfl,.p _ _ (.int _ _)⟩;exact Zh hx hrun ⟨_,hok,.inr (.p _ _ (.int _ _))⟩;grind;grind
theorem Ykd{b:Builtin}{mx:Bool}(hb:b=if mx then .max else .min){ts:Array TypeId}{x z:Operand}(hop:o.op = .call { callee:=.builtin b,args:=#[x,z],argTypes:=ts }):Xp P B h ι w T a o y eff:=by
 obtain⟨X,hX,Z,hZ,rfl⟩:∃X,opd x=some X /\ ∃Z,opd z=some Z/\AOp.mm mx X Z=ao:=by grind[Zo,Option.bind_eq_some_iff]
 have h1:=Zf hsl hl hX;have h2:=Zf hsl hl hZ;simp only[Zb]at he;split at he;rename_i k m k' n hm hn;simp only[J0b,J0i]at he;obtain⟨rfl,rfl⟩:=he;rw[hm]at h1;rw[hn]at h2;generalize hv1:a.eval x=v1 at h1;generalize hv2:a.eval z=v2 at h2;cases h1 with|p _ _ h1=>cases h2 with|p _ _ h2 => cases h1;cases h2;cases mx;simp only[J0r,if_false]at hb;subst hb;exact Zh (s:=Builtin.min_ ts o.type #[.int k m,.int k' n]) (by grind[execOp,resolve,invoke,builtin]) (run_min_int2 w ts o.type k k' m n) ⟨rfl,.p _ _ (.int _ _)⟩;simp only[if_true]at hb;subst hb;exact Zh (s:=Builtin.max_ ts o.type #[.int k m,.int k' n]) (by grind[execOp,resolve,invoke,builtin]) (run_max_int2 w ts o.type k k' m n) ⟨rfl,.p _ _ (.int _ _)⟩
 grind
theorem Z7b:Xp P B h ι w T a o y eff:=by
 cases hop:o.op
 case move x=>exact Z67 hr hsl hl hc he (.inl hop)
 case assign x=>exact Z67 hr hsl hl hc he (.inr hop)
 case pick c x z=>exact Yj8 hr hsl hl hc he hop
 case alloc e=>exact Yia hr hsl hl hc he hop
 case box e x=>exact Yqw hr hsl hl hc he hop
 case build t ps=>exact Yic hr hsl hl hc he hop
 case buildSlice t n ps=>exact Ybg hr hsl hl hc he hop
 case load t x=>exact Yj9 hr hsl hl hc he hop
 case store t p x=>exact Yib hr hsl hl hc he hop
 case nilCheck x=>exact Yqx hr hsl hl hc he hop
 case binOp op t x z t' => exact Yqy hr hsl hl hc he hop
 case unOp op t x=>exact Yuy hr hsl hl hc he hop
 case convert s d x=>exact Z68 hr hsl hl hc he hop
 case makeSlice t l c=>exact Yka hr hsl hl hc he hop
 case slice t x lo hi mx=>exact Yid hr hsl hl hc he hop
 case fieldAddr t x f=>exact Zz4 hr hsl hl hc he hop
 case field t x f=>exact Yie hr hsl hl hc he hop
 case indexAddr t x i=>exact Zz5 hr hsl hl hc he hop
 case index t x i=>exact Yif hr hsl hl hc he hop
 case extract x i=>exact Z69 hr hsl hl hc he hop
 case makeFunc fn first caps=>exact Ykb hr hsl hl hc he hop
 case call c =>
  obtain⟨callee,args,argTypes⟩:=c;cases callee
  case value f=>simp[Zo,hop]at hc
  case invoke=>simp[Zo,hop]at hc
  case builtin b =>
   cases b
   case len => simp only[Zo,hop]at hc;split at hc;rename_i t x ht hx;obtain rfl:=Yfi ht;obtain rfl:=Yfi hx;exact Yqz hr hsl hl (by simp only[Zo,hop];exact hc) he hop;grind
   case append => simp only[Zo,hop]at hc;split at hc;rename_i t t' s x ht hx;obtain rfl:=Z13 ht;obtain rfl:=Z13 hx;exact Ybh hr hsl hl (by simp only[Zo,hop];exact hc) he hop;grind
   case cap =>
    simp only[Zo,hop]at hc;split at hc;rename_i t x ht hx;obtain rfl:=Yfi ht;obtain rfl:=Yfi hx;obtain⟨d,hd,hc⟩:=bind_some.1 hc;split at hc;obtain⟨X,hX,rfl⟩:∃X,opd x=some X/\AOp.capn X=ao:=by simpa[J0n]using hc
    have h1:=Zf hsl hl hX;simp only[Zb]at he;split at he;rename_i hx;simp only[J0b,J0i]at he;obtain⟨rfl,rfl⟩:=he;rw[hx]at h1;generalize hev:a.eval x=v at h1;cases h1 with|nil=>exact Zh (s:=Builtin.cap_ #[t] o.type #[.slice none 0 0]) (by simp[execOp,hop,resolve,invoke,builtin,hev]) (cv:=.int .i64 0) (w' := w) (by simp[Builtin.cap_,run_underlying hd,goInt]) ⟨rfl,.p _ _ (.int _ _)⟩
    grind;grind;grind
   case copy => simp only[Zo,hop]at hc;split at hc;rename_i t t' s x ht hx;obtain rfl:=Z13 ht;obtain rfl:=Z13 hx;exact Ykc hr hsl hl (by simp only[Zo,hop];exact hc) he hop;grind
   case max => simp only[Zo,hop]at hc;split at hc;rename_i x z hx;obtain rfl:=Z13 hx;exact Ykd hr hsl hl (by simp only[Zo,hop];exact hc) he (mx:=true) rfl hop;grind
   case min => simp only[Zo,hop]at hc;split at hc;rename_i x z hx;obtain rfl:=Z13 hx;exact Ykd hr hsl hl (by simp only[Zo,hop];exact hc) he (mx:=false) rfl hop;grind
   all_goals simp[Zo,hop]at hc
 all_goals simp[Zo,hop]at hc
end
end Go.Abs
