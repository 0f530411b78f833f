import Derived.Test.YtlnihcefchoofaaGreatDoorDAbsA2
import Derived.Lib.AppendZeros
set_option linter.all false
namespace Go.Abs
open Go.RowKit (Below)
variable [GTab] [Glob]
section
variable {P:Program} {B:Nat} {w0 w:World} {h:List AObj} {ι:Em}
variable {tg:Nat}{o:AObj}
theorem Yba(hr:HRel B w0 h ι w)(hot:h[tg]? = some o)(hlv:o.size≠0)(lo m:Nat)(es:List (List AV))(vs:List Value)(hle:lo+m<=o.elems.length)(hm:m=es.length)(hvl:vs.length=m*o.size)
    (hvr:∀(i:Nat) (e:List AV),es[i]? = some e->e.length=o.size /\ ∀(j:Nat) (y:AV),e[j]? = some y -> ∃u,vs[i*o.size+j]? = some u/\VR h ι w y u) (h1:∀u∈vs,u.oneCell' = true) (hpos:0<m) :
    ∃g C,ι tg = .slice (some ⟨g,0,none⟩) o.elems.length C /\ ∃w',(storeCells ⟨g,lo*o.size,none⟩ vs).run P w = .ok () w' /\
     Zvf B h ι w tg { o with elems:=o.elems.take lo++(es++o.elems.drop (lo+m)) } (ι tg) w' := by
  obtain⟨hs,xs,hown,hes,u,hu⟩:=Xm hr hot hlv;obtain⟨g,C,hsv,hc⟩:=Zf6 hown (by omega);have hown' := hown;rw[hsv]at hown';have hmul:lo*o.size+m*o.size<=o.elems.length*o.size:=by rw[<- Nat.add_mul];exact Nat.mul_le_mul_right _ hle
  have hoff:lo*o.size+vs.length<=xs.length:=by rw[hown.1,hvl];grind
  obtain⟨cur,hcur,hcle,hown2,hgrow⟩:=Zkq hown' hoff;have hst:=run_storeCells_at P g (lo*o.size) o.e vs 0 cur w hcur (by grind) h1;simp only[Nat.add_zero]at hst;have hlen:(o.elems.take lo++(es++o.elems.drop (lo+m))).length=o.elems.length:=by grind
  refine⟨g,C,hsv,_,hst,o,xs.take (lo*o.size)++vs++xs.drop (lo*o.size+vs.length),hot,by rw[hsv];exact hgrow,λ_ h=>.inl h,.inl ⟨rfl,rfl,hlen,rfl⟩,hs,by grind,λi e he=>?_⟩;dsimp only at he ⊢;by_cases h1:i<lo;grind[List.getElem?_append_left,Zf5];rw[J0o (by grind)]at he;have hl1:(o.elems.take lo).length=lo:=by grind
  rw[hl1]at he;by_cases h2:i-lo<es.length;rw[List.getElem?_append_left h2]at he;obtain⟨h3,h4⟩:=hvr _ e he;refine⟨h3,λj y hy=>?_⟩;obtain⟨u',hu',hvr'⟩:=h4 j y hy;refine⟨u',?_,hvr'⟩;have heq:i*o.size+j=lo*o.size+((i-lo)*o.size+j):=by rw[<- Nat.add_assoc,<- Nat.add_mul];grind
  have hlt:=(J0d.1 hu').1;rw[Xz _ _ _ _ hoff,if_neg (by omega),if_pos (by omega),heq,Nat.add_sub_cancel_left];exact hu';rw[J0o (by omega),List.getElem?_drop]at he;rw[show lo+m+(i-lo-es.length)=i from by omega]at he;refine⟨hes i e he,λj y hy=>?_⟩;have hge:lo*o.size+m*o.size<=i*o.size:=by rw[<- Nat.add_mul];exact Nat.mul_le_mul_right _ (by omega)
  rw[Xz _ _ _ _ hoff,if_neg (by omega),if_neg (by omega)];grind
theorem Ybb(hr:HRel B w0 h ι w)(hot:h[tg]? = some o)(hlv:o.size≠0):Zvf B h ι w tg o (ι tg) w:=by obtain⟨hs,xs,hown,hes,u,hu⟩:=Xm hr hot hlv;exact⟨o,xs,hot,⟨rfl,rfl,rfl,Nat.le_refl _,λ_ _ _=>rfl⟩,λ_ h=>.inl h,.inl ⟨rfl,rfl,rfl,rfl⟩,hs,hown,λi e he=>⟨hes i e he,λj y hy=>⟨_,hu i e he j y hy⟩⟩⟩
variable {sT:TypeId}{x:AV}{es:List (List AV)}
theorem Z1z(hr:HRel B w0 h ι w){dT ty e e': TypeId}{i:TypeInfo}{size:Nat}(hd:P.underlying dT=some (.slice e))(hi:P.info? e=some i)(hsize:i.size=size)(hs:0<size)
    {v:Value} (hv:VR h ι w x v) (he:Ye h x=some es) (hsz:Zn size es=true)
    (hot:h[tg]? = some o) (hos:o.size=size) (lo len cap:Nat) (a:Option Addr) (hlo:lo+len<=o.elems.length)
    (ha:0<len -> ∃g C,ι tg = .slice (some ⟨g,0,none⟩) o.elems.length C/\a=some ⟨g,lo*o.size,none⟩) :
    ∃w',(Builtin.copy_ #[dT,sT] ty #[.slice a len cap,v]).run P w = .ok (.int .i64 (min es.length len:Nat)) w' /\
     Zvf B h ι w tg { o with elems:=o.elems.take lo++(es.take (min es.length len)++o.elems.drop (lo+min es.length len)) } (ι tg) w' := by
  obtain⟨a',c',news,rfl,hc',hnl,hnc,hn1,hnr⟩:=Zdv hr hv he hsz hs;have hlv:o.size≠0:=by omega
  subst hsize;rcases Nat.eq_zero_or_pos (min es.length len)with h0|hpos
  have hf:(Builtin.firstCells i.size 0 (.slice a' es.length c')).run P w = .ok #[] w:=by cases a' <;> simp[Builtin.firstCells,loadCells,loadCellsFrom]
  refine⟨w,?_,?_⟩;rw[h0];cases a<;>simp[Builtin.copy_,run_underlying hd,Builtin.lenOf,sizeOf,typeInfo,hi,Nat.min_def]<;>simp only[Nat.min_def]at h0<;>rw[h0]<;>simp[hf,storeCells,goInt];rw[h0];simp only[List.take_zero,List.nil_append,Nat.add_zero,List.take_append_drop];exact Ybb hr hot hlv;have hlen:0<len:=by omega
  obtain⟨g,C,hsv,rfl⟩:=ha hlen;obtain⟨ad,rfl,hcell⟩:=hnc (by grind);have hmle:min es.length len*i.size<=news.length:=by rw[hnl];exact Nat.mul_le_mul_right _ (Nat.min_le_left _ _)
  obtain⟨g',C',hsv',w',hst,hupd⟩:=Yba (P:=P) hr hot hlv lo (min es.length len) (es.take (min es.length len)) (news.take (min es.length len*i.size)) (by omega) (by simp) (by grind)
   (λk e he' => by grind[Zab,Zf5]) (λu hu=>hn1 u (List.mem_of_mem_take hu)) hpos
  rw[hsv]at hsv';simp only[Value.slice.injEq,J0b,Addr.mk.injEq,and_true,true_and]at hsv';obtain⟨rfl,rfl⟩:=hsv';refine⟨w',?_,hupd⟩;have hf:=run_firstCells_some (P:=P) w i.size (min es.length len) ad es.length c' (news.take (min es.length len*i.size)) (by grind) (λj u hj=>by grind);have hmin:Nat.min es.length len=min es.length len:=rfl;simp only[Builtin.copy_,List.getElem?_toArray,J0q,List.getElem?_cons_succ,Sem.run_bind,run_underlying hd,Result.andThen_ok,Builtin.lenOf,Sem.run_pure,hmin,run_sizeOf hi,hf,hst,goInt]
theorem Yh6(hr:HRel B w0 h ι w){dT ty e: TypeId}{i:TypeInfo}{size:Nat}(hd:P.underlying dT=some (.slice e))(hi:P.info? e=some i)(hsize:i.size=size)
    {d:AV} {vd:Value} (hvd:VR h ι w d vd) {v:Value} (hv:VR h ι w x v) (he:Ye h x=some es) {y:AV} {eff:Eff} (ha:Zpx h size d es=some (y,eff)) :
    ∃n:Nat,y = .p (.int .i64 n) /\ ∃w',(Builtin.copy_ #[dT,sT] ty #[vd,v]).run P w = .ok (.int .i64 n) w' /\ ((eff = .none/\w' = w) ∨ ∃tg o',eff = .upd tg o' /\ Zvf B h ι w tg o' (ι tg) w'):=by
  unfold Zpx at ha;split at ha;simp only[J0b,J0i]at ha;obtain⟨rfl,rfl⟩:=ha;cases hvd;obtain⟨a',c',rfl,hc',_⟩:=Zax hr hv he;have hf:(Builtin.firstCells i.size 0 (.slice a' es.length c')).run P w = .ok #[] w:=by cases a' <;> simp[Builtin.firstCells,loadCells,loadCellsFrom]
  refine⟨0,rfl,w,?_,.inl ⟨rfl,rfl⟩⟩;have hmin:Nat.min es.length 0=0:=Nat.min_zero _;simp only[Builtin.copy_,List.getElem?_toArray,J0q,List.getElem?_cons_succ,Sem.run_bind,run_underlying hd,Result.andThen_ok,Builtin.lenOf,Sem.run_pure,hmin,run_sizeOf hi,hf,goInt];rename_i tg ver;split at ha;rename_i o hgo;dsimp only at ha;split at ha;rename_i hc;obtain⟨hos,hsz⟩:=hc;simp only[J0b,J0i]at ha;obtain⟨rfl,rfl⟩:=ha;obtain⟨hot,hov⟩:=Zi hgo;cases hvd with
  |row _ _ _ htl hone hob =>
   obtain rfl:=(hob o hot).2 hov;obtain⟨hs,xs,hown,_⟩:=Xm hr hot (Zq hgo);have hform:∃a c,ι tg = .slice a o.elems.length c/\(0<o.elems.length -> ∃g C,ι tg = .slice (some ⟨g,0,none⟩) o.elems.length C/\a=some ⟨g,0*o.size,none⟩):=by
    rcases hown.2 with⟨hv,h0⟩|⟨g,cap,cur,hv,_,_,hc,_⟩
    grind;grind
   obtain⟨a,c,hform,hfa⟩:=hform;obtain⟨w',h1,h2⟩:=Z1z (e' := e) hr hd hi hsize (by grind) hv he hsz hot hos 0 o.elems.length c a (by omega) hfa (sT:=sT) (ty:=ty);grind
  grind;grind;rename_i tg ver lo len ex;split at ha;rename_i o hgo;dsimp only at ha;split at ha;rename_i hc;obtain⟨hos,hsz,hlo⟩:=hc;simp only[J0b,J0i]at ha;obtain⟨rfl,rfl⟩:=ha;obtain⟨hot,hov⟩:=Zi hgo;cases hvd with|sl _ _ _ _ _ _ htl hone hob=>have hss:=(hob o hot).2 hov;obtain⟨a2,c2,rfl,h3,_⟩:=Zni hr hot (Zq hgo) hss;obtain⟨hs,xs,hown,_⟩:=Xm hr hot (Zq hgo);obtain⟨w',h1,h2⟩:=Z1z (e' := e) hr hd hi hsize (by grind) hv he hsz hot hos lo len c2 a2 hlo (λhl=>by obtain⟨g,N,C,c3,hsv,hv3,_⟩:=hss.pos (.inl hl);grind[Zf6]) (sT:=sT) (ty:=ty);grind
  grind;grind;grind
theorem Z66{v:Value}(hc:cav1 v=some x)(h:List AObj)(ι:Em)(w:World)(O:Nat->Prop):VRel h ι w O x v/\x.isCell=true:=by
 unfold cav1 at hc;split at hc<;>first|(obtain rfl:=J0a hc)|cases hc
 exact⟨.p _ _ (.bool _),rfl⟩;exact⟨.p _ _ (.int _ _),rfl⟩;rename_i s;refine⟨.p _ _ ?_,rfl⟩;have:(Value.string s) = .string ⟨s.data.toList.toArray⟩:=by grind
 rw[this];exact .str _;exact⟨.nil,rfl⟩;exact⟨.nptr,rfl⟩;exact⟨.nilf,rfl⟩;exact⟨.if0,rfl⟩
theorem Zvh{α β:Type}{f:α->Option β}:∀{l:List α} {r:List β},l.mapM f=some r->r.length=l.length /\ ∀(i:Nat) (x:α) (y:β),l[i]? = some x->r[i]? = some y->f x=some y|[],r,h=>by grind|a::l,r,h=>by rw[List.mapM_cons]at h;simp only[bind,J0n,pure,J0b]at h;obtain⟨b,hb,r',hr,rfl⟩:=h;obtain⟨h1,h2⟩:=Zvh hr;grind
theorem Yfh{v:Value}(hc:cav v=some x)(h:List AObj)(ι:Em)(w:World)(O:Nat->Prop):VRel h ι w O x v:=by
 unfold cav at hc;split at hc;rename_i cs;split at hc;rename_i l hl;obtain rfl:=J0a hc;obtain⟨h1,h2⟩:=Zvh hl;refine .agg _ _ (by grind) λi y u hy hu=>?_;grind[Z66];grind;grind[Z66]
variable {slots:List AV}
theorem Zvi{tmps:Array Value}(hsl:∀(i:Nat) (x:AV) (v:Value),slots[i]? = some x->tmps[i]? = some v->VR h ι w x v)(hl:tmps.size=slots.length)(t:Nat):VR h ι w (slots.getD t .any) (tmps.getD t undef):=by
 by_cases ht:t<slots.length;have h1:slots[t]? = some slots[t]:=J0c ht;have ht2:t<tmps.size:=by omega
 have h2:tmps[t]? = some tmps[t]:=Array.getElem?_eq_getElem ht2;rw[List.getD_eq_getElem?_getD,h1,Array.getD_eq_getD_getElem?,h2];grind;rw[List.getD_eq_getElem?_getD,List.getElem?_eq_none (by omega)];exact .any _
theorem Zf{a:Act}(hsl:∀(i:Nat) (x:AV) (v:Value),slots[i]? = some x->a.tmps[i]? = some v->VR h ι w x v)(hl:a.tmps.size=slots.length){o:Operand}{y:AOpd}(ho:opd o=some y):VR h ι w (y.eval slots) (a.eval o):=by
 unfold opd at ho;split at ho;rename_i t;obtain rfl:=J0a ho;exact Zvi hsl hl t;rename_i v;rw[J0f]at ho;obtain⟨x,hx,rfl⟩:=ho;exact Yfh hx h ι w _;rename_i f;obtain rfl:=J0a ho;exact .fn f [] #[] rfl (by simp);rename_i g;obtain rfl:=J0a ho;exact .gp g 0
theorem foldl_set(off:Nat):∀(l:List Value) (k:Nat) (cells:Array Value),off+k+l.length<=cells.size ->
    (((l.zipIdx k).foldl (λcs (q:Value×Nat)=>cs.setIfInBounds (off+q.2) q.1) cells).toList=cells.toList.take (off+k)++l++cells.toList.drop (off+k+l.length))
  |[],k,cells,_=>by simp|v::l,k,cells,hle=>by simp only[J0p]at hle;simp only[List.zipIdx_cons,List.foldl_cons];rw[foldl_set off l (k+1) (cells.setIfInBounds (off+k) v) (by grind)];have:=list_seg_step cells.toList (off+k) v l (by grind);simpa[Array.toList_setIfInBounds,Nat.add_assoc]using this
def Zaf(h:List AObj)(ι:Em)(w:World)(cs:List AV)(vs:Array Value):Prop:=vs.size=cs.length /\ ∀(i:Nat) (x:AV) (v:Value),cs[i]? = some x->vs[i]? = some v->VR h ι w x v
theorem Zz1{cs xs:List AV}{vs us vs' : Array Value}(h1:Zaf h ι w cs vs)(h2:Zaf h ι w xs us){off:Nat}(hle:off+xs.length<=cs.length)
    (hv:vs'.toList=vs.toList.take off++us.toList++vs.toList.drop (off+us.toList.length)):Zaf h ι w (spl cs off xs) vs' := by
  have hl:us.toList.length=xs.length:=by simpa using h2.1
  have hs:vs.toList.length=cs.length:=by simpa using h1.1
  have he:spl cs off xs=cs.take off++xs++cs.drop (off+xs.length):=by simp[spl]
  refine⟨?_,λi x v hx hv' => ?_⟩;grind[Zvg];rw[he,Xz _ _ _ _ hle]at hx;rw[<- Array.getElem?_toList,hv,Xz _ _ _ _ (by omega),hl]at hv';by_cases c1:i<off;rw[if_pos c1]at hx hv';exact h1.2 i x v hx (by grind);rw[if_neg c1]at hx hv';by_cases c2:i<off+xs.length;rw[if_pos c2]at hx hv';exact h2.2 _ x v hx (by grind);rw[if_neg c2]at hx hv';exact h1.2 i x v hx (by grind)
theorem Zro(place:Nat->Option (Nat×Nat)):∀(ps:List (Nat×Value)) (qs:List (Nat×Nat×AV)) (cs:List AV) (vs:Array Value) (r:List AV),ps.length=qs.length ->
    (∀(k:Nat) (p:Nat×Value) (q:Nat×Nat×AV),ps[k]? = some p->qs[k]? = some q->place p.1=some (q.1,q.2.1)/\VR h ι w q.2.2 p.2)->Zaf h ι w cs vs->Zn4 qs cs=some r ->
    ∃us,Instr.fill place vs ps=some us/\Zaf h ι w r us
  |[],[],cs,vs,r,_,_,hcr,hf=>by simp only[Zn4,J0b]at hf;subst hf;exact⟨vs,rfl,hcr⟩|[],_::_,_,_,_,hl,_,_,_=>by grind|_::_,[],_,_,_,hl,_,_,_=>by grind|(i,v)::ps,(off,size,x)::qs,cs,vs,r,hl,hpq,hcr,hf=>by
   obtain⟨hp,hv⟩:=hpq 0 _ _ rfl rfl;simp only[Zn4]at hf;split at hf;rename_i xs hxs;split at hf;rename_i hc;obtain⟨h1,h2⟩:=hc;obtain⟨hsz,_,hrel⟩:=Zh5 hv hxs;have hcr2:Zaf h ι w xs v.cells:=⟨hsz,λj y u hy hu=>(hrel j y u hy hu).1⟩;have hvs:=hcr.1;dsimp only at hsz;have hfold:=foldl_set off v.cells.toList 0 vs (by grind);simp only[Nat.add_zero]at hfold;have hnew:=Zz1 hcr hcr2 (by omega:off+xs.length<=cs.length) hfold;obtain⟨us,hu1,hu2⟩:=Zro place ps qs _ _ r (by grind) (λk p q hp hq=>hpq (k+1) p q (by grind) (by grind)) hnew hf;refine⟨us,?_,hu2⟩;simp only[Instr.fill,hp];have hcond:¬((v.cells.size≠size||decide (off+v.cells.size>vs.size))=true):=by grind
   rw[if_neg (by grind)];rw[show v.cells.zipIdx=(v.cells.toList.zipIdx 0).toArray from by simp[<- Array.toList_inj]];grind;grind;grind
theorem Zdw{t:TypeId}{zx:AV}{zc:List AV}(hz:zeroOf P t=some zx)(hc:zx.cells=some zc) :
    ∃i z,P.info? t=some i/\i.zero=some z/\Zaf h ι w zc z.cells/\VR h ι w zx z /\ ∀u∈z.cells.toList,u.oneCell' = true:=by
  unfold zeroOf at hz;split at hz;rename_i i hi;split at hz;rename_i z hz0;have hr:=Yfh hz h ι w (Own h.length ι);obtain⟨h1,_,h2⟩:=Zh5 hr hc;refine⟨i,z,hi,hz0,⟨h1,λj y u hy hu=>(h2 j y u hy hu).1⟩,hr,λu hu=>?_⟩;grind[List.getElem?_of_mem];grind;grind
end
end Go.Abs
namespace Go.Abs
open Go.RowKit (Below)
variable [GTab] [Glob]
section
variable {P:Program} {B:Nat} {w0 w:World} {h:List AObj} {ι:Em}
def RowR(h:List AObj)(ι:Em)(w:World)(size:Nat)(es:List (List AV))(vs:Array Value):Prop:=vs.size=es.length*size /\ ∀(i:Nat) (e:List AV),es[i]? = some e->e.length=size /\ ∀(j:Nat) (x:AV),e[j]? = some x -> ∃v,vs[i*size+j]? = some v/\VR h ι w x v
variable {es:List (List AV)}
theorem Yj2{size:Nat}{vs us vs' : Array Value}{xs:List AV}{i:Nat}(h1:RowR h ι w size es vs)(h2:Zaf h ι w xs us)(hl:xs.length=size)(hi:i<es.length)
    (hv:vs'.toList=vs.toList.take (i*size)++us.toList++vs.toList.drop (i*size+us.toList.length)):RowR h ι w size (es.set i xs) vs' := by
  have hul:us.toList.length=size:=by have:=h2.1;grind
  have hle:i*size+us.toList.length<=vs.toList.length:=by have:(i+1)*size<=es.length*size:=Nat.mul_le_mul_right _ hi;rw[Nat.add_mul,Nat.one_mul]at this;have:=h1.1;grind
  refine⟨?_,λi' e he=>?_⟩;rw[<- Array.length_toList,hv,Zvg _ _ _ hle];simpa using h1.1;by_cases hii:i' = i;subst hii;rw[List.getElem?_set_self hi]at he;obtain rfl:=J0a he;refine⟨hl,λj x hx=>?_⟩;have hj:j<us.toList.length:=by grind
  refine⟨us.toList[j],?_,h2.2 j x _ hx (by grind)⟩;rw[<- Array.getElem?_toList,hv,Xz _ _ _ _ hle,if_neg (by omega),if_pos (by omega)];grind;rw[List.getElem?_set_ne (Ne.symm hii)]at he;obtain⟨h3,h4⟩:=h1.2 i' e he;refine⟨h3,λj x hx=>?_⟩;obtain⟨v,hv',hvr⟩:=h4 j x hx;have hj:j<size:=by grind
  refine⟨v,?_,hvr⟩;have hcmp:i' * size+j<i*size∨(i+1)*size<=i' * size+j:=by
   rcases Nat.lt_or_ge i' i with hlt|hge
   exact .inl (Zf5 hlt hj);right;have:(i+1)*size<=i' * size:=Nat.mul_le_mul_right _ (by omega);omega
  rw[Nat.add_mul,Nat.one_mul]at hcmp;rw[<- Array.getElem?_toList,hv,Xz _ _ _ _ hle];grind
theorem Z10(size:Nat):∀(ps:List (Nat×Value)) (qs:List (Nat×AV)) (es:List (List AV)) (vs:Array Value) (r:List (List AV)),ps.length=qs.length ->
    (∀(k:Nat) (p:Nat×Value) (q:Nat×AV),ps[k]? = some p->qs[k]? = some q->p.1=q.1/\VR h ι w q.2 p.2)->RowR h ι w size es vs->Zn5 size qs es=some r ->
    r.length=es.length /\ ∃us,Instr.fill (λi=>some (i*size,size)) vs ps=some us/\RowR h ι w size r us
  |[],[],es,vs,r,_,_,hcr,hf=>by simp only[Zn5,J0b]at hf;subst hf;exact⟨rfl,vs,rfl,hcr⟩|[],_::_,_,_,_,hl,_,_,_=>by grind|_::_,[],_,_,_,hl,_,_,_=>by grind|(i,v)::ps,(i',x)::qs,es,vs,r,hl,hpq,hcr,hf=>by
   obtain⟨hp,hv⟩:=hpq 0 _ _ rfl rfl;dsimp only at hp hv;subst hp;simp only[Zn5]at hf;split at hf;rename_i xs hxs;split at hf;rename_i hc;obtain⟨h1,h2⟩:=hc;obtain⟨hsz,_,hrel⟩:=Zh5 hv hxs;have hcr2:Zaf h ι w xs v.cells:=⟨hsz,λj y u hy hu=>(hrel j y u hy hu).1⟩;have hvs:=hcr.1;have hle:i*size+v.cells.size<=vs.size:=by have:(i+1)*size<=es.length*size:=Nat.mul_le_mul_right _ h2;grind
   have hfold:=foldl_set (i*size) v.cells.toList 0 vs (by grind);simp only[Nat.add_zero]at hfold;have hnew:=Yj2 hcr hcr2 h1 h2 hfold;obtain⟨hrl,us,hu1,hu2⟩:=Z10 size ps qs _ _ r (by grind) (λk p q hp hq=>hpq (k+1) p q (by grind) (by grind)) hnew hf;refine⟨by grind,us,?_,hu2⟩;simp only[Instr.fill];have hcond:¬((v.cells.size≠size||decide (i*size+v.cells.size>vs.size))=true):=by grind
   rw[if_neg (by grind)];rw[show v.cells.zipIdx=(v.cells.toList.zipIdx 0).toArray from by simp[<- Array.toList_inj]];grind;grind;grind
theorem Zn8(z:Array Value)(n size i j:Nat)(hz:z.size=size)(hi:i<n)(hj:j<size):(madeCells z (n*size))[i*size+j]? = z[j]? := by grind[Zf5,madeCells,Nat.mul_comm,Nat.mul_add_mod,Nat.mod_eq_of_lt]
variable {zc:List AV}{n:Nat}
theorem Zrp{z:Array Value}{size: Nat}(hz:Zaf h ι w zc z)(hl:zc.length=size):RowR h ι w size (List.replicate n zc) (madeCells z (n*size)):=by
 refine⟨by simp[size_madeCells],λi e he=>?_⟩;rw[List.getElem?_replicate]at he;split at he;rename_i hi;obtain rfl:=J0a he;refine⟨hl,λj x hx=>?_⟩;have hj:j<z.size:=by rw[hz.1];grind
 have hj2:j<size:=by grind
 refine⟨z[j],?_,hz.2 j x _ hx (Array.getElem?_eq_getElem hj)⟩;rw[Zn8 z n size i j (by rw[hz.1,hl]) hi hj2];grind;grind
variable {t:Nat}{ps:List (Nat×Value)}
theorem Ybc(hr:HRel B w0 h ι w){e size: Nat}{i:TypeInfo}{z:Value}(ht:P.underlying t=some (.slice e))(hi:P.info? e=some i)(hz:i.zero=some z)(hsize:i.size=size)(hs:0<size)
    (hzr:Zaf h ι w zc z.cells) (hzl:zc.length=size) (hbig:¬n*size>2 ^ 24) {qs:List (Nat×AV)} (hl:ps.length=qs.length)
    (hpq:∀(k:Nat) (p:Nat×Value) (q:Nat×AV),ps[k]? = some p->qs[k]? = some q->p.1=q.1/\VR h ι w q.2 p.2) (hf:Zn5 size qs (List.replicate n zc)=some es) :
    ∃sv w',(Instr.buildSlice t n ps.toArray).run P w = .ok sv w' /\ Zn7 B h ι w ⟨1,e,size,es⟩ sv w' := by
  obtain⟨hrl,us,hu1,hu2⟩:=Z10 size ps qs _ _ es hl hpq (Zrp hzr hzl) hf;simp only[List.length_replicate]at hrl;have hn:n<=maxLen:=by have:n<=n*size:=Nat.le_mul_of_pos_right _ hs;grind[maxLen]
  refine⟨_,_,?_,Zkr hr es us n hrl.symm hs (Nat.le_refl _) hn (by rw[hu2.1,hrl]) hu2.2⟩;simp only[Instr.buildSlice,Sem.run_bind,run_underlying ht,Result.andThen_ok,run_sizeOf hi];rw[if_neg (by grind)];by_cases h0:n*size=0;have hm:(Array.range (n*size)).map ((#[]:Array Value)[· % (#[]:Array Value).size]!)=madeCells z.cells (n*size):=by grind[madeCells]
  simp only[hsize,h0,if_true,Sem.run_bind,Sem.run_pure,Result.andThen_ok];rw[h0]at hm hu1;rw[hm,hu1];simp[newRow];have hm:(Array.range (n*size)).map (z.cells[· % z.cells.size]!)=madeCells z.cells (n*size):=rfl;simp only[hsize,h0,if_false,Sem.run_bind,Sem.run_pure,Result.andThen_ok,Zee hi hz];rw[hm,hu1];simp[newRow]
theorem Yj3(hr:HRel B w0 h ι w){e c size: Nat}{i:TypeInfo}{z:Value}(ht:P.underlying t=some (.slice e))(hi:P.info? e=some i)(hz:i.zero=some z)(hsize:i.size=size)(hs:0<size)
    (hzr:Zaf h ι w zc z.cells) (hzl:zc.length=size) (kl kc:IntKind) (hnc:n<=c) (hb:i.bytes*c<=2*Zx) (hm:c<=maxLen) :
    ∃sv w',(Instr.makeSlice t (.int kl (n:Int)) (.int kc (c:Int))).run P w = .ok sv w' /\ Zn7 B h ι w ⟨1,e,size,List.replicate n zc⟩ sv w' := by
  have hb' : (i.bytes:Int)*(c:Int)<=281474976710656:=by grind[Zx]
  have hr1:=run_make (P:=P) w t e i z ht hi hz kl kc n c (by omega) (by omega) hb' (by grind[maxLen]);simp only[J0l]at hr1;refine⟨_,_,hr1,Zkr hr _ _ c (by simp) hs hnc hm (by grind[size_madeCells]) λk e' he=>?_⟩;obtain⟨h1,h2⟩:=(Zrp (n:=n) hzr hzl).2 k e' he;refine⟨h1,λj x hx=>?_⟩;obtain⟨v,hv,hvr⟩:=h2 j x hx;have hk:k<n:=by grind
  have hj:j<size:=by grind
  have hzs:z.cells.size=size:=by rw[hzr.1,hzl]
  grind[Zn8]
theorem Yj4(hr:HRel B w0 h ι w){tn ty e size bytes: Nat}{kn k:IntKind}{i:TypeInfo}{z:Value}(ht:P.underlying t=some (.slice e))(htn:P.underlying tn=some (.int kn))(hi:P.info? e=some i)(hz:i.zero=some z)(hsize:i.size=size)(hby:i.bytes=bytes)(hs:0<size)
    (hzr:Zaf h ι w zc z.cells) (hzl:zc.length=size) (h0:0<n) (hb:n*bytes<=Zx) (hm:n<=maxLen) :
    ∃sv w',(Builtin.append_ #[t,tn] ty #[.slice none 0 0,.int k (n:Int)]).run P w = .ok sv w' /\ Zn7 B h ι w ⟨1,e,size,List.replicate n zc⟩ sv w' := by
  subst hsize;subst hby;have hr1:=Lib.run_append_nil_zeros (P:=P) w t tn ty e i z k kn ht htn hi hz n h0 hs (by grind[maxLen]) (by grind[Zx]);have hge:=grownCap_ge w n 0 e;have hcm:grownCap w n 0 e<=maxLen:=grownCap_le_maxLen w n 0 e hm;have hzs:z.cells.size=i.size:=by rw[hzr.1,hzl]
  have hzc:∀m,Builtin.zeroCells z.cells m=madeCells z.cells (m*i.size):=λm=>by grind[Builtin.zeroCells,madeCells]
  have hsizes:(Builtin.zeroCells z.cells n++Builtin.zeroCells z.cells (grownCap w n 0 e-n)).size=grownCap w n 0 e*i.size:=by simp only[Array.size_append,size_zeroCells,hzs,<- Nat.add_mul];grind
  have hgrow:w.grownBy (w.drew.alloc (.cells (Builtin.zeroCells z.cells n++Builtin.zeroCells z.cells (grownCap w n 0 e-n)) e)) none:=⟨rfl,rfl,rfl,by simp,λk hk _=>Below.heap_alloc w.drew _ k hk⟩;refine⟨_,_,hr1,Zrn (e:=e) (n:=n) hr (List.replicate n zc) _ _ _ hgrow (heap_alloc_new w.drew _) (by simp) hs hge hcm hsizes λk' e' he=>?_⟩;obtain⟨h1,h2⟩:=(Zrp (n:=n) hzr hzl).2 k' e' he;grind
variable {qs:List (Nat×Nat×AV)}{cs:List AV}
theorem Zrq{t:TypeId}{fs:Array Field}{i:TypeInfo}{z:Value}(ht:P.underlying t=some (.struct fs))(hi:P.info? t=some i)(hz:i.zero=some z)(hzr:Zaf h ι w zc z.cells)
    (hfs:∀f∈fs.toList,∃j,P.info? f.type=some j) (hl:ps.length=qs.length)
    (hpq:∀(k:Nat) (p:Nat×Value) (q:Nat×Nat×AV),ps[k]? = some p->qs[k]? = some q->(∃f,fs[p.1]? = some f/\q.1=f.offset/\Z6 P f.type=some q.2.1)/\VR h ι w q.2.2 p.2) (hf:Zn4 qs zc=some cs) :
    ∃v,(Instr.build t ps.toArray).run P w = .ok v w/\VR h ι w (.agg cs) v:=by
  have hpl:∀(l:List Field),(∀f∈l,∃j,P.info? f.type=some j) -> ∃r:List (Nat×Nat),(l.mapM (λf=>do pure (f.offset,<- sizeOf f.type)):Sem (List (Nat×Nat))).run P w = .ok r w/\r.length=l.length /\
      ∀(k:Nat) (f:Field) (q:Nat×Nat),l[k]? = some f->r[k]? = some q->q.1=f.offset/\Z6 P f.type=some q.2:=by
    intro l
    induction l with|nil=>simp_all|cons f l ih => intro hall;obtain⟨r,h1,h2,h3⟩:=ih (λg hg=>hall g (by simp[hg]));obtain⟨j,hj⟩:=hall f (by simp);refine⟨(f.offset,j.size)::r,?_,by simp[h2],λk g q hk hq=>?_⟩;rw[List.mapM_cons];simp only[Sem.run_bind,run_sizeOf hj,Result.andThen_ok,Sem.run_pure,h1];grind[Z6]
  obtain⟨r,h1,h2,h3⟩:=hpl fs.toList hfs;have hplaces:(fs.mapM (λf=>do pure (f.offset,<- sizeOf f.type)):Sem (Array (Nat×Nat))).run P w = .ok r.toArray w:=by rw[<- Array.toArray_toList (xs:=fs),List.mapM_toArray];simp_all
  obtain⟨us,hu1,hu2⟩:=Zro (r.toArray[·]?) ps qs zc z.cells cs hl (λk p q hp hq=>by grind) hzr hf;refine⟨.agg us,?_,.agg _ _ hu2.1 hu2.2⟩;simp only[Instr.build,Sem.run_bind,Zee hi hz,Result.andThen_ok,run_underlying ht,hplaces,hu1,Sem.run_pure]
theorem Zt5{e: Nat}{i ie:TypeInfo}{z:Value}(ht:P.underlying t=some (.array n e))(hi:P.info? t=some i)(hz:i.zero=some z)(hzr:Zaf h ι w zc z.cells)(hie:P.info? e=some ie)
    (hl:ps.length=qs.length)
    (hpq:∀(k:Nat) (p:Nat×Value) (q:Nat×Nat×AV),ps[k]? = some p->qs[k]? = some q->(q.1=p.1*ie.size/\q.2.1=ie.size)/\VR h ι w q.2.2 p.2) (hf:Zn4 qs zc=some cs) :
    ∃v,(Instr.build t ps.toArray).run P w = .ok v w/\VR h ι w (.agg cs) v:=by
  obtain⟨us,hu1,hu2⟩:=Zro (λi=>some (i*ie.size,ie.size)) ps qs zc z.cells cs hl (λk p q hp hq=>by grind) hzr hf;refine⟨.agg us,?_,.agg _ _ hu2.1 hu2.2⟩;simp only[Instr.build,Sem.run_bind,Zee hi hz,Result.andThen_ok,run_underlying ht,run_sizeOf hie,hu1,Sem.run_pure]
end
end Go.Abs
namespace Go.Abs
open Go.RowKit (Below)
variable [GTab] [Glob]
section
variable {P:Program} {B:Nat} {w0 w:World} {h:List AObj} {ι:Em}
variable {O:Nat->Prop}{x:AV}{n:Nat}
theorem Zcp{v:Value}(hv:VRel h ι w O x v)(hn:asN x=some n):∃k,v = .int k (n:Int):=by
 unfold asN at hn;split at hn;split at hn;rename_i k i hi;obtain rfl:=J0a hn;cases hv with|p _ _ hp=>cases hp;exact⟨k,by grind⟩
 grind;grind
def OptR(h:List AObj)(ι:Em)(w:World)(ρ:AOpd->AV):Option AOpd->Option Value->Prop|none,none=>True|some x,some v=>VR h ι w (ρ x) v|_,_=>False
theorem Y8(k:IntKind)(n y:Nat)(code:BoundsCode)(hn:n<=y):(Instr.sliceBound (.int k (n:Int)) y code).run P w = .ok n w:=by simp[Instr.sliceBound,asIntOf,hn]
variable {cap:Nat}{ρ:AOpd->AV}{lo mx:Option AOpd}{vl vh vm:Option Value}
theorem Zks{len: Nat}{ex:Bool}{hi: Option AOpd}(hl:OptR h ι w ρ lo vl)(hh:OptR h ι w ρ hi vh)(hm:OptR h ι w ρ mx vm){l: Nat}{b:Bool}
    (hb:bndA len ex ρ lo hi mx=some (l,n,b)) (hc:len<=cap) (hex:ex=true->cap=len) (sl:Bool) :
    ∃m,(Instr.sliceBounds sl len cap vl vh vm).run P w = .ok (l,n,m) w/\l<=n/\n<=len/\n<=m/\m<=cap/\(b=true->m=n)/\(b=false->m=cap):=by
  have hlow:∀l:Nat,lowA ρ lo=some l->(vl=none/\l=0) ∨ ∃k,vl=some (.int k (l:Int)):=by
   intro l h1;cases lo with
   |none => cases vl with|none=>grind[lowA]|some v=>exact hl.elim
   |some x => cases vl with|none=>exact hl.elim|some v=>obtain⟨k,rfl⟩:=Zcp hl h1;grind
  unfold bndA at hb;dsimp only at hb;split at hb;cases hb;rename_i n0 b0 hnb;split at hb;cases hb;rename_i l0 hl0;split at hb;rename_i hle;simp only[J0b,J0i]at hb;obtain⟨rfl,rfl,rfl⟩:=hb;cases hi with
  |none => cases mx with|some _=>grind|none => simp only[J0b,J0i]at hnb;obtain⟨rfl,rfl⟩:=hnb;cases vh with|some _=>exact hh.elim|none => cases vm with|some _=>exact hm.elim|none=>refine⟨cap,?_,hle.1,hle.2,hc,Nat.le_refl _,λe=>hex e,λ_=>rfl⟩;grind[Instr.sliceBounds,Sem.run_bind,Sem.run_pure,Result.andThen_ok,Y8]
  |some x =>
   cases vh with
   |none=>exact hh.elim|some v =>
    cases mx with
    |none =>
     cases vm with
     |some _=>exact hm.elim|none =>
      simp only[J0f]at hnb;obtain⟨n1,hn1,hnb⟩:=hnb;simp only[J0i]at hnb;obtain⟨rfl,rfl⟩:=hnb;obtain⟨k,rfl⟩:=Zcp hh hn1;refine⟨cap,?_,hle.1,hle.2,by omega,Nat.le_refl _,λe=>?_,λ_=>rfl⟩;simp only[Instr.sliceBounds,Sem.run_bind,Sem.run_pure,Result.andThen_ok,Y8 k n1 cap _ (Nat.le_trans hle.2 hc)];rcases hlow _ hl0 with⟨rfl,rfl⟩|⟨k0,rfl⟩
      rfl;simp[Y8 _ _ _ _ hle.1];grind
    |some y =>
     cases vm with
     |none=>exact hm.elim|some v2 =>
      dsimp only at hnb;split at hnb;rename_i n1 m1 hn1 hm1;split at hnb;rename_i heq;simp only[J0b,J0i]at hnb;obtain⟨rfl,rfl⟩:=hnb;obtain⟨k,rfl⟩:=Zcp hh hn1;obtain⟨k2,rfl⟩:=Zcp hm hm1;subst heq;refine⟨m1,?_,hle.1,hle.2,Nat.le_refl _,by omega,λ_=>rfl,λe=>by cases e⟩;simp only[Instr.sliceBounds,Sem.run_bind,Sem.run_pure,Result.andThen_ok,Y8 k2 m1 cap _ (Nat.le_trans hle.2 hc),Y8 k m1 m1 _ (Nat.le_refl _)];rcases hlow _ hl0 with⟨rfl,rfl⟩|⟨k0,rfl⟩
      rfl;simp[Y8 _ _ _ _ hle.1];grind;grind
  grind
variable {t:TypeId}
theorem Zp0{e: TypeId}(ht:P.underlying t=some (.slice e)):P.elem t=e:=by grind[Program.elem]
variable {a:Option Addr}{m:Nat}
theorem Zcq{e: TypeId}{i:TypeInfo}(ht:P.underlying t=some (.slice e))(hi:P.info? e=some i){len l: Nat}(hb:(Instr.sliceBounds true len cap vl vh vm).run P w = .ok (l,n,m) w) :
    (Instr.sliceAt t (.slice a len cap) vl vh vm).run P w = .ok (.slice (if m=l then a else a.map (·.add (l*i.size))) (n-l) (m-l)) w:=by
  rw[run_sliceAt_slice w t _ _ _ _ (by grind[Zp0]),run_slice_any w t a len cap (by grind[Zp0])];simp[hb,Zp0 ht,run_sizeOf hi,sliced]
theorem Ybd{es:List (List PV)}{len size l: Nat}(hp:PRel w O (.sl es) (.slice a len cap))(hln:l<n)(hn:n<=es.length)(hnm:n<=m)(hm:m<=cap)
    (hsz:∀e∈es,e.length=size):PRel w O (.sl ((es.take n).drop l)) (.slice (if m=l then a else a.map (·.add (l*size))) (n-l) (m-l)):=by
  rw[if_neg (by omega)];cases hp with
  |nil=>grind|sl _ ad _ _ sz u hO hlt hlen hc hsz' hcell hrel =>
   have hne:∃e,es[0]? = some e:=⟨_,J0c (by omega)⟩;obtain⟨e0,he0⟩:=hne;have:sz=size:=by grind
   subst this;have hget:∀(i:Nat) (e:List PV),((es.take n).drop l)[i]? = some e->es[l+i]? = some e:=λi e he=>by grind
   show PRel w O _ (.slice (some (ad.add (l*sz))) (n-l) (m-l));refine .sl ((es.take n).drop l) (ad.add (l*sz)) (n-l) (m-l) sz (λi j=>u (l+i) j) (by grind[Zc]) (by grind[Zc]) (by grind) (by omega) (λi e he=>hsz' _ e (hget i e he)) (λi e he j x hx=>?_) (λi e he j x hx=>hrel _ e (hget i e he) j x hx);grind[Zf2]
theorem Ybe(hr:HRel B w0 h ι w){e: TypeId}{i:TypeInfo}{size:Nat}(ht:P.underlying t=some (.slice e))(hi:P.info? e=some i)(hsize:i.size=size){y: AV}{v:Value}(hv:VR h ι w x v)
    {hi': Option AOpd} (hl:OptR h ι w ρ lo vl) (hh:OptR h ι w ρ hi' vh) (hm:OptR h ι w ρ mx vm) (ha:Zbo h size ρ x lo hi' mx=some y) :
    ∃v',(Instr.sliceAt t v vl vh vm).run P w = .ok v' w/\VR h ι w y v' := by
  subst hsize;have pure:∀(es:List (List PV)) (ex:Bool) (a:Option Addr) (len cap l n:Nat) (b:Bool),PRel w (OwnH h ι) (.sl es) (.slice a len cap)->(ex=true->cap=len)->bndA es.length ex ρ lo hi' mx=some (l,n,b) ->
      (if l=n then some (if b then AV.e0 else .p (.sl []))else if Zn i.size (es.map (·.map AV.p))then some (if b then .xf ((es.take n).drop l)else .p (.sl ((es.take n).drop l)))else none)=some y ->
      ∃v',(Instr.sliceAt t (.slice a len cap) vl vh vm).run P w = .ok v' w/\VR h ι w y v' := by
    intro es ex a len cap l n b hp hex hb hy;have hlen:es.length=len/\len<=cap:=by
     cases hp with|nil=>grind|sl _ _ _ _ _ _ _ _ hn hc=>grind
    obtain⟨rfl,hlc⟩:=hlen;obtain⟨m,hrun,h1,h2,h3,h4,h5,h6⟩:=Zks (P:=P) hl hh hm hb hlc hex true;refine⟨_,Zcq ht hi hrun,?_⟩;split at hy;rename_i heq;subst heq;obtain rfl:=J0a hy;rw[Nat.sub_self];cases b;exact .p _ _ (.nil _ _);rw[h5 rfl,Nat.sub_self];exact .e0 _;rename_i hne;split at hy;rename_i hsz;obtain rfl:=J0a hy;have hsz' : ∀e∈es,e.length=i.size:=λe he=>by obtain⟨k,hk⟩:=List.getElem?_of_mem he;have:=(Zab (i:=k) (e:=e.map AV.p) hsz (by grind)).1;grind
    have hps:=Ybd hp (Nat.lt_of_le_of_ne h1 hne) h2 h3 h4 hsz';cases b;exact .p _ _ hps;rw[h5 rfl]at hps ⊢;exact .xf _ _ _ hps;grind
  unfold Zbo at ha;split at ha;split at ha;rename_i q hb;obtain⟨l,n,b⟩:=q;obtain rfl:=J0a ha;cases hv;obtain⟨m,hrun,h1,h2,h3,h4,h5,h6⟩:=Zks (P:=P) hl hh hm hb (Nat.le_refl 0) (λ_=>rfl) true;refine⟨_,Zcq ht hi hrun,?_⟩;have hn0:n=0:=by omega
  have hl0:l=0:=by omega
  have hm0:m=0:=by omega
  subst hn0;subst hl0;subst hm0;exact .nil;grind;rename_i es;split at ha;rename_i l n b hb;cases hv with
  |p _ _ hp =>
   have hform:∃a len cap,v = .slice a len cap:=by cases hp<;>exact⟨_,_,_,rfl⟩
   grind
  grind;rename_i es;split at ha;rename_i l n b hb;cases hv with|xf _ a len hp=>grind
  grind;rename_i tg ver;split at ha;rename_i o hgo;split at ha;rename_i hos;split at ha;rename_i l n b hb;obtain⟨hot,hov⟩:=Zi hgo;cases hv with
  |row _ _ _ htl hone hob =>
   obtain rfl:=(hob o hot).2 hov;obtain⟨hs,xs,hown,_⟩:=Xm hr hot (Zq hgo);have hform:∃a cap,ι tg = .slice a o.elems.length cap/\o.elems.length<=cap/\(0<o.elems.length -> ∃g,a=some ⟨g,0,none⟩):=by
    rcases hown.2 with⟨hv,h0⟩|⟨g,cap,cur,hv,_,_,hc,_⟩
    grind;grind
   obtain⟨a,cap,hsv,hcap,hag⟩:=hform;obtain⟨m,hrun,h1,h2,h3,h4,h5,h6⟩:=Zks (P:=P) hl hh hm hb hcap (λe=>by cases e) true;by_cases hfull:(lo.isNone&&mx.isNone)=true;rw[if_pos hfull]at ha;have hl0:l=0/\b=false:=by
    simp only[J0e,Option.isNone_iff_eq_none]at hfull;obtain⟨rfl,rfl⟩:=hfull;unfold bndA at hb;cases hi' with|none=>grind[lowA]|some z => simp only[lowA,Bool.false_and]at hb;cases hz:asN (ρ z)with|none=>grind|some q=>grind
   obtain⟨rfl,rfl⟩:=hl0;obtain rfl:=h6 rfl;rw[hsv];refine⟨_,Zcq ht hi hrun,?_⟩;have hsame:(if m=0 then a else a.map (·.add (0*i.size)))=a:=by
    split;rfl;cases a<;>simp[Addr.add]
   rw[hsame,Nat.sub_zero,Nat.sub_zero];split at ha;rename_i heq;obtain rfl:=J0a ha;have hnl:n=o.elems.length:=by grind[Option.isNone_iff_eq_none,bndA]
   rw[hnl,<- hsv];exact .row tg ver _ htl hone hob;obtain rfl:=J0a ha;refine .sl tg ver 0 n false _ htl rfl λo' ho' => ?_;rw[hot]at ho';obtain rfl:=J0a ho';refine⟨by omega,λ_=>?_⟩;rcases Nat.eq_zero_or_pos o.elems.length with h0|hpos
   exact .inr ⟨by omega,rfl,.inl ⟨rfl,by grind,h0⟩⟩;obtain⟨g,rfl⟩:=hag hpos;exact .inl ⟨g,_,m,m,hsv,by simp,by omega,λhb=>Bool.noConfusion hb,by omega,λ_ _=>rfl⟩;rw[if_neg hfull]at ha;rw[hsv];refine⟨_,Zcq ht hi hrun,?_⟩;split at ha;rename_i heq;subst heq;obtain rfl:=J0a ha;rw[Nat.sub_self];cases b;exact .p _ _ (.nil _ _);rw[h5 rfl,Nat.sub_self];exact .e0 _;rename_i hne;obtain rfl:=J0a ha;rw[if_neg (by omega)];obtain⟨g,rfl⟩:=hag (by omega);refine .sl tg ver l (n-l) b _ htl rfl λo' ho' => ?_;rw[hot]at ho';obtain rfl:=J0a ho';exact⟨by omega,λ_=>.inl ⟨g,_,cap,m-l,hsv,by grind[Addr.add_lit],by omega,λhb=>by grind,by omega,λe0 e1=>by grind⟩⟩
  grind;grind;grind;rename_i tg ver lo0 len0 ex;split at ha;rename_i o hgo;split at ha;rename_i hos;split at ha;rename_i l n b hb;obtain⟨hot,hov⟩:=Zi hgo;cases hv with
  |sl _ _ _ _ _ _ htl hone hob =>
   have hss:=(hob o hot).2 hov;obtain⟨a2,c2,rfl,h3,hxc⟩:=Zni hr hot (Zq hgo) hss;obtain⟨m,hrun,h1,h2,h3',h4',h5,h6⟩:=Zks (P:=P) hl hh hm hb h3 hxc true;refine⟨_,Zcq ht hi hrun,?_⟩;split at ha;cases ha;rename_i hxb;split at ha;rename_i hc;obtain rfl:=J0a ha;simp only[J0e,Option.isNone_iff_eq_none,beq_iff_eq,Bool.not_eq_true']at hc;obtain⟨⟨⟨rfl,rfl⟩,rfl⟩,rfl⟩:=hc;have hl0:l=0/\b=false:=by
    unfold bndA at hb;cases hi' with|none=>grind[lowA]|some z => simp only[lowA,Bool.false_and]at hb;cases hz:asN (ρ z)with|none=>grind|some q=>grind
   obtain⟨rfl,rfl⟩:=hl0;obtain rfl:=h6 rfl;have hsame:(if m=0 then a2 else a2.map (·.add (0*i.size)))=a2:=by
    split;rfl;cases a2<;>simp[Addr.add]
   rw[hsame,Nat.sub_zero,Nat.sub_zero];refine .sl tg ver 0 n false _ htl rfl λo' ho' => ?_;rw[hot]at ho';obtain rfl:=J0a ho';refine⟨by omega,λ_=>?_⟩;rcases hss with⟨g,N,C,c3,q1,q2,q3,q4,q5,q6⟩|⟨rfl,_,⟨_,q2,q3⟩|⟨q,_⟩⟩
   simp only[Value.slice.injEq]at q2;obtain⟨rfl,_,rfl⟩:=q2;exact .inl ⟨g,N,C,m,q1,rfl,by omega,λe=>Bool.noConfusion e,by omega,q6⟩;grind;omega;split at ha;rename_i heq;subst heq;obtain rfl:=J0a ha;rw[Nat.sub_self];cases b;exact .p _ _ (.nil _ _);rw[h5 rfl,Nat.sub_self];exact .e0 _;rename_i hne;obtain rfl:=J0a ha;obtain⟨g,N,C,c3,hsv,hv3,_,_,h4,hcc⟩:=hss.pos (.inl (by omega));simp only[Value.slice.injEq]at hv3;obtain⟨rfl,_,rfl⟩:=hv3;rw[if_neg (by omega)];refine .sl tg ver (lo0+l) (n-l) b _ htl rfl λo' ho' => ?_;rw[hot]at ho';obtain rfl:=J0a ho';exact⟨by omega,λ_=>.inl ⟨g,N,C,m-l,hsv,by grind[Addr.add_lit],by omega,λhb=>by grind,by omega,λe0 e1=>by grind⟩⟩
  grind;grind;grind;grind
theorem Yqu(hr:HRel B w0 h ι w){e: TypeId}{i:TypeInfo}{size:Nat}(ht:P.underlying t=some (.slice e))(hi:P.info? e=some i)(hsize:i.size=size){y z: AV}{v vi:Value}(hv:VR h ι w x v)(hvi:VR h ι w z vi)
    (ha:ixA h size x z=some y):∃v',(Instr.indexAt t v vi).run P w = .ok v' w/\VR h ι w y v' := by
  subst hsize;unfold ixA at ha;split at ha;cases ha;rename_i n hn;obtain⟨k,rfl⟩:=Zcp hvi hn;have key:∀(a:Addr) (len cap:Nat),n<len->(Instr.indexAt t (.slice (some a) len cap) (.int k (n:Int))).run P w = .ok (.pointer (some (a.add (n*i.size)))) w:=by intro a len cap hlt;rw[run_indexAt_slice w t a len cap k _ (by grind[Zp0]),if_pos (by omega)];simp[Zp0 ht,run_sizeOf hi]
  have pure:∀(es:List (List PV)) (a:Option Addr) (len cap:Nat) (ev:List PV),PRel w (OwnH h ι) (.sl es) (.slice a len cap)->es[n]? = some ev->ev.length=i.size ->
      ∃v',(Instr.indexAt t (.slice a len cap) (.int k (n:Int))).run P w = .ok v' w/\VR h ι w (.fptr ev) v' := by
    intro es a len cap ev hp hev hel;cases hp with
    |nil=>grind|sl _ ad _ _ sz u hO hlt hlen hc hsz' hcell hrel =>
     have hn' : n<es.length:=(J0d.1 hev).1;have hszeq:sz=i.size:=by grind
     subst hszeq;refine⟨_,key ad len cap (by omega),.fptr ev _ (λj=>u n j) (by grind[Zc]) (by grind[Zc]) (λj x hx=>?_) (λj x hx=>hrel n ev hev j x hx)⟩;grind[Zf2]
  split at ha;rename_i es;split at ha;rename_i ev hev;split at ha;rename_i hel;obtain rfl:=J0a ha;cases hv with
  |p _ _ hp =>
   have hform:∃a len cap,v = .slice a len cap:=by cases hp<;>exact⟨_,_,_,rfl⟩
   grind
  grind;grind;rename_i es;split at ha;rename_i ev hev;split at ha;rename_i hel;obtain rfl:=J0a ha;cases hv with|xf _ a len hp=>grind
  grind;grind;rename_i tg ver;split at ha;rename_i o hgo;split at ha;rename_i hc;obtain rfl:=J0a ha;obtain⟨hot,hov⟩:=Zi hgo;cases hv with|row _ _ _ htl hone hob=>obtain rfl:=(hob o hot).2 hov;obtain⟨hs,xs,hown,_⟩:=Xm hr hot (Zq hgo);obtain⟨g,cap,hsv,hcap⟩:=Zf6 hown (by omega);rw[hsv];refine⟨_,key _ _ _ hc.1,.ptr tg ver n 0 _ htl rfl λo' ho' => ?_⟩;rw[hot]at ho';obtain rfl:=J0a ho';exact⟨by omega,λ_=>⟨g,_,cap,hsv,by grind[Addr.add_lit],hc.1⟩⟩
  grind;grind;rename_i tg ver lo len ex;split at ha;rename_i o hgo;split at ha;rename_i hc;obtain rfl:=J0a ha;obtain⟨hot,hov⟩:=Zi hgo;cases hv with|sl _ _ _ _ _ _ htl hone hob=>obtain⟨g,N,C,c2,hsv,rfl,h3,hxc,h4,_⟩:=((hob o hot).2 hov).pos (.inl (by omega));refine⟨_,key _ _ _ hc.1,.ptr tg ver (lo+n) 0 _ htl rfl λo' ho' => ?_⟩;rw[hot]at ho';obtain rfl:=J0a ho';exact⟨by omega,λ_=>⟨g,N,C,hsv,by grind[Addr.add_lit],by omega⟩⟩
  grind;grind;grind
end
end Go.Abs
