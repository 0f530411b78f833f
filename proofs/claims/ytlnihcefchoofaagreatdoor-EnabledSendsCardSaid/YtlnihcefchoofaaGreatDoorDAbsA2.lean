import Derived.Test.YtlnihcefchoofaaGreatDoorDAbsA1
set_option linter.all false
namespace Go.Abs
open Go.RowKit (Below)
variable [GTab] [Glob]
section
variable {P:Program} {B:Nat} {w0 w:World} {h:List AObj} {ι:Em}
abbrev OwnH(h:List AObj)(ι:Em):Nat->Prop:=Own h.length ι
abbrev VR(h:List AObj)(ι:Em)(w:World):AV->Value->Prop:=VRel h ι w (Own h.length ι)
variable {ver:Nat}{o:AObj}
theorem Zi{t: Nat}(hg:Zd h t ver=some o):h[t]? = some o/\o.ver=ver:=by grind[Zd]
theorem Zq{t: Nat}(hg:Zd h t ver=some o):o.size≠0:=by grind[Zd]
theorem Zpy{α:Type}(n:Nat)(u:Nat->α)(j:Nat)(v:α)(hj:((List.range n).map u)[j]? = some v):j<n/\v=u j:=by grind
variable {n:Nat}
theorem Zf5{i j s: Nat}(hi:i<n)(hj:j<s):i*s+j<n*s:=by have h1:(i+1)*s<=n*s:=Nat.mul_le_mul_right s hi;grind
theorem Xm(hr:HRel B w0 h ι w){t:Nat}(ho:h[t]? = some o)(hlv:o.size≠0) :
    0<o.size /\ ∃xs,w.ownsRow B o.e o.size (ι t) o.elems.length xs/\(∀(i:Nat) (e:List AV),o.elems[i]? = some e->e.length=o.size) /\
     ∃u:Nat->Nat->Value,∀(i:Nat) (e:List AV),o.elems[i]? = some e -> ∀(j:Nat) (x:AV),e[j]? = some x->xs[i*o.size+j]? = some (u i j)/\VR h ι w x (u i j):=by
  rcases hr.objs t o ho with⟨h0,_⟩|⟨hs,xs,h1,h2⟩
  grind;refine⟨hs,xs,h1,λi e he=>(h2 i e he).1,λi j=>(xs[i*o.size+j]?).getD undef,λi e he j x hx=>?_⟩;grind
theorem Zf6{v:Value}{b e size: Nat}{xs:List Value}(ho:w.ownsRow b e size v n xs)(hn:0<n) :
    ∃g cap,v = .slice (some ⟨g,0,none⟩) n cap/\n<=cap:=by
  rcases ho.2 with⟨_,h0⟩|⟨g,cap,cur,hv,_,_,hc,_⟩
  omega;grind
theorem Zni(hr:HRel B w0 h ι w){t:Nat}(ho:h[t]? = some o)(hlv:o.size≠0){lo len:Nat}{ex:Bool}{v:Value}(hs:SubSl o (ι t) lo len ex v) :
    ∃a c,v = .slice a len c/\len<=c/\(ex=true->c=len):=by
  rcases hs with⟨g,N,C,c,_,h2,h3,h4,_⟩|⟨rfl,rfl,⟨rfl,rfl,h0⟩|⟨_,a,c,rfl⟩⟩
  grind;obtain⟨_,xs,hown,_⟩:=Xm hr ho hlv;rcases hown.2 with⟨hv,_⟩|⟨g,cap,cur,hv,_,_,hc,_⟩
  grind;grind;grind
variable {x:AV}
theorem Zvd(hr:HRel B w0 h ι w){v:Value}{cs:List AV}(hv:VR h ι w x v)(hc:Xg h n x=some cs) :
    ∃(ad:Addr) (u:Nat->Value),v = .pointer (some ad)/\cs.length=n /\ ∀(j:Nat) (y:AV),cs[j]? = some y->w.cell? (ad.add j)=some (u j)/\VR h ι w y (u j):=by
  unfold Xg at hc;split at hc;rename_i t ver i off;split at hc;rename_i o hgo;split at hc;rename_i e he;split at hc;rename_i hle;simp only[J0b]at hc;subst hc;obtain⟨hot,hov⟩:=Zi hgo;cases hv with|ptr _ _ _ _ _ ht hone hob => obtain⟨g,N,C,hsv,rfl,hil⟩:=(hob o hot).2 hov;obtain⟨hs,xs,hown,hel,u,hu⟩:=Xm hr hot (Zq hgo);have hesz:=hel i e he;rw[hsv]at hown;obtain⟨hx1,hx2⟩:=hown;have hown' : w.ownsRow B o.e o.size (.slice (some ⟨g,0,none⟩) N C) o.elems.length xs:=⟨hx1,hx2⟩;obtain⟨g',cap',hform,_⟩:=Zf6 hown' (by omega);simp only[Value.slice.injEq,J0b,Addr.mk.injEq,and_true]at hform;obtain⟨rfl,rfl,rfl⟩:=hform;refine⟨_,λj=>u i (off+j),rfl,by grind,λj y hy=>?_⟩;rw[List.getElem?_take]at hy;split at hy;rw[List.getElem?_drop]at hy;obtain⟨h1,h2⟩:=hu i e he _ y hy;refine⟨?_,h2⟩;rw[Addr.add_lit,Nat.add_assoc,hown'.cellAt _ (Zf5 hil (by omega))];exact h1;grind
  grind;grind;grind;rename_i cells;split at hc;rename_i hle;simp only[J0b]at hc;subst hc;cases hv with|fptr _ ad u hO hlt hcell hrel => refine⟨ad,u,rfl,by grind,λj y hy=>?_⟩;rw[J0m,J0f]at hy;obtain⟨z,hz,rfl⟩:=hy;rw[List.getElem?_take]at hz;split at hz;exact⟨hcell j z hz,.p _ _ (hrel j z hz)⟩;grind
  grind;rename_i g off;split at hc;rename_i hn;split at hc;rename_i x hx;simp only[J0b]at hc;subst hc;cases hv with|gp _ _ => obtain⟨v,h1,h2⟩:=Glob.holds w hr.globw.2 g off x hx;refine⟨⟨g,off,none⟩,λ_=>v,rfl,by simpa using hn.symm,λj y hy=>?_⟩;cases j with|zero=>simp only[J0q,J0b]at hy;subst hy;exact⟨h1,.p _ _ (h2 _ _)⟩|succ j=>simp at hy
  cases hc;cases hc;grind
variable {t:TypeId}{d:TypeDesc}
theorem Znj(hd:P.underlying t=some d)(w:World):(isAgg t).run P w = .ok (Qm d) w:=by simp only[isAgg,Sem.run_bind,run_underlying hd,Result.andThen_ok];cases d<;>rfl
theorem run_sizeOf{i:TypeInfo}(hi:P.info? t=some i)(w:World):(sizeOf t).run P w = .ok i.size w:=by simp[sizeOf,typeInfo,hi]
theorem Zee{i:TypeInfo}{z:Value}(hi:P.info? t=some i)(hz:i.zero=some z)(w:World):(zeroValue t).run P w = .ok z w:=by simp[zeroValue,typeInfo,hi,hz]
theorem Zt3{i:TypeInfo}(hd:P.underlying t=some d)(hda:Qm d=true)(hi:P.info? t=some i)(ad:Addr)(us:List Value)
    (hl:us.length=i.size) (hc:∀(j:Nat) (v:Value),us[j]? = some v->w.cell? (ad.add j)=some v):(loadVar t ad).run P w = .ok (.agg us.toArray) w:=by
  simp only[loadVar,Sem.run_bind,Znj hd,Result.andThen_ok,hda,if_true,run_sizeOf hi,<- hl,run_loadCells_list w ad us hc,Sem.run_pure]
theorem Zt4(hd:P.underlying t=some d)(hda:Qm d=false)(ad:Addr)(v:Value)(hc:w.cell? ad=some v):(loadVar t ad).run P w = .ok v w:=by grind[loadVar,Sem.run_bind,Znj,Result.andThen_ok,run_load]
variable {m:Option Nat}
theorem Zpz(hm:Zco P t=some m):∃d i,P.underlying t=some d/\P.info? t=some i/\m=if Qm d then some i.size else none:=by grind[Zco]
theorem Zve(hr:HRel B w0 h ι w)(hm:Zco P t=some m){v:Value}(hv:VR h ι w x v){y:AV}{T:Nat}{ρ:AOpd->AV}{X:AOpd}(hX:ρ X=x){eff:Eff}
    (he:Zb h T ρ (.load m X)=some (y,eff)):eff = .none /\ ∃cv,(Instr.loadAt t v).run P w = .ok cv w/\VR h ι w y cv:=by
  obtain⟨d,i,hd,hi,rfl⟩:=Zpz hm;by_cases hda:Qm d=true;simp only[hda,if_true,Zb,hX]at he;split at he;rename_i cs hcs;simp only[J0b,J0i]at he;obtain⟨rfl,rfl⟩:=he;obtain⟨ad,u,rfl,hl,hc⟩:=Zvd hr hv hcs;have hx:=Zt3 (w:=w) hd hda hi ad ((List.range cs.length).map u) (by simp[hl]) (λj v hj=>by obtain⟨hk,rfl⟩:=Zpy _ _ _ _ hj;simp_all);refine⟨rfl,_,by simp only[Instr.loadAt,Instr.sureAddr,Sem.run_bind,Sem.run_pure,Result.andThen_ok];exact hx,.agg _ _ (by simp) λj x v hjx hjv=>?_⟩;grind;grind;have hda:Qm d=false:=by grind
  simp only[hda,J0r,if_false,Zb,hX]at he;split at he;rename_i c hcs;simp only[J0b,J0i]at he;obtain⟨rfl,rfl⟩:=he;obtain⟨ad,u,rfl,hl,hc⟩:=Zvd hr hv hcs;obtain⟨h1,h2⟩:=hc 0 c rfl;grind[Addr.add,Instr.loadAt,Instr.sureAddr,Zt4];grind
end
end Go.Abs
namespace Go.Abs
open Go.RowKit (Below)
variable [GTab] [Glob]
def Zn7(B:Nat)(h:List AObj)(ι:Em)(w:World)(o:AObj)(sv:Value)(w' : World):Prop :=
 ∃xs:List Value,w.grownBy w' none/\(∀g,sv.ownBlock=some g->w.heap.size<=g)/\0<o.size/\w'.ownsRow B o.e o.size sv o.elems.length xs /\
  ∀(i:Nat) (e:List AV),o.elems[i]? = some e->e.length=o.size /\ ∀(j:Nat) (x:AV),e[j]? = some x -> ∃v,xs[i*o.size+j]? = some v/\VR h ι w x v
def Zvf(B:Nat)(h:List AObj)(ι:Em)(w:World)(t:Nat)(o' : AObj)(sv:Value)(w' : World):Prop :=
 ∃(o:AObj) (xs:List Value),h[t]? = some o/\w.grownBy w' (ι t).ownBlock/\(∀g,sv.ownBlock=some g->(ι t).ownBlock=some g∨w.heap.size<=g) /\
  ((o'.ver=o.ver/\o'.size=o.size/\o'.elems.length=o.elems.length/\sv=ι t)∨o.ver<o'.ver)/\0<o'.size/\w'.ownsRow B o'.e o'.size sv o'.elems.length xs /\
  ∀(i:Nat) (e:List AV),o'.elems[i]? = some e->e.length=o'.size /\ ∀(j:Nat) (x:AV),e[j]? = some x -> ∃v,xs[i*o'.size+j]? = some v/\VR h ι w x v
variable {α:Type}
theorem Xz(xs vs:List α)(k m:Nat)(hk:k+vs.length<=xs.length) :
    (xs.take k++vs++xs.drop (k+vs.length))[m]? = if m<k then xs[m]? else if m<k+vs.length then vs[m-k]? else xs[m]? := by
  grind
theorem Zvg(xs vs:List α)(k:Nat)(hk:k+vs.length<=xs.length):(xs.take k++vs++xs.drop (k+vs.length)).length=xs.length:=by grind
section
variable {P:Program} {B:Nat} {w0 w:World} {h:List AObj} {ι:Em}
variable {x:AV}
theorem Zh5{v:Value}{cs:List AV}(hv:VR h ι w x v)(hc:x.cells=some cs) :
    v.cells.size=cs.length/\cs.all AV.isCell=true /\ ∀(j:Nat) (y:AV) (u:Value),cs[j]? = some y->v.cells[j]? = some u->VR h ι w y u/\u.oneCell' = true:=by
  have key:x.isCell=true->x.cells=some [x]/\v.cells=#[v]:=λhx=>by have h1:=hv.oneCell hx;refine⟨by cases x<;>simp_all[AV.cells,AV.isCell],by cases v<;>simp_all[Value.cells,Value.oneCell']⟩
  by_cases hx:x.isCell=true;obtain⟨h1,h2⟩:=key hx;rw[h1]at hc;obtain rfl:=J0a hc;rw[h2];refine⟨rfl,by simp[hx],λj y u hy hu=>?_⟩;cases j with|zero=>simp at hy hu;subst hy;subst hu;exact⟨hv,hv.oneCell hx⟩|succ j=>grind
  cases hv with|agg cs' vs hl hr => simp only[AV.cells]at hc;split at hc;rename_i hall;obtain rfl:=J0a hc;refine⟨hl,hall,λj y u hy hu=>?_⟩;have hyr:=hr j y u hy hu;exact⟨hyr,hyr.oneCell (List.all_eq_true.1 hall y (J0j hy))⟩;grind|_=>grind[AV.cells]
variable {n:Nat}
theorem Zkq{b e size g cap off: Nat}{xs vs:List Value}(ho:w.ownsRow b e size (.slice (some ⟨g,0,none⟩) n cap) n xs)(hk:off+vs.length<=xs.length) :
    ∃cur,w.heap[g]? = some (.cells cur e (0,0))/\off+vs.length<=cur.size /\
     (w.setRow g (cur.toList.take off++vs++cur.toList.drop (off+vs.length)).toArray).ownsRow b e size (.slice (some ⟨g,0,none⟩) n cap) n (xs.take off++vs++xs.drop (off+vs.length)) /\
     w.grownBy (w.setRow g (cur.toList.take off++vs++cur.toList.drop (off+vs.length)).toArray) (some g):=by
  obtain⟨hl,hh⟩:=ho;rcases hh with⟨h',_⟩|⟨g',cap',cur,h',hb,hg,hnc,hcm,hcs,htake⟩
  grind;simp only[Value.slice.injEq,J0b,Addr.mk.injEq,and_true,true_and]at h';obtain⟨rfl,rfl⟩:=h';have hle:n*size<=cur.size:=by grind
  have hkc:off+vs.length<=cur.size:=by omega
  refine⟨cur,hg,hkc,⟨by grind,.inr ⟨g,cap,_,rfl,hb,setRow_heap w g cur _ e _ hg,hnc,hcm,?_,?_⟩⟩,
   ⟨rfl,rfl,rfl,by simp,λk _ hne=>setRow_other w g k _ (λe=>hne (by rw[e]))⟩⟩
  grind;apply List.ext_getElem?;intro m;rw[Xz _ _ _ _ hk,List.getElem?_take,Xz _ _ _ _ (by grind),<- htake];grind
theorem Z64(hr:HRel B w0 h ι w){t:TypeId}(hn:Z6 P t=some n){v:Value}(hv:VR h ι w x v){a:AV}{va:Value}(ha:VR h ι w a va)
    {y:AV} {T:Nat} {ρ:AOpd->AV} {A X:AOpd} (hX:ρ X=x) (hA:ρ A=a) {eff:Eff} (he:Zb h T ρ (.store n A X)=some (y,eff)) :
    y = .u /\ ∃s o' w',eff = .upd s o' /\ (Instr.storeAt t va v).run P w = .ok () w' /\ Zvf B h ι w s o' (ι s) w' := by
  simp only[Zb,hX,hA]at he;split at he;rename_i cs tg ver i off hcs;split at he;rename_i o hgo;split at he;rename_i e hel;split at he;rename_i hcond;obtain⟨hcl,hle⟩:=hcond;simp only[J0b,J0i]at he;obtain⟨rfl,rfl⟩:=he;obtain⟨hot,hov⟩:=Zi hgo;obtain⟨hsz,hall,hcr⟩:=Zh5 hv hcs;cases ha with
  |ptr _ _ _ _ _ ht hone hob =>
   obtain⟨g,N,C,hsv,rfl,hil⟩:=(hob o hot).2 hov;obtain⟨hs,xs,hown,hes,u,hu⟩:=Xm hr hot (Zq hgo);have hesz:=hes i e hel;have hown' := hown;rw[hsv]at hown';obtain⟨g',cap',hform,_⟩:=Zf6 hown' (by omega);simp only[Value.slice.injEq,J0b,Addr.mk.injEq,and_true]at hform;obtain⟨rfl,rfl,rfl⟩:=hform;have hvl:v.cells.toList.length=cs.length:=by grind
   have hoff:i*o.size+off+v.cells.toList.length<=xs.length:=by rw[hown.1,hvl];have:(i+1)*o.size<=o.elems.length*o.size:=Nat.mul_le_mul_right _ hil;grind
   obtain⟨cur,hcur,hcle,hown2,hgrow⟩:=Zkq hown' hoff;have hst:=run_storeCells_at P g (i*o.size+off) o.e v.cells.toList 0 cur w hcur (by grind) (λc hc=>by
    obtain⟨j,hj,rfl⟩:=List.getElem_of_mem hc;have hj' : j<cs.length:=by omega
    exact(hcr j cs[j] _ (J0c hj') (by grind)).2)
   simp only[Nat.add_zero]at hst;refine⟨rfl,_,_,_,rfl,?_,o,xs.take (i*o.size+off)++v.cells.toList++xs.drop (i*o.size+off+v.cells.toList.length),hot,by rw[hsv];exact hgrow,λ_ hg=>.inl hg,.inl ⟨rfl,rfl,by simp,rfl⟩,hs,?_,λi' e' he' => ?_⟩;obtain⟨i0,hi0,hi1⟩:∃i0,P.info? t=some i0/\i0.size=n:=by simpa[Z6]using hn
   grind[Instr.storeAt,Instr.sureAddr,storeVar,Sem.run_bind,Result.andThen_ok,run_sizeOf];grind;dsimp only at he' ⊢;by_cases hii:i' = i;subst hii;rw[List.getElem?_set_self hil]at he';obtain rfl:=J0a he';refine⟨by simp[spl];omega,λj y hy=>?_⟩;have hspl:spl e off cs=e.take off++cs++e.drop (off+cs.length):=by simp[spl]
   rw[hspl,Xz _ _ _ _ (by omega)]at hy;rw[Xz _ _ _ _ hoff];by_cases h1:j<off;grind;rw[if_neg h1]at hy;rw[if_neg (by omega)];by_cases h2:j<off+cs.length;rw[if_pos h2]at hy;rw[if_pos (by omega)];have hlt:j-off<v.cells.toList.length:=by omega
   refine⟨v.cells.toList[j-off],?_,(hcr _ y _ hy (by grind)).1⟩;rw[show i' * o.size+j-(i' * o.size+off)=j-off from by omega];grind;grind;rw[List.getElem?_set_ne (Ne.symm hii)]at he';have hel' := hes i' e' he';refine⟨hel',λj y hy=>?_⟩;have hj:j<o.size:=by grind
   rw[Xz _ _ _ _ hoff];have hcmp:i' * o.size+j<i*o.size∨(i+1)*o.size<=i' * o.size+j:=by
    rcases Nat.lt_or_ge i' i with hlt|hge
    left;exact Zf5 hlt hj;right;have:(i+1)*o.size<=i' * o.size:=Nat.mul_le_mul_right _ (by omega);omega
   grind
  grind;grind;grind;grind
theorem Zrn(hr:HRel B w0 h ι w){e size: Nat}(es:List (List AV))(cells:Array Value)(cap:Nat)(w' : World)(hg:w.grownBy w' none)(hcell:w'.heap[w.heap.size]? = some (.cells cells e (0,0)))
    (hn:n=es.length) (hs:0<size) (hcap:n<=cap) (hm:cap<=maxLen) (hcs:cells.size=cap*size)
    (hx:∀(i:Nat) (e:List AV),es[i]? = some e->e.length=size /\ ∀(j:Nat) (x:AV),e[j]? = some x -> ∃v,cells[i*size+j]? = some v/\VR h ι w x v) :
    Zn7 B h ι w ⟨1,e,size,es⟩ (.slice (some ⟨w.heap.size,0,none⟩) n cap) w' := by
  subst hn;refine⟨cells.toList.take (es.length*size),hg,λg hg=>?_,hs,⟨?_,.inr ⟨_,cap,cells,rfl,hr.size,hcell,hcap,hm,hcs,rfl⟩⟩,λi e he=>⟨(hx i e he).1,λj x hj=>?_⟩⟩;grind[Value.ownBlock];simp_all;grind[Zf5]
theorem Zkr(hr:HRel B w0 h ι w){e size: Nat}(es:List (List AV))(cells:Array Value)(cap:Nat)(hn:n=es.length)(hs:0<size)(hcap:n<=cap)(hm:cap<=maxLen)(hcs:cells.size=cap*size)
    (hx:∀(i:Nat) (e:List AV),es[i]? = some e->e.length=size /\ ∀(j:Nat) (x:AV),e[j]? = some x -> ∃v,cells[i*size+j]? = some v/\VR h ι w x v) :
    Zn7 B h ι w ⟨1,e,size,es⟩ (.slice (some ⟨w.heap.size,0,none⟩) n cap) (w.alloc (.cells cells e)) :=
  Zrn hr es cells cap _ (World.grownBy_alloc w _ none) (heap_alloc_new w _) hn hs hcap hm hcs hx
end
end Go.Abs
namespace Go.Abs
open Go.RowKit (Below)
variable [GTab] [Glob]
section
variable {P:Program} {B:Nat} {w0 w:World} {h:List AObj} {ι:Em}
variable {es:List (List AV)}
theorem Zab{size:Nat}(hs:Zn size es=true){i:Nat}{e:List AV}(he:es[i]? = some e):e.length=size /\ ∀(j:Nat) (x:AV),e[j]? = some x->x.isCell=true:=by have:=List.all_eq_true.1 hs e (J0j he);grind
variable {x:AV}
theorem Zax(hr:HRel B w0 h ι w){v:Value}(hv:VR h ι w x v)(he:Ye h x=some es) :
    ∃(a:Option Addr) (c:Nat),v = .slice a es.length c/\es.length<=c /\
     (es≠[] -> ∃(sz:Nat) (ad:Addr) (u:Nat->Nat->Value),ad.block<w.heap.size/\a=some ad/\(∀(i:Nat) (e:List AV),es[i]? = some e->e.length=sz) /\
      ∀(i:Nat) (e:List AV),es[i]? = some e -> ∀(j:Nat) (y:AV),e[j]? = some y->w.cell? (ad.add (i*sz+j))=some (u i j)/\VR h ι w y (u i j)):=by
  have pure:∀(ps:List (List PV)) (v:Value),PRel w (OwnH h ι) (.sl ps) v -> ∃(a:Option Addr) (c:Nat),v = .slice a (ps.map (·.map AV.p)).length c/\(ps.map (·.map AV.p)).length<=c /\
      (ps.map (·.map AV.p)≠[] -> ∃(sz:Nat) (ad:Addr) (u:Nat->Nat->Value),ad.block<w.heap.size/\a=some ad/\(∀(i:Nat) (e:List AV),(ps.map (·.map AV.p))[i]? = some e->e.length=sz) /\
       ∀(i:Nat) (e:List AV),(ps.map (·.map AV.p))[i]? = some e -> ∀(j:Nat) (y:AV),e[j]? = some y->w.cell? (ad.add (i*sz+j))=some (u i j)/\VR h ι w y (u i j)):=by
    intro ps v hp;cases hp with|nil a c=>simp_all|sl _ a n c size u hO hlt hn hc hsz hcell hrel => subst hn;refine⟨some a,c,by simp,by grind,λ_=>⟨size,a,u,hlt,rfl,λi e hie=>?_,λi e hie j y hy=>?_⟩⟩;grind;rw[J0m,J0f]at hie;obtain⟨e',he',rfl⟩:=hie;rw[J0m,J0f]at hy;obtain⟨z,hz,rfl⟩:=hy;exact⟨hcell i e' he' j z hz,.p _ _ (hrel i e' he' j z hz)⟩
  unfold Ye at he;split at he;obtain rfl:=J0a he;cases hv with|p _ _ hp=>grind
  obtain rfl:=J0a he;cases hv with|xf _ a n hp=>exact pure _ _ hp
  obtain rfl:=J0a he;cases hv;simp_all;obtain rfl:=J0a he;cases hv with|ne a c=>simp_all
  obtain rfl:=J0a he;cases hv with|nl c=>simp_all
  obtain rfl:=J0a he;cases hv with|e0 a=>simp_all
  rename_i t ver;rw[J0f]at he;obtain⟨o,hgo,rfl⟩:=he;obtain⟨hot,hov⟩:=Zi hgo;cases hv with
  |row _ _ _ ht hone hob =>
   obtain rfl:=(hob o hot).2 hov;obtain⟨hs,xs,hown,hes,u,hu⟩:=Xm hr hot (Zq hgo);rcases Nat.eq_zero_or_pos o.elems.length with h0|hpos
   have hnil:o.elems=[]:=List.eq_nil_of_length_eq_zero h0;rcases hown.2 with⟨hv,_⟩|⟨g,cap,cur,hv,_,_,hc,_⟩
   grind;grind;obtain⟨g,cap,hv,hc⟩:=Zf6 hown hpos;refine⟨_,cap,hv,hc,λ_=>⟨o.size,_,u,(hr.own ht (by rw[hv];rfl)).2,rfl,hes,λi e hie j y hy=>?_⟩⟩;obtain⟨h1,h2⟩:=hu i e hie j y hy;rw[hv]at hown;refine⟨?_,h2⟩;rw[Addr.add_lit,Nat.zero_add,hown.cellAt _ (Zf5 (J0d.1 hie).1 (by grind))];exact h1
  rename_i t ver lo len ex;rw[J0f]at he;obtain⟨o,hgo,rfl⟩:=he;obtain⟨hot,hov⟩:=Zi hgo;cases hv with
  |sl _ _ _ _ _ _ ht hone hob =>
   have hss:=(hob o hot).2 hov;rcases Nat.eq_zero_or_pos len with h0|hpos
   grind[Zni,Zq];obtain⟨g,N,C,c,hsv,rfl,hlc,_,hle,_⟩:=hss.pos (.inl hpos);have hlen:((o.elems.drop lo).take len).length=len:=by grind
   obtain⟨hs,xs,hown,hes,u,hu⟩:=Xm hr hot (Zq hgo);refine⟨_,c,by rw[hlen],by omega,λhne=>⟨o.size,_,λi j=>u (lo+i) j,(hr.own ht (by rw[hsv];rfl)).2,rfl,λi e hie=>?_,λi e hie j y hy=>?_⟩⟩;grind;rw[List.getElem?_take]at hie;split at hie;rw[List.getElem?_drop]at hie;obtain⟨h1,h2⟩:=hu _ e hie j y hy;refine⟨?_,h2⟩;have hlt:lo+i<o.elems.length:=(J0d.1 hie).1;have hown' := hown;rw[hsv]at hown';obtain⟨g',cap',hform,_⟩:=Zf6 hown' (by omega);simp only[Value.slice.injEq,J0b,Addr.mk.injEq,and_true]at hform;obtain⟨rfl,rfl,rfl⟩:=hform;rw[Addr.add_lit,<- Nat.add_assoc,<- Nat.add_mul,hown'.cellAt _ (Zf5 hlt (by grind))];exact h1;grind
  grind
theorem Zdv(hr:HRel B w0 h ι w){v:Value}{size:Nat}(hv:VR h ι w x v)(he:Ye h x=some es)(hsz:Zn size es=true)(hs:0<size) :
    ∃(a:Option Addr) (c:Nat) (news:List Value),v = .slice a es.length c/\es.length<=c/\news.length=es.length*size/\(es≠[] -> ∃ad,a=some ad /\ ∀(j:Nat) (u:Value),news[j]? = some u->w.cell? (ad.add j)=some u)/\(∀u∈news,u.oneCell' = true) /\
     ∀(i:Nat) (e:List AV),es[i]? = some e -> ∀(j:Nat) (y:AV),e[j]? = some y -> ∃u,news[i*size+j]? = some u/\VR h ι w y u:=by
  obtain⟨a,c,rfl,hc,hrest⟩:=Zax hr hv he;by_cases hne:es=[];simp_all;obtain⟨sz,ad,u,_,rfl,hel,hcell⟩:=hrest hne;have hszeq:sz=size:=by
   obtain⟨e,he0⟩:∃e,es[0]? = some e:=by
    cases es with|nil=>grind|cons e _=>simp_all
   grind[Zab]
  subst hszeq;have key:∀k,k<es.length*sz -> ∃(e:List AV) (y:AV),es[k / sz]? = some e/\e[k % sz]? = some y:=by
   intro k hk;have h1:k / sz<es.length:=(Nat.div_lt_iff_lt_mul hs).2 hk;have h2:k % sz<(es[k / sz]).length:=by rw[hel _ _ (J0c h1)];exact Nat.mod_lt _ hs
   simp_all
  have hdm:∀k,k / sz*sz+k % sz=k:=λk=>by grind[Nat.div_add_mod]
  refine⟨some ad,c,(List.range (es.length*sz)).map (λk=>u (k / sz) (k % sz)),rfl,hc,by simp,λ_=>⟨ad,rfl,λj v hj=>?_⟩,λv hv' => ?_,λi e hie j y hy=>?_⟩;grind;obtain⟨k,hk⟩:=List.getElem?_of_mem hv';obtain⟨hlt,rfl⟩:=Zpy _ _ _ _ hk;obtain⟨e,y,h1,h2⟩:=key k hlt;exact(hcell _ e h1 _ y h2).2.oneCell ((Zab hsz h1).2 _ y h2);grind[Zf5]
theorem Yfg{e size:Nat}(hr:HRel B w0 h ι w){v:Value}(hv:VR h ι w x v){cs:List AV}(hc:x.cells=some cs)(hl:cs.length=size)(hs:0<size) :
    Zn7 B h ι w ⟨1,e,size,[cs]⟩ (.slice (some ⟨w.heap.size,0,none⟩) 1 1) (w.alloc (.cells v.cells e)):=by
  obtain⟨h1,h2,h3⟩:=Zh5 hv hc;refine Zkr hr [cs] v.cells 1 rfl hs (Nat.le_refl _) (by simp[maxLen]) (by omega) λi e' he=>?_;cases i with
  |zero =>
   simp at he;subst he;refine⟨hl,λj y hy=>?_⟩;have hj:j<v.cells.size:=by grind
   exact⟨_,by grind,(h3 j y _ hy (Array.getElem?_eq_getElem hj)).1⟩
  |succ i=>grind
variable {t:TypeId}
theorem Zbz{ty e: TypeId}{i:TypeInfo}(ht:P.underlying t=some (.slice e))(hi:P.info? e=some i)(a:Option Addr)(c:Nat)(a' : Option Addr)(n c' : Nat)(hn:n<=c)(hza:a=none->n=0) :
    (Builtin.append_ #[t,t] ty #[.slice a n c,.slice a' 0 c']).run P w = .ok (.slice a n c) w:=by
  have hf:(Builtin.firstCells i.size 0 (.slice a' 0 c')).run P w = .ok #[] w:=by cases a' <;> simp[Builtin.firstCells,loadCells,loadCellsFrom]
  cases a with|none=>simp[Builtin.append_,run_underlying ht,sizeOf,typeInfo,hi,Builtin.lenOf,hf,hn]|some ad=>simp[Builtin.append_,run_underlying ht,sizeOf,typeInfo,hi,Builtin.lenOf,hf,hn,storeCells]
variable {bytes:Nat}{olds:List Value}{es0:List (List AV)}
theorem Zis(hr:HRel B w0 h ι w){ty e: TypeId}{i:TypeInfo}{z:Value}{size: Nat}(ht:P.underlying t=some (.slice e))(hi:P.info? e=some i)(hz:i.zero=some z)(hsize:i.size=size)(hby:i.bytes=bytes)
    (hzs:z.cells.size=size) (hs:0<size) {a:Option Addr} {n:Nat} (hn:n=es0.length) (hol:olds.length=n*size)
    (hoc:0<n -> ∃ad,a=some ad /\ ∀(j:Nat) (u:Value),olds[j]? = some u->w.cell? (ad.add j)=some u)
    (hor:∀(i:Nat) (e:List AV),es0[i]? = some e->e.length=size /\ ∀(j:Nat) (y:AV),e[j]? = some y -> ∃u,olds[i*size+j]? = some u/\VR h ι w y u)
    {v:Value} (hv:VR h ι w x v) (he:Ye h x=some es) (hsz:Zn size es=true) (hne:es≠[]) (hb:(n+es.length)*bytes<=Zx) (hml:n+es.length<=maxLen) :
    ∃sv w',(Builtin.append_ #[t,t] ty #[.slice a n n,v]).run P w = .ok sv w' /\ Zn7 B h ι w ⟨1,e,size,es0++es⟩ sv w' := by
  obtain⟨a',c',news,rfl,hc',hnl,hnc,hn1,hnr⟩:=Zdv hr hv he hsz hs;obtain⟨ad',rfl,hcell⟩:=hnc hne;have hpos:0<es.length:=List.length_pos_iff.2 hne;subst hsize;subst hby;have h63:n+es.length<=9223372036854775807:=by grind[maxLen]
  have hge:=grownCap_ge w (n+es.length) n e;have hcm:grownCap w (n+es.length) n e<=maxLen:=grownCap_le_maxLen w (n+es.length) n e hml;have hcells:∀(i' : Nat) (e' : List AV),(es0++es)[i']? = some e' -> e'.length=i.size /\ ∀(j:Nat) (y:AV),e'[j]? = some y ->
      ∃u,(olds.toArray++news.toArray++Builtin.zeroCells z.cells (grownCap w (n+es.length) n e-(n+es.length)))[i' * i.size+j]? = some u/\VR h ι w y u:=by
    intro i' e' he';by_cases hlt:i' < es0.length;grind;rw[J0o (by omega)]at he';refine⟨(Zab hsz he').1,λj y hy=>?_⟩;obtain⟨u,hu,hvr⟩:=hnr _ e' he' j y hy;refine⟨u,?_,hvr⟩;have hlt2:(i' - es0.length)*i.size+j<news.length:=(J0d.1 hu).1;have heq:i' * i.size+j=olds.length+((i' - es0.length)*i.size+j):=by rw[hol,hn,<- Nat.add_assoc,<- Nat.add_mul];grind
    grind
  have hsizes:(olds.toArray++news.toArray++Builtin.zeroCells z.cells (grownCap w (n+es.length) n e-(n+es.length))).size=grownCap w (n+es.length) n e*i.size:=by simp only[Array.size_append,List.size_toArray,size_zeroCells,hzs,hol,hnl,<- Nat.add_mul];grind
  have hgrow:w.grownBy (w.drew.alloc (.cells (olds.toArray++news.toArray++Builtin.zeroCells z.cells (grownCap w (n+es.length) n e-(n+es.length))) e)) none:=⟨rfl,rfl,rfl,by simp,λk hk _=>Below.heap_alloc w.drew _ k hk⟩;have hok:=Zrn (e:=e) (n:=n+es.length) hr (es0++es) _ _ _ hgrow (heap_alloc_new w.drew _) (by simp[hn]) hs hge hcm hsizes hcells;cases a with
  |none=>grind[run_append_nil,Zx]|some ad =>
   have hcell0:∀(j:Nat) (u:Value),olds[j]? = some u->w.cell? (ad.add j)=some u:=by grind
   have hr1:=run_append_grow (P:=P) w t ty e i z ht hi hz ad n n olds hol hcell0 ad' es.length c' news hnl hcell (by omega) (by omega) (growslice_fits (by omega) hb);grind
theorem Z1y{size:Nat}(hsz:Zn size es0=true)
    (hnr:∀(i:Nat) (e:List AV),es0[i]? = some e -> ∀(j:Nat) (y:AV),e[j]? = some y -> ∃u,olds[i*size+j]? = some u/\VR h ι w y u) :
    ∀(i:Nat) (e:List AV),es0[i]? = some e->e.length=size /\ ∀(j:Nat) (y:AV),e[j]? = some y -> ∃u,olds[i*size+j]? = some u/\VR h ι w y u :=
  λi e he=>⟨(Zab hsz he).1,hnr i e he⟩
theorem Z65(hr:HRel B w0 h ι w){ty e: TypeId}{i:TypeInfo}{z:Value}{size: Nat}(ht:P.underlying t=some (.slice e))(hi:P.info? e=some i)(hz:i.zero=some z)(hsize:i.size=size)(hby:i.bytes=bytes)
    (hzs:z.cells.size=size) (hs:0<size) {s:AV} {vs:Value} (hvs:VR h ι w s vs) {v:Value} (hv:VR h ι w x v) (he:Ye h x=some es) {T:Nat} {y:AV} {eff:Eff}
    (ha:Qh h T e size bytes s es=some (y,eff)) :
    ∃sv w',(Builtin.append_ #[t,t] ty #[vs,v]).run P w = .ok sv w' /\
     ((eff = .none/\w' = w/\VR h ι w y sv)∨(∃o,eff = .new o/\o.ver=1/\y = .row T 1/\Zn7 B h ι w o sv w')∨(∃tg o',eff = .upd tg o' /\ y = .row tg o'.ver/\Zvf B h ι w tg o' sv w')):=by
  unfold Qh at ha;split at ha
  -- nil
  split at ha;rename_i hc;obtain⟨hsz,hb,hml⟩:=hc;simp only[J0b,J0i]at ha;obtain⟨rfl,rfl⟩:=ha;cases hvs;by_cases hne:es=[];subst hne;obtain⟨a,c,rfl,hc,_⟩:=Zax hr hv he;refine⟨.slice none 0 0,w,Zbz ht hi none 0 a 0 c (Nat.le_refl _) (λ_=>rfl),.inr (.inl ⟨_,rfl,rfl,rfl,[],⟨rfl,rfl,rfl,Nat.le_refl _,λ_ _ _=>rfl⟩,by simp[Value.ownBlock],hs,World.ownsRow_nil w B e size,by simp⟩)⟩;obtain⟨sv,w',h1,h2⟩:=Zis (a:=none) (n:=0) (olds:=[]) (es0:=[]) hr ht hi hz hsize hby hzs hs rfl (by simp) (λh=>absurd h (by omega)) (by simp) hv he hsz hne (by grind) (by grind);exact⟨sv,w',h1,.inr (.inl ⟨_,rfl,rfl,rfl,by grind⟩)⟩;grind
  -- row
  rename_i tg ver;split at ha;rename_i o hgo;split at ha;rename_i hc;obtain⟨hoe,hosz,hsz,hb,hml⟩:=hc;simp only[J0b,J0i]at ha;obtain⟨rfl,rfl⟩:=ha;obtain⟨hot,hov⟩:=Zi hgo;cases hvs with
  |row _ _ _ htl hone hob =>
   obtain rfl:=(hob o hot).2 hov;obtain⟨_,xs,hown,hes,u,hu⟩:=Xm hr hot (Zq hgo);rw[hoe,hosz]at hown;have hxe:∀(i:Nat) (e:List AV),o.elems[i]? = some e->e.length=size /\ ∀(j:Nat) (y:AV),e[j]? = some y -> ∃u,xs[i*size+j]? = some u/\VR h ι w y u:=λi e hie=>⟨by grind,λj y hy=>⟨_,by rw[<- hosz];exact(hu i e hie j y hy)⟩⟩;by_cases hne:es=[];subst hne;obtain⟨a,c,rfl,hc,_⟩:=Zax hr hv he;have hform:∃a' n' c',ι tg = .slice a' n' c' /\ n' <= c' /\ (a' = none->n' = 0):=by
    rcases hown.2 with⟨hv,h0⟩|⟨g,cap,cur,hv,_,_,hc,_⟩
    grind;grind
   obtain⟨a',n',c2,hform,hle,hza⟩:=hform;refine⟨ι tg,w,by grind[Zbz],.inr (.inr ⟨tg,_,rfl,rfl,o,xs,hot,⟨rfl,rfl,rfl,Nat.le_refl _,λ_ _ _=>rfl⟩,λ_ h=>.inl h,.inr (by grind),hs,by grind,λi' e' he' => hxe i' e' (by grind)⟩)⟩;obtain⟨a',c',news,rfl,hc',hnl,hnc,hn1,hnr⟩:=Zdv hr hv he hsz hs;obtain⟨ad',rfl,hcell⟩:=hnc hne;obtain⟨v',w',hrun,hown',hgrow,_,hblk⟩:=run_append_own_at (P:=P) w B t ty e i z size bytes ht hi hz hsize hby hzs hs (ι tg) o.elems.length xs hown ad' es.length c' news hnl hcell hn1 hml hb hr.size;refine⟨v',w',hrun,.inr (.inr ⟨tg,_,rfl,rfl,o,xs++news,hot,hgrow,λg hg=>?_,.inr (by grind),hs,by grind,λi' e' he' => ?_⟩)⟩;grind;dsimp only at he' ⊢;by_cases hlt:i' < o.elems.length;grind;rw[J0o (by omega)]at he';refine⟨(Zab hsz he').1,λj y hy=>?_⟩;obtain⟨u,hu,hvr⟩:=hnr _ e' he' j y hy;refine⟨u,?_,hvr⟩;have heq:i' * size+j=xs.length+((i' - o.elems.length)*size+j):=by rw[hown.1,<- Nat.add_assoc,<- Nat.add_mul];grind
   grind
  grind;grind
  -- e0
  split at ha;rename_i hne;simp only[J0b,J0i]at ha;obtain⟨rfl,rfl⟩:=ha;subst hne;obtain⟨a,c,rfl,hc,_⟩:=Zax hr hv he;cases hvs with|e0 ad=>exact⟨_,w,Zbz ht hi ad 0 a 0 c (Nat.le_refl _) (λ_=>rfl),.inl ⟨rfl,rfl,.e0 ad⟩⟩
  rename_i hne;split at ha;rename_i hc;obtain⟨hsz,hb,hml⟩:=hc;simp only[J0b,J0i]at ha;obtain⟨rfl,rfl⟩:=ha;cases hvs with|e0 ad=>obtain⟨sv,w',h1,h2⟩:=Zis (a:=ad) (n:=0) (olds:=[]) (es0:=[]) hr ht hi hz hsize hby hzs hs rfl (by simp) (λh=>absurd h (by omega)) (by simp) hv he hsz hne (by grind) (by grind);exact⟨sv,w',h1,.inr (.inl ⟨_,rfl,rfl,rfl,by grind⟩)⟩
  grind
  -- xf
  rename_i es0;dsimp only at ha;split at ha;cases ha;rename_i hne;have hne:es≠[]:=by grind
  split at ha;rename_i hc;obtain⟨hso,hsz,hb,hml⟩:=hc;simp only[J0b,J0i]at ha;obtain⟨rfl,rfl⟩:=ha;obtain⟨a,c,olds,hvf,hlc,hol,hoc,ho1,hor⟩:=Zdv hr hvs (by rfl:Ye h (.xf es0)=some _) hso hs;cases hvs with|xf _ a2 n hp=>simp only[Value.slice.injEq]at hvf;obtain⟨rfl,rfl,rfl⟩:=hvf;obtain⟨sv,w',h1,h2⟩:=Zis (a:=a2) (olds:=olds) (es0:=es0.map (·.map AV.p)) hr ht hi hz hsize hby hzs hs rfl hol (λh=>hoc (by grind)) (Z1y hso hor) hv he hsz hne hb hml;exact⟨sv,w',h1,.inr (.inl ⟨_,rfl,rfl,rfl,h2⟩)⟩
  grind
  -- sl
  rename_i tg ver lo len ex;split at ha;rename_i o hgo;dsimp only at ha;split at ha;rename_i hc;obtain⟨hne,hosz⟩:=hc;have hne:es=[]:=by grind
  subst hne;simp only[J0b,J0i]at ha;obtain⟨rfl,rfl⟩:=ha;obtain⟨a2,c',rfl,hc',_⟩:=Zax hr hv he;obtain⟨hot,hov⟩:=Zi hgo;have hvs0:=hvs;cases hvs with
  |sl _ _ _ _ _ _ htl hone hob =>
   have hss:=(hob o hot).2 hov;obtain⟨a,c,rfl,hlc,_⟩:=Zni hr hot (Zq hgo) hss;refine⟨_,w,Zbz ht hi a c a2 len c' hlc (λe=>?_),.inl ⟨rfl,rfl,hvs0⟩⟩;subst e;rcases hss with⟨g,N,C,c2,_,h2,_⟩|⟨h0,_⟩
   cases h2;grind
  split at ha;rename_i hc;obtain⟨hex,hne,hosz,hso,hsz,hb,hml⟩:=hc;have hne:es≠[]:=by grind
  simp only[J0b,J0i]at ha;obtain⟨rfl,rfl⟩:=ha;obtain⟨a,c,olds,hvf,hlc,hol,hoc,ho1,hor⟩:=Zdv hr hvs (by grind[Ye]:Ye h (.sl tg ver lo len ex)=some ((o.elems.drop lo).take len)) hso hs;obtain⟨hot,hov⟩:=Zi hgo;cases hvs with|sl _ _ _ _ _ _ htl hone hob=>obtain⟨g,N,C,c2,hsv,rfl,h3,hxc,h4,_⟩:=((hob o hot).2 hov).pos (.inr hex);obtain rfl:=hxc hex;simp only[Value.slice.injEq]at hvf;obtain⟨rfl,hl1,rfl⟩:=hvf;rw[<- hl1]at hb hml hol;obtain⟨sv,w',h1,h2⟩:=Zis (olds:=olds) (es0:=(o.elems.drop lo).take _) hr ht hi hz hsize hby hzs hs hl1 hol (λh=>hoc (by grind)) (Z1y hso hor) hv he hsz hne hb hml;exact⟨sv,w',h1,.inr (.inl ⟨_,rfl,rfl,rfl,h2⟩)⟩
  split at ha;rename_i hc;obtain⟨hex,rfl,hne,hoe,hosz,hlen,hsz,hb,hml⟩:=hc;have hne:es≠[]:=by grind
  simp only[J0b,J0i]at ha;obtain⟨rfl,rfl⟩:=ha;obtain⟨hot,hov⟩:=Zi hgo;cases hvs with
  |sl _ _ _ _ _ _ htl hone hob =>
   have hss:=(hob o hot).2 hov;obtain⟨_,xs,hown,hes,u,hu⟩:=Xm hr hot (Zq hgo);rw[hoe,hosz]at hown;have hown2:w.ownsRow B e size vs len (xs.take (len*size))/\(ι tg).ownBlock=vs.ownBlock:=by
    obtain⟨g1,g2⟩:=hown;have hle:len*size<=o.elems.length*size:=Nat.mul_le_mul_right _ hlen;rcases hss with⟨g,N,C,c2,hsv,rfl,h3,_,h4,hcc⟩|⟨rfl,_,⟨_,rfl,h0⟩|⟨h0,_⟩⟩
    obtain rfl:=hcc rfl hex;refine⟨⟨by grind,.inr ?_⟩,by rw[hsv];rfl⟩;rcases g2 with⟨hv,_⟩|⟨g',cap,cur,hv,hb,hh,hc,hm,hcs,hx⟩
    grind;rw[hsv]at hv;simp only[Value.slice.injEq,J0b,Addr.mk.injEq,and_true]at hv;obtain⟨rfl,rfl,rfl⟩:=hv;refine⟨g,c2,cur,by grind,hb,hh,h3,hm,hcs,?_⟩;grind;rw[h0]at g1 g2;have hxs:xs=[]:=List.eq_nil_of_length_eq_zero (by grind);subst hxs;exact⟨⟨by simp,by simp_all⟩,rfl⟩;omega
   obtain⟨hown2,hob'⟩:=hown2;have hxe:∀(i:Nat) (e:List AV),o.elems[i]? = some e->e.length=size /\ ∀(j:Nat) (y:AV),e[j]? = some y -> ∃u,xs[i*size+j]? = some u/\VR h ι w y u:=λi e hie=>⟨by grind,λj y hy=>⟨_,by rw[<- hosz];exact(hu i e hie j y hy)⟩⟩;obtain⟨a',c',news,rfl,hc',hnl,hnc,hn1,hnr⟩:=Zdv hr hv he hsz hs;obtain⟨ad',rfl,hcell⟩:=hnc hne;obtain⟨v',w',hrun,hown',hgrow,_,hblk⟩:=run_append_own_at (P:=P) w B t ty e i z size bytes ht hi hz hsize hby hzs hs _ len _ hown2 ad' es.length c' news hnl hcell hn1 hml hb hr.size;refine⟨v',w',hrun,.inr (.inr ⟨tg,_,rfl,rfl,o,xs.take (len*size)++news,hot,by grind,λg' hg=>?_,.inr (by grind),hs,by grind,λi' e' he' => ?_⟩)⟩;grind;dsimp only at he' ⊢;have htl' : (o.elems.take len).length=len:=by grind
   have hxl:(xs.take (len*size)).length=len*size:=hown2.1;by_cases hlt:i' < len;grind[Zf5];rw[J0o (by omega),htl']at he';refine⟨(Zab hsz he').1,λj y hy=>?_⟩;obtain⟨u,hu,hvr⟩:=hnr _ e' he' j y hy;refine⟨u,?_,hvr⟩;have heq:i' * size+j=(xs.take (len*size)).length+((i' - len)*size+j):=by rw[hxl,<- Nat.add_assoc,<- Nat.add_mul];grind
   rw[heq,J0o (by omega)];grind
  grind;grind;grind
end
end Go.Abs
