import Derived.Test.YtlnihcefchoofaaGreatDoorDAbsA9
set_option linter.all false
namespace Go.Abs
open Go.RowKit (Below)
variable [GTab] [Glob]
theorem Ze0{ops:Array Oper}(hn:Zcr ops=true){i:Nat}{o:Oper}(ho:ops[i]? = some o):∀c,o.op ≠ .defer c:=by intro c e;have hm:o∈ops.toList:=J0j (by simpa using ho);have:=List.all_eq_true.1 hn o hm;grind
section
variable {P:Program} {ops:Array Oper}
variable {b:Frame}{a:Act}{k:List Item}{cs:List Frame}{w':World}{rest:List Nat}{o:Oper}
theorem Z2q{w: World}{i:Nat}{v:Value}(hn:Zcr ops=true)(ho:ops[i]? = some o)(hw:Region.wanted o (yielded ops a.tmps)=true)
    (hr:(execOp a.eval o).run P w = .ok (.value v) w' ∨ ((execOp a.eval o).run P w = .ok .skip w' /\ v=undef)) :
    step P (lone (b.atR a (.inRegion ops (i::rest)::k)) cs w) = .next (lone (b.atR (a.put o.dst v) (.inRegion ops rest::k)) cs w'):=by
  refine step_lone_go ?_;rw[stepGR_op ho hw,Oper.semAt_eq _ _ _ (Ze0 hn ho)];have hfin:(b.atR a (.inRegion ops (i::rest)::k)).finish v=b.atR (a.put o.dst v) (.inRegion ops rest::k):=by grind[Frame.finish_atR]
  rw[<- hfin];rcases hr with hr|⟨hr,rfl⟩<;>simp[stepG.apply,Sem.runT_eq,hr]
variable {f:FuncId}
theorem Ztn{w: World}{i:Nat}{args:Array Value}(hn:Zcr ops=true)(ho:ops[i]? = some o)(hw:Region.wanted o (yielded ops a.tmps)=true)
    (hr:(execOp a.eval o).run P w = .ok (.enter f args) w') :
    step P (lone (b.atR a (.inRegion ops (i::rest)::k)) cs w) = .next (lone (Frame.enter P f args .normal) (b.atR a (.inRegion ops (i::rest)::k)::cs) w'):=by
  refine step_lone_go ?_;rw[stepGR_op ho hw,Oper.semAt_eq _ _ _ (Ze0 hn ho)];simp[stepG.apply,Sem.runT_eq,hr,Frame.atR]
theorem Z8d{w: World}{i:Nat}{l:Nat}{tmps:Array Value}{assign body:Code}(hn:Zcr ops=true)(ho:ops[i]? = some o)(hw:Region.wanted o (yielded ops a.tmps)=true)
    (hr:(execOp a.eval o).run P w = .ok (.round l f tmps assign body) w') :
    step P (lone (b.atR a (.inRegion ops (i::rest)::k)) cs w) = .next (lone (Frame.round l f tmps assign body .normal) (b.atR a (.inRegion ops (i::rest)::k)::cs) w'):=by
  refine step_lone_go ?_;rw[stepGR_op ho hw,Oper.semAt_eq _ _ _ (Ze0 hn ho)];simp[stepG.apply,Sem.runT_eq,hr,Frame.atR]
theorem Zfn{Q:Exit->Act->World->Prop}(hQ:∀e a w,Q e a w->e = .normal)(hn:Zcr ops=true):∀(l l2:List Nat) (a:Act) (w:World),wpOps P ops Q l a w -> ∀(b:Frame) (k:List Item) (cs:List Frame),
    ∃a' w',Q .normal a' w' /\ Steps P (lone (b.atR a (.inRegion ops (l++l2)::k)) cs w) (lone (b.atR a' (.inRegion ops l2::k)) cs w')
  |[],l2,a,w,h,b,k,cs=>⟨a,w,h,.refl _ _⟩|i::l,l2,a,w,h,b,k,cs=>by
   simp only[wpOps]at h;simp only[List.cons_append];cases ho:ops[i]? with
   |none=>simp only[ho]at h;obtain⟨a',w',hq,hs⟩:=Zfn hQ hn l l2 a w h b k cs;have h1:=stepR_op_skip (P:=P) (b:=b) (a:=a) (k:=k) (cs:=cs) (w:=w) (ops:=ops) (i:=i) (rest:=l++l2) (by simp[ho]);simp only[ho,Option.bind_none,Act.put]at h1;exact⟨a',w',hq,.head h1 hs⟩|some o =>
    simp only[ho]at h;by_cases hw:Region.wanted o (yielded ops a.tmps)=true
    . simp only[hw,if_true]at h;rcases h with h|⟨_,a0,w0,hq⟩
      case inr=>grind
      simp only[Oper.wp,Oper.upon]at h;split at h;rename_i v w1 hr;obtain⟨a',w',hq,hs⟩:=Zfn hQ hn l l2 _ _ h b k cs;exact⟨a',w',hq,.head (Z2q hn ho hw (.inl hr)) hs⟩;rename_i w1 hr;obtain⟨a',w',hq,hs⟩:=Zfn hQ hn l l2 _ _ h b k cs;exact⟨a',w',hq,.head (Z2q hn ho hw (.inr ⟨hr,rfl⟩)) hs⟩;rename_i d w1 hr;obtain⟨a',w',hq,hs⟩:=Zfn hQ hn l l2 _ _ h b k cs;refine⟨a',w',hq,.head (step_lone_go ?_) hs⟩;rw[stepGR_op ho hw,Oper.semAt_eq _ _ _ (Ze0 hn ho)];have hfin:({ b.atR a (.inRegion ops (i::(l++l2))::k)with defers:=d::a.defers }:Frame).finish undef=b.atR ({ a with defers:=d::a.defers }.put o.dst undef) (.inRegion ops (l++l2)::k):=by have h2:=Frame.finish_atR b { a with defers:=d::a.defers } ops i (l++l2) k undef;rw[ho]at h2;exact h2
      simp only[stepG.apply,Sem.runT_eq,hr,GStep.bare_after];exact congrArg (λfr=>GStep.go { frame:=fr,callers:=cs,status:=.running,dying:=none } w1) hfin;rename_i f args w1 hr;obtain⟨e,w2,fr,hR,hsteps,_,hleave⟩:=h (b.atR a (.inRegion ops (i::(l++l2))::k)::cs);cases e with|returned v=>obtain⟨a',w',hq,hs⟩:=Zfn hQ hn l l2 _ _ hR b k cs;refine⟨a',w',hq,.head (Ztn hn ho hw hr) (Steps.trans hsteps (.head (step_leave_returned hleave) ?_))⟩;grind[Frame.finish_atR]|panicked chain=>grind|outgrown=>obtain⟨a0,w0,hq⟩:=hR;grind
      rename_i row args w1 hr;obtain⟨v,w2,hR,hs1⟩:=h (b.atR a (.inRegion ops (i::(l++l2))::k)) cs;obtain⟨a',w',hq,hs⟩:=Zfn hQ hn l l2 _ _ hR b k cs;have henter:step P (lone (b.atR a (.inRegion ops (i::(l++l2))::k)) cs w) = .next (lone (Frame.ofRow P row args .normal) (b.atR a (.inRegion ops (i::(l++l2))::k)::cs) w1) :=
       step_lone_go (by
        rw[stepGR_op ho hw,Oper.semAt_eq _ _ _ (Ze0 hn ho)];simp[stepG.apply,Sem.runT_eq,hr,Frame.atR])
      rw[Frame.finish_atR,ho]at hs1;exact⟨a',w',hq,.head henter (Steps.trans hs1 hs)⟩;grind;grind
    have hwf:Region.wanted o (yielded ops a.tmps)=false:=by grind
    simp only[hwf,J0r,if_false]at h;obtain⟨a',w',hq,hs⟩:=Zfn hQ hn l l2 _ _ h b k cs;have h1:=stepR_op_skip (P:=P) (b:=b) (a:=a) (k:=k) (cs:=cs) (w:=w) (ops:=ops) (i:=i) (rest:=l++l2) (by grind);simp only[ho,J0k]at h1;exact⟨a',w',hq,.head h1 hs⟩
end
end Go.Abs
namespace Go.Abs
variable [GTab] [Glob]
section
variable {P:Program}
variable {ss:List AStep}{st:St}{ops:Array Oper}{B:Nat}{w0:World}{ι:Em}{a:Act}
theorem Yrw{pre:List Nat}{Φ:St->Prop}(h:DE P pre ss [] ss st Φ){id:Nat}{d:Bool}(hc:Ziv P ops d=some (.reg (some pre) ss)){w: World}(hs:SR B w0 st ι a w)
    (b:Frame) (k:List Item) (cs:List Frame):∃st' ι' a' w',Steps P (lone (b.atR a (.code (.region id ops d)::k)) cs w) (lone (b.atR a' k) cs w')/\SR B w0 st' ι' a' w' /\ EX st.heap ι w st'.heap ι' w' /\ Φ st' := by
  obtain⟨L,st',h1,h2,h3,h4⟩:=h;obtain⟨hn,h5⟩:=Zg5 hc;unfold Zf8 at h5;split at h5;cases h5;rename_i ss' hss;split at h5;rename_i hd;split at h5;rename_i hok;simp only[J0b,ACode.reg.injEq]at h5;obtain⟨h6,h7⟩:=h5;simp only[J0e]at hok;rw[h6]at hok;rw[h7]at hss;subst hd;let Q:Exit->Act->World->Prop:=λe a' w' => e = .normal /\ ∃st' ι',SR B w0 st' ι' a' w' /\ EX st.heap ι w st'.heap ι' w' /\ Φ st';obtain⟨m,hm⟩:∃m,Zf9 P L ⟨st.slots,st.heap++List.replicate m Xh⟩ st' := ⟨_,h1.pad⟩;have hany:=Zvy (Q:=Q) hok.2 hss h2 (Yrg h2 (by grind)) hm hok.1 hs λι' a' w' g1 g2=>⟨rfl,st',ι',g1,g2,h4⟩;have hops:=wpAny_sound ops.size (w.tape w.drawn (.order b.fn id)) _ a _ hany;obtain⟨a',w',⟨_,st2,ι2,g1,g2,g3⟩,hst⟩:=Zfn (λe a w h=>h.1) hn _ [] _ _ hops b k cs;refine⟨st2,ι2,a',w',.head stepR_region_draw (Steps.trans ?_ (.one (stepR_region_end (ops:=ops)))),g1,g2,g3⟩;simp only[Region.schedule,hok.1,Bool.true_or,if_true];simp only[List.append_nil]at hst;exact hst;grind;grind
def Qd(P:Program)(ops:Array Oper):List Nat->Option (List AStep)
 |[]=>some []|i::is=>match ops[i]? with
  |some o=>match Zh6 P ops o,Qd P ops is with|some s,some r=>some (s::r)|_,_=>none
  |none=>none
theorem Zog{ops:Array Oper}:∀{l:List Oper} {ss:List AStep} (k:Nat),(∀j,l[j]? = ops[k+j]? ∨ l[j]? = none)->Zl P ops l=some ss->Qd P ops (List.range' k l.length)=some ss
 |[],ss,k,hl,h=>h|o::l,ss,k,hl,h=>by
  simp only[Zl]at h;split at h;rename_i s r h1 h2;obtain rfl:=J0a h;have h0:ops[k]? = some o:=by
   rcases hl 0 with h|h
   grind;grind
  have ih:=Zog (l:=l) (k+1) (λj=>by have:=hl (j+1);grind) h2;grind[List.range'_succ,Qd];grind
theorem Yb3(h:Zl P ops ops.toList=some ss):Qd P ops (List.range ops.size)=some ss:=by have:=Zog (l:=ops.toList) 0 (λj=>.inl (by simp)) h;grind[List.range_eq_range']
theorem Zqk{ops:Array Oper}:∀{s1 s2:List AStep} {is:List Nat},Qd P ops is=some (s1++s2) -> ∃i1 i2,is=i1++i2/\Qd P ops i1=some s1/\Qd P ops i2=some s2
 |[],s2,is,h=>⟨[],is,rfl,rfl,h⟩|s::s1,s2,[],h=>by simp[Qd]at h|s::s1,s2,i::is,h=>by
  simp only[Qd,List.cons_append]at h;split at h;rename_i o ho;split at h;rename_i s' r h1 h2;simp only[J0b,List.cons.injEq]at h;obtain⟨rfl,rfl⟩:=h;obtain⟨i1,i2,rfl,h3,h4⟩:=Zqk h2;grind[Qd];grind;grind
theorem Zto{ops:Array Oper}{Q:Exit->Act->World->Prop}:∀{is:List Nat} {ss:List AStep},Qd P ops is=some ss -> ∃l,Zl P ops l=some ss /\ ∀a w,wpList P ops Q l a w->wpOps P ops Q is a w
 |[],ss,h=>⟨[],h,λa w h=>h⟩|i::is,ss,h=>by
  simp only[Qd]at h;split at h
  . rename_i o ho;split at h
    . rename_i s r h1 h2;obtain rfl:=J0a h;obtain⟨l,h3,h4⟩:=Zto (Q:=Q) h2;have e:∀a w,wpList P ops Q l a w->wpOps P ops Q is a w:=h4;refine⟨o::l,by grind[Zl],λa w hw=>?_⟩;simp only[wpOps,ho];simp only[wpList]at hw;split at hw
      . rename_i hwt;rw[if_pos hwt];refine hw.imp (λh=>?_) id;unfold Oper.wp at h ⊢;revert h;cases(execOp a.eval o).run P w with
        |ok nx w1 =>
         cases nx<;>simp only[Oper.upon]<;>first
          |grind
          |exact λh=>h.mono λen w2 hh=>by grind|grind
         all_goals(intro h;exact h.mono λv w2 hh=>e _ _ hh)
        |halt hh w1=>cases hh<;>exact λh=>h
      grind
    grind
  grind
theorem Yvc{s1 s2:List AStep}{st': St}(h:ASteps P s1 st st')(hn:Zcr ops=true){is:List Nat}(hc:Qd P ops is=some (s1++s2)){w: World}(hs:SR B w0 st ι a w)
    (b:Frame) (k:List Item) (cs:List Frame):∃i2 ι' a' w',Qd P ops i2=some s2/\Steps P (lone (b.atR a (.inRegion ops is::k)) cs w) (lone (b.atR a' (.inRegion ops i2::k)) cs w')/\SR B w0 st' ι' a' w' /\ EX st.heap ι w st'.heap ι' w' := by
  obtain⟨i1,i2,rfl,h1,h2⟩:=Zqk hc;let Q:Exit->Act->World->Prop:=λe a' w' => e = .normal /\ ∃ι',SR B w0 st' ι' a' w' /\ EX st.heap ι w st'.heap ι' w';obtain⟨l,h3,h4⟩:=Zto (Q:=Q) h1;obtain⟨a',w',⟨_,ι',g1,g2⟩,hst⟩:=Zfn (λe a w h=>h.1) hn _ i2 _ _ (h4 a w (Ztc ops h h3 hs λι' a' w' g1 g2=>⟨rfl,ι',g1,g2⟩)) b k cs;grind
end
end Go.Abs
namespace Go.Abs
variable [GTab] [Glob]
def putO(w:World)(g:Nat)(o:Obj):World:={ w with heap:=w.heap.setIfInBounds g o }
variable {g:Nat}{o:Obj}
theorem Z2r{w:World}(h:g<w.heap.size):(putO w g o).heap[g]? = some o:=by simp[putO,h]
theorem Zce{w:World}{k: Nat}(h:k≠g):(putO w g o).heap[k]? = w.heap[k]? := by grind[putO]
theorem Yit{w:World}:(putO w g o).heap.size=w.heap.size:=by simp[putO]
section
variable {P:Program} {w:World}
variable {r:Loop}
theorem Zql{l:Nat}(h:w.heap[l]? = some (.loop r)):(Instr.getLoop l).run P w = .ok r w:=by
 have:(getObj l).run P w = .ok (.loop r) w:=by simp[getObj,Sem.run,h]
 simp[Instr.getLoop,Sem.run_bind,this,Result.andThen]
theorem Zwu{l:Nat}(o:Obj)(h:w.heap[l]? = some (.loop r)):(setObj l o).run P w = .ok () (putO w l o):=by simp[setObj,Sem.run,h,putO]
theorem Yb4(fn:FuncId)(tmps:Array Value)(ps:Array Tmp)(assign body:Code) :
    (Instr.enterLoop fn tmps ps assign body none).run P w = .ok (w.heap.size+1,[{ target:=.collected w.heap.size,args:=#[] }])
     ((w.alloc (.deferred (some []))).alloc (.loop { state:=.ready,pending:=none,fn,tmps,params:=ps,assign,body,defers:=w.heap.size })):=by
  have h1:∀(w:World) (o:Obj),(newObj o).run P w = .ok w.heap.size (w.alloc o):=λ_ _=>rfl;unfold Instr.enterLoop;simp_all
variable {args:Array Value}
theorem Yb5{l:Nat}(h:w.heap[l]? = some (.loop r))(hs:args.size=r.params.size) :
    (Instr.yield l args).run P w = .ok (.round l r.fn ((r.params.zip args).foldl (λtmps (t,a)=>tmps.setIfInBounds t a) r.tmps) r.assign r.body) w:=by
  simp[Instr.yield,Sem.run_bind,Zql h,Result.andThen,hs]
theorem Yb6{l:Nat}(h:w.heap[l]? = some (.loop r))(hr:r.state = .ready) :
    (Instr.beginRound l).run P w = .ok () (putO w l (.loop { r with state:=.busy })):=by
  simp[Instr.beginRound,Sem.run_bind,Zql h,Zwu _ h,Result.andThen,hr]
theorem Zz6{l:Nat}(jump:Option Code)(h:w.heap[l]? = some (.loop r)) :
    (Instr.endRound l jump).run P w = .ok (.bool jump.isNone) (putO w l (.loop { r with state:=if jump.isNone then .ready else .done,pending:=jump })):=by
  simp[Instr.endRound,Sem.run_bind,Zql h,Zwu _ h,Result.andThen]
theorem Yla{l:Nat}(h:w.heap[l]? = some (.loop r))(hb:r.state ≠ .busy) :
    (Instr.endLoop l).run P w = .ok r.pending (putO w l (.loop { r with state:=.exhausted })):=by
  simp[Instr.endLoop,Sem.run_bind,Zql h,Zwu _ h,Result.andThen,hb]
variable {ds:List Deferred}
theorem Yb7{b:Nat}(h:w.heap[b]? = some (.deferred (some ds))) :
    (Instr.takeDeferred b).run P w = .ok ds (putO w b (.deferred none)):=by
  simp[Instr.takeDeferred,Sem.run_bind,getObj,setObj,Sem.run,h,Result.andThen,putO]
variable {b:Frame} {a:Act} {k:List Item} {cs:List Frame}
variable {w':World}
theorem Yiu{fr:Frame}{r:Nat}(hm:fr.mode = .returning)(hd:fr.defers = { target:=.collected r,args:=#[] }::ds)(hk:(Instr.takeDeferred r).run P w = .ok [] w') :
    step P (lone fr cs w) = .next (lone { fr with defers:=ds } cs w') :=
  step_lone_go (by simp[stepG,unwind,hm,hd,Sem.runT_eq,hk,GStep.bare_after])
theorem Zz7{l:Nat}{jump:Option Code}(h:(Instr.endLoop l).run P w = .ok jump w') :
    step P (lone (b.atR a (.endRangeFunc l::k)) cs w) = .next (lone (b.atR a ((jump.map Item.code).toList++k)) cs w') :=
  step_lone_go (by simp[stepG,stepG.exec,Frame.atR,Sem.runT_eq,h,GStep.bare_after])
theorem Z4x(l:Nat)(v:Value):(b.atR a (.inRangeFunc l::k)).finish v=b.atR a (.endRangeFunc l::k):=by grind[Frame.finish,Frame.atR]
theorem Yb8{g:Operand}{ps:Array Tmp}{assign body:Code}{l:Nat}{mark:List Deferred}{w1 w2 w3:World}{d:Deferred}{f:FuncId}
    (he:(Instr.enterLoop b.fn a.tmps ps assign body b.roundOf).run P w = .ok (l,mark) w1)
    (hres:(resolve a.eval { callee:=.value g,args:=#[.const (.func (.yield l) #[] #[])],argTypes:=#[] } 0).run P w1 = .ok d w2) (hinv:(invoke d.target d.args).run P w2 = .ok (.enter f args) w3) :
    step P (lone (b.atR a (.code (.rangeFunc g ps assign body)::k)) cs w) =
     .next (lone (Frame.enter P f args .normal) (b.atR { a with defers:=mark++a.defers } (.inRangeFunc l::k)::cs) w3) :=
  step_lone_go (by
   have hev:=Frame.eval_atR b { a with defers:=mark++a.defers } (.inRangeFunc l::k);simp only[Frame.atR]at hev;have hres' : Sem.run P (resolve ({ tmps:=a.tmps,defers:=mark++a.defers }:Act).eval { callee:=.value g,args:=#[.const (.func (.yield l) #[] #[])],argTypes:=#[] } 0) w1 = .ok d w2:=hres;simp[stepG,stepG.exec,Frame.atR,Sem.runT_eq,he,GStep.bare_after,stepG.apply,hev,Sem.run_bind,hres',hinv,Result.andThen])
end
end Go.Abs
namespace Go.Abs
open Go.RowKit (Below)
variable [GTab] [Glob]
structure Quiet(B:Nat) (w w' : World):Prop where
 below:Below B w w'
 cells:∀(g:Nat) c e f,w.heap[g]? = some (Obj.cells c e f)->w'.heap[g]? = some (Obj.cells c e f)
variable {B:Nat}{w':World}
theorem Quiet.cell{w: World}(hq:Quiet B w w'){a:Addr}{v:Value}(h:w.cell? a=some v):w'.cell? a=some v:=by
 unfold World.cell? at h ⊢;split at h;rename_i c e f hc;rw[hq.cells _ _ _ _ hc];exact h;grind
theorem Quiet.row{w: World}(hq:Quiet B w w'){base:Nat}{e:TypeId}{size:Nat}{v:Value}{n:Nat}{xs:List Value}(h:w.ownsRow base e size v n xs):w'.ownsRow base e size v n xs:=by obtain⟨h1,h2⟩:=h;refine⟨h1,h2.imp id ?_⟩;rintro⟨g,cap,cur,a,b,c,d⟩;exact⟨g,cap,cur,a,b,hq.cells _ _ _ _ c,d⟩
variable {O:Nat->Prop}
theorem Quiet.prel{w: World}(hq:Quiet B w w'){x:PV}{v:Value}(h:PRel w O x v):PRel w' O x v:=by
 induction h with|bool b=>exact .bool b|int k n=>exact .int k n|str s=>exact .str s|nil a c=>exact .nil a c|sl elems a n c size u hO hlt hn hc hsz hcell _ ih=>exact .sl elems a n c size u hO (Nat.lt_of_lt_of_le hlt hq.below.size) hn hc hsz (λi e he j x hx=>hq.cell (hcell i e he j x hx)) ih
mutual
def AV.noY:AV->Bool|.yl=>false|.agg cs=>noYL cs|.tuple cs=>noYL cs|.fn _ cs=>noYL cs|.fb _ cs=>noYL cs|_=>true
def noYL:List AV->Bool|[]=>true|x::xs=>x.noY&&noYL xs
end
theorem Zbt:∀{xs:List AV},noYL xs=true -> ∀{i:Nat} {x:AV},xs[i]? = some x->x.noY=true|[],_,i,x,hx=>by grind|y::ys,h,0,x,hx=>by grind[noYL]|y::ys,h,i+1,x,hx=>by simp only[noYL,J0e]at h;exact Zbt h.2 (by simpa using hx)
variable {h:List AObj}{ι ι':Em}
theorem Quiet.vrel{w: World}(hq:Quiet B w w')(hat:ι'.at_=ι.at_){x:AV}{v:Value}(hr:VRel h ι w O x v):(ι'.Y=ι.Y∨x.noY=true)->VRel h ι' w' O x v:=by
 have hat' : ∀t,ι' t=ι t:=λt=>congrFun hat t
 induction hr with
 |any v=>exact λ_=>.any v|u=>exact λ_=>.u|p x v hp=>exact λ_=>.p x v (hq.prel hp)|nil=>exact λ_=>.nil|ne ad c=>exact λ_=>.ne ad c|nl c=>exact λ_=>.nl c|e0 ad=>exact λ_=>.e0 ad|xf elems ad n hp=>exact λ_=>.xf elems ad n (hq.prel hp)|row t ver v ht hv ho=>exact λ_=>.row t ver v ht hv (by grind)|sl t ver lo len ex v ht hv ho=>exact λ_=>.sl t ver lo len ex v ht hv (by grind)|ptr t ver i off v ht hv ho=>exact λ_=>.ptr t ver i off v ht hv (by grind)|nptr=>exact λ_=>.nptr|fptr cells ad u hO hlt hcell hrel=>exact λ_=>.fptr cells ad u hO (Nat.lt_of_lt_of_le hlt hq.below.size) (λj x hx=>hq.cell (hcell j x hx)) (λj x hx=>hq.prel (hrel j x hx))|agg cs vs hl _ ih=>exact λhy=>.agg cs vs hl λi x v hx hv=>ih i x v hx hv (hy.imp id λh=>Zbt h hx)|tuple cs vs hl _ ih=>exact λhy=>.tuple cs vs hl λi x v hx hv=>ih i x v hx hv (hy.imp id λh=>Zbt h hx)|fn f cs vs hl _ ih=>exact λhy=>.fn f cs vs hl λi x v hx hv=>ih i x v hx hv (hy.imp id λh=>Zbt h hx)|nilf=>exact λ_=>.nilf|yl =>
  intro hy;rcases hy with hy|hy
  rw[<- hy];exact .yl;cases hy
 |if0=>exact λ_=>.if0|if1 t x=>exact λ_=>.if1 t x|gp g off=>exact λ_=>.gp g off|fb f cs vs hl _ ih=>exact λhy=>.fb f cs vs hl λi x v hx hv=>ih i x v hx hv (hy.imp id λh=>Zbt h hx)
def noYO(o:AObj):Bool:=o.elems.all noYL
variable {w0:World}
theorem Quiet.hrel{w: World}(hq:Quiet B w w')(hat:ι'.at_=ι.at_)(hO:ι'.O=ι.O)(hr:HRel B w0 h ι w)(hy:ι'.Y=ι.Y∨h.all noYO=true):HRel B w0 h ι' w' := by
 have hat' : ∀t,ι' t=ι t:=λt=>congrFun hat t;have hown:Own h.length ι' = Own h.length ι:=by funext g;unfold Own;simp_all
 refine⟨hr.below.trans hq.below,hr.base,by rw[hO];exact hr.old,hr.glob,λt o ho=>?_,λt t' g h1 h2 h3 h4=>hr.inj t t' g h1 h2 (by grind) (by grind)⟩;rw[hat'];refine(hr.objs t o ho).imp id ?_;rintro⟨hs,xs,h1,h2⟩;refine⟨hs,xs,hq.row h1,λi e he=>⟨(h2 i e he).1,λj x hx=>?_⟩⟩;obtain⟨v,hv,hvr⟩:=(h2 i e he).2 j x hx;refine⟨v,hv,?_⟩;rw[hown];refine hq.vrel hat hvr (hy.imp id λhall=>?_);have h3:=List.all_eq_true.1 hall o (J0j ho);have h4:=List.all_eq_true.1 h3 e (J0j he);exact Zbt h4 hx
theorem Zwv(hat:ι'.at_=ι.at_)(hO:ι'.O=ι.O):Own h.length ι' = Own h.length ι:=by funext g;unfold Own;rw[hO,hat]
theorem Quiet.sr{w: World}(hq:Quiet B w w'){st:St}{a a' : Act}(hat:ι'.at_=ι.at_)(hO:ι'.O=ι.O)(hs:SR B w0 st ι a w)(hy:ι'.Y=ι.Y∨(noYL st.slots&&st.heap.all noYO)=true)(ht:a'.tmps=a.tmps)(hd:a'.defers=ι'.D):SR B w0 st ι' a' w' := by refine⟨hq.hrel hat hO hs.heap (hy.imp id λh=>?_),by rw[ht];exact hs.len,λi x v hx hv=>?_,hd⟩;grind;rw[ht]at hv;have:=hq.vrel hat (hs.slot i x v hx hv) (hy.imp id λh=>by grind[Zbt]);grind[Zwv]
variable {h':List AObj}{g:Nat}{o:Obj}
theorem Ygb{w: World}(hr:HRel B w0 h ι w)(hx:EX h ι w h' ι' w')(hB:B<=g)(hg:w.heap[g]? = some o)(ho:∀c e f,o≠Obj.cells c e f):w'.heap[g]? = some o:=by
 rw[<- hg];refine hx.fix.heap g (Array.getElem?_eq_some_iff.1 hg).1 ?_;rintro(hO|⟨t,ht,hb⟩);have:=hr.old g hO;omega;rcases hr.objs t h[t] (J0c ht)with⟨_,h0⟩|⟨_,xs,⟨_,h1⟩,_⟩
 grind;rcases h1 with⟨h1,_⟩|⟨g',cap,cur,h1,_,h2,_⟩
 rw[h1]at hb;cases hb;rw[h1]at hb;obtain rfl:=J0a hb;grind
theorem Zfo{w:World}{o': Obj}(hB:B<=g)(hg:w.heap[g]? = some o)(ho:∀c e f,o≠Obj.cells c e f):Quiet B w (putO w g o'):=by refine⟨⟨rfl,rfl,rfl,by rw[Yit];grind,λk hk=>Zce (by omega)⟩,λk c e f hk=>?_⟩;grind[Zce]
theorem Ztp(w:World)(o:Obj)(hB:B<=w.heap.size):Quiet B w (w.alloc o):=by
 have hp:∀k,k<w.heap.size->(w.alloc o).heap[k]? = w.heap[k]? := λk hk=>by show(w.heap.push o)[k]? = _;grind
 refine⟨⟨rfl,rfl,rfl,by grind,λk hk=>hp k (by omega)⟩,λg c e f hg=>?_⟩;grind
theorem Quiet.trans{w w'': World}(a:Quiet B w w')(b:Quiet B w' w''):Quiet B w w'' := ⟨a.below.trans b.below,λg c e f h=>b.cells _ _ _ _ (a.cells _ _ _ _ h)⟩
theorem Quiet.refl(B:Nat)(w:World):Quiet B w w:=⟨.refl _ _,λ_ _ _ _ h=>h⟩
inductive Fr where|code (c:ACode)|blk (id:Nat)|lp (c:ACode)|steps (ss:List AStep)|brd|scp|fn (res:List ARes) (dst:Option Nat)|rf (ps:List Nat) (a c:ACode)|rnd (dst:Option Nat) (pos:Nat)
def Fr.isBot:Fr->Bool|.fn _ _=>true|.rf _ _ _=>true|.rnd _ _=>true|_=>false
inductive CompF(P:Program):List Item->List Fr->Prop where|nil:CompF P [] []|code (C:Code) (c:ACode) (its:List Item) (frs:List Fr) (h:comp P C=some c) (hs:CompF P its frs):CompF P (.code C::its) (.code c::frs)|blk (id:Nat) (its:List Item) (frs:List Fr) (hs:CompF P its frs):CompF P (.inBlock id::its) (.blk id::frs)|lp (C:Code) (c:ACode) (its:List Item) (frs:List Fr) (h:comp P C=some c) (hs:CompF P its frs):CompF P (.inLoop C::its) (.lp c::frs)|steps (ops:Array Oper) (is:List Nat) (ss:List AStep) (its:List Item) (frs:List Fr) (hn:Zcr ops=true) (h:Qd P ops is=some ss) (hs:CompF P its frs):CompF P (.inRegion ops is::its) (.steps ss::frs)|brd (its:List Item) (frs:List Fr) (hs:CompF P its frs):CompF P (.beginRound::its) (.brd::frs)|scp (C:Code) (its:List Item) (frs:List Fr) (hs:CompF P its frs):CompF P (.inScope C::its) (.scp::frs)
def Y0(f:FuncId)(ro:Option Nat):Frame:={ (default:Frame)with fn:=f,kind:=.normal,roundOf:=ro }
def Zfb(r:Nat):Deferred:={ target:=.collected r,args:=#[] }
def Ztq:Option Code->Option Int|none=>some 0|some .ret=>some 1|some (.exit id)=>some ((id:Int)+2)|_=>none
inductive Und(P:Program) (b:Frame) (k:List Item) (cs:List Frame):Option (Nat×Loop)->List Fr->List (List Value)->List Nat->Frame->List Item->List Frame->Prop where
 |base (hb:b.roundOf=none):Und P b k cs none [] [] [] b k cs|fn (L:Option (Nat×Loop)) (bot:List Fr) (lt:List (List Value)) (ms:List Nat) (b2:Frame) (k2:List Item) (cs2:List Frame) (hu:Und P b k cs L bot lt ms b2 k2 cs2)
     (f:FuncId) (fnr:Func) (res:List ARes) (hf:P.funcs[f]? = some fnr) (hres:Zcs P fnr.results.toList=some res)
     (ops:Array Oper) (i:Nat) (is:List Nat) (ss:List AStep) (its:List Item) (frs:List Fr) (a:Act) (mt:List Nat) (hn:Zcr ops=true) (hss:Qd P ops is=some ss) (hC:CompF P its frs) (hD:a.defers=mt.map Zfb) :
     Und P b k cs L (.fn res ((ops[i]?).bind (·.dst)) :: .steps ss::(frs++bot)) (a.tmps.toList::lt) (mt++ms) (Y0 f none) [] (b2.atR a (.inRegion ops (i::is)::(its++k2))::cs2)
 |rf (bot:List Fr) (lt:List (List Value)) (ms:List Nat) (b2:Frame) (k2:List Item) (cs2:List Frame) (hu:Und P b k cs none bot lt ms b2 k2 cs2) (hb2:b2.roundOf=none)
     (f:FuncId) (fnr:Func) (hf:P.funcs[f]? = some fnr) (hres:Zcs P fnr.results.toList=some [])
     (l:Nat) (rec:Loop) (its:List Item) (frs:List Fr) (a:Act) (mt:List Nat) (ac bc:ACode) (hC:CompF P its frs) (hD:a.defers=mt.map Zfb)
     (hfn:rec.fn=b2.fn) (htm:rec.tmps=a.tmps) (hac:comp P rec.assign=some ac) (hbc:comp P rec.body=some bc) (p:Int) (hp:Ztq rec.pending=some p) :
     Und P b k cs (some (l,rec)) (.rf rec.params.toList ac bc::(frs++bot)) ([.int .u64 p]::a.tmps.toList::lt) (mt++ms) (Y0 f none) [] (b2.atR a (.inRangeFunc l::(its++k2))::cs2)
 |rnd (bot:List Fr) (lt:List (List Value)) (ms:List Nat) (b2:Frame) (k2:List Item) (cs2:List Frame) (l:Nat) (rec:Loop) (pos:Nat)
     (hu:∀s j p,Ztq j=some p->Und P b k cs (some (l,{ rec with state:=s,pending:=j })) bot (lt.set pos [.int .u64 p]) ms b2 k2 cs2)
     (ops:Array Oper) (i:Nat) (is:List Nat) (ss:List AStep) (its:List Item) (frs:List Fr) (a:Act) (mt:List Nat) (hn:Zcr ops=true) (hss:Qd P ops is=some ss) (hC:CompF P its frs) (hD:a.defers=mt.map Zfb) :
     Und P b k cs (some (l,rec)) (.rnd ((ops[i]?).bind (·.dst)) (pos+1) :: .steps ss::(frs++bot)) (a.tmps.toList::lt) (mt++ms) (Y0 rec.fn (some l)) [] (b2.atR a (.inRegion ops (i::is)::(its++k2))::cs2)
def VRs(h:List AObj)(ι:Em)(w:World)(xs:List AV)(vs:List Value):Prop:=vs.length=xs.length /\ ∀(i:Nat) (x:AV) (v:Value),xs[i]? = some x->vs[i]? = some v->VR h ι w x v
def LRel(h:List AObj)(ι:Em)(w:World):List (List AV)->List (List Value)->Prop|[],[]=>True|x::xs,v::vs=>VRs h ι w x v/\LRel h ι w xs vs|_,_=>False
variable {xs:List AV}{vs:List Value}
theorem VRs.ext{w: World}(hx:EX h ι w h' ι' w')(hr:VRs h ι w xs vs):VRs h' ι' w' xs vs:=⟨hr.1,λi x v h1 h2=>hx.rel (hr.2 i x v h1 h2)⟩
theorem LRel.ext{w: World}(hx:EX h ι w h' ι' w'):∀{xs:List (List AV)} {vs:List (List Value)},LRel h ι w xs vs->LRel h' ι' w' xs vs|[],[],_=>trivial|x::xs,v::vs,hr=>⟨hr.1.ext hx,LRel.ext hx hr.2⟩|[],_::_,hr=>hr.elim|_::_,[],hr=>hr.elim
theorem Quiet.vrs{w: World}(hq:Quiet B w w')(hat:ι'.at_=ι.at_)(hO:ι'.O=ι.O)(hr:VRs h ι w xs vs)(hy:ι'.Y=ι.Y∨noYL xs=true):VRs h ι' w' xs vs:=⟨hr.1,λi x v h1 h2=>by show VRel h ι' w' (Own h.length ι') x v;rw[Zwv hat hO];exact hq.vrel hat (hr.2 i x v h1 h2) (hy.imp id λh=>Zbt h h1)⟩
theorem Quiet.lrel{w: World}(hq:Quiet B w w')(hat:ι'.at_=ι.at_)(hO:ι'.O=ι.O):∀{xs:List (List AV)} {vs:List (List Value)},LRel h ι w xs vs->(ι'.Y=ι.Y∨xs.all noYL=true)->LRel h ι' w' xs vs|[],[],_,_=>trivial|x::xs,v::vs,hr,hy=>⟨hq.vrs hat hO hr.1 (hy.imp id λh=>by grind),Quiet.lrel hq hat hO hr.2 (hy.imp id λh=>by grind)⟩|[],_::_,hr,_=>hr.elim|_::_,[],hr,_=>hr.elim
def Marks(B:Nat)(w:World)(ms:List Nat):Prop:=ms.Nodup /\ ∀r∈ms,B<=r/\w.heap[r]? = some (.deferred (some []))
def Zw:List Fr->Bool|[]=>false|.rnd _ _::_=>true|_::frs=>Zw frs
def Zhu:List Fr->Bool|[]=>false|.brd::_=>true|_::frs=>Zhu frs
def Zbp(frs:List Fr)(p:Option Code):LoopState:=if Zw frs then(if Zhu frs then .ready else .busy)else(if p.isNone then .ready else .done)
def LoopOK(B:Nat)(w:World)(ι:Em)(frs:List Fr):Option (Nat×Loop)->Prop|none=>True|some (l,rec)=>ι.Y=l/\B<=l/\w.heap[l]? = some (.loop rec)/\rec.state=Zbp frs rec.pending
def Z8e(B:Nat)(w0:World)(O:Nat->Prop)(Q:Exit->St->Prop)(e:Exit)(a' : Act)(w' : World):Prop:=∃st' ι' mt,SR B w0 st' ι' a' w' /\ ι'.O=O/\a'.defers=mt.map Zfb/\Marks B w' mt/\Q e st'
def KAW(P:Program)(frs:List Fr)(Q:Exit->St->Prop)(st:St)(lows:List (List AV)):Prop :=
 ∀(b:Frame) (k:List Item) (cs:List Frame) L top bot lt ms b1 k1 cs1 its,frs=top++bot->CompF P its top->Und P b k cs L bot lt ms b1 k1 cs1 ->
  ∀B w0 ι a w mt,SR B w0 st ι a w->LRel st.heap ι w lows lt->a.defers=mt.map Zfb->Marks B w (mt++ms)->LoopOK B w ι frs L ->
   ∃e a' w',Z8e B w0 ι.O Q e a' w' /\ Arrives P (lone (b1.atR a (its++k1)) cs1 w) b k cs e a' w'
variable {P:Program}{b b1:Frame}{k k1:List Item}{cs cs1:List Frame}{L:Option (Nat×Loop)}{bot:List Fr}{lt:List (List Value)}{ms:List Nat}
theorem Und.top_nil(h:Und P b k cs L bot lt ms b1 k1 cs1) :
    ∀x frs,bot=x::frs->x.isBot=true:=by
  intro x frs e;cases h<;>first|grind|(injection e with e1 e2;subst e1;rfl)
variable {top:List Fr}{x:Fr}
theorem Qe(h:Und P b k cs L bot lt ms b1 k1 cs1){frs:List Fr}
    (hx:x.isBot=false) (e:x::frs=top++bot):∃top',top=x::top' /\ frs=top' ++ bot:=by
  cases top with|nil=>exfalso;have:=h.top_nil x frs e.symm;grind|cons y top' => grind
theorem Z2s{its:List Item}(hc:CompF P its top){frs:List Fr}(hx:x.isBot=true)(e:x::frs=top++bot):top=[]/\its=[]/\bot=x::frs:=by
 cases top with|nil=>cases hc;grind|cons y top' => exfalso;simp only[List.cons_append,List.cons.injEq]at e;obtain⟨rfl,rfl⟩:=e;cases hc<;>cases hx
end Go.Abs
namespace Go.Abs
open Go.RowKit (Below)
variable [GTab] [Glob]
variable {P:Program}{f1 f2:List Fr}
theorem CompF.app{i1 i2:List Item}(h:CompF P i1 f1)(k:CompF P i2 f2):CompF P (i1++i2) (f1++f2):=by
 induction h with|nil=>exact k|code C c its frs h hs ih=>exact .code C c _ _ h ih|blk id its frs hs ih=>exact .blk id _ _ ih|lp C c its frs h hs ih=>exact .lp C c _ _ h ih|steps ops is ss its frs hn h hs ih=>exact .steps ops is ss _ _ hn h ih|brd its frs hs ih=>exact .brd _ _ ih|scp C its frs hs ih=>exact .scp C _ _ ih
variable {x:Fr}
theorem CompF.head{its:List Item}{frs:List Fr}(h:CompF P its (x::frs)):∃it its',its=it::its' /\ CompF P [it] [x]/\CompF P its' frs:=by
 cases h with|code C c its frs h hs=>exact⟨_,_,rfl,.code C c _ _ h .nil,hs⟩|blk id its frs hs=>exact⟨_,_,rfl,.blk id _ _ .nil,hs⟩|lp C c its frs h hs=>exact⟨_,_,rfl,.lp C c _ _ h .nil,hs⟩|steps ops is ss its frs hn h hs=>exact⟨_,_,rfl,.steps ops is ss _ _ hn h .nil,hs⟩|brd its frs hs=>exact⟨_,_,rfl,.brd _ _ .nil,hs⟩|scp C its frs hs=>exact⟨_,_,rfl,.scp C _ _ .nil,hs⟩
def Fr.plain:Fr->Bool|.code _=>true|.blk _=>true|.lp _=>true|.steps _=>true|.scp=>true|_=>false
theorem Fr.plain_nomark(h:x.plain=true):x.isBot=false:=by cases x<;>first|rfl|(cases h;done)
theorem Zqm(h:x.plain=true)(frs:List Fr):Zw (x::frs)=Zw frs:=by cases x<;>first|rfl|(cases h;done)
theorem Zqn(h:x.plain=true)(frs:List Fr):Zhu (x::frs)=Zhu frs:=by cases x<;>first|rfl|(cases h;done)
theorem Yd:∀{g:List Fr},g.all Fr.plain=true -> ∀(frs:List Fr) p,Zbp (g++frs) p=Zbp frs p|[],_,frs,p=>rfl|x::g,h,frs,p=>by simp only[List.all_cons,J0e]at h;have ih:=Yd h.2 frs p;grind[Zbp,Zqm,Zqn]
variable {B:Nat}{ι:Em}{L:Option (Nat×Loop)}
theorem LoopOK.frs{w:World}(h:∀p,Zbp f2 p=Zbp f1 p)(hl:LoopOK B w ι f1 L):LoopOK B w ι f2 L:=by
 cases L with|none=>trivial|some x=>obtain⟨l,rec⟩:=x;obtain⟨a,b,c,d⟩:=hl;exact⟨a,b,c,by rw[d,h]⟩
variable {w0 w':World}{h h':List AObj}{ι':Em}
theorem LoopOK.ext{w: World}(hr:HRel B w0 h ι w)(hx:EX h ι w h' ι' w'){frs:List Fr}(hl:LoopOK B w ι frs L):LoopOK B w' ι' frs L:=by
 cases L with|none=>trivial|some x=>obtain⟨l,rec⟩:=x;obtain⟨a,b,c,d⟩:=hl;exact⟨by rw[hx.oeq.2.1];exact a,b,Ygb hr hx b c (λ_ _ _=>by grind),d⟩
theorem Marks.ext{w: World}(hr:HRel B w0 h ι w)(hx:EX h ι w h' ι' w'){ms:List Nat}(hm:Marks B w ms):Marks B w' ms:=⟨hm.1,λr hrr=>⟨(hm.2 r hrr).1,Ygb hr hx (hm.2 r hrr).1 (hm.2 r hrr).2 (λ_ _ _=>by grind)⟩⟩
section
variable {P:Program} {Q:Exit->St->Prop} {st:St} {frs:List Fr} {lows:List (List AV)}
theorem KAW.repl{x:Fr}(g:List Fr)(hx:x.plain=true)(hg:g.all Fr.plain=true)
    (hstep:∀it,CompF P [it] [x] -> ∀B w0 ι a w,SR B w0 st ι a w -> ∃its',CompF P its' g /\ ∀(b:Frame) (k:List Item) (cs:List Frame),step P (lone (b.atR a (it::k)) cs w) = .next (lone (b.atR a (its' ++ k)) cs w))
    (h:KAW P (g++frs) Q st lows):KAW P (x::frs) Q st lows:=by
  intro b k cs L top bot lt ms b1 k1 cs1 its he hc hu B w0 ι a w mt hs hl hd hm hL;obtain⟨top',rfl,rfl⟩:=Qe hu (Fr.plain_nomark hx) he;obtain⟨it,its',rfl,h1,h2⟩:=hc.head;obtain⟨its2,h3,h4⟩:=hstep it h1 B w0 ι a w hs;obtain⟨e,a',w',q,r⟩:=h b k cs L (g++top') bot lt ms b1 k1 cs1 (its2++its') (by simp) (h3.app h2) hu B w0 ι a w mt hs hl hd hm (hL.frs λp=>by rw[Yd hg];have:=Yd (g:=[x]) (by simp[hx]) (top' ++ bot) p;grind);refine⟨e,a',w',q,.of_steps (.one ?_) r⟩;grind
theorem Zww{it:Item}{c:ACode}(h:CompF P [it] [.code c]):∃C,it = .code C/\comp P C=some c:=by
 cases h with|code C c its frs h hs=>grind
theorem KAW.skip(h:KAW P frs Q st lows):KAW P (.code .skip::frs) Q st lows :=
 .repl [] rfl rfl (λit hc B w0 ι a w hs=>by
  obtain⟨C,rfl,h1⟩:=Zww hc;have hsh:=Zp h1;dsimp only at hsh;rcases hsh with rfl|⟨l,rfl⟩
  exact⟨[],.nil,λb k cs=>stepR_skip⟩;exact⟨[],.nil,λb k cs=>stepR_label⟩) h
theorem KAW.seq{x y:ACode}(h:KAW P (.code x :: .code y::frs) Q st lows):KAW P (.code (.seq x y)::frs) Q st lows :=
 .repl [.code x,.code y] rfl rfl (λit hc B w0 ι a w hs=>by obtain⟨C,rfl,h1⟩:=Zww hc;obtain⟨c1,c2,rfl,h2,h3⟩:=Zp h1;exact⟨[.code c1,.code c2],.code _ _ _ _ h2 (.code _ _ _ _ h3 .nil),λb k cs=>stepR_seq⟩) h
theorem KAW.cond{z:AOpd}{x y:ACode}{t:Bool}(hz:z.eval st.slots = .p (.bool t))(h:KAW P (.code (if t then x else y)::frs) Q st lows):KAW P (.code (.cond z x y)::frs) Q st lows :=
 .repl [.code (if t then x else y)] rfl rfl (λit hc B w0 ι a w hs=>by
  obtain⟨C,rfl,h1⟩:=Zww hc;obtain⟨o,c1,c2,rfl,h0,h2,h3⟩:=Zp h1;have hv:=Zf (a:=a) hs.slot hs.len h0;rw[hz]at hv;have he:a.eval o = .bool t:=by generalize a.eval o=v at hv;cases hv with|p _ _ hv=>cases hv;rfl
  refine⟨[.code (if t then c1 else c2)],.code _ _ _ _ ?_ .nil,λb k cs=>stepR_cond he⟩;grind) h
variable {id:Nat}
theorem KAW.block{x:ACode}(h:KAW P (.code x :: .blk id::frs) Q st lows):KAW P (.code (.block id x)::frs) Q st lows :=
 .repl [.code x,.blk id] rfl rfl (λit hc B w0 ι a w hs=>by obtain⟨C,rfl,h1⟩:=Zww hc;obtain⟨c1,rfl,h2⟩:=Zp h1;exact⟨[.code c1,.inBlock id],.code _ _ _ _ h2 (.blk _ _ _ .nil),λb k cs=>stepR_block⟩) h
theorem KAW.unblk(h:KAW P frs Q st lows):KAW P (.blk id::frs) Q st lows :=
 .repl [] rfl rfl (λit hc B w0 ι a w hs=>by
  cases hc with|blk id its frs hs' => grind[stepR_inBlock]) h
theorem KAW.scope{x:ACode}(h:KAW P (.code x :: .scp::frs) Q st lows):KAW P (.code (.scope x)::frs) Q st lows :=
 .repl [.code x,.scp] rfl rfl (λit hc B w0 ι a w hs=>by obtain⟨C,rfl,h1⟩:=Zww hc;obtain⟨c1,rfl,h2⟩:=Zp h1;exact⟨[.code c1,.inScope c1],.code _ _ _ _ h2 (.scp _ _ _ .nil),λb k cs=>step_lone_go (by simp[stepG,stepG.exec,Frame.atR])⟩) h
theorem KAW.unscp(h:KAW P frs Q st lows):KAW P (.scp::frs) Q st lows :=
 .repl [] rfl rfl (λit hc B w0 ι a w hs=>by
  cases hc with|scp C its frs hs' => exact⟨[],.nil,λb k cs=>step_lone_go (by simp[stepG,stepG.exec,Frame.atR])⟩) h
theorem KAW.loop{x:ACode}(h:KAW P (.code x :: .lp x::frs) Q st lows):KAW P (.code (.loop x)::frs) Q st lows :=
 .repl [.code x,.lp x] rfl rfl (λit hc B w0 ι a w hs=>by obtain⟨C,rfl,h1⟩:=Zww hc;obtain⟨c1,rfl,h2⟩:=Zp h1;exact⟨[.code c1,.inLoop c1],.code _ _ _ _ h2 (.lp _ _ _ _ h2 .nil),λb k cs=>stepR_loop⟩) h
theorem KAW.again{x:ACode}(h:KAW P (.code x :: .lp x::frs) Q st lows):KAW P (.lp x::frs) Q st lows :=
 .repl [.code x,.lp x] rfl rfl (λit hc B w0 ι a w hs=>by
  cases hc with|lp C c its frs h hs' => exact⟨[.code C,.inLoop C],.code _ _ _ _ h (.lp _ _ _ _ h .nil),λb k cs=>stepR_inLoop⟩) h
variable {ss:List AStep}
theorem KAW.reg(h:KAW P (.steps ss::frs) Q st lows):KAW P (.code (.reg none ss)::frs) Q st lows :=
 .repl [.steps ss] rfl rfl (λit hc B w0 ι a w hs=>by
  obtain⟨C,rfl,h1⟩:=Zww hc;obtain⟨id,ops,d,rfl,h2⟩:=Zp h1;obtain⟨hn,h3⟩:=Zg5 h2;unfold Zf8 at h3;split at h3;cases h3;rename_i ss' hss;split at h3;grind;rename_i hd;simp only[J0b,ACode.reg.injEq,true_and]at h3;subst h3;have hd:d=false:=by grind
  subst hd;exact⟨[.inRegion ops (List.range ops.size)],.steps _ _ _ _ _ hn (Yb3 hss) .nil,λb k cs=>stepR_region⟩) h
theorem KAW.steps_nil(h:KAW P frs Q st lows):KAW P (.steps []::frs) Q st lows :=
 .repl [] rfl rfl (λit hc B w0 ι a w hs=>by
  cases hc with
  |steps ops is ss its frs hn h hs' =>
   have:is=[]:=by
    cases is with|nil=>rfl|cons i is=>grind[Qd]
   grind[stepR_region_end]) h
theorem KAW.steps{s1 s2:List AStep}{st' : St}(h1:ASteps P s1 st st')(h:KAW P (.steps s2::frs) Q st' lows):KAW P (.steps (s1++s2)::frs) Q st lows:=by
 intro b k cs L top bot lt ms b1 k1 cs1 its he hc hu B w0 ι a w mt hs hl hd hm hL;obtain⟨top',rfl,rfl⟩:=Qe hu rfl he;cases hc with|steps ops is ss its frs hn hix hs' => obtain⟨i2,ι',a',w',g1,g2,g3,g4⟩:=Yvc h1 hn hix hs b1 (its++k1) cs1;obtain⟨e,a2,w2,q,r⟩:=h b k cs L (.steps s2::top') bot lt ms b1 k1 cs1 (.inRegion ops i2::its) (by simp) (.steps _ _ _ _ _ hn g1 hs') hu B w0 ι' a' w' mt g3 (hl.ext g4) (by rw[g3.defers,g4.oeq.2.2,<- hs.defers];exact hd) (hm.ext hs.heap g4) ((hL.frs λp=>rfl).ext hs.heap g4);rw[g4.oeq.1]at q;exact⟨e,a2,w2,q,.of_steps (by grind) r⟩
theorem KAW.drawn{pre:List Nat}(h:DE P pre ss [] ss st (λs=>KAW P frs Q s lows)):KAW P (.code (.reg (some pre) ss)::frs) Q st lows:=by
 intro b k cs L top bot lt ms b1 k1 cs1 its he hc hu B w0 ι a w mt hs hl hd hm hL;obtain⟨top',rfl,rfl⟩:=Qe hu rfl he;cases hc with|code C c its frs hC hs' => obtain⟨id,ops,d,rfl,h2⟩:=Zp hC;obtain⟨st',ι',a',w',g1,g2,g4,g5⟩:=Yrw h h2 hs b1 (its++k1) cs1;obtain⟨e,a2,w2,q,r⟩:=g5 b k cs L top' bot lt ms b1 k1 cs1 its rfl hs' hu B w0 ι' a' w' mt g2 (hl.ext g4) (by rw[g2.defers,g4.oeq.2.2,<- hs.defers];exact hd) (hm.ext hs.heap g4) ((hL.frs λp=>rfl).ext hs.heap g4);rw[g4.oeq.1]at q;exact⟨e,a2,w2,q,.of_steps (by simpa using g1) r⟩
def WeakL(st:St)(lows:List (List AV))(st' : St)(lows' : List (List AV)):Prop:=∀B w0 ι a w lt,SR B w0 st ι a w->LRel st.heap ι w lows lt -> ∃κ,SR B w0 st' κ a w/\LRel st'.heap κ w lows' lt/\κ.O=ι.O/\κ.Y=ι.Y
theorem KAW.weak{st' : St}{lows' : List (List AV)}(hw:WeakL st lows st' lows')(h:KAW P frs Q st' lows'):KAW P frs Q st lows:=by
 intro b k cs L top bot lt ms b1 k1 cs1 its he hc hu B w0 ι a w mt hs hl hd hm hL;obtain⟨κ,g1,g2,g3,g4⟩:=hw B w0 ι a w lt hs hl;obtain⟨e,a2,w2,q,r⟩:=h b k cs L top bot lt ms b1 k1 cs1 its he hc hu B w0 κ a w mt g1 g2 hd hm (by
  cases L with|none=>trivial|some x=>obtain⟨l,rec⟩:=x;obtain⟨h1,h2,h3,h4⟩:=hL;exact⟨by grind,h2,h3,h4⟩)
 grind
def Qi(id:Nat):List Fr->Option (List Fr)|.blk i::frs=>if i=id then some frs else Qi id frs|.code _::frs=>Qi id frs|.lp _::frs=>Qi id frs|.steps _::frs=>Qi id frs|.scp::frs=>Qi id frs|_=>none
variable {b b1:Frame}{k k1:List Item}{cs cs1:List Frame}{bot:List Fr}{lt:List (List Value)}{ms:List Nat}
theorem Ylb{L:Option (Nat×Loop)}(h:Und P b k cs L bot lt ms b1 k1 cs1)(id:Nat):Qi id bot=none:=by cases h<;>rfl
theorem Zdy{bot:List Fr}{id:Nat}(hb:Qi id bot=none){frs' : List Fr}:∀{its:List Item} {top:List Fr},CompF P its top->Qi id (top++bot)=some frs' ->
    ∃its' top',frs' = top' ++ bot/\CompF P its' top' /\ (∀k,exitTo id (its++k)=some (its' ++ k)) /\ ∀p,Zbp (top' ++ bot) p=Zbp (top++bot) p
  |_,_,.nil,h=>by grind|_,_,.code C c its frs hC hs,h=>by obtain⟨its',top',h1,h2,h3,h4⟩:=Zdy hb hs (show Qi id (frs++bot)=some frs' from h);exact⟨its',top',h1,h2,λk=>by grind[exitTo],λp=>(h4 p).trans (Yd (g:=[.code c]) rfl (frs++bot) p).symm⟩|_,_,.lp C c its frs hC hs,h=>by obtain⟨its',top',h1,h2,h3,h4⟩:=Zdy hb hs (show Qi id (frs++bot)=some frs' from h);exact⟨its',top',h1,h2,λk=>by grind[exitTo],λp=>(h4 p).trans (Yd (g:=[.lp c]) rfl (frs++bot) p).symm⟩|_,_,.steps ops is ss its frs hn hC hs,h=>by obtain⟨its',top',h1,h2,h3,h4⟩:=Zdy hb hs (show Qi id (frs++bot)=some frs' from h);exact⟨its',top',h1,h2,λk=>by grind[exitTo],λp=>(h4 p).trans (Yd (g:=[.steps ss]) rfl (frs++bot) p).symm⟩|_,_,.brd its frs hs,h=>by cases(show(none:Option (List Fr))=some frs' from h)|_,_,.scp C its frs hs,h=>by obtain⟨its',top',h1,h2,h3,h4⟩:=Zdy hb hs (show Qi id (frs++bot)=some frs' from h);exact⟨its',top',h1,h2,λk=>by grind[exitTo],λp=>(h4 p).trans (Yd (g:=[.scp]) rfl (frs++bot) p).symm⟩|_,_,.blk i its frs hs,h=>by
   have h0:(if i=id then some (frs++bot)else Qi id (frs++bot))=some frs' := h;clear h;split at h0;rename_i e;subst e;obtain rfl:=J0a h0;exact⟨its,frs,rfl,hs,λk=>by simp[exitTo],λp=>(Yd (g:=[.blk i]) rfl (frs++bot) p).symm⟩;rename_i e;obtain⟨its',top',h1,h2,h3,h4⟩:=Zdy hb hs h0;refine⟨its',top',h1,h2,λk=>?_,λp=>(h4 p).trans (Yd (g:=[.blk i]) rfl (frs++bot) p).symm⟩;show(if (i==id)=true then _ else _)=_;simp_all
theorem KAW.exit{frs' : List Fr}(hx:Qi id frs=some frs')(h:KAW P frs' Q st lows):KAW P (.code (.exit id)::frs) Q st lows:=by
 intro b k cs L top bot lt ms b1 k1 cs1 its he hc hu B w0 ι a w mt hs hl hd hm hL;obtain⟨top',rfl,rfl⟩:=Qe hu rfl he;cases hc with|code C c its frs hC hs' => have hsh:=Zp hC;dsimp only at hsh;subst hsh;obtain⟨its',top2,rfl,h2,h3,h4⟩:=Zdy (Ylb hu id) hs' hx;obtain⟨e,a2,w2,q,r⟩:=h b k cs L top2 bot lt ms b1 k1 cs1 its' rfl h2 hu B w0 ι a w mt hs hl hd hm (hL.frs λp=>(h4 p).trans (Yd (g:=[.code (.exit id)]) rfl (top' ++ bot) p).symm);refine⟨e,a2,w2,q,.of_steps (.one ?_) r⟩;grind[stepR_exit]
theorem KAW.here(h:Q .normal st):KAW P [] Q st lows:=by
 intro b k cs L top bot lt ms b1 k1 cs1 its he hc hu B w0 ι a w mt hs hl hd hm hL;have e1:top=[]:=(List.append_eq_nil_iff.1 he.symm).1;have e2:bot=[]:=(List.append_eq_nil_iff.1 he.symm).2;subst e1;subst e2;cases hc;cases hu with|base hb=>refine⟨.normal,a,w,⟨st,ι,mt,hs,rfl,hd,by grind,h⟩,?_⟩;rw[List.nil_append,Frame.atR_of_none hb];exact Steps.refl _ _
def botF:List Fr->List Fr|.fn r d::frs=>.fn r d::frs|.rf p a c::frs=>.rf p a c::frs|.rnd d p::frs=>.rnd d p::frs|_::frs=>botF frs|[]=>[]
theorem Zqo{L:Option (Nat×Loop)}(h:Und P b k cs L bot lt ms b1 k1 cs1):botF bot=bot:=by cases h<;>rfl
theorem Zcx{bot:List Fr}(hb:botF bot=bot):∀{its:List Item} {top:List Fr},CompF P its top->botF (top++bot)=bot|_,_,.nil=>hb|_,_,.code C c its frs hC hs=>(Zcx hb hs:botF (frs++bot)=bot)|_,_,.lp C c its frs hC hs=>(Zcx hb hs:botF (frs++bot)=bot)|_,_,.steps ops is ss its frs hn hC hs=>(Zcx hb hs:botF (frs++bot)=bot)|_,_,.brd its frs hs=>(Zcx hb hs:botF (frs++bot)=bot)|_,_,.scp C its frs hs=>(Zcx hb hs:botF (frs++bot)=bot)|_,_,.blk i its frs hs=>(Zcx hb hs:botF (frs++bot)=bot)
theorem KAW.retB(hb:botF frs=[])(h:Q .ret st):KAW P (.code .ret::frs) Q st lows:=by
 intro b k cs L top bot lt ms b1 k1 cs1 its he hc hu B w0 ι a w mt hs hl hd hm hL;obtain⟨top',rfl,rfl⟩:=Qe hu rfl he;cases hc with|code C c its frs hC hs' => have hsh:=Zp hC;dsimp only at hsh;subst hsh;have e2:bot=[]:=(Zcx (Zqo hu) hs').symm.trans hb;subst e2;cases hu with|base hb' => refine⟨.ret,a,w,⟨st,ι,mt,hs,rfl,hd,by grind,h⟩,?_⟩;rw[Frame.atR_of_none hb'];exact⟨_,.one step_ret⟩
end
end Go.Abs
