import Derived.Test.YtlnihcefchoofaaGreatDoorDAbsB3
set_option linter.all false
namespace Go.Abs
variable [GTab]
inductive Tr(α:Type) where
 |nil|node (l:Tr α) (x:α) (r:Tr α)
 deriving Inhabited
namespace Tr
variable {α:Type}
def get:Tr α->Nat->Option α
 |.nil,_=>none|.node l x r,n=>match n with
  |0=>some x|m+1=>match m % 2 with|0=>l.get (m / 2)|_+1=>r.get (m / 2)
def upd(v:α):Tr α->Nat->Tr α
 |.nil,_=>.nil|.node l x r,n=>match n with
  |0=>.node l v r|m+1=>match m % 2 with|0=>.node (l.upd v (m / 2)) x r|_+1=>.node l x (r.upd v (m / 2))
def push(v:α):Tr α->Nat->Tr α
 |.nil,_=>.node .nil v .nil|.node l x r,n=>match n with
  |0=>.node l v r|m+1=>match m % 2 with|0=>.node (l.push v (m / 2)) x r|_+1=>.node l x (r.push v (m / 2))
def ofList:List α->Nat->Tr α->Tr α|[],_,t=>t|x::xs,n,t=>ofList xs (n+1) (t.push x n)
def all(p:α->Bool):Tr α->Bool|.nil=>true|.node l x r=>p x&&(l.all p&&r.all p)
end Tr
abbrev GR:=Nat->Nat->Option AObj
section
variable (g:GR)
def Ybq:AV->Option (List (List AV))|.p (.sl es)=>some (es.map (·.map .p))|.xf es=>some (es.map (·.map .p))|.nil=>some []|.ne=>some []|.nl=>some []|.e0=>some []|.row t ver=>(g t ver).map (·.elems)|.sl t ver lo len _=>(g t ver).map λo=>(o.elems.drop lo).take len|_=>none
def Yfm(n:Nat):AV->Option (List AV)
 |.ptr t ver i off =>
  match g t ver with
  |some o => match o.elems[i]? with|some e=>if off+n<=e.length then some ((e.drop off).take n)else none|none=>none
  |none=>none
 |.fptr cs=>if n<=cs.length then some ((cs.take n).map .p)else none|.gp g off=>if n=1 then(match GTab.tab g off with|some x=>some [.p x]|none=>none)else none|_=>none
def Yu0(size:Nat)(ρ:AOpd->AV)(x:AV)(lo hi mx:Option AOpd):Option AV :=
 match x with
 |.nil=>match bndA 0 true ρ lo hi mx with|some _=>some .nil|none=>none
 |.p (.sl es) => match bndA es.length false ρ lo hi mx with|some (l,n,b)=>if l=n then some (if b then .e0 else .p (.sl []))else if Zn size (es.map (·.map AV.p))then some (if b then .xf ((es.take n).drop l)else .p (.sl ((es.take n).drop l)))else none|none=>none
 |.xf es => match bndA es.length true ρ lo hi mx with|some (l,n,b)=>if l=n then some (if b then .e0 else .p (.sl []))else if Zn size (es.map (·.map AV.p))then some (if b then .xf ((es.take n).drop l)else .p (.sl ((es.take n).drop l)))else none|none=>none
 |.row t ver =>
  match g t ver with
  |some o=>if o.size=size then match bndA o.elems.length false ρ lo hi mx with
   |some (l,n,b)=>if lo.isNone&&mx.isNone then(if hi.isNone then some (.row t ver)else some (.sl t ver 0 n false))else if l=n then some (if b then .e0 else .p (.sl []))else some (.sl t ver l (n-l) b)|none=>none else none
  |none=>none
 |.sl t ver lo0 len0 ex =>
  match g t ver with
  |some o=>if o.size=size then match bndA len0 ex ρ lo hi mx with
   |some (l,n,b)=>if ex && !b then none else if lo.isNone&&mx.isNone&&lo0==0 && !ex then some (.sl t ver 0 n false)else if l=n then some (if b then .e0 else .p (.sl []))else some (.sl t ver (lo0+l) (n-l) b)|none=>none else none
  |none=>none
 |_=>none
def lenG:AV->Option Nat|.p (.sl es)=>some es.length|.xf es=>some es.length|.nil=>some 0|.ne=>some 0|.nl=>some 0|.e0=>some 0|.row t ver=>(g t ver).map (·.elems.length)|.sl t ver _ len _=>(g t ver).map λ_=>len|_=>none
def ixG(size:Nat)(x i:AV):Option AV :=
 match asN i with
 |none=>none|some n =>
  match x with
  |.p (.sl es)=>match es[n]? with|some e=>if e.length=size then some (.fptr e)else none|none=>none
  |.xf es=>match es[n]? with|some e=>if e.length=size then some (.fptr e)else none|none=>none
  |.row t ver=>match g t ver with|some o=>if n<o.elems.length/\o.size=size then some (.ptr t ver n 0)else none|none=>none
  |.sl t ver lo len _=>match g t ver with|some o=>if n<len/\o.size=size then some (.ptr t ver (lo+n) 0)else none|none=>none
  |_=>none
def nilG:AV->Option Bool
 |.nil=>some true|.ne=>some false|.nl=>some true|.p (.sl (_::_))=>some false|.xf (_::_)=>some false|.row t ver=>match g t ver with|some o=>if o.elems.isEmpty then none else some false|none=>none
 |.sl t ver _ len _=>match g t ver with|some _=>if len=0 then none else some false|none=>none
 |_=>none
def Yyb:AV->Option Bool
 |.nptr=>some true|.ptr t ver _ _=>match g t ver with|some _=>some false|none=>none
 |.fptr _=>some false|.gp _ _=>some false|_=>none
def Yrc(T e size bytes:Nat)(s:AV)(es:List (List AV)):Option (AV×Eff) :=
 match s with
 |.nil=>if Zn size es/\es.length*bytes<=Zx/\es.length<=maxLen then some (.row T 1,.new ⟨1,e,size,es⟩)else none|.row t ver => match g t ver with|some o=>if o.e=e/\o.size=size/\Zn size es/\(o.elems.length+es.length)*bytes<=Zx/\o.elems.length+es.length<=maxLen then some (.row t (ver+1),.upd t ⟨ver+1,e,size,o.elems++es⟩)else none|none=>none
 |.e0=>if es=[]then some (.e0,.none)else if Zn size es/\es.length*bytes<=Zx/\es.length<=maxLen then some (.row T 1,.new ⟨1,e,size,es⟩)else none|.xf es0 =>
  let old:=es0.map (·.map AV.p)
  if es.isEmpty then none else if Zn size old/\Zn size es/\(old.length+es.length)*bytes<=Zx/\old.length+es.length<=maxLen then some (.row T 1,.new ⟨1,e,size,old++es⟩)else none
 |.sl t ver lo len ex =>
  match g t ver with
  |some o =>
   let old:=(o.elems.drop lo).take len
   if es.isEmpty/\o.size=size then some (.sl t ver lo len ex,.none)else if ex/\es.isEmpty=false/\o.size=size/\Zn size old/\Zn size es/\(old.length+es.length)*bytes<=Zx/\old.length+es.length<=maxLen then some (.row T 1,.new ⟨1,e,size,old++es⟩)
   else if ex=false/\lo=0/\es.isEmpty=false/\o.e=e/\o.size=size/\len<=o.elems.length/\Zn size es/\(len+es.length)*bytes<=Zx/\len+es.length<=maxLen then some (.row t (ver+1),.upd t ⟨ver+1,e,size,o.elems.take len++es⟩)else none
  |none=>none
 |_=>none
def Yyc(size:Nat)(d:AV)(es:List (List AV)):Option (AV×Eff) :=
 match d with
 |.nil=>some (.p (.int .i64 0),.none)|.row t ver =>
  match g t ver with
  |some o =>
   let m:=min es.length o.elems.length
   if o.size=size/\Zn size es then some (.p (.int .i64 m),.upd t { o with elems:=es.take m++o.elems.drop m })else none
  |none=>none
 |.sl t ver lo len _ =>
  match g t ver with
  |some o =>
   let m:=min es.length len
   if o.size=size/\Zn size es/\lo+len<=o.elems.length then some (.p (.int .i64 m),.upd t { o with elems:=o.elems.take lo++(es.take m++o.elems.drop (lo+m)) })else none
  |none=>none
 |_=>none
def Ykl(T:Nat)(ρ:AOpd->AV):AOp->Option (AV×Eff)
 |.mv x=>some (ρ x,.none)|.pick c a b=>match ρ c with|.p (.bool b')=>some (if b' then ρ a else ρ b,.none)|_=>none
 |.box e size x=>match (ρ x).cells with|some cs=>if cs.length=size/\0<size then some (.ptr T 1 0 0,.new ⟨1,e,size,[cs]⟩)else none|none=>none
 |.build zero parts=>match Zn4 (parts.map λq=>(q.1,q.2.1,ρ q.2.2)) zero with|some cs=>some (.agg cs,.none)|none=>none
 |.bslice e size len zero parts => match Zn5 size (parts.map λq=>(q.1,ρ q.2)) (List.replicate len zero)with|some es=>if 0<size/\zero.length=size then some (.row T 1,.new ⟨1,e,size,es⟩)else none|none=>none
 |.load n x =>
  match n with
  |some n=>match Yfm g n (ρ x)with|some cs=>some (.agg cs,.none)|none=>none
  |none=>match Yfm g 1 (ρ x)with|some [c]=>some (c,.none)|_=>none
 |.store n a x =>
  match (ρ x).cells,ρ a with
  |some cs,.ptr t ver i off =>
   match g t ver with
   |some o => match o.elems[i]? with|some e=>if cs.length=n/\off+n<=e.length then some (.u,.upd t { o with elems:=o.elems.set i (spl e off cs) })else none|none=>none
   |none=>none
  |_,_=>none
 |.nilchk x=>match ρ x with
  |.ptr t ver i off=>match g t ver with|some _=>some (.ptr t ver i off,.none)|none=>none
  |.fptr cs=>some (.fptr cs,.none)|.fn f cs=>some (.fn f cs,.none)|.gp g off=>some (.gp g off,.none)|.fb f cs=>some (.fb f cs,.none)|_=>none
 |.bin op x y=>match binA op (ρ x) (ρ y)with|some v=>some (.p v,.none)|none=>none
 |.beq neg x y=>match ρ x,ρ y with|.p (.bool a),.p (.bool b)=>some (.p (.bool (if neg then !(a==b)else a==b)),.none)|_,_=>none
 |.eqnil neg x=>match nilG g (ρ x)with|some b=>some (.p (.bool (if neg then !b else b)),.none)|none=>none
 |.eqi neg x=>match ρ x with|.ifc b=>some (.p (.bool (if neg then b else !b)),.none)|_=>none
 |.eqagg neg size ix x y=>match ρ x,ρ y with
  |.agg xs,.agg ys=>if xs.length=size/\ys.length=size then(match eqIx xs ys ix with|some b=>some (.p (.bool (if neg then !b else b)),.none)|none=>none)else none|_,_=>none
 |.un op x=>match unA op (ρ x)with|some v=>some (.p v,.none)|none=>none
 |.conv k x=>match ρ x with|.p (.int _ n)=>some (.p (.int k (k.wrap n)),.none)|_=>none
 |.convs x=>match ρ x with|.p (.str s)=>some (.p (.str s),.none)|_=>none
 |.bstr x=>match Ybq g (ρ x)with|some es=>(match Zkp es with|some s=>some (.p (.str s),.none)|none=>none)|none=>none
 |.mksl e size bytes zero len cap => match asN (ρ len),asN (ρ cap)with|some n,some c=>if n<=c/\bytes*c<=2*Zx/\c<=maxLen/\0<size/\zero.length=size then some (.row T 1,.new ⟨1,e,size,List.replicate n zero⟩)else none|_,_=>none
 |.slice size x lo hi mx=>match Yu0 g size ρ (ρ x) lo hi mx with|some v=>some (v,.none)|none=>none
 |.sstr x lo hi=>match ρ x with
  |.p (.str s)=>match bndA s.length true ρ lo hi none with|some (l,n,_)=>some (.p (.str ((s.take n).drop l)),.none)|none=>none
  |_=>none
 |.fld off x=>match ρ x with
  |.ptr t ver i o=>match g t ver with|some _=>some (.ptr t ver i (o+off),.none)|none=>none
  |.fptr cs=>some (.fptr (cs.drop off),.none)|_=>none
 |.field off n x=>match ρ x with
  |.agg cs=>(match Zpw cs off n with|some v=>some (v,.none)|none=>none)|_=>none
 |.ixa size x i=>match ixG g size (ρ x) (ρ i)with|some v=>some (v,.none)|none=>none
 |.ixarr len size x i=>match asN (ρ i)with
  |none=>none|some n=>if n<len then match ρ x with
   |.ptr t ver i o=>match g t ver with|some _=>some (.ptr t ver i (o+n*size),.none)|none=>none
   |.fptr cs=>some (.fptr (cs.drop (n*size)),.none)|.gp g o=>some (.gp g (o+n*size),.none)|_=>none else none
 |.ixv len size m x i=>match asN (ρ i)with
  |none=>none|some n=>if n<len then match ρ x with
   |.agg cs=>(match Zpw cs (n*size) m with|some v=>some (v,.none)|none=>none)|_=>none else none
 |.ixs x i=>match asN (ρ i),ρ x with
  |some n,.p (.str s)=>match s[n]? with|some b=>some (.p (.int .u8 b.toNat),.none)|none=>none
  |_,_=>none
 |.extract i x=>match ρ x with|.tuple vs=>(match vs[i]? with|some v=>some (v,.none)|none=>none)|_=>none
 |.len x=>match lenG g (ρ x)with|some n=>some (.p (.int .i64 n),.none)|none=>none
 |.lens x=>match ρ x with|.p (.str s)=>some (.p (.int .i64 s.length),.none)|_=>none
 |.append e size bytes s x=>match Ybq g (ρ x)with|some es=>if 0<size then Yrc g T e size bytes (ρ s) es else none|none=>none
 |.copy size d s=>match Ybq g (ρ s)with|some es=>Yyc g size (ρ d) es|none=>none
 |.mm mx x y=>match ρ x,ρ y with
  |.p (.int k a),.p (.int k' b)=>some (.p (.int k (if mx then(if b>a then b else a)else(if b<a then b else a))),.none)|_,_=>none
 |.mkfn f caps=>some (.fn f (caps.map ρ),.none)|.mkfb f caps=>some (.fb f (caps.map ρ),.none)|.eqp neg x=>match Yyb g (ρ x)with|some b=>some (.p (.bool (if neg then !b else b)),.none)|none=>none
 |.eqf neg x=>match nilF (ρ x)with|some b=>some (.p (.bool (if neg then !b else b)),.none)|none=>none
 |.sbytes x=>match ρ x with|.p (.str s)=>some (.p (.sl (s.map λb=>[.int .u8 b.toNat])),.grow)|_=>none
 |.capn x=>match ρ x with|.nil=>some (.p (.int .i64 0),.none)|_=>none
 |.appz e size bytes zero s n=>match ρ s,asN (ρ n)with
  |.nil,some n=>if 0<n/\n*bytes<=Zx/\n<=maxLen/\0<size/\zero.length=size then some (.row T 1,.new ⟨1,e,size,List.replicate n zero⟩)else none|_,_=>none
 |.bad=>none
def frzG(bad:List Nat):Nat->AV->Option PV
 |0,_=>none|n+1,x =>
  match x with
  |.p v=>some v|.xf es=>some (.sl es)|.nil=>some (.sl [])|.ne=>some (.sl [])|.nl=>some (.sl [])|.e0=>some (.sl [])|.row t ver=>if bad.contains t then none else match g t ver with|some o=>(match frzE (frzG bad n) o.elems with|some es=>some (.sl es)|none=>none)|none=>none
  |.sl t ver lo len _=>if bad.contains t then none else match g t ver with|some o=>(match frzE (frzG bad n) ((o.elems.drop lo).take len)with|some es=>some (.sl es)|none=>none)|none=>none
  |_=>none
def ptrG:AV->Option (List PV)
 |.ptr t ver i off=>match g t ver with
  |some o=>(match o.elems[i]? with|some e=>if off<e.length then frzL (frzG g [] 6) (e.drop off)else none|none=>none)|none=>none
 |.fptr cs=>some cs|_=>none
def rcG(bad:List Nat)(own:Bool):AV->Option RC
 |.row t ver =>
  if own then match g t ver with|some o=>(match frzE (frzG g bad 6) o.elems with|some es=>some (.s o.e o.size es)|none=>none)|none=>none
  else match frzG g bad 6 (.row t ver)with|some v=>some (.c v)|none=>none
 |.ifc b=>some (.e b)|x=>match frzG g bad 6 x with|some v=>some (.c v)|none=>none
def rcsG(bad:List Nat)(own:Bool):List AV->Option (List RC)|[]=>some []|x::xs=>match rcG g bad own x,rcsG bad own xs with|some a,some b=>some (a::b)|_,_=>none
def raG(bad:List Nat)(own:Bool):AV->Option RA
 |.agg cs=>match rcsG g bad own cs with|some l=>some (.a l)|none=>none
 |x=>match rcG g bad own x with|some v=>some (.c v)|none=>none
def Z7n(bad:List Nat)(own:Bool):List AV->Option (List RA)|[]=>some []|x::xs=>match raG g bad own x,Z7n bad own xs with|some a,some b=>some (a::b)|_,_=>none
def rasG(own:Bool)(xs:List AV):Option (List RA):=if own then(if nodupB (tops xs)then Z7n g (tops xs) true xs else none)else Z7n g [] false xs
def Yti(ρ:Nat->AV):ARes->Option AV
 |.tmp t=>some (ρ t)|.cell t (some n)=>match Yfm g n (ρ t)with|some cs=>some (.agg cs)|none=>none
 |.cell t none=>match Yfm g 1 (ρ t)with|some [c]=>some c|_=>none
def resG(ρ:Nat->AV):List ARes->Option (List AV)|[]=>some []|r::rs=>match Yti g ρ r,resG ρ rs with|some x,some xs=>some (x::xs)|_,_=>none
def Zht(h:Nat->Option AObj):Nat->AV->List Nat|0,_=>[]|n+1,x => match x with|.row t _=>t::(match h t with|some o=>o.elems.flatMap λe=>e.flatMap (Zht h n)|none=>[])|.sl t _ _ _ _=>t::(match h t with|some o=>o.elems.flatMap λe=>e.flatMap (Zht h n)|none=>[])|.ptr t _ _ _=>t::(match h t with|some o=>o.elems.flatMap λe=>e.flatMap (Zht h n)|none=>[])|.agg cs=>cs.flatMap (Zht h n)|_=>[]
end
structure VS where
 slots:Tr AV
 heap:Tr AObj
 n:Nat
 deriving Inhabited
def getT(h:Tr AObj):GR:=λt ver => match h.get t with|some o=>if o.ver=ver/\o.size≠0 then some o else none|none=>none
def slot(s:Tr AV)(n:Nat):AV:=match s.get n with|some v=>v|none=>.any
def Zam(s:Tr AV):AOpd->AV|.t n=>slot s n|.c v=>v
def setT(s:Tr AV)(d:Option Nat)(v:AV):Tr AV:=match d with|none=>s|some d=>s.upd v d
def Yfn(s:Tr AV):Option (Nat×Bool)->Option Bool|none=>some true|some (d,b) => match s.get d with|some (.p (.bool b'))=>some (b' == b)|some .u=>some false|_=>none
def Zi0(h:Tr AObj)(n:Nat):List AObj->Tr AObj×Nat|[]=>(h,n)|o::os=>Zi0 (h.push o n) (n+1) os
def Znq(nt:Nat)(args:List AV):Tr AV:=Tr.ofList (start nt args) 0 .nil
def Zds(tau:List Nat)(g:GR):GR:=λt ver=>if tau.contains t then g t ver else none
inductive VRes where
 |next (frs:List Fr) (st:VS) (lows:List (Tr AV))|done (e:EX') (st:VS)|stuck (code:Nat)
 deriving Inhabited
structure VP where
 K:FuncId->List PA->Option (List RA)
 F:FuncId->Option AFun
 cb:FuncId->Bool
 lone:FuncId->Bool
 fz:FuncId->Bool
section
variable (callF:FuncId->List PA->Option (List RA)) (V:VP)
def Zv1(st:VS)(dst:Option Nat)(rs:List RA):VS:=⟨setT st.slots dst (retV (Zg st.n rs)),(Zi0 st.heap st.n (Za rs)).1,(Zi0 st.heap st.n (Za rs)).2⟩
def Zp7(f:FuncId)(avs:List AV)(dst:Option Nat)(st:VS):Option (AV×List Nat×List Nat×VS) :=
 match Zew frzP (ptrC []) avs with
 |some pas => match callF f pas with|some rs=>some (retV (Zg st.n rs),List.range' st.n (Za rs).length,List.range' st.n (Za rs).length,Zv1 st dst rs)|none=>none
 |none =>
  match Zew (frzG (Zds (avs.flatMap (Zht (λt=>st.heap.get t) 6)) (getT st.heap)) [] 6) (ptrG (Zds (avs.flatMap (Zht (λt=>st.heap.get t) 6)) (getT st.heap))) avs with
  |some pas =>
   match callF f pas with
   |some rs => match Yr rs with|true=>some (retV (Zg st.n rs),List.range' st.n (Za rs).length,avs.flatMap (Zht (λt=>st.heap.get t) 6)++List.range' st.n (Za rs).length,Zv1 st dst rs)|false=>none
   |none=>none
  |none=>none
def Zv2(s:AStep)(st:VS):Option (AV×List Nat×List Nat×VS) :=
 match Yfn st.slots s.guard with
 |some false=>some (.u,[],[],⟨setT st.slots s.dst .u,st.heap,st.n⟩)|some true =>
  match s.op with
  |.op ao =>
   match Ykl (Zds (touch (Zam st.slots) ao) (getT st.heap)) st.n (Zam st.slots) ao with
   |some (y,eff) =>
    match eff with
    |.none=>some (y,[],touch (Zam st.slots) ao,⟨setT st.slots s.dst y,st.heap,st.n⟩)|.grow=>some (y,[],touch (Zam st.slots) ao,⟨setT st.slots s.dst y,st.heap,st.n⟩)|.new o=>some (y,[st.n],st.n::touch (Zam st.slots) ao,⟨setT st.slots s.dst y,st.heap.push o st.n,st.n+1⟩)|.upd t o=>match Nat.blt t st.n with
     |true=>some (y,[t],touch (Zam st.slots) ao,⟨setT st.slots s.dst y,st.heap.upd o t,st.n⟩)|false=>none
   |none=>none
  |.call f args=>Zp7 callF f (args.map (Zam st.slots)) s.dst st|.callv x args=>match Zam st.slots x with
   |.fn f caps=>match V.cb f with
    |true=>Zp7 callF f (args.map (Zam st.slots)++caps) s.dst st|false=>none
   |_=>none
 |none=>none
def Zv3:List AStep->VS->Option (List (List Nat×List Nat)×VS)
 |[],st=>some ([],st)|s::rest,st =>
  match Zv2 callF V s st with
  |some (y,wr,tau,st1) => match Zv3 rest st1 with|some (L,st')=>some ((wr,tau)::L,st')|none=>none
  |none=>none
def opsT:List AStep->VS->List AStep×VS
 |[],st=>([],st)|s::rest,st =>
  match Yfn st.slots s.guard with
  |some false=>opsT rest ⟨setT st.slots s.dst .u,st.heap,st.n⟩|some true =>
   match s.op with
   |.op ao =>
    match Ykl (getT st.heap) st.n (Zam st.slots) ao with
    |some (y,eff)=>match eff with
     |.none=>opsT rest ⟨setT st.slots s.dst y,st.heap,st.n⟩|.grow=>opsT rest ⟨setT st.slots s.dst y,st.heap,st.n⟩|.new o=>opsT rest ⟨setT st.slots s.dst y,st.heap.push o st.n,st.n+1⟩|.upd t o=>opsT rest ⟨setT st.slots s.dst y,st.heap.upd o t,st.n⟩
    |none=>(s::rest,st)
   |_=>(s::rest,st)
  |none=>(s::rest,st)
def Z7o(frs:List Fr)(st:VS)(lows:List (Tr AV)):VRes :=
 match botF frs with
 |[]=>.done .ret st|.fn res dst::frs0=>match lows with
  |low::lows=>match resG (getT st.heap) (slot st.slots) res with
   |some xs=>.next frs0 ⟨setT low dst (retV xs),st.heap,st.n⟩ lows|none=>.stuck 1
  |[]=>.stuck 2
 |.rf _ _ _::frs0=>match lows with
  |pd::low::lows=>match Zw frs0 with
   |false=>match pd.get 0 with
    |some (.p (.int .u64 p))=>match pd.get 1 with
     |none=>match p with
      |.ofNat 0=>.next frs0 ⟨low,st.heap,st.n⟩ lows|.ofNat 1=>.next (.code .ret::frs0) ⟨low,st.heap,st.n⟩ lows|.ofNat (id+2)=>.next (.code (.exit id)::frs0) ⟨low,st.heap,st.n⟩ lows|_=>.stuck 3
     |some _=>.stuck 3
    |_=>.stuck 4
   |true=>.stuck 5
  |_=>.stuck 6
 |_=>.stuck 7
def pend(p:Nat):Tr AV:=.node .nil (.p (.int .u64 (Int.ofNat p))) .nil
def Ybr(s:Tr AV):List (Nat×AV)->Tr AV|[]=>s|(t,v)::rest=>Ybr (s.upd v t) rest
def noYT(st:VS)(lows:List (Tr AV)):Bool:=st.slots.all AV.noY&&(st.heap.all noYO&&lows.all (Tr.all AV.noY))
def Zv4(f:FuncId)(avs:List AV)(s:AStep)(rest:List AStep)(frs:List Fr)(st:VS)(lows:List (Tr AV)):VRes := match V.F f with|some af=>.next (.code af.body :: .fn af.res s.dst :: .steps rest::frs) ⟨Znq af.nt avs,st.heap,st.n⟩ (st.slots::lows)|none=>.stuck 10
mutual
def subV(F:List Nat)(fz:AV->Option PV):AV->AV|.row t ver=>if F.contains t then(match fz (.row t ver)with|some y=>.p y|none=>.row t ver)else .row t ver|.sl t ver lo len ex=>if F.contains t then(match fz (.sl t ver lo len ex)with|some y=>.p y|none=>.sl t ver lo len ex)else .sl t ver lo len ex|.agg cs=>.agg (subL F fz cs)|.tuple cs=>.tuple (subL F fz cs)|.fn f cs=>.fn f (subL F fz cs)|.fb f cs=>.fb f (subL F fz cs)|x=>x
def subL(F:List Nat)(fz:AV->Option PV):List AV->List AV|[]=>[]|x::xs=>subV F fz x::subL F fz xs
end
def frzO(F:List Nat)(fz:AV->Option PV)(i:Nat)(o:AObj):AObj:=if F.contains i then⟨o.ver+1,o.e,0,[]⟩else⟨o.ver,o.e,o.size,o.elems.map (subL F fz)⟩
def Tr.mapIx{α:Type}(f:Nat->α->α):(Nat->Nat)->Tr α->Tr α|_,.nil=>.nil|g,.node l x r=>.node (Tr.mapIx f (λn=>g (2*n+1)) l) (f (g 0) x) (Tr.mapIx f (λn=>g (2*n+2)) r)
def Tr.map{α:Type}(f:α->α):Tr α->Tr α|.nil=>.nil|.node l x r=>.node (Tr.map f l) (f x) (Tr.map f r)
def Z4d(h:Nat->Option AObj):Nat->AV->List Nat|0,_=>[]|n+1,x => match x with|.row t _=>t::(match h t with|some o=>o.elems.flatMap λe=>e.flatMap (Z4d h n)|none=>[])|.sl t _ _ _ _=>t::(match h t with|some o=>o.elems.flatMap λe=>e.flatMap (Z4d h n)|none=>[])|.agg cs=>cs.flatMap (Z4d h n)|_=>[]
def Zv5(st:VS)(avs:List AV):List Nat:=(avs.flatMap (Z4d (λt=>st.heap.get t) 6)).eraseDups
def Yyd:SOp->List AOpd|.op ao=>ao.opds|.call _ xs=>xs|.callv x xs=>x::xs
def Zp8(ss:List AStep)(st:VS):List Nat:=Zv5 st ((ss.flatMap λs=>Yyd s.op).map (Zam st.slots))
def Z4e(F:List Nat)(st:VS):VS :=
 let fz:=frzG (Zds F (getT st.heap)) [] 6
 ⟨st.slots.map (subV F fz),st.heap.mapIx (frzO F fz) (λn=>n),st.n⟩
def Zp9(F:List Nat)(st:VS)(lows:List (Tr AV)):List (Tr AV) :=
 let fz:=frzG (Zds F (getT st.heap)) [] 6
 lows.map (Tr.map (subV F fz))
def Ykm(f:FuncId)(args:List AOpd)(s:AStep)(rest:List AStep)(frs:List Fr)(st:VS)(lows:List (Tr AV)):VRes :=
 let avs:=args.map (Zam st.slots)
 match Zew frzP (ptrC []) avs with
 |some pas=>match callF f pas with
  |some rs=>.next (.steps rest::frs) (Zv1 st s.dst rs) lows|none=>.stuck 30
 |none =>
  let F:=Zv5 st avs;let st1:=Z4e F st
  match Zew frzP (ptrC []) (args.map (Zam st1.slots))with
  |some pas=>match callF f pas with
   |some rs=>.next (.steps rest::frs) (Zv1 st1 s.dst rs) (Zp9 F st lows)|none=>.stuck 29
  |none =>
  match Zew (frzG (getT st.heap) [] 6) (ptrG (getT st.heap)) avs with
  |some pas=>match callF f pas with
   |some rs=>match Yr rs with
    |true=>.next (.steps rest::frs) (Zv1 st s.dst rs) lows|false=>.stuck 31
   |none=>.stuck 32
  |none=>.stuck 33
def Yfo(pre:List Nat)(ss:List AStep)(st:VS):Option VS :=
 match Zv3 callF V ss st with
 |some (L,st')=>match ordT pre ss L with
  |true=>some st'|false=>none
 |none=>none
def Ykn(frs:List Fr)(st:VS)(lows:List (Tr AV)):VRes :=
 match frs with
 |[]=>.done .normal st|.code c::frs=>match c with
  |.skip=>.next frs st lows|.seq a b=>.next (.code a :: .code b::frs) st lows|.cond z a b=>match Zam st.slots z with
   |.p (.bool true)=>.next (.code a::frs) st lows|.p (.bool false)=>.next (.code b::frs) st lows|_=>.stuck 11
  |.block id c=>.next (.code c :: .blk id::frs) st lows|.scope c=>.next (.code c :: .scp::frs) st lows|.loop c=>.next (.code c :: .lp c::frs) st lows|.reg none ss=>.next (.steps ss::frs) st lows|.reg (some pre) ss=>match Yfo callF V pre ss st with
   |some st' => .next frs st' lows|none=>match Yfo callF V pre ss (Z4e (Zp8 ss st) st)with
    |some st' => .next frs st' (Zp9 (Zp8 ss st) st lows)|none=>.stuck 13
  |.exit id=>match Qi id frs with
   |some frs' => .next frs' st lows|none=>match Xc frs with
    |true=>match botF frs with
     |.rnd dst (pos+1)::frs0=>match Zw frs0 with
      |false=>match lows with
       |low::lows=>.next frs0 ⟨setT low dst (.p (.bool false)),st.heap,st.n⟩ (lows.set pos (pend (id+2)))|[]=>.stuck 14
      |true=>.stuck 15
     |_=>.stuck 16
    |false=>.stuck 17
  |.ret=>match botF frs with
   |.rnd dst (pos+1)::frs0=>match Zw frs0 with
    |false=>match lows with
     |low::lows=>.next frs0 ⟨setT low dst (.p (.bool false)),st.heap,st.n⟩ (lows.set pos (pend 1))|[]=>.stuck 18
    |true=>.stuck 19
   |_=>match Xc frs with
    |true=>Z7o frs st lows|false=>.stuck 20
  |.range z ps ac bc=>match Zam st.slots z with
   |.fn f caps=>match V.cb f,V.F f,noRf frs&&noYT st lows with
    |true,some af,true=>match af.res with
     |[]=>.next (.code af.body :: .rf ps ac bc::frs) ⟨Znq af.nt (.yl::caps),st.heap,st.n⟩ (pend 0::st.slots::lows)|_=>.stuck 21
    |_,_,_=>.stuck 22
   |_=>.stuck 23
  |.bad=>.stuck 24
 |.blk _::frs=>.next frs st lows|.scp::frs=>.next frs st lows|.lp c::frs=>.next (.code c :: .lp c::frs) st lows|.brd::frs=>match Zhu frs,botF frs with
  |false,.rnd _ _::_=>.next frs st lows|_,_=>.stuck 25
 |.rnd dst (pos+1)::frs0=>match Zw frs0 with
  |false=>match lows with
   |low::lows=>.next frs0 ⟨setT low dst (.p (.bool true)),st.heap,st.n⟩ (lows.set pos (pend 0))|[]=>.stuck 26
  |true=>.stuck 27
 |.rnd _ 0::_=>.stuck 28|.fn res dst::frs0=>Z7o (.fn res dst::frs0) st lows|.rf ps a c::frs0=>Z7o (.rf ps a c::frs0) st lows|.steps ss::frs=>match opsT ss st with
  |([],st)=>.next frs st lows|(s::rest,st)=>match Yfn st.slots s.guard with
   |some true=>match s.op with
    |.call f args=>match V.lone f with
     |true=>Ykm callF f args s rest frs st lows|false=>Zv4 V f (args.map (Zam st.slots)) s rest frs st lows
    |.callv x args=>match Zam st.slots x with
     |.fn f caps=>match V.cb f with
      |true=>Zv4 V f (args.map (Zam st.slots)++caps) s rest frs st lows|false=>.stuck 34
     |.fb f firsts=>match V.cb f with
      |true=>Zv4 V f (firsts++args.map (Zam st.slots)) s rest frs st lows|false=>.stuck 42
     |.yl=>match Zw frs,rfAt frs with
      |false,some (pos,ps,ac,bc)=>match lows[pos]?,lows[pos+1]? with
       |some pd,some ls=>match pd.get 0 with
        |some (.p (.int .u64 (.ofNat 0)))=>match Nat.beq args.length ps.length,pd.get 1 with
         |true,none=>.next (.code ac :: .brd :: .code bc :: .rnd s.dst (pos+1) :: .steps rest::frs) ⟨Ybr ls (ps.zip (args.map (Zam st.slots))),st.heap,st.n⟩ (st.slots::lows)|_,_=>.stuck 35
        |_=>.stuck 36
       |_,_=>.stuck 37
      |_,_=>.stuck 38
     |_=>.stuck 39
    |.op _=>.stuck 40
   |_=>.stuck 41
def vrun:Nat->List Fr->VS->List (Tr AV)->Option (EX' × VS)|0,_,_,_=>none|n+1,frs,st,lows => match Ykn callF V frs st lows with|.next frs st lows=>vrun n frs st lows|.done e st=>some (e,st)|.stuck _=>none
def vfin(af:AFun):Option (EX' × VS)->Option (List RA)
 |some (_,st)=>match resG (getT st.heap) (slot st.slots) af.res with
  |some xs=>match rasG (getT st.heap) true xs with
   |some rs=>some rs|none=>rasG (getT st.heap) false xs
  |none=>none
 |none=>none
end
def RC.frz:RC->RC|.c v=>.c v|.s _ _ es=>.c (.sl es)|.e b=>.e b
def RA.frz:RA->RA|.c x=>.c x.frz|.a xs=>.a (xs.map RC.frz)
def RC.posB:RC->Bool|.s _ size _=>Nat.blt 0 size|_=>true
def RA.posB:RA->Bool|.c x=>x.posB|.a xs=>xs.all RC.posB
def Yko(b:Bool)(r:Option (List RA)):Option (List RA) :=
 match b with
 |false=>r|true=>match r with
  |some rs=>match rs.all RA.posB with|true=>some (rs.map RA.frz)|false=>none
  |none=>none
def Zv6(V:VP)(k:Nat):Nat->FuncId->List PA->Option (List RA)|0,_,_=>none|d+1,f,pas => match V.K f pas with|some rs=>some rs|none => match V.F f with|some af=>Yko (V.fz f) (vfin af (vrun (Zv6 V k d) V k [.code af.body] ⟨Znq af.nt (pas.map PA.av),.nil,0⟩ []))|none=>none
end Go.Abs
