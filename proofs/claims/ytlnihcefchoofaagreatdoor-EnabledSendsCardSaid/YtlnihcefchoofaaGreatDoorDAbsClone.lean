import Derived.Test.YtlnihcefchoofaaGreatDoorDAbsA8
set_option linter.all false
namespace Go.Abs
variable [GTab] [Glob]
def Zp6(e size bytes:Nat)(zero:List AV):AFun :=
 { nt:=8,res:=[.tmp 2],
   body:=(ACode.reg none [{ dst:=some 2,guard:=none,op:=.op (.mv (.c .nil)) }]).seq
       (((ACode.reg none [{ dst:=some 3,guard:=none,op:=.op (.mv (.t 0)) },{ dst:=some 4,guard:=none,op:=.op (.eqnil false (.t 3)) }]).seq
             (ACode.cond (.t 4) ((ACode.reg none [{ dst:=some 2,guard:=none,op:=.op (.mv (.c .nil)) }]).seq .ret) .skip)).seq
         ((ACode.reg none
               [{ dst:=some 5,guard:=none,op:=.op (.bslice e size 0 zero []) },
                { dst:=some 6,guard:=none,op:=.op (.mv (.t 0)) },
                { dst:=some 7,guard:=none,op:=.op (.append e size bytes (.t 5) (.t 6)) },
                { dst:=some 2,guard:=none,op:=.op (.mv (.t 7)) }]).seq .ret)) }
variable {P:Program}
theorem ASteps.all{ss:List AStep}{st st' : St}(h:arun ss st=some ([],st')):ASteps P ss st st' := .run h (.nil _)
theorem Z2c{h:List AObj}{bad:List Nat}{n:Nat}:∀(l:List PV),frzL (frz h bad (n+1)) (l.map AV.p)=some l|[]=>rfl|x::l=>by have h1:frz h bad (n+1) (.p x)=some x:=rfl;rw[List.map_cons,frzL,Z2c l,h1]
theorem Z2d{h:List AObj}{bad:List Nat}{n:Nat}:∀(es:List (List PV)),frzE (frz h bad (n+1)) (es.map (·.map AV.p))=some es|[]=>rfl|x::es=>by rw[List.map_cons,frzE,Z2c,Z2d es]
theorem Zv0{f:FuncId}{e size bytes:Nat}{zero:List AV}(hf:Z0 P f=some (Zp6 e size bytes zero))(hz:zero.length=size)(h0:0<size){es:List (List PV)}
    (hsz:Zn size (es.map (·.map AV.p))=true) (hb:es.length*bytes<=Zx) (hm:es.length<=maxLen):Spec P f [.c (.sl es)] [.c (.s e size es)]:=by
  have tail:∀(x:AV),(∀h,Ye h x=some (es.map (·.map AV.p)))->(nilA [] x=some false)->AW P 0 (Zp6 e size bytes zero).body (RetQ (Zp6 e size bytes zero).res true [.c (.s e size es)]) ⟨[x,.u,.u,.u,.u,.u,.u,.u],[]⟩:=by
   intro x hx hnil;refine .seq (.reg (st' := ⟨[x,.u,.nil,.u,.u,.u,.u,.u],[]⟩) (.all rfl) ?_);refine .seq (.seq (.reg (st' := ⟨[x,.u,.nil,x,.p (.bool false),.u,.u,.u],[]⟩) (.all ?_) ?_));simp[arun,Zk,Zb,AOpd.eval,setD,effH,hnil];refine .cond (t:=false) rfl ?_;refine .skip ?_;refine .seq (.reg (st' := ⟨[x,.u,.row 0 2,x,.p (.bool false),.row 0 1,x,.row 0 2],[⟨2,e,size,es.map (·.map AV.p)⟩]⟩) (.all ?_) ?_);simp[arun,Zk,Zb,AOpd.eval,setD,effH,Zn5,h0,hz,hx,Qh,Zd,hsz,hb,hm,show size≠0 by omega];refine .ret ⟨.inr rfl,[.row 0 2],rfl,?_⟩;simp[Zky,tops,topA,topC,nodupB,Zcc,raOf,rcOf,Zd,Z2d (h:=[⟨2,e,size,es.map (·.map AV.p)⟩]),show size≠0 by omega]
  refine Yq9 hf (own:=true) ?_;cases es with|nil => refine .split 0 rfl ?_ (tail .ne (λh=>rfl) rfl);refine AW.post (Q' := λex s=>ex = .ret/\s=⟨[.nl,.u,.nil,.nl,.p (.bool true),.u,.u,.u],[]⟩) ?_ ?_;refine .seq (.reg (st' := ⟨[.nl,.u,.nil,.u,.u,.u,.u,.u],[]⟩) (.all rfl) ?_);refine .seq (.seq (.reg (st' := ⟨[.nl,.u,.nil,.nl,.p (.bool true),.u,.u,.u],[]⟩) (.all rfl) ?_));refine .cond (t:=true) rfl ?_;refine .seq (.reg (st' := ⟨[.nl,.u,.nil,.nl,.p (.bool true),.u,.u,.u],[]⟩) (.all rfl) ?_);exact .ret ⟨rfl,rfl⟩;rintro ex s ⟨rfl,rfl⟩;refine⟨_,Weak.nilrow (i:=2) (e:=e) (size:=size) rfl h0 (Nat.zero_le _),.inr rfl,[.row 0 1],rfl,?_⟩;simp[Zky,tops,topA,topC,nodupB,Zcc,raOf,rcOf,Zd,frzE,show size≠0 by omega]|cons a es=>exact tail (.p (.sl (a::es))) (λh=>rfl) rfl
end Go.Abs
