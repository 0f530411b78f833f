import Derived.Test.YtdppkfgoiagepaaGreatDoorBK
/- Contracts that are given by hand: their plain functions. -/
set_option linter.unusedVariables false
set_option linter.unusedSimpArgs false
namespace Tg
def in64 (x:Int):Bool:=decide (-9223372036854775808≤x)&&decide (x≤9223372036854775807)
def Qi:List (Int×Unit)→List Int→List Int
 | [],acc=>acc
 | x::l,acc=>Qi l (if acc.contains x.1 then acc else acc++[x.1])
def Z6 (a0:List (Int×Unit)):Option (Int×Unit):=bif a0.all (fun x=>in64 x.1)&&decide (a0.length<9223372036854775807) then some (Int.ofNat (Qi a0 []).length,()) else none
end Tg

/- Different elements, counted by a map: the walk. -/
namespace Go.Hand
open Go.RowKit Go.Maps Go.Proofs

def Ds (zs:List Int)(k:Nat):DataW Unit:=(zs.take k).foldl (fun D x=>D.put (.int .i64 x) (.lit (.bool true))) (.map [])
theorem Zut (zs:List Int){k:Nat}{x:Int}(hx:zs[k]? = some x):Ds zs (k+1)=(Ds zs k).put (.int .i64 x) (.lit (.bool true)):=by
 unfold Ds
 rw [List.take_add_one,hx,List.foldl_append]
 rfl

theorem law3:Keyed Tryz.prog 3:=int_keyed Tryz.underlying3

set_option maxRecDepth 100000 in
set_option maxHeartbeats 1000000 in
theorem distinct_none (a:Option Addr)(cap:Nat)(w:World) :
    Calls Tryz.prog 102 #[.slice a 0 cap] w fun e w' => e = .returned (.int .i64 0)∧Below w.heap.size w w' := by
  have hmm:=@run_makeMap Tryz.prog
  go_enter Tryz.func102,Tryz.ntmps102
  go_wp2
  refine wp_loop_rounds 1 ?_
  rw [rounds_succ]
  go_wp2_with (first
   | (at_len;refine wpList_len_own (H:=Unit) _ rfl _ 220 rfl 3 4 Tryz.underlying220 (plainElem Tryz.prog 4) w.heap.size 0 (.map []) rfl (World.ownsMap_made _ _ _ _) ?_)
   | go_in)
  go_ret
  exact⟨rfl,(Below.refl _ _).alloc (Nat.le_refl _) _⟩

set_option maxRecDepth 100000 in
set_option maxHeartbeats 1000000 in
theorem distinct_any (a:Addr)(len cap:Nat)(zs:List Int)(w:World)(hz:len=zs.length)(hm:len<9223372036854775807)(hb:a.block<w.heap.size)
    (hc:∀ (j:Nat) (x:Int),zs[j]? = some x→w.cell? (a.add j)=some (.int .i64 x)) (hwz:∀ n∈zs,(Lit.int .i64 n).wf=true) :
    Calls Tryz.prog 102 #[.slice (some a) len cap] w fun e w' => e = .returned (.int .i64 (Maps.size (Ds zs len)))∧Below w.heap.size w w' := by
  have hmm:=@run_makeMap Tryz.prog
  have hZ:=Lib.hid hz
  clear hz
  go_enter Tryz.func102,Tryz.ntmps102
  go_wp2
  go_loopw [9] (fun i wr=>∃ k:Nat,k≤len∧i = .int .i64 k∧wr.ownsMap Tryz.prog 3 (plainElem (H:=Unit) Tryz.prog 4) w.heap.size k (Ds zs k)∧Below w.heap.size w wr)
   (fun i _=>len - (intOf i).toNat)
  case atStart=>exact⟨0,Nat.zero_le _,rfl,World.ownsMap_made _ _ _ _,(Below.refl _ _).alloc (Nat.le_refl _) _⟩
  case round =>
   obtain⟨k,hk,rfl,hown,hnx⟩:=hrel
   obtain⟨x,hx⟩:∃ x,x=zs.getD k 0:=⟨_,rfl⟩
   have hget:k<len→zs[k]? = some x:=fun hlt=>by rw [hx,List.getD,List.getElem?_eq_getElem (by rw [← hZ.out];exact hlt)];rfl
   have hcx:k<len→wr.cell? (a.add k)=some (.int .i64 x):=fun hlt=>by
    refine (hnx.cell ?_).trans (hc k x (hget hlt))
    unfold Addr.add;split <;> exact hb
   have hkey:k<len→keyOf Tryz.prog 3 (.int .i64 x)=some (.int .i64 x):=fun hlt=>keyOf_int_mk Tryz.underlying3 (hwz x (List.mem_of_getElem? (hget hlt)))
   have hst:k<len→Ds zs (k+1)=(Ds zs k).put (.int .i64 x) (.lit (.bool true)):=fun hlt=>Zut zs (hget hlt)
   have HX:=Lib.hid hx
   have HG:=Lib.hid hget
   have HS:=Lib.hid hst
   clear hx hget hst
   go_wp2_with (first
    | (at_mapUpdate;refine wpList_mapUpdate_own _ rfl _ _ _ 220 rfl 3 4 law3 Tryz.underlying220 _ w.heap.size k _ rfl hown (by unfold maxLen;omega) _ _ _ rfl rfl (hkey (by assumption)) _ [] (plainElem_bool Tryz.underlying4 true) ?_;intro w1 hown1 hgrow1)
    | (at_len;refine wpList_len_own _ rfl _ 220 rfl 3 4 Tryz.underlying220 _ w.heap.size k _ rfl hown ?_)
    | go_in)
   · have hlt:k<len:=by assumption
     go_roundw
     case rel=>exact⟨k+1,by omega,by go_num,by rw [HS.out hlt];exact hown1,hnx.grown hgrow1 hnx.size (fun j hj=>by cases hj;exact Nat.le_refl _)⟩
     case measure=>simp [intOf];omega
   · have:k=len:=by omega
     subst this
     go_ret
     exact⟨rfl,hnx⟩
end Go.Hand

/- Contracts that are given by hand. -/
namespace Tg
open Go Go.Abs Go.RowKit Go.Maps Go.Proofs

theorem Zd2:∀ (l:List (Int×Unit)) (D:DataW Unit) (acc:List Int),Tidy D→(∀ y,has D (.int .i64 y)=acc.contains y)→Maps.size D=acc.length →
    Maps.size ((l.map (·.1)).foldl (fun D x=>D.put (.int .i64 x) (.lit (.bool true))) D)=(Qi l acc).length
  | [],D,acc,_,_,hs=>hs
  | x::l,D,acc,ht,hh,hs=>by
   have hk:WideAt.IsKeyLit (.int .i64 x.1):=trivial
   simp only [List.map_cons,List.foldl_cons,Qi]
   refine Zd2 l _ _ (ht.put hk _) (fun y=>?_) ?_
   · by_cases e:y=x.1
     · subst e
       rw [has_put_same ht.isMap hk]
       split
       · rename_i h;exact h.symm
       · simp
     · rw [has_put_other (by simpa using e),hh y]
       split
       · rfl
       · simp [e]
   · rw [size_put ht,hh x.1,hs]
     split
     · rfl
     · simp

def Z53:TCon:=⟨[.c (.sl [.int .i64])],[.c (.p (.int .i64))],fun a=>Z6 a.1⟩
theorem ends {w w' : World}{O:Nat→Prop}(hO:∀ g,O g→g<w.heap.size)(hgl:Zgx w.heap.size w)(hb:Below w.heap.size w w')(n:Int) :
    ∃ v ι,Ending.returned (Value.int .i64 n) = .returned v∧Em.O ι=O∧HRel w.heap.size w (Za [.c (.c (.int .i64 n))]) ι w' ∧ VR (Za [.c (.c (.int .i64 n))]) ι w' (retV (Zf 0 [.c (.c (.int .i64 n))])) v :=
  ⟨_,⟨fun _=>.bool true,O,0,[]⟩,rfl,rfl,⟨hb,Nat.le_refl _,hO,hgl,(fun t o h=>nomatch (show (([]:List AObj)[t]? = some o) from h)),fun t t' g h=>absurd h (Nat.not_lt_zero _)⟩,.p _ _ (.int _ _)⟩

def pvI (x:Int×Unit):List PV:=[.int .i64 x.1]
theorem Zre (l:List (Int×Unit))(hall:l.all (fun x=>in64 x.1)=true)(hbig:l.length<9223372036854775807)(O:Nat→Prop)(w:World)(v:Value)(hO:∀ g,O g→g<w.heap.size)(hp:PRel w O (.sl (l.map pvI)) v) :
    Calls Tryz.prog 102 #[v] w fun e w' => e = .returned (.int .i64 (Int.ofNat (Qi l []).length))∧Below w.heap.size w w' := by
  have hwf:∀ n∈l.map (·.1),(Lit.int .i64 n).wf=true:=fun n hn=>by
   obtain⟨x,hx,rfl⟩:=List.mem_map.1 hn
   have:=List.all_eq_true.1 hall x hx
   simp only [in64,Bool.and_eq_true,decide_eq_true_eq] at this
   have h1 : -9223372036854775808≤x.1:=this.1
   have h2:x.1≤9223372036854775807:=this.2
   show (decide (IntKind.min .i64≤x.1)&&decide (x.1≤IntKind.max .i64))=true
   rw [show IntKind.min .i64 = -9223372036854775808 from by decide,show IntKind.max .i64=9223372036854775807 from by decide,Bool.and_eq_true]
   exact⟨decide_eq_true h1,decide_eq_true h2⟩
  generalize hes:l.map pvI=es at hp
  cases hp with
  | nil a c =>
   have hl:l=[]:=by simpa using hes
   subst hl
   exact Calls.mono (Hand.distinct_none a c w) fun e w' he=>he
  | sl _ a n c size u hno hlt hn hc hsz' hcell hr =>
   subst hes
   have hln:n=(l.map (·.1)).length:=by rw [hn];simp
   have hget:∀ (j:Nat) (x:Int),(l.map (·.1))[j]? = some x→w.cell? (a.add j)=some (.int .i64 x):=fun j x hj=>by
    rw [List.getElem?_map,Option.map_eq_some_iff] at hj
    obtain⟨y,hy,rfl⟩:=hj
    have he:(l.map pvI)[j]? = some [.int .i64 y.1]:=by rw [List.getElem?_map,hy];rfl
    have hs1:size=1:=(hsz' j _ he).symm
    subst hs1
    have h3:=hcell j _ he 0 _ rfl
    have h4:=hr j _ he 0 _ rfl
    rw [Nat.mul_one,Nat.add_zero] at h3
    rw [h3]
    generalize u j 0=z at h4
    cases h4
    rfl
   have hlen:(l.map (·.1)).length=l.length:=by simp
   refine Calls.mono (Hand.distinct_any a n c _ w hln (by omega) hlt hget hwf) fun e w' he=>?_
   have:=Zd2 l (.map []) [] tidy_empty (fun y=>rfl) rfl
   have hD:Hand.Ds (l.map (·.1)) n=(l.map (·.1)).foldl (fun D x=>D.put (.int .i64 x) (.lit (.bool true))) (.map []):=by
    unfold Hand.Ds
    rw [hln,List.take_length]
   rw [hD,this] at he
   exact he

theorem Ycy:Z53.ok Go.Proofs.Tryz.prog 102:=by
 intro a r h O w cargs hO hgl hargs
 obtain⟨l,_⟩:=a
 have h:Z6 l=some r:=h
 unfold Z6 at h
 obtain⟨hall,h2⟩:=Xi h
 obtain rfl:=Option.some.inj h2
 rw [Bool.and_eq_true] at hall
 obtain⟨hsz,hrel⟩:=hargs
 have h1:cargs.size=1:=hsz
 obtain⟨v,rfl⟩:∃ v,cargs=#[v]:=⟨cargs[0],by
  apply Array.ext
  · simpa using h1
  · intro i hi _
    have:i=0:=by omega
    subst this
    rfl⟩
 have hp:PRel w O (.sl (List.map pvI l)) v:=by
  have:=hrel 0 (.c (.sl (List.map pvI l))) v rfl rfl
  cases this with | c _ _ h=>exact h
 refine Calls.mono (Zre l hall.1 (of_decide_eq_true hall.2) O w v hO hp) fun e w' he=>?_
 obtain⟨rfl,hb⟩:=he
 exact ends hO hgl hb _
end Tg
