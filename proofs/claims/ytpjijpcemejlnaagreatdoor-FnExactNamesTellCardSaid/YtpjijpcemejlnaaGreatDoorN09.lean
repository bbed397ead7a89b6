/- Texts joined. Conditions: as each theorem names them. -/
import Derived.Test.YtpjijpcemejlnaaGreatDoorN08
set_option maxRecDepth 100000
set_option maxHeartbeats 32000000
set_option linter.unusedVariables false
set_option linter.unusedSimpArgs false
namespace Go.Proofs.YtpjijpcemejlnaaGreatDoor
open Go.RowKit Go.Proofs.Tryz
def Sk(o:Option (List Ty × Kd))(x:List UInt8):Option Vl:=match o with
 |some y=>H8 y.1 y.2 x
 |none=>none
theorem Tv{s d x:List UInt8}{v:Vl}(h:Sk (C4 s d) x=some v):∃S k,C4 s d=some (S,k)/\Ps S/\C9 k/\B0 S k/\Br k=d/\My S 12 k v/\Bh v=x/\x.length<=400:=by
 cases hb:C4 s d with
 |none=>rw[hb]at h;cases h
 |some y=>
  obtain⟨S,k⟩:=y
  rw[hb]at h
  obtain⟨g1,_,_,g4,g5,g6⟩:=N9 hb
  obtain⟨h1,h2,h3⟩:=(Ko g1.1.1 g4).1 h
  exact⟨S,k,rfl,g1,g4,g6,g5,h1,h2,h3⟩
def Nl(w0:World)(cs:List Value)(la ls:Bool)(ua:Value)(W:World):Prop:=
 Below w0.heap.size w0 W/\(ls=true->la=true)/\(la=true->∃b,ua=.pointer (some ⟨b,0,none⟩)/\w0.heap.size<=b/\b<W.heap.size/\W.there b 0 cs.length/\(ls=true->W.rangeAt b 0 cs))
section
variable {w0 W W':World} {cs:List Value} {la ls:Bool} {ua:Value}
theorem Nl.start{us:List Value}:Nl w0 us false false ua w0.drew:=⟨(At _ _).drew,by simp,by simp⟩
theorem Nl.below(h:Nl w0 cs la ls ua W)(hb:Below W.heap.size W W'):Nl w0 cs la ls ua W':=by
 refine⟨h.1.trans (hb.mono h.1.size),h.2.1,fun hl=>?_⟩
 obtain⟨b,e,h1,h2,h3,h4⟩:=h.2.2 hl
 exact⟨b,e,h1,Nat.lt_of_lt_of_le h2 hb.size,Ar h3 h2 hb,fun hs=>Au (h4 hs) h2 hb⟩
theorem Nl.alloc(h:Nl w0 cs false ls ua W)(zs:List Value)(hz:zs.length=cs.length)(T:TypeId):Nl w0 cs true ls (.pointer (some ⟨W.heap.size,0,none⟩)) (W.alloc (.cells zs.toArray T)):=by
 have hs:ls=false:=by cases hq:ls with|false=>rfl|true=>exact absurd (h.2.1 hq) (by decide)
 subst hs
 exact⟨h.1.alloc h.1.size _,by simp,fun _=>⟨_,rfl,h.1.size,by simp,by rw[<-hz];exact Cq W zs T,by simp⟩⟩
theorem Nl.store(h:Nl w0 cs la ls ua W){b:Nat}(hl:la=true)(e:ua=.pointer (some ⟨b,0,none⟩)):Nl w0 cs la true ua (W.setCells b 0 cs):=by
 obtain⟨b',e',h1,h2,h3,_⟩:=h.2.2 hl
 rw[e]at e'
 injection e' with e';injection e' with e';injection e' with e'
 subst e'
 exact⟨Ah _ h1 _ _ _ h.1,fun _=>hl,fun _=>⟨b,e,h1,by rw[Cr];exact h2,World.there_setCells h3 _ _ _,fun _=>World.rangeAt_setCells_same _ _ _ _ h3⟩⟩
end
section
variable {P:Program} {ops:Array Oper} {Q:Exit->Act->World->Prop} {a:Act} {mk:(Nat->Value)->Act} {R:(Nat->Bool)->(Nat->Value)->World->Prop} {G:World->Prop} {o:Oper} {os:List Oper} {i:Nat} {ps:List (Value->Prop)} {v:Value}
theorem sqB{C:World->Prop}{n:Nat}{w:World}(hB:∀l u W,R l u W->Below n w W)(hst:∀l u W W',R l u W->Below W.heap.size W W'->R l u W')(X:∀W,Below n w W->C W)(k:Sq P ops Q a mk R G os (i+1) (ps++[fun x=>x=v]))
  (h:(∀l u W,R l u W->Below n w W)->(∀l u W W',R l u W->Below W.heap.size W W'->R l u W')->(∀W,Below n w W->C W)->St P ops Q a mk R G i o ps (fun x=>x=v):=by
  intro hB hst X l u W hl hp hF hG hi K hK
  have HX:=X W (hB _ _ _ hF.o)
  first|unfold Fj at hG|skip
  first|(simp[Region.binds,D8]at hp;done)|simp[Region.binds,D8]at hp|clear hp
  clear hB
  have Hst:=Aa hst
  clear hst X
  go_simp
  refine HX.mono ?_
  rintro e w' ⟨rfl,hb⟩
  exact hK _ _ _ rfl (Hst.o _ _ _ _ hF.o hb) (by first|rfl|(simp[Act.put,hp];done)|(simp[Act.put,hp];exact rfl))):Sq P ops Q a mk R G (o::os) i ps:=⟨_,h hB hst X,k⟩
end
section
attribute [local go_sem] Qhn Qg5 Qgq Qe7 ByteArray.mk_append_mk
theorem Tj(s:List UInt8)(k:Nat)(hk:k<=6)(h:(s.take k).all Az=true):Et (s.take k)<=999999:=by
 exact gO
def Db(s:List UInt8)(top:Nat):Bool:=match Cc s with|some m=>decide (m<=top)|none=>false
theorem Kk{s:List UInt8}{top:Nat}(h:Cc s=none):Db s top=false:=by unfold Db;rw[h]
theorem Kq{s:List UInt8}{top n:Nat}(h:Cc s=some n):Db s top=decide (n<=top):=by unfold Db;rw[h]
def Qct(s:List UInt8)(top:Nat)(w:World)(e:Ending)(w':World):Prop:=
 ∃n:Nat,n<=999999/\e=.returned (.tuple #[.int .i64 n,.bool (Db s top)])/\(∀m,Cc s=some m->m=n)/\Below w w w'
theorem Cy(s:List UInt8)(m:Nat)(w:World)(hs:s.length<=4000000)(hm:m<=999999):
  Calls prog 81 #[s,.int .i64 m] w (Qct s m w):=by
 go_enter func81,ntmps81;go_wp2_with fail;go_loop [6,7] (fun x i=>∃k:Nat,i=.int .i64 k/\k<=s.length/\k<=6/\Hid ((s.take k).all Az=true)/\Et (s.take k)<=999999/\x=.int .i64 ((Et (s.take k):Nat):Int)) (fun _ i=>s.length - (intOf i).toNat)
 case atStart=>exact⟨0,rfl,ag _,by omega,by simp[Hid],by simp[Et],by simp[Et]⟩
 case round=>
  obtain⟨k,rfl,hk,hk6,hdig,hv,rfl⟩:=hrel;by_cases hlt:k<s.length
  ·have hc:=(s[k]).toNat_lt;have Hts:=Aa (Bn s k hlt);have Hmem:=Aa (ae hlt);by_cases hd:Az s[k]=true
   ·have hd2:=Cx.1 hd;obtain⟨d1,d2⟩:=hd2;by_cases h5:k<=5
    ·have hdig2:(s.take (k+1)).all Az=true:=by
      rw[Hts.o,List.all_append,hdig.o];simp[hd]
     have hv2:=Tj s (k+1) aG hdig2;have Hdig2:=Aa hdig2;have Hv:=Aa (show Et (s.take (k+1))=10*Et (s.take k)+((s[k]).toNat - 48)by rw[Hts.o,Jd]);clear hd hdig2;go_wp2_with fail;go_round
     case rel=>exact⟨k+1,by go_num,by omega,by omega,Hdig2.o,hv2,Qhc (by rw[Hv.o];omega)⟩
     case measure=>simp[intOf];omega
    have h5':5<k:=aG;have hno:Cc s=none:=by
     unfold Cc;rw[if_neg];rintro⟨_,h,_⟩;omega
    have Hn:=Aa (Kk (top:=m) hno);have Hno:=Aa hno;clear hd hno h5;go_wp2_with fail;go_ret2;exact hE
   have hno:Cc s=none:=by
    unfold Cc;rw[if_neg];rintro⟨_,_,h,_⟩;exact hd (List.all_eq_true.1 h _ Hmem.o)
   have Hn:=Aa (Kk (top:=m) hno);have Hno:=Aa hno;have h2:(s[k]).toNat<48\/(48<=(s[k]).toNat/\57<(s[k]).toNat):=by
    rcases aF (s[k]).toNat 48 with h|h
    ·exact .inl h
    rcases aF 57 (s[k]).toNat with h'|h'
    ·exact .inr ⟨h,h'⟩
    exact absurd (Cx.2 ⟨h,h'⟩) hd
   clear hd hno;rcases h2 with h2|⟨h2,h4⟩
   ·go_wp2_with fail;go_ret2;exact hE
   go_wp2_with fail;go_ret2;exact hE
  ·have e:s.take k=s:=ar aG;rw[e]at hv ⊢;have hcase:(Cc s=some (Et s)/\s=Aw (Et s))\/(Cc s=none/\s≠Aw (Et s)):=by
    by_cases h:s=Aw (Et s)
    ·exact .inl ⟨Bt.2 ⟨hv,h⟩,h⟩
    refine .inr ⟨?_,h⟩;cases hd:Cc s with
    |none=>rfl
    |some n=>
     obtain⟨_,h2⟩:=Bt.1 hd;exact absurd (by rw[h2,Na]) h
   clear hdig e;generalize Et s=v at hv hcase;have hdl:=Dh 5 v eu;rcases hcase with⟨h1,h2⟩|⟨h1,h2⟩
   ·have Hn:=Aa (Kq (top:=m) h1);have Hd:=Aa h1;have tq:(s == Aw v)=true:=dz;clear h1 h2;by_cases hvm:v<=m
    ·go_wp2_with fail;refine(Gm v v _ (Ao _) aG).mono ?_;rintro e w1 ⟨rfl,hb⟩;have Hb:=Aa hb;clear hb;go_wp2_with fail;go_ret2;exact⟨v,hv,by rw[Hn.o];exact Qfq rfl (Cf (by simp[hvm])),(fun m h=>by rw[Hd.o]at h;injection h with h;exact h.symm),Hb.o⟩
    have hvm':m<v:=aG;go_wp2_with fail;refine(Gm v v _ (Ao _) aG).mono ?_;rintro e w1 ⟨rfl,hb⟩;have Hb:=Aa hb;clear hb;go_wp2_with fail;go_ret2;exact⟨v,hv,by rw[Hn.o];exact Qfq rfl (Cf aN),(fun m h=>by rw[Hd.o]at h;injection h with h;exact h.symm),Hb.o⟩
   have Hn:=Aa (Kk (top:=m) h1);have Hd:=Aa h1;have tq:(s == Aw v)=false:=dz;clear h1 h2;go_wp2_with fail;refine(Gm v v _ (Ao _) aG).mono ?_;rintro e w1 ⟨rfl,hb⟩;have Hb:=Aa hb;clear hb;go_wp2_with fail;go_ret2;exact⟨v,hv,by rw[Hn.o];rfl,(fun m h=>by rw[Hd.o]at h;cases h),Hb.o⟩
def Er(s:List UInt8):Bool:=decide (2<=s.length) && decide (s.head?=some 39) && decide (s.getLast?=some 39) && C7 (s.drop 1).dropLast
theorem Si(s:List UInt8)(w:World)(hs:s.length<=4000000):
  Calls prog 133 #[s] w fun e w'=>e=.returned (.bool (Er s))/\w=w':=by
 have hf:Er s=(decide (2<=s.length) && decide (s.head?=some 39) && decide (s.getLast?=some 39) && C7 (s.drop 1).dropLast):=rfl;rcases aF s.length 2 with h2|h2
 ·have e0:decide (2<=s.length)=false:=aN;have Hf:=Aa (show Er s=false by rw[hf,e0];simp);have t0:decide ((s.length:Int)<2)=true:=aN;clear hf e0;go_enter func133,ntmps133;go_wp2_with fail;exact gJ
 have t0:decide ((s.length:Int)<2)=false:=aN;rcases aF 14 s.length with h14|h14
 ·have Hf:=Aa (show Er s=false by
   have:C7 (s.drop 1).dropLast=false:=by
    unfold C7;have e1:decide ((s.drop 1).dropLast.length<=12)=false:=aN;rw[e1];rfl
   rw[hf,this];simp)
  have t1:decide (14<(s.length:Int))=true:=aN;clear hf;go_enter func133,ntmps133;go_wp2_with fail;exact gJ
 obtain⟨c,u,d,rfl⟩:∃c u d,s=c::(u++[d]):=by
  cases s with
  |nil=>simp at h2
  |cons c t=>
   rcases Dz t with rfl|⟨u,d,rfl⟩
   ·simp at h2
   exact⟨c,u,d,rfl⟩
 have hl:(c::(u++[d])).getLast?=some d:=by
  exact gK
 have hu:((c::(u++[d])).drop 1).dropLast=u:=aK;have e2:decide (2<=(c::(u++[d])).length)=true:=aK;rw[hl,hu,e2]at hf;simp only[List.head?_cons,aj,Bool.true_and]at hf;have Hf:=Aa hf;have hc:=c.toNat_lt;have hd:=d.toNat_lt;have hgd:∀h,(c::(u++[d]))[u.length+1]'h=d:=by intro h;simp
 have hul:u.length<=12:=by simp at h14;omega
 have Hfit:=Aa (show C7 u=u.all Bv by simp[C7,hul]);clear hf hl hu h2 hs h14 t0 e2;by_cases hc39:c=39
 ·have t1:((c.toNat:Int) != 39)=false:=by have:=Bk hc39;simpa using this
  have Hc:=Aa (show decide (c=39)=true by simpa using hc39);clear hc39;by_cases hd39:d=39
  ·have t2:((d.toNat:Int) != 39)=false:=by have:=Bk hd39;simpa using this
   have Hd:=Aa (show decide (d=39)=true by simpa using hd39);clear hd39;go_enter func133,ntmps133;go_wp2_with fail;go_loop [3] (fun i=>∃k:Nat,i=.int .i64 ((k:Int)+1)/\k<=u.length/\Hid ((u.take k).all Bv=true)) (fun i=>u.length+1 - (intOf i).toNat)
   case atStart=>exact⟨0,rfl,ag _,by simp[Hid]⟩
   case round=>
    obtain⟨k,rfl,hk,hin⟩:=hrel;by_cases hlt:k<u.length
    ·have hg:∀h,(c::(u++[d]))[k+1]'h=u[k]:=by intro h;simp[List.getElem_append_left hlt]
     have Hts:=Aa (Bn u k hlt);have Hmem:=Aa (ae hlt);have hx:=(u[k]).toNat_lt;generalize u[k]=x at hg Hts Hmem hx;by_cases ht:Bv x=true
     ·have Hin:=Aa (show (u.take (k+1)).all Bv=true by rw[Hts.o,List.all_append,hin.o];simp[ht]);have h3:x=32\/(x.toNat≠32/\48<=x.toNat/\x.toNat<=57)\/(57<x.toNat/\97<=x.toNat/\x.toNat<=122):=by
       unfold Bv at ht;simp only[Bool.or_eq_true]at ht;rcases ht with(h|h)|h
       ·have:=Kh.1 h;exact .inr (.inr ⟨by omega,this⟩)
       ·have:=Cx.1 h;exact .inr (.inl ⟨by omega,this⟩)
       exact .inl bg
      clear ht;rcases h3 with h3|⟨h3,h4,h5⟩|⟨h3,h4,h5⟩
      ·have t3:((x.toNat:Int) != 32)=false:=by have:=Bk h3;simpa using this
       clear h3;go_wp2_with fail;go_round
       case rel=>exact⟨k+1,by go_num,by omega,Hin.o⟩
       case measure=>simp[intOf];omega
      ·have t3:((x.toNat:Int) != 32)=true:=dv;go_wp2_with fail;go_round
       case rel=>exact⟨k+1,by go_num,by omega,Hin.o⟩
       case measure=>simp[intOf];omega
      have t3:((x.toNat:Int) != 32)=true:=dv;go_wp2_with fail;go_round
      case rel=>exact⟨k+1,by go_num,by omega,Hin.o⟩
      case measure=>simp[intOf];omega
     have Hno:=Aa (show u.all Bv=false by
      cases h:u.all Bv with
      |false=>rfl
      |true=>exact absurd (List.all_eq_true.1 h _ Hmem.o) ht)
     have h32:x≠32:=by rintro rfl;exact ht rfl
     have t3:((x.toNat:Int) != 32)=true:=by have:=Am h32;simpa using this
     have h3:x.toNat<48\/(57<x.toNat/\x.toNat<97)\/122<x.toNat:=by
      have a:¬Gg x=true:=fun h=>ht (by simp[Bv,h]);have b:¬Az x=true:=fun h=>ht (by simp[Bv,h]);rw[Kh]at a;rw[Cx]at b;omega
     clear ht h32;rcases h3 with h3|⟨h3,h4⟩|h3;all_goals
      go_wp2_with fail;go_ret;exact⟨Do (Cf (by rw[Hf.o,Hc.o,Hd.o,Hfit.o,Hno.o];rfl)),rfl⟩
    ·have Hall:=Aa (show u.all Bv=true by
      have:=hin.o;rwa [ar aG]at this)
     have hk2:k=u.length:=aG;subst hk2;go_wp2_with fail;go_ret;exact⟨Do (Cf (by rw[Hf.o,Hc.o,Hd.o,Hfit.o,Hall.o];rfl)),rfl⟩
  have t2:((d.toNat:Int) != 39)=true:=by have:=Am hd39;simpa using this
  have Hd:=Aa (show decide (d=39)=false by simpa using hd39);clear hd39;go_enter func133,ntmps133;go_wp2_with fail;go_ret;exact⟨Do (Cf (by rw[Hf.o,Hd.o];simp)),rfl⟩
 have t1:((c.toNat:Int) != 39)=true:=by have:=Am hc39;simpa using this
 have Hc:=Aa (show decide (c=39)=false by simpa using hc39);clear hc39;go_enter func133,ntmps133;go_wp2_with fail;go_ret;exact⟨Do (Cf (by rw[Hf.o,Hc.o];simp)),rfl⟩
end
section
variable {P:Program}
theorem S5(W:World){o:Oper}{a:Act}{K:Act->World->Prop}{Q:Exit->Act->World->Prop}(s x:Operand)(t:TypeId)
  (ho:o.op=.call {callee:=.builtin .append,args:=#[s,x],argTypes:=#[t,t]})
  (base:Nat) (e:TypeId) (z:Value) (k bytes:Nat) (ht:P.underlying t=some (.slice e)) (hinfo:(P.info? e).map (fun i=>(i.zero,i.size,i.bytes))=some (some z,k,bytes))
  (hzs:z.cells.size=k) (hk:0<k) (us:List Value) (hul:us.length=k) (hu:∀u∈us,u.oneCell'=true) (v:Value) (n:Nat) (xs:List Value) (hs:a.eval s=v) (hx:a.eval x=.slice (W,0) 1 1)
  (hown:W.ownsRow base e k v n xs) (h63:n+1<=maxLen) (hbytes:(n+1)*bytes<=140737488355328) (hbase:base<=W.heap.size)
  (h:∀v' w',w'.ownsRow base e k v' (n+1) (xs++us)->W.grownBy w' v.ownBlock->(v'.ownBlock=v.ownBlock\/∃k,v'.ownBlock=some k/\W.heap.size<=k)->K (a.put o.dst v') w'):Oper.wp P o a (W.alloc (.cells us.toArray e)) K Q:=by
 obtain⟨i0,hi,hz0,hz1,hz2⟩:=info_parts hinfo
 obtain⟨v',w',hrun,r1,r2,r3⟩:=Gh (P:=P) (W.alloc (.cells us.toArray e)) base t o.type e i0 z k bytes ht hi hz0 hz1 hz2 hzs hk v n xs (hown.alloc _) ⟨W.heap.size,0,none⟩ 1 1 us aG (by
  intro j y hj;have e1:(⟨W.heap.size,0,none⟩:Addr).add j=⟨W.heap.size,j,none⟩:=bp;rw[e1,World.cell?_alloc_new];simpa using hj) hu aJ h63 hbytes aN
 unfold Oper.wp;simp[execOp,ho,resolve,invoke,builtin,hs,hx,hrun,Result.andThen];refine h v' w' r1 ?_ ?_
 ·exact gc
 rcases r3 with r3|⟨k,r3,r4⟩
 ·exact .inl r3
 exact .inr ⟨k,r3,by simp at r4;omega⟩
theorem Vn(W:World){ops:Array Oper}{rest:List Oper}{o:Oper}{a:Act}{Q:Exit->Act->World->Prop}(hgd:o.guard=none)(s x:Operand)(t:TypeId)
  (ho:o.op=.call {callee:=.builtin .append,args:=#[s,x],argTypes:=#[t,t]})
  (base:Nat) (e:TypeId) (z:Value) (k bytes:Nat) (ht:P.underlying t=some (.slice e)) (hinfo:(P.info? e).map (fun i=>(i.zero,i.size,i.bytes))=some (some z,k,bytes))
  (hzs:z.cells.size=k) (hk:0<k) (us:List Value) (hul:us.length=k) (hu:∀u∈us,u.oneCell'=true) (v:Value) (n:Nat) (xs:List Value) (hs:a.eval s=v) (hx:a.eval x=.slice (W,0) 1 1)
  (hown:W.ownsRow base e k v n xs) (h63:n+1<=maxLen) (hbytes:(n+1)*bytes<=140737488355328) (hbase:base<=W.heap.size)
  (h:∀v' w',w'.ownsRow base e k v' (n+1) (xs++us)->W.grownBy w' v.ownBlock->(v'.ownBlock=v.ownBlock\/∃k,v'.ownBlock=some k/\W.heap.size<=k)->wpList P ops Q rest (a.put o.dst v') w'):wpList P ops Q (o::rest) a (W.alloc (.cells us.toArray e)):=
 wpList_plain hgd fun K' hK'=>S5 W s x t ho base e z k bytes ht hinfo hzs hk us hul hu v n xs hs hx hown h63 hbytes hbase fun v' w' h1 h2 h3=>hK' _ _ (h v' w' h1 h2 h3)
end
end Go.Proofs.YtpjijpcemejlnaaGreatDoor
