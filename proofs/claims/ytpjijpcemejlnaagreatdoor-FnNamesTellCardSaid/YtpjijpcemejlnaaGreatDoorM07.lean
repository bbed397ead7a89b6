/- Texts joined. Conditions: as each theorem names them. -/
import Derived.Deep.RegionWith
import Derived.Test.YtpjijpcemejlnaaGreatDoorM05
set_option maxRecDepth 100000
set_option maxHeartbeats 32000000
set_option linter.unusedVariables false
set_option linter.unusedSimpArgs false
namespace Go.Proofs.YtpjijpcemejlnaaGreatDoor
open Go.RowKit Go.Proofs.Tryz
section
attribute [local go_sem] Qkk Qj0 Qjm Qhu ByteArray.mk_append_mk
theorem Xy(n:Nat)(w:World)(hn:n<10):
  Calls prog 79 #[.int .i64 n] w fun e w'=>e=.returned (.string ⟨(Aw n).toArray⟩)/\Below w w w':=by
 have Hfin:=Aa (Ee hn);have hcv:=fun W=>Mp W w 1 (Cz (48+n));rw[C7 aH]at hcv;go_enter func79,ntmps79;go_wp2_with fail;exact iS
theorem Qck(n:Nat)(h10:¬n<10)(hn:n<=1000000000)(ih:∀W,Calls prog 79 #[.int .i64 ((n / 10:Nat):Int)] W fun e w'=>e=.returned (.string ⟨(Aw (n / 10)).toArray⟩)/\Below W W w')(w:World):
  Calls prog 79 #[.int .i64 n] w fun e w'=>e=.returned (.string ⟨(Aw n).toArray⟩)/\Below w w w':=by
 have Hfin:=Aa (Mo h10);have ih':=Aa ih;have hl:=Cv 8 (n / 10) f5;clear ih;have hcv:=fun W g=>Mp W g 1 (Cz (48+n % 10));have h1:IntKind.u8.wrap (IntKind.i64.wrap (48+(n:Int).tmod 10))=((Cz (48+n % 10)).toNat:Int):=by
  rw[C7 aH,Int.tmod_eq_emod_of_nonneg aH,IntWalk.i64_in _ aH,IntWalk.u8_in _ aH];omega
 have h2:IntKind.i64.wrap ((n:Int) / 10)=((n / 10:Nat):Int):=by rw[IntWalk.i64_in _ aH];omega
 go_enter func79,ntmps79;go_wp2_with fail;go_region_with (go_at_call 79;refine(ih'.out _).mono ?_;rintro e w' ⟨rfl,hb⟩;obtain⟨hc,hf,hz⟩:=By hb)
 all_goals
  go_wp2
  go_ret;refine⟨by rw[Hfin.o];rfl,?_⟩;have hsz:=hb.size;repeat (first|exact At _ _|refine Below.drew ?_|refine Below.alloc ?_ (by simp at hsz ⊢;first|omega|done) _|refine Below.trans ?_ (hb.mono aM))
theorem Fx:∀(k n:Nat) (w:World),n<=k->n<=1000000000 ->
  Calls prog 79 #[.int .i64 n] w fun e w'=>e=.returned (.string ⟨(Aw n).toArray⟩)/\Below w w w':=by
 intro k;induction k with
 |zero=>intro n w hn h;exact Xy n w aH
 |succ k ih=>
  intro n w hn h;by_cases h10:n<10
  ·exact Xy n w h10
  exact Qck n h10 h (fun W=>ih (n / 10) W aH aH) w
end
def Px(w0:World)(cs:List Value)(la ls:Bool)(ua:Value)(W:World):Prop:=
 Below w0.heap.size w0 W/\(ls=true->la=true)/\(la=true->∃b,ua=.pointer (some ⟨b,0,none⟩)/\w0.heap.size<=b/\b<W.heap.size/\W.there b 0 cs.length/\(ls=true->W.rangeAt b 0 cs))
section
variable {w0 W W':World} {cs:List Value} {la ls:Bool} {ua:Value}
theorem Px.start{us:List Value}:Px w0 us false false ua w0.drew:=⟨(At _ _).drew,by simp,by simp⟩
theorem Px.below(h:Px w0 cs la ls ua W)(hb:Below W.heap.size W W'):Px w0 cs la ls ua W':=by
 refine⟨h.1.trans (hb.mono h.1.size),h.2.1,fun hl=>?_⟩
 obtain⟨b,e,h1,h2,h3,h4⟩:=h.2.2 hl
 exact⟨b,e,h1,Nat.lt_of_lt_of_le h2 hb.size,Au h3 h2 hb,fun hs=>Ax (h4 hs) h2 hb⟩
theorem Px.alloc(h:Px w0 cs false ls ua W)(zs:List Value)(hz:zs.length=cs.length)(T:TypeId):Px w0 cs true ls (.pointer (some ⟨W.heap.size,0,none⟩)) (W.alloc (.cells zs.toArray T)):=by
 have hs:ls=false:=by cases hq:ls with|false=>rfl|true=>exact absurd (h.2.1 hq) (by decide)
 subst hs
 exact⟨h.1.alloc h.1.size _,by simp,fun _=>⟨_,rfl,h.1.size,by simp,by rw[<-hz];exact Ct W zs T,by simp⟩⟩
theorem Px.store(h:Px w0 cs la ls ua W){b:Nat}(hl:la=true)(e:ua=.pointer (some ⟨b,0,none⟩)):Px w0 cs la true ua (W.setCells b 0 cs):=by
 obtain⟨b',e',h1,h2,h3,_⟩:=h.2.2 hl
 rw[e]at e'
 injection e' with e';injection e' with e';injection e' with e'
 subst e'
 exact⟨Aj _ h1 _ _ _ h.1,fun _=>hl,fun _=>⟨b,e,h1,by rw[C4];exact h2,World.there_setCells h3 _ _ _,fun _=>World.rangeAt_setCells_same _ _ _ _ h3⟩⟩
end
section
variable {P:Program} {ops:Array Oper} {Q:Exit->Act->World->Prop} {a:Act} {mk:(Nat->Value)->Act} {R:(Nat->Bool)->(Nat->Value)->World->Prop} {G:World->Prop} {o:Oper} {os:List Oper} {i:Nat} {ps:List (Value->Prop)} {v:Value}
theorem sqB{C:World->Prop}{n:Nat}{w:World}(hB:∀l u W,R l u W->Below n w W)(hst:∀l u W W',R l u W->Below W.heap.size W W'->R l u W')(X:∀W,Below n w W->C W)(k:Sq P ops Q a mk R G os (i+1) (ps++[fun x=>x=v]))
  (h:(∀l u W,R l u W->Below n w W)->(∀l u W W',R l u W->Below W.heap.size W W'->R l u W')->(∀W,Below n w W->C W)->St P ops Q a mk R G i o ps (fun x=>x=v):=by
  intro hB hst X l u W hl hp hF hG hi K hK
  have HX:=X W (hB _ _ _ hF.o)
  first|unfold Gi at hG|skip
  first|(simp[Region.binds,Et]at hp;done)|simp[Region.binds,Et]at hp|clear hp
  clear hB
  have Hst:=Aa hst
  clear hst X
  go_simp
  refine HX.mono ?_
  rintro e w' ⟨rfl,hb⟩
  exact hK _ _ _ rfl (Hst.o _ _ _ _ hF.o hb) (by first|rfl|(simp[Act.put,hp];done)|(simp[Act.put,hp];exact rfl))):Sq P ops Q a mk R G (o::os) i ps:=⟨_,h hB hst X,k⟩
end
section
attribute [local go_sem] Qkk Qj0 Qjm Qhu ByteArray.mk_append_mk
theorem Xp(s:List UInt8)(k:Nat)(hk:k<=6)(h:(s.take k).all Ba=true):Fr (s.take k)<=999999:=by
 exact iP
def Dn(s:List UInt8)(top:Nat):Bool:=match Ci s with|some m=>decide (m<=top)|none=>false
theorem M0{s:List UInt8}{top:Nat}(h:Ci s=none):Dn s top=false:=by unfold Dn;rw[h]
theorem Mq{s:List UInt8}{top n:Nat}(h:Ci s=some n):Dn s top=decide (n<=top):=by unfold Dn;rw[h]
def Qe7(s:List UInt8)(top:Nat)(w:World)(e:Ending)(w':World):Prop:=
 ∃n:Nat,n<=999999/\e=.returned (.tuple #[.int .i64 n,.bool (Dn s top)])/\(∀m,Ci s=some m->m=n)/\Below w w w'
theorem Df(s:List UInt8)(m:Nat)(w:World)(hs:s.length<=4000000)(hm:m<=999999):
  Calls prog 81 #[s,.int .i64 m] w (Qe7 s m w):=by
 go_enter func81,ntmps81;go_wp2_with fail;go_loop [6,7] (fun x i=>∃k:Nat,i=.int .i64 k/\k<=s.length/\k<=6/\Hid ((s.take k).all Ba=true)/\Fr (s.take k)<=999999/\x=.int .i64 ((Fr (s.take k):Nat):Int)) (fun _ i=>s.length - (intOf i).toNat)
 case atStart=>exact⟨0,rfl,ah _,by omega,by simp[Hid],by simp[Fr],by simp[Fr]⟩
 case round=>
  obtain⟨k,rfl,hk,hk6,hdig,hv,rfl⟩:=hrel;by_cases hlt:k<s.length
  ·have hc:=(s[k]).toNat_lt;have Hts:=Aa (Bt s k hlt);have Hmem:=Aa (af hlt);by_cases hd:Ba s[k]=true
   ·have hd2:=Dc.1 hd;obtain⟨d1,d2⟩:=hd2;by_cases h5:k<=5
    ·have hdig2:(s.take (k+1)).all Ba=true:=by
      rw[Hts.o,List.all_append,hdig.o];simp[hd]
     have hv2:=Xp s (k+1) aH hdig2;have Hdig2:=Aa hdig2;have Hv:=Aa (show Fr (s.take (k+1))=10*Fr (s.take k)+((s[k]).toNat - 48)by rw[Hts.o,J8]);clear hd hdig2;go_wp2_with fail;go_round
     case rel=>exact⟨k+1,by go_num,by omega,by omega,Hdig2.o,hv2,Qig (by rw[Hv.o];omega)⟩
     case measure=>simp[intOf];omega
    have h5':5<k:=aH;have hno:Ci s=none:=by
     unfold Ci;rw[if_neg];rintro⟨_,h,_⟩;omega
    have Hn:=Aa (M0 (top:=m) hno);have Hno:=Aa hno;clear hd hno h5;go_wp2_with fail;go_ret2;exact j4
   have hno:Ci s=none:=by
    unfold Ci;rw[if_neg];rintro⟨_,_,h,_⟩;exact hd (List.all_eq_true.1 h _ Hmem.o)
   have Hn:=Aa (M0 (top:=m) hno);have Hno:=Aa hno;have h2:(s[k]).toNat<48\/(48<=(s[k]).toNat/\57<(s[k]).toNat):=by
    rcases aG (s[k]).toNat 48 with h|h
    ·exact .inl h
    rcases aG 57 (s[k]).toNat with h'|h'
    ·exact .inr ⟨h,h'⟩
    exact absurd (Dc.2 ⟨h,h'⟩) hd
   clear hd hno;rcases h2 with h2|⟨h2,h4⟩
   ·go_wp2_with fail;go_ret2;exact j4
   go_wp2_with fail;go_ret2;exact j4
  ·have e:s.take k=s:=au aH;rw[e]at hv ⊢;have hcase:(Ci s=some (Fr s)/\s=Aw (Fr s))\/(Ci s=none/\s≠Aw (Fr s)):=by
    by_cases h:s=Aw (Fr s)
    ·exact .inl ⟨B0.2 ⟨hv,h⟩,h⟩
    refine .inr ⟨?_,h⟩;cases hd:Ci s with
    |none=>rfl
    |some n=>
     obtain⟨_,h2⟩:=B0.1 hd;exact absurd (by rw[h2,Ps]) h
   clear hdig e;generalize Fr s=v at hv hcase;have hdl:=Cv 5 v fa;rcases hcase with⟨h1,h2⟩|⟨h1,h2⟩
   ·have Hn:=Aa (Mq (top:=m) h1);have Hd:=Aa h1;have tq:(s == Aw v)=true:=dT;clear h1 h2;by_cases hvm:v<=m
    ·go_wp2_with fail;refine(Fx v v _ (Ao _) aH).mono ?_;rintro e w1 ⟨rfl,hb⟩;have Hb:=Aa hb;clear hb;go_wp2_with fail;go_ret2;exact⟨v,hv,by rw[Hn.o];exact Qh4 rfl (Cn (by simp[hvm])),(fun m h=>by rw[Hd.o]at h;injection h with h;exact h.symm),Hb.o⟩
    have hvm':m<v:=aH;go_wp2_with fail;refine(Fx v v _ (Ao _) aH).mono ?_;rintro e w1 ⟨rfl,hb⟩;have Hb:=Aa hb;clear hb;go_wp2_with fail;go_ret2;exact⟨v,hv,by rw[Hn.o];exact Qh4 rfl (Cn aN),(fun m h=>by rw[Hd.o]at h;injection h with h;exact h.symm),Hb.o⟩
   have Hn:=Aa (M0 (top:=m) h1);have Hd:=Aa h1;have tq:(s == Aw v)=false:=dT;clear h1 h2;go_wp2_with fail;refine(Fx v v _ (Ao _) aH).mono ?_;rintro e w1 ⟨rfl,hb⟩;have Hb:=Aa hb;clear hb;go_wp2_with fail;go_ret2;exact⟨v,hv,by rw[Hn.o];rfl,(fun m h=>by rw[Hd.o]at h;cases h),Hb.o⟩
def Ff(s:List UInt8):Bool:=decide (2<=s.length) && decide (s.head?=some 39) && decide (s.getLast?=some 39) && Db (s.drop 1).dropLast
theorem Vd(s:List UInt8)(w:World)(hs:s.length<=4000000):
  Calls prog 133 #[s] w fun e w'=>e=.returned (.bool (Ff s))/\w=w':=by
 have hf:Ff s=(decide (2<=s.length) && decide (s.head?=some 39) && decide (s.getLast?=some 39) && Db (s.drop 1).dropLast):=rfl;rcases aG s.length 2 with h2|h2
 ·have e0:decide (2<=s.length)=false:=aN;have Hf:=Aa (show Ff s=false by rw[hf,e0];simp);have t0:decide ((s.length:Int)<2)=true:=aN;clear hf e0;go_enter func133,ntmps133;go_wp2_with fail;exact iL
 have t0:decide ((s.length:Int)<2)=false:=aN;rcases aG 14 s.length with h14|h14
 ·have Hf:=Aa (show Ff s=false by
   have:Db (s.drop 1).dropLast=false:=by
    unfold Db;have e1:decide ((s.drop 1).dropLast.length<=12)=false:=aN;rw[e1];rfl
   rw[hf,this];simp)
  have t1:decide (14<(s.length:Int))=true:=aN;clear hf;go_enter func133,ntmps133;go_wp2_with fail;exact iL
 obtain⟨c,u,d,rfl⟩:∃c u d,s=c::(u++[d]):=by
  cases s with
  |nil=>simp at h2
  |cons c t=>
   rcases Em t with rfl|⟨u,d,rfl⟩
   ·simp at h2
   exact⟨c,u,d,rfl⟩
 have hl:(c::(u++[d])).getLast?=some d:=by
  exact iM
 have hu:((c::(u++[d])).drop 1).dropLast=u:=aM;have e2:decide (2<=(c::(u++[d])).length)=true:=aM;rw[hl,hu,e2]at hf;simp only[List.head?_cons,ak,Bool.true_and]at hf;have Hf:=Aa hf;have hc:=c.toNat_lt;have hd:=d.toNat_lt;have hgd:∀h,(c::(u++[d]))[u.length+1]'h=d:=by intro h;simp
 have hul:u.length<=12:=by simp at h14;omega
 have Hfit:=Aa (show Db u=u.all Cb by simp[Db,hul]);clear hf hl hu h2 hs h14 t0 e2;by_cases hc39:c=39
 ·have t1:((c.toNat:Int) != 39)=false:=by have:=Bq hc39;simpa using this
  have Hc:=Aa (show decide (c=39)=true by simpa using hc39);clear hc39;by_cases hd39:d=39
  ·have t2:((d.toNat:Int) != 39)=false:=by have:=Bq hd39;simpa using this
   have Hd:=Aa (show decide (d=39)=true by simpa using hd39);clear hd39;go_enter func133,ntmps133;go_wp2_with fail;go_loop [3] (fun i=>∃k:Nat,i=.int .i64 ((k:Int)+1)/\k<=u.length/\Hid ((u.take k).all Cb=true)) (fun i=>u.length+1 - (intOf i).toNat)
   case atStart=>exact⟨0,rfl,ah _,by simp[Hid]⟩
   case round=>
    obtain⟨k,rfl,hk,hin⟩:=hrel;by_cases hlt:k<u.length
    ·have hg:∀h,(c::(u++[d]))[k+1]'h=u[k]:=by intro h;simp[List.getElem_append_left hlt]
     have Hts:=Aa (Bt u k hlt);have Hmem:=Aa (af hlt);have hx:=(u[k]).toNat_lt;generalize u[k]=x at hg Hts Hmem hx;by_cases ht:Cb x=true
     ·have Hin:=Aa (show (u.take (k+1)).all Cb=true by rw[Hts.o,List.all_append,hin.o];simp[ht]);have h3:x=32\/(x.toNat≠32/\48<=x.toNat/\x.toNat<=57)\/(57<x.toNat/\97<=x.toNat/\x.toNat<=122):=by
       unfold Cb at ht;simp only[Bool.or_eq_true]at ht;rcases ht with(h|h)|h
       ·have:=J7.1 h;exact .inr (.inr ⟨by omega,this⟩)
       ·have:=Dc.1 h;exact .inr (.inl ⟨by omega,this⟩)
       exact .inl aS
      clear ht;rcases h3 with h3|⟨h3,h4,h5⟩|⟨h3,h4,h5⟩
      ·have t3:((x.toNat:Int) != 32)=false:=by have:=Bq h3;simpa using this
       clear h3;go_wp2_with fail;go_round
       case rel=>exact⟨k+1,by go_num,by omega,Hin.o⟩
       case measure=>simp[intOf];omega
      ·have t3:((x.toNat:Int) != 32)=true:=dQ;go_wp2_with fail;go_round
       case rel=>exact⟨k+1,by go_num,by omega,Hin.o⟩
       case measure=>simp[intOf];omega
      have t3:((x.toNat:Int) != 32)=true:=dQ;go_wp2_with fail;go_round
      case rel=>exact⟨k+1,by go_num,by omega,Hin.o⟩
      case measure=>simp[intOf];omega
     have Hno:=Aa (show u.all Cb=false by
      cases h:u.all Cb with
      |false=>rfl
      |true=>exact absurd (List.all_eq_true.1 h _ Hmem.o) ht)
     have h32:x≠32:=by rintro rfl;exact ht rfl
     have t3:((x.toNat:Int) != 32)=true:=by have:=Aq h32;simpa using this
     have h3:x.toNat<48\/(57<x.toNat/\x.toNat<97)\/122<x.toNat:=by
      have a:¬H7 x=true:=fun h=>ht (by simp[Cb,h]);have b:¬Ba x=true:=fun h=>ht (by simp[Cb,h]);rw[J7]at a;rw[Dc]at b;omega
     clear ht h32;rcases h3 with h3|⟨h3,h4⟩|h3;all_goals
      go_wp2_with fail;go_ret;exact⟨D2 (Cn (by rw[Hf.o,Hc.o,Hd.o,Hfit.o,Hno.o];rfl)),rfl⟩
    ·have Hall:=Aa (show u.all Cb=true by
      have:=hin.o;rwa [au aH]at this)
     have hk2:k=u.length:=aH;subst hk2;go_wp2_with fail;go_ret;exact⟨D2 (Cn (by rw[Hf.o,Hc.o,Hd.o,Hfit.o,Hall.o];rfl)),rfl⟩
  have t2:((d.toNat:Int) != 39)=true:=by have:=Aq hd39;simpa using this
  have Hd:=Aa (show decide (d=39)=false by simpa using hd39);clear hd39;go_enter func133,ntmps133;go_wp2_with fail;go_ret;exact⟨D2 (Cn (by rw[Hf.o,Hd.o];simp)),rfl⟩
 have t1:((c.toNat:Int) != 39)=true:=by have:=Aq hc39;simpa using this
 have Hc:=Aa (show decide (c=39)=false by simpa using hc39);clear hc39;go_enter func133,ntmps133;go_wp2_with fail;go_ret;exact⟨D2 (Cn (by rw[Hf.o,Hc.o];simp)),rfl⟩
end
end Go.Proofs.YtpjijpcemejlnaaGreatDoor
