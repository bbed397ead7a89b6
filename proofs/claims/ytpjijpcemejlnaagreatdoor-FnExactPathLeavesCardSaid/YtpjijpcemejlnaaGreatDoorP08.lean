/- Texts joined. Conditions: as each theorem names them. -/
import Derived.Test.YtpjijpcemejlnaaGreatDoorP05
set_option maxRecDepth 100000
set_option maxHeartbeats 32000000
set_option linter.unusedVariables false
set_option linter.unusedSimpArgs false
namespace Go.Proofs.YtpjijpcemejlnaaGreatDoor
open Go.RowKit Go.Proofs.Tryz
section
attribute [local go_sem] Qhy Qhh Qg3 Qfo ByteArray.mk_append_mk
theorem Tr(s:List UInt8)(k:Nat)(hk:k<=6)(h:(s.take k).all Az=true):E0 (s.take k)<=999999:=by
 exact gM
def Dg(s:List UInt8)(top:Nat):Bool:=match Cf s with|some m=>decide (m<=top)|none=>false
theorem Ku{s:List UInt8}{top:Nat}(h:Cf s=none):Dg s top=false:=by unfold Dg;rw[h]
theorem H8{s:List UInt8}{top n:Nat}(h:Cf s=some n):Dg s top=decide (n<=top):=by unfold Dg;rw[h]
def T2(s:List UInt8)(top:Nat)(w:World)(e:Ending)(w':World):Prop:=
 ∃n:Nat,n<=999999/\e=.returned (.tuple #[.int .i64 n,.bool (Dg s top)])/\(∀m,Cf s=some m->m=n)/\Below w w w'
theorem Cy(s:List UInt8)(m:Nat)(w:World)(hs:s.length<=4000000)(hm:m<=999999):
  Calls prog 81 #[s,.int .i64 m] w (T2 s m w):=by
 go_enter func81,ntmps81;go_wp2_with fail;go_loop [6,7] (fun x i=>∃k:Nat,i=.int .i64 k/\k<=s.length/\k<=6/\Hid ((s.take k).all Az=true)/\E0 (s.take k)<=999999/\x=.int .i64 ((E0 (s.take k):Nat):Int)) (fun _ i=>s.length - (intOf i).toNat)
 case atStart=>exact⟨0,rfl,ag _,by omega,by simp[Hid],by simp[E0],by simp[E0]⟩
 case round=>
  obtain⟨k,rfl,hk,hk6,hdig,hv,rfl⟩:=hrel;by_cases hlt:k<s.length
  ·have hc:=(s[k]).toNat_lt;have Hts:=Aa (Be s k hlt);have Hmem:=Aa (ae hlt);by_cases hd:Az s[k]=true
   ·have hd2:=C9.1 hd;obtain⟨d1,d2⟩:=hd2;by_cases h5:k<=5
    ·have hdig2:(s.take (k+1)).all Az=true:=by
      rw[Hts.o,List.all_append,hdig.o];simp[hd]
     have hv2:=Tr s (k+1) aG hdig2;have Hdig2:=Aa hdig2;have Hv:=Aa (show E0 (s.take (k+1))=10*E0 (s.take k)+((s[k]).toNat - 48)by rw[Hts.o,Ja]);clear hd hdig2;go_wp2_with fail;go_round
     case rel=>exact⟨k+1,by go_num,by omega,by omega,Hdig2.o,hv2,Qas (by rw[Hv.o];omega)⟩
     case measure=>simp[intOf];omega
    have h5':5<k:=aG;have hno:Cf s=none:=by
     unfold Cf;rw[if_neg];rintro⟨_,h,_⟩;omega
    have Hn:=Aa (Ku (top:=m) hno);have Hno:=Aa hno;clear hd hno h5;go_wp2_with fail;go_ret2;exact gO
   have hno:Cf s=none:=by
    unfold Cf;rw[if_neg];rintro⟨_,_,h,_⟩;exact hd (List.all_eq_true.1 h _ Hmem.o)
   have Hn:=Aa (Ku (top:=m) hno);have Hno:=Aa hno;have h2:(s[k]).toNat<48\/(48<=(s[k]).toNat/\57<(s[k]).toNat):=by
    rcases aF (s[k]).toNat 48 with h|h
    ·exact .inl h
    rcases aF 57 (s[k]).toNat with h'|h'
    ·exact .inr ⟨h,h'⟩
    exact absurd (C9.2 ⟨h,h'⟩) hd
   clear hd hno;rcases h2 with h2|⟨h2,h4⟩
   ·go_wp2_with fail;go_ret2;exact gO
   go_wp2_with fail;go_ret2;exact gO
  ·have e:s.take k=s:=ar aG;rw[e]at hv ⊢;have hcase:(Cf s=some (E0 s)/\s=An (E0 s))\/(Cf s=none/\s≠An (E0 s)):=by
    by_cases h:s=An (E0 s)
    ·exact .inl ⟨Bt.2 ⟨hv,h⟩,h⟩
    refine .inr ⟨?_,h⟩;cases hd:Cf s with
    |none=>rfl
    |some n=>
     obtain⟨_,h2⟩:=Bt.1 hd;exact absurd (by rw[h2,Nf]) h
   clear hdig e;generalize E0 s=v at hv hcase;have hdl:=C0 5 v en;rcases hcase with⟨h1,h2⟩|⟨h1,h2⟩
   ·have Hn:=Aa (H8 (top:=m) h1);have Hd:=Aa h1;have tq:(s == An v)=true:=dx;clear h1 h2;by_cases hvm:v<=m
    ·go_wp2_with fail;refine(Fi v v _ (Ap _) aG).mono ?_;rintro e w1 ⟨rfl,hb⟩;have Hb:=Aa hb;clear hb;go_wp2_with fail;go_ret2;exact⟨v,hv,by rw[Hn.o];exact Qga rfl (Ce (by simp[hvm])),(fun m h=>by rw[Hd.o]at h;injection h with h;exact h.symm),Hb.o⟩
    have hvm':m<v:=aG;go_wp2_with fail;refine(Fi v v _ (Ap _) aG).mono ?_;rintro e w1 ⟨rfl,hb⟩;have Hb:=Aa hb;clear hb;go_wp2_with fail;go_ret2;exact⟨v,hv,by rw[Hn.o];exact Qga rfl (Ce aN),(fun m h=>by rw[Hd.o]at h;injection h with h;exact h.symm),Hb.o⟩
   have Hn:=Aa (Ku (top:=m) h1);have Hd:=Aa h1;have tq:(s == An v)=false:=dx;clear h1 h2;go_wp2_with fail;refine(Fi v v _ (Ap _) aG).mono ?_;rintro e w1 ⟨rfl,hb⟩;have Hb:=Aa hb;clear hb;go_wp2_with fail;go_ret2;exact⟨v,hv,by rw[Hn.o];rfl,(fun m h=>by rw[Hd.o]at h;cases h),Hb.o⟩
def Ev(s:List UInt8):Bool:=decide (2<=s.length) && decide (s.head?=some 39) && decide (s.getLast?=some 39) && De (s.drop 1).dropLast
theorem Sv(s:List UInt8)(w:World)(hs:s.length<=4000000):
  Calls prog 133 #[s] w fun e w'=>e=.returned (.bool (Ev s))/\w=w':=by
 have hf:Ev s=(decide (2<=s.length) && decide (s.head?=some 39) && decide (s.getLast?=some 39) && De (s.drop 1).dropLast):=rfl;rcases aF s.length 2 with h2|h2
 ·have e0:decide (2<=s.length)=false:=aN;have Hf:=Aa (show Ev s=false by rw[hf,e0];simp);have t0:decide ((s.length:Int)<2)=true:=aN;clear hf e0;go_enter func133,ntmps133;go_wp2_with fail;exact gE
 have t0:decide ((s.length:Int)<2)=false:=aN;rcases aF 14 s.length with h14|h14
 ·have Hf:=Aa (show Ev s=false by
   have:De (s.drop 1).dropLast=false:=by
    unfold De;have e1:decide ((s.drop 1).dropLast.length<=12)=false:=aN;rw[e1];rfl
   rw[hf,this];simp)
  have t1:decide (14<(s.length:Int))=true:=aN;clear hf;go_enter func133,ntmps133;go_wp2_with fail;exact gE
 obtain⟨c,u,d,rfl⟩:∃c u d,s=c::(u++[d]):=by
  cases s with
  |nil=>simp at h2
  |cons c t=>
   rcases Dv t with rfl|⟨u,d,rfl⟩
   ·simp at h2
   exact⟨c,u,d,rfl⟩
 have hl:(c::(u++[d])).getLast?=some d:=by
  exact gF
 have hu:((c::(u++[d])).drop 1).dropLast=u:=aK;have e2:decide (2<=(c::(u++[d])).length)=true:=aK;rw[hl,hu,e2]at hf;simp only[List.head?_cons,aj,Bool.true_and]at hf;have Hf:=Aa hf;have hc:=c.toNat_lt;have hd:=d.toNat_lt;have hgd:∀h,(c::(u++[d]))[u.length+1]'h=d:=by intro h;simp
 have hul:u.length<=12:=by simp at h14;omega
 have Hfit:=Aa (show De u=u.all By by simp[De,hul]);clear hf hl hu h2 hs h14 t0 e2;by_cases hc39:c=39
 ·have t1:((c.toNat:Int) != 39)=false:=by have:=Bj hc39;simpa using this
  have Hc:=Aa (show decide (c=39)=true by simpa using hc39);clear hc39;by_cases hd39:d=39
  ·have t2:((d.toNat:Int) != 39)=false:=by have:=Bj hd39;simpa using this
   have Hd:=Aa (show decide (d=39)=true by simpa using hd39);clear hd39;go_enter func133,ntmps133;go_wp2_with fail;go_loop [3] (fun i=>∃k:Nat,i=.int .i64 ((k:Int)+1)/\k<=u.length/\Hid ((u.take k).all By=true)) (fun i=>u.length+1 - (intOf i).toNat)
   case atStart=>exact⟨0,rfl,ag _,by simp[Hid]⟩
   case round=>
    obtain⟨k,rfl,hk,hin⟩:=hrel;by_cases hlt:k<u.length
    ·have hg:∀h,(c::(u++[d]))[k+1]'h=u[k]:=by intro h;simp[List.getElem_append_left hlt]
     have Hts:=Aa (Be u k hlt);have Hmem:=Aa (ae hlt);have hx:=(u[k]).toNat_lt;generalize u[k]=x at hg Hts Hmem hx;by_cases ht:By x=true
     ·have Hin:=Aa (show (u.take (k+1)).all By=true by rw[Hts.o,List.all_append,hin.o];simp[ht]);have h3:x=32\/(x.toNat≠32/\48<=x.toNat/\x.toNat<=57)\/(57<x.toNat/\97<=x.toNat/\x.toNat<=122):=by
       unfold By at ht;simp only[Bool.or_eq_true]at ht;rcases ht with(h|h)|h
       ·have:=Kn.1 h;exact .inr (.inr ⟨by omega,this⟩)
       ·have:=C9.1 h;exact .inr (.inl ⟨by omega,this⟩)
       exact .inl bg
      clear ht;rcases h3 with h3|⟨h3,h4,h5⟩|⟨h3,h4,h5⟩
      ·have t3:((x.toNat:Int) != 32)=false:=by have:=Bj h3;simpa using this
       clear h3;go_wp2_with fail;go_round
       case rel=>exact⟨k+1,by go_num,by omega,Hin.o⟩
       case measure=>simp[intOf];omega
      ·have t3:((x.toNat:Int) != 32)=true:=dt;go_wp2_with fail;go_round
       case rel=>exact⟨k+1,by go_num,by omega,Hin.o⟩
       case measure=>simp[intOf];omega
      have t3:((x.toNat:Int) != 32)=true:=dt;go_wp2_with fail;go_round
      case rel=>exact⟨k+1,by go_num,by omega,Hin.o⟩
      case measure=>simp[intOf];omega
     have Hno:=Aa (show u.all By=false by
      cases h:u.all By with
      |false=>rfl
      |true=>exact absurd (List.all_eq_true.1 h _ Hmem.o) ht)
     have h32:x≠32:=by rintro rfl;exact ht rfl
     have t3:((x.toNat:Int) != 32)=true:=by have:=Ak h32;simpa using this
     have h3:x.toNat<48\/(57<x.toNat/\x.toNat<97)\/122<x.toNat:=by
      have a:¬Gg x=true:=fun h=>ht (by simp[By,h]);have b:¬Az x=true:=fun h=>ht (by simp[By,h]);rw[Kn]at a;rw[C9]at b;omega
     clear ht h32;rcases h3 with h3|⟨h3,h4⟩|h3;all_goals
      go_wp2_with fail;go_ret;exact⟨Dj (Ce (by rw[Hf.o,Hc.o,Hd.o,Hfit.o,Hno.o];rfl)),rfl⟩
    ·have Hall:=Aa (show u.all By=true by
      have:=hin.o;rwa [ar aG]at this)
     have hk2:k=u.length:=aG;subst hk2;go_wp2_with fail;go_ret;exact⟨Dj (Ce (by rw[Hf.o,Hc.o,Hd.o,Hfit.o,Hall.o];rfl)),rfl⟩
  have t2:((d.toNat:Int) != 39)=true:=by have:=Ak hd39;simpa using this
  have Hd:=Aa (show decide (d=39)=false by simpa using hd39);clear hd39;go_enter func133,ntmps133;go_wp2_with fail;go_ret;exact⟨Dj (Ce (by rw[Hf.o,Hd.o];simp)),rfl⟩
 have t1:((c.toNat:Int) != 39)=true:=by have:=Ak hc39;simpa using this
 have Hc:=Aa (show decide (c=39)=false by simpa using hc39);clear hc39;go_enter func133,ntmps133;go_wp2_with fail;go_ret;exact⟨Dj (Ce (by rw[Hf.o,Hc.o];simp)),rfl⟩
end
end Go.Proofs.YtpjijpcemejlnaaGreatDoor
