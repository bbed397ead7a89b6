/- Texts joined. Conditions: as each theorem names them. -/
import Derived.Test.YtkigmebejmmikaaGreatDoorV26
import Derived.Test.YtkigmebejmmikaaGreatDoorV27
set_option maxRecDepth 100000
set_option maxHeartbeats 32000000
set_option linter.unusedVariables false
set_option linter.unusedSimpArgs false
namespace Go.Proofs.YtkigmebejmmikaaGreatDoor
open Go.RowKit Go.Proofs.Tryz
theorem Qkc(w0:World)(xs:List (Ty × Value))(A:Option Addr)(c:Nat)(hsc:G8 w0 (.slice A xs.length c) xs)(hok:Nv (Ag xs))(k:Kd)(t:Ty)(tv:Value)(hx:E3 xs k.name=some (t,tv))(h2:t.sort=82)(d:Nat)
  (H:∀k',Ch k'->SrC w0 (Ag xs) (.slice A xs.length c) k' d):Qok w0 (.slice A xs.length c) (Ag xs) k (Ap (Ag xs) 20 d) (.int .u8 82) t.name tv t.fields (d:Int):=by
 obtain⟨hm,_,hft⟩:=Db hx;have htS:t∈Ag xs:=(Be hft).1;have hty:=hok.1.1 t htS;have h9:t.sort≠69:=cj;have hfs:Ef w0 tv t.fields:=gt;have hfo:∀f∈t.fields,Xp t.sort f:=hty.2.2.1.1;refine⟨fun s W hW hs=>?_,fun s f r h=>?_,fun k' s W hk' hW hs=>H k' hk' s W hW hs,fun k' s v r hk' h=>?_,fun k' s v r P b W hk' h hs hsv=>?_,fun s f r W h hW=>?_,fun ps hp=>?_⟩
 ·exact Yk _ _ _ _ rfl rfl rfl t.fields s W (hfs.below hW) (fun f hf=>(hfo f hf).2.1) aG
 ·have hf:=(Sm (Kn h).2.1).1;have h1:=hfo f hf;have hk:=(h1.2.2.2.2 h9).1;exact⟨hk,by have:=hk.2.2;omega,h1.1,h1.2.1⟩
 ·have:=(Gn hok.1.1 20 d k' s v r hk' h).2;rw[this];simp
 ·obtain⟨h1,h3⟩:=Gn hok.1.1 20 d k' s v r hk' h;exact Qko hok.1.1 P d k' v h1 hk' b W hsv (by rw[h3]at hs;simp at hs;omega)
 ·have hf:=(Sm (Kn h).2.1).1;have h1:=hfo f hf;exact Yf _ xs hok f W (hsc.below hW) (h1.2.2.2.2 h9).1 (hok.2.1 t htS h9 f hf) (ad (Tx h1) aJ)
 rw[Sw];congr 1
 refine List.map_congr_left fun p hp'=>?_;rw[Cv hft (hp p hp')]
theorem Qmt(w0:World)(xs:List (Ty × Value))(xv:Value)(hsc:G8 w0 xv xs)(hok:Nv (Ag xs)):NmC w0 (Ag xs) xv:=by
 obtain⟨A,c,rfl,h1000,_⟩:=hsc;have hsc:G8 w0 (.slice A xs.length c) xs:=⟨A,c,rfl,h1000,by assumption⟩
 intro d hd H k hk hsg hb s hs W hW hne;cases s with
 |nil=>exact absurd rfl hne
 |cons c0 z=>
  have hz:z.length<=1000000:=gW;have hkl:(Bt k).length<=100:=bW;have hq:Ap (Ag xs) 20 (d+1) k (c0::z)=match B6 (Ag xs) k.name with|none=>none|some t=>Mc (Ag xs) (Ap (Ag xs) 20 d) t (c0::z):=by
   conv=>lhs;unfold Ap
   rw[hsg];simp[hb];rfl
  have hrf:J3 xs k=E3 xs k.name:=if_pos ⟨hsg,hb⟩;cases hx:E3 xs k.name with
  |none=>
   rw[hq,Qf0 hx];refine Qnm (Ag xs) k w0 (.slice A xs.length c) rfl (Bt k) hkl 0 ⟨#[]⟩ none 0 0 false c0 z _ W hW hz (fun W' hW'=>?_) (.inr (.inr (.inr ⟨rfl,rfl,rfl⟩)));exact my
  |some x=>
   obtain⟨t,tv⟩:=x;obtain⟨hm,_,hft⟩:=Db hx;have htS:t∈Ag xs:=(Be hft).1;have hty:=hok.1.1 t htS;have hfs:Ef w0 tv t.fields:=gt;have hfo:∀f∈t.fields,Xp t.sort f:=hty.2.2.1.1;have htg:∀f∈t.fields,f.tag<=200:=fun f hf=>(hfo f hf).2.1;rw[hq,hft];simp only;have hX:∀(h:(((t.sort.toNat:Int) == 82)=true/\((c0.toNat:Int) == 123)=false/\((t.sort.toNat:Int) == 69)=false/\((t.sort.toNat:Int) == 85)=false)\/(((t.sort.toNat:Int) == 82)=false/\((t.sort.toNat:Int) == 69)=true/\((c0.toNat:Int) == 35)=false/\((t.sort.toNat:Int) == 85)=false)\/(((t.sort.toNat:Int) == 82)=false/\((t.sort.toNat:Int) == 69)=false/\((t.sort.toNat:Int) == 85)=true/\((c0.toNat:Int) == 60)=false)\/(((t.sort.toNat:Int) == 82)=false/\((t.sort.toNat:Int) == 69)=false/\((t.sort.toNat:Int) == 85)=false)),Calls prog 67 #[.agg #[.slice A xs.length c],(c0::z:List UInt8),.string ⟨(Bt k).toArray⟩,.int .i64 ((d+1:Nat):Int)] W (Bz (Ag xs) k none W):=fun h=>by
    obtain⟨A5,c5,rfl,_⟩:=hfs;refine Qnm (Ag xs) k w0 (.slice A xs.length c) rfl (Bt k) hkl (t.sort.toNat:Int) ⟨t.name.toArray⟩ A5 t.fields.length c5 true c0 z _ W hW hz (fun W' hW'=>?_) h;exact my
   have hbn:∀{c1:UInt8},c0≠c1->((c0.toNat:Int) == (c1.toNat:Int))=false:=fun h=>by have:=At h;simpa using this
   rcases hty.1 with h9|h9|h9
   ·by_cases hc:c0=123
    ·subst hc;have e:Mc (Ag xs) (Ap (Ag xs) 20 d) t (123::z)=Qiy (Ag xs) (Ap (Ag xs) 20 d) t.fields z:=by unfold Mc Qiy;rw[h9];simp[Aj];rfl
     rw[e];refine Qon w0 xs (.slice A xs.length c) rfl hsc k hk hsg hb t.name t.fields tv (by rw[hx,<-h9]) hfs htg d hd z W hW hz _ rfl _ fun W' hW'=>?_;have hR:=Qkc w0 xs A c hsc hok k t tv hx h9 d H;obtain⟨A5,c5,rfl,_⟩:=hfs;exact sRec_walk w0 (.slice A xs.length c) rfl (Ag xs) k hkl (Ap (Ag xs) 20 d) t.name A5 c5 t.fields d hd hR z W' hW' hz _ rfl
    have e:Mc (Ag xs) (Ap (Ag xs) 20 d) t (c0::z)=none:=fF;rw[e];exact hX (.inl (by rw[h9];exact⟨rfl,hbn hc,rfl,rfl⟩))
   ·by_cases hc:c0=60
    ·subst hc;have h69:t.sort≠69:=by rw[h9];decide
     have e:Mc (Ag xs) (Ap (Ag xs) 20 d) t (60::z)=unL (Ap (Ag xs) 20 d) (Ha t.fields z):=by
      unfold Mc Dm unL;rw[h9,if_neg aJ,if_pos rfl,Az];simp only;cases Ha t.fields z with
      |none=>rfl
      |some y=>
       obtain⟨f,r⟩:=y;simp only;cases Aj 61 r with
       |none=>rfl
       |some q=>
        simp only;cases Ap (Ag xs) 20 d f.kind q with
        |none=>rfl
        |some y=>rfl
     rw[e];exact Qoi w0 xs (.slice A xs.length c) rfl hsc k hk hsg hb t.name t.fields tv (by rw[hx,<-h9]) hfs htg d hd z W hW hz _ rfl H (fun f hf=>((hfo f hf).2.2.2.2 h69).1) (by rw[hft,<-h9]) _ rfl
    have e:Mc (Ag xs) (Ap (Ag xs) 20 d) t (c0::z)=none:=fF;rw[e];exact hX (.inr (.inr (.inl (by rw[h9];exact⟨rfl,rfl,rfl,hbn hc⟩))))
   by_cases hc:c0=35
   ·subst hc;have e:Mc (Ag xs) (Ap (Ag xs) 20 d) t (35::z)=enL (Ha t.fields z):=by
     unfold Mc enL;rw[h9,if_pos rfl,Az];simp only;cases Ha t.fields z<;>rfl
    rw[e];exact Qog w0 xs (.slice A xs.length c) rfl hsc k hk hsg hb t.name t.fields tv (by rw[hx,<-h9]) hfs htg d hd z W hW hz _ rfl
   have e:Mc (Ag xs) (Ap (Ag xs) 20 d) t (c0::z)=none:=fF;rw[e];exact hX (.inr (.inl (by rw[h9];exact⟨rfl,rfl,hbn hc,rfl⟩)))
theorem Qos(s d x:List UInt8)(w:World)(hs:s.length<=4000000)(hd:d.length<=4000000)(hx:x.length<=4000000):
  Calls prog 15 #[s,d,x] w (Mv s d x w):=Qjn (fun w0 xs xv h hok=>Qmt w0 xs xv h hok) s d x w hs hd hx
end Go.Proofs.YtkigmebejmmikaaGreatDoor
