/- Texts joined. Conditions: as each theorem names them. -/
import Derived.Test.YtkigmebejmmikaaGreatDoorG24
set_option maxRecDepth 100000
set_option maxHeartbeats 32000000
set_option linter.unusedVariables false
set_option linter.unusedSimpArgs false
namespace Go.Proofs.YtkigmebejmmikaaGreatDoor
open Go.RowKit Go.Proofs.Tryz
theorem Qfv(w0:World)(xs:List (Ty × Value))(A:Option Addr)(c:Nat)(hsc:Mc w0 (.slice A xs.length c) xs)(hok:No (Ah xs))(k:Kd)(t:Ty)(tv:Value)(hx:E0 xs k.name=some (t,tv))(h2:t.sort=82)(d:Nat)
  (H:∀k',C0 k'->SrC w0 (Ah xs) (.slice A xs.length c) k' d):Qjb w0 (.slice A xs.length c) (Ah xs) k (Ak (Ah xs) 20 d) (.int .u8 82) t.name tv t.fields (d:Int):=by
 obtain⟨hm,_,hft⟩:=Ek hx;have htS:t∈Ah xs:=(Bq hft).1;have hty:=hok.1.1 t htS;have h9:t.sort≠69:=cC;have hfs:Fc w0 tv t.fields:=eK;have hfo:∀f∈t.fields,Q5 t.sort f:=hty.2.2.1.1;refine⟨fun s W hW hs=>?_,fun s f r h=>?_,fun k' s W hk' hW hs=>H k' hk' s W hW hs,fun k' s v r hk' h=>?_,fun k' s v r P b W hk' h hs hsv=>?_,fun s f r W h hW=>?_,fun ps hp=>?_⟩
 ·exact Tw _ _ _ _ rfl rfl rfl t.fields s W (hfs.below hW) (fun f hf=>(hfo f hf).2.1) aE
 ·have hf:=(P9 (Jc h).2.1).1;have h1:=hfo f hf;have hk:=(h1.2.2.2.2 h9).1;exact⟨hk,by have:=hk.2.2;omega,h1.1,h1.2.1⟩
 ·have:=(E9 hok.1.1 20 d k' s v r hk' h).2;rw[this];simp
 ·obtain⟨h1,h3⟩:=E9 hok.1.1 20 d k' s v r hk' h;exact Qfd hok.1.1 P d k' v h1 hk' b W hsv (by rw[h3]at hs;simp at hs;omega)
 ·have hf:=(P9 (Jc h).2.1).1;have h1:=hfo f hf;exact Tk _ xs hok f W (hsc.below hW) (h1.2.2.2.2 h9).1 (hok.2.1 t htS h9 f hf) (ac (Rz h1) aH)
 rw[Qy];congr 1
 refine List.map_congr_left fun p hp'=>?_;rw[Ga hft (hp p hp')]
theorem Qha(w0:World)(xs:List (Ty × Value))(xv:Value)(hsc:Mc w0 xv xs)(hok:No (Ah xs)):NmC w0 (Ah xs) xv:=by
 obtain⟨A,c,rfl,h1000,_⟩:=hsc;have hsc:Mc w0 (.slice A xs.length c) xs:=⟨A,c,rfl,h1000,by assumption⟩
 intro d hd H k hk hsg hb s hs W hW hne;cases s with
 |nil=>exact absurd rfl hne
 |cons c0 z=>
  have hz:z.length<=1000000:=ff;have hkl:(Bi k).length<=100:=cY;have hq:Ak (Ah xs) 20 (d+1) k (c0::z)=match B0 (Ah xs) k.name with|none=>none|some t=>Ha (Ah xs) (Ak (Ah xs) 20 d) t (c0::z):=by
   conv=>lhs;unfold Ak
   rw[hsg];simp[hb];rfl
  have hrf:M1 xs k=E0 xs k.name:=if_pos ⟨hsg,hb⟩;cases hx:E0 xs k.name with
  |none=>
   rw[hq,Qbg hx];refine Qib (Ah xs) k w0 (.slice A xs.length c) rfl (Bi k) hkl 0 ⟨#[]⟩ none 0 0 false c0 z _ W hW hz (fun W' hW'=>?_) (.inr (.inr (.inr ⟨rfl,rfl,rfl⟩)));exact jh
  |some x=>
   obtain⟨t,tv⟩:=x;obtain⟨hm,_,hft⟩:=Ek hx;have htS:t∈Ah xs:=(Bq hft).1;have hty:=hok.1.1 t htS;have hfs:Fc w0 tv t.fields:=eK;have hfo:∀f∈t.fields,Q5 t.sort f:=hty.2.2.1.1;have htg:∀f∈t.fields,f.tag<=200:=fun f hf=>(hfo f hf).2.1;rw[hq,hft];simp only;have hX:∀(h:(((t.sort.toNat:Int) == 82)=true/\((c0.toNat:Int) == 123)=false/\((t.sort.toNat:Int) == 69)=false/\((t.sort.toNat:Int) == 85)=false)\/(((t.sort.toNat:Int) == 82)=false/\((t.sort.toNat:Int) == 69)=true/\((c0.toNat:Int) == 35)=false/\((t.sort.toNat:Int) == 85)=false)\/(((t.sort.toNat:Int) == 82)=false/\((t.sort.toNat:Int) == 69)=false/\((t.sort.toNat:Int) == 85)=true/\((c0.toNat:Int) == 60)=false)\/(((t.sort.toNat:Int) == 82)=false/\((t.sort.toNat:Int) == 69)=false/\((t.sort.toNat:Int) == 85)=false)),Calls prog 67 #[.agg #[.slice A xs.length c],(c0::z:List UInt8),.string ⟨(Bi k).toArray⟩,.int .i64 ((d+1:Nat):Int)] W (At (Ah xs) k none W):=fun h=>by
    obtain⟨A5,c5,rfl,_⟩:=hfs;refine Qib (Ah xs) k w0 (.slice A xs.length c) rfl (Bi k) hkl (t.sort.toNat:Int) ⟨t.name.toArray⟩ A5 t.fields.length c5 true c0 z _ W hW hz (fun W' hW'=>?_) h;exact jh
   have hbn:∀{c1:UInt8},c0≠c1->((c0.toNat:Int) == (c1.toNat:Int))=false:=fun h=>by have:=Am h;simpa using this
   rcases hty.1 with h9|h9|h9
   ·by_cases hc:c0=123
    ·subst hc;have e:Ha (Ah xs) (Ak (Ah xs) 20 d) t (123::z)=Qd7 (Ah xs) (Ak (Ah xs) 20 d) t.fields z:=by unfold Ha Qd7;rw[h9];simp[Ae];rfl
     rw[e];refine Qiz w0 xs (.slice A xs.length c) rfl hsc k hk hsg hb t.name t.fields tv (by rw[hx,<-h9]) hfs htg d hd z W hW hz _ rfl _ fun W' hW'=>?_;have hR:=Qfv w0 xs A c hsc hok k t tv hx h9 d H;obtain⟨A5,c5,rfl,_⟩:=hfs;exact sRec_walk w0 (.slice A xs.length c) rfl (Ah xs) k hkl (Ak (Ah xs) 20 d) t.name A5 c5 t.fields d hd hR z W' hW' hz _ rfl
    have e:Ha (Ah xs) (Ak (Ah xs) 20 d) t (c0::z)=none:=ee;rw[e];exact hX (.inl (by rw[h9];exact⟨rfl,hbn hc,rfl,rfl⟩))
   ·by_cases hc:c0=60
    ·subst hc;have h69:t.sort≠69:=by rw[h9];decide
     have e:Ha (Ah xs) (Ak (Ah xs) 20 d) t (60::z)=unL (Ak (Ah xs) 20 d) (Fz t.fields z):=by
      unfold Ha Ct unL;rw[h9,if_neg aH,if_pos rfl,Aq];simp only;cases Fz t.fields z with
      |none=>rfl
      |some y=>
       obtain⟨f,r⟩:=y;simp only;cases Ae 61 r with
       |none=>rfl
       |some q=>
        simp only;cases Ak (Ah xs) 20 d f.kind q with
        |none=>rfl
        |some y=>rfl
     rw[e];exact Qjd w0 xs (.slice A xs.length c) rfl hsc k hk hsg hb t.name t.fields tv (by rw[hx,<-h9]) hfs htg d hd z W hW hz _ rfl H (fun f hf=>((hfo f hf).2.2.2.2 h69).1) (by rw[hft,<-h9]) _ rfl
    have e:Ha (Ah xs) (Ak (Ah xs) 20 d) t (c0::z)=none:=ee;rw[e];exact hX (.inr (.inr (.inl (by rw[h9];exact⟨rfl,rfl,rfl,hbn hc⟩))))
   by_cases hc:c0=35
   ·subst hc;have e:Ha (Ah xs) (Ak (Ah xs) 20 d) t (35::z)=enL (Fz t.fields z):=by
     unfold Ha enL;rw[h9,if_pos rfl,Aq];simp only;cases Fz t.fields z<;>rfl
    rw[e];exact Qi2 w0 xs (.slice A xs.length c) rfl hsc k hk hsg hb t.name t.fields tv (by rw[hx,<-h9]) hfs htg d hd z W hW hz _ rfl
   have e:Ha (Ah xs) (Ak (Ah xs) 20 d) t (c0::z)=none:=ee;rw[e];exact hX (.inr (.inl (by rw[h9];exact⟨rfl,rfl,hbn hc,rfl⟩)))
theorem Qe4(s d x:List UInt8)(w:World)(hs:s.length<=4000000)(hd:d.length<=4000000)(hx:x.length<=4000000):
  Calls prog 10 #[.string ⟨s.toArray⟩,.string ⟨d.toArray⟩,.string ⟨x.toArray⟩] w (T7 (Si (D3 s d) x) w):=
 Qhg (fun w0 xs xv h hok=>Qha w0 xs xv h hok) (fun w0 xs A c h hok k hk hr x hx=>Qdr w0 xs A c h hok 12 (by omega) k hk hr x w0 (Ay _ _) hx) s d x w hs hd hx
end Go.Proofs.YtkigmebejmmikaaGreatDoor
