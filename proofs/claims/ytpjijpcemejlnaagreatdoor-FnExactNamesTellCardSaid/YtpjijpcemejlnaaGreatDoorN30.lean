/- Texts joined. Conditions: as each theorem names them. -/
import Derived.Test.YtpjijpcemejlnaaGreatDoorN28
import Derived.Test.YtpjijpcemejlnaaGreatDoorN29
set_option maxRecDepth 100000
set_option maxHeartbeats 32000000
set_option linter.unusedVariables false
set_option linter.unusedSimpArgs false
namespace Go.Proofs.YtpjijpcemejlnaaGreatDoor
open Go.RowKit Go.Proofs.Tryz
section
attribute [local go_sem] Qhn Qg5 Qgq Qe7 ByteArray.mk_append_mk
theorem Qb2{st:UInt8}{f:Fd}(h:Ra st f):f.given.length<=14:=by
 by_cases hs:st=69
 ·rw[(h.2.2.2.1 hs).2];simp
 by_cases hg:f.given=[]
 ·rw[hg];simp
 have:=((h.2.2.2.2 hs).2 hg).2.2;unfold Bq at this;split at this
 ·exact fY
 split at this
 ·exact fL
 split at this
 ·simp only[decide_eq_true_eq]at this;rw[this];simp
 cases this
theorem Qeg(w0:World)(xs:List (Ty × Value))(A:Option Addr)(c:Nat)(hsc:Kv w0 (.slice A xs.length c) xs)(hok:Ps (Ak xs))(k:Kd)(t:Ty)(tv:Value)(hx:Ek xs k.name=some (t,tv))(h2:t.sort=82)(d:Nat)
  (H:∀k',C9 k'->SrC w0 (Ak xs) (.slice A xs.length c) k' d):Qg8 w0 (.slice A xs.length c) (Ak xs) k (Aj (Ak xs) 20 d) (.int .u8 82) t.name tv t.fields (d:Int):=by
 obtain⟨hm,_,hft⟩:=D9 hx;have htS:t∈Ak xs:=(B6 hft).1;have hty:=hok.1.1 t htS;have h9:t.sort≠69:=dg;have hfs:Eu w0 tv t.fields:=dW;have hfo:∀f∈t.fields,Ra t.sort f:=hty.2.2.1.1;refine⟨fun s W hW hs=>?_,fun s f r h=>?_,fun k' s W hk' hW hs=>H k' hk' s W hW hs,fun k' s v r hk' h=>?_,fun k' s v r P b W hk' h hs hsv=>?_,fun s f r W h hW=>?_,fun ps hp=>?_⟩
 ·exact Sv _ _ _ _ rfl rfl rfl t.fields s W (hfs.below hW) (fun f hf=>(hfo f hf).2.1) aG
 ·have hf:=(Nw (Gu h).2.1).1;have h1:=hfo f hf;have hk:=(h1.2.2.2.2 h9).1;exact⟨hk,by have:=hk.2.2;omega,h1.1,h1.2.1⟩
 ·have:=(Ex hok.1.1 20 d k' s v r hk' h).2;rw[this];simp
 ·obtain⟨h1,h3⟩:=Ex hok.1.1 20 d k' s v r hk' h;exact Qes hok.1.1 P d k' v h1 hk' b W hsv (by rw[h3]at hs;simp at hs;omega)
 ·have hf:=(Nw (Gu h).2.1).1;have h1:=hfo f hf;exact Z8 _ xs hok f W (hsc.below hW) (h1.2.2.2.2 h9).1 (hok.2.1 t htS h9 f hf) (ad (Qb2 h1) aJ)
 rw[Ss];congr 1
 refine List.map_congr_left fun p hp'=>?_;rw[Mc hft (hp p hp')]
theorem Qfd(w0:World)(xs:List (Ty × Value))(xv:Value)(hsc:Kv w0 xv xs)(hok:Ps (Ak xs)):NmC w0 (Ak xs) xv:=by
 obtain⟨A,c,rfl,h1000,_⟩:=hsc;have hsc:Kv w0 (.slice A xs.length c) xs:=⟨A,c,rfl,h1000,by assumption⟩
 intro d hd H k hk hsg hb s hs W hW hne;cases s with
 |nil=>exact absurd rfl hne
 |cons c0 z=>
  have hz:z.length<=1000000:=eC;have hkl:(Br k).length<=100:=cR;have hq:Aj (Ak xs) 20 (d+1) k (c0::z)=match By (Ak xs) k.name with|none=>none|some t=>Ha (Ak xs) (Aj (Ak xs) 20 d) t (c0::z):=by
   conv=>lhs;unfold Aj
   rw[hsg];simp[hb];rfl
  have hrf:Kl xs k=Ek xs k.name:=if_pos ⟨hsg,hb⟩;cases hx:Ek xs k.name with
  |none=>
   rw[hq,Qao hx];refine Qgj (Ak xs) k w0 (.slice A xs.length c) rfl (Br k) hkl 0 ⟨#[]⟩ none 0 0 false c0 z _ W hW hz (fun W' hW'=>?_) (.inr (.inr (.inr ⟨rfl,rfl,rfl⟩)));exact iD
  |some x=>
   obtain⟨t,tv⟩:=x;obtain⟨hm,_,hft⟩:=D9 hx;have htS:t∈Ak xs:=(B6 hft).1;have hty:=hok.1.1 t htS;have hfs:Eu w0 tv t.fields:=dW;have hfo:∀f∈t.fields,Ra t.sort f:=hty.2.2.1.1;have htg:∀f∈t.fields,f.tag<=200:=fun f hf=>(hfo f hf).2.1;rw[hq,hft];simp only;have hX:∀(h:(((t.sort.toNat:Int) == 82)=true/\((c0.toNat:Int) == 123)=false/\((t.sort.toNat:Int) == 69)=false/\((t.sort.toNat:Int) == 85)=false)\/(((t.sort.toNat:Int) == 82)=false/\((t.sort.toNat:Int) == 69)=true/\((c0.toNat:Int) == 35)=false/\((t.sort.toNat:Int) == 85)=false)\/(((t.sort.toNat:Int) == 82)=false/\((t.sort.toNat:Int) == 69)=false/\((t.sort.toNat:Int) == 85)=true/\((c0.toNat:Int) == 60)=false)\/(((t.sort.toNat:Int) == 82)=false/\((t.sort.toNat:Int) == 69)=false/\((t.sort.toNat:Int) == 85)=false)),Calls prog 125 #[.agg #[.slice A xs.length c],(c0::z:List UInt8),.string ⟨(Br k).toArray⟩,.int .i64 ((d+1:Nat):Int)] W (Bf (Ak xs) k none W):=fun h=>by
    obtain⟨A5,c5,rfl,_⟩:=hfs;refine Qgj (Ak xs) k w0 (.slice A xs.length c) rfl (Br k) hkl (t.sort.toNat:Int) ⟨t.name.toArray⟩ A5 t.fields.length c5 true c0 z _ W hW hz (fun W' hW'=>?_) h;exact iD
   have hbn:∀{c1:UInt8},c0≠c1->((c0.toNat:Int) == (c1.toNat:Int))=false:=fun h=>by have:=Am h;simpa using this
   rcases hty.1 with h9|h9|h9
   ·by_cases hc:c0=123
    ·subst hc;have e:Ha (Ak xs) (Aj (Ak xs) 20 d) t (123::z)=Qdb (Ak xs) (Aj (Ak xs) 20 d) t.fields z:=by unfold Ha Qdb;rw[h9];simp[Al];rfl
     rw[e];refine Qhf w0 xs (.slice A xs.length c) rfl hsc k hk hsg hb t.name t.fields tv (by rw[hx,<-h9]) hfs htg d hd z W hW hz _ rfl _ fun W' hW'=>?_;have hR:=Qeg w0 xs A c hsc hok k t tv hx h9 d H;obtain⟨A5,c5,rfl,_⟩:=hfs;exact sRec_walk w0 (.slice A xs.length c) rfl (Ak xs) k hkl (Aj (Ak xs) 20 d) t.name A5 c5 t.fields d hd hR z W' hW' hz _ rfl
    have e:Ha (Ak xs) (Aj (Ak xs) 20 d) t (c0::z)=none:=dF;rw[e];exact hX (.inl (by rw[h9];exact⟨rfl,hbn hc,rfl,rfl⟩))
   ·by_cases hc:c0=60
    ·subst hc;have h69:t.sort≠69:=by rw[h9];decide
     have e:Ha (Ak xs) (Aj (Ak xs) 20 d) t (60::z)=unL (Aj (Ak xs) 20 d) (E0 t.fields z):=by
      unfold Ha Cn unL;rw[h9,if_neg aJ,if_pos rfl,Bg];simp only;cases E0 t.fields z with
      |none=>rfl
      |some y=>
       obtain⟨f,r⟩:=y;simp only;cases Al 61 r with
       |none=>rfl
       |some q=>
        simp only;cases Aj (Ak xs) 20 d f.kind q with
        |none=>rfl
        |some y=>rfl
     rw[e];exact Qha w0 xs (.slice A xs.length c) rfl hsc k hk hsg hb t.name t.fields tv (by rw[hx,<-h9]) hfs htg d hd z W hW hz _ rfl H (fun f hf=>((hfo f hf).2.2.2.2 h69).1) (by rw[hft,<-h9]) _ rfl
    have e:Ha (Ak xs) (Aj (Ak xs) 20 d) t (c0::z)=none:=dF;rw[e];exact hX (.inr (.inr (.inl (by rw[h9];exact⟨rfl,rfl,rfl,hbn hc⟩))))
   by_cases hc:c0=35
   ·subst hc;have e:Ha (Ak xs) (Aj (Ak xs) 20 d) t (35::z)=enL (E0 t.fields z):=by
     unfold Ha enL;rw[h9,if_pos rfl,Bg];simp only;cases E0 t.fields z<;>rfl
    rw[e];exact Qhd w0 xs (.slice A xs.length c) rfl hsc k hk hsg hb t.name t.fields tv (by rw[hx,<-h9]) hfs htg d hd z W hW hz _ rfl
   have e:Ha (Ak xs) (Aj (Ak xs) 20 d) t (c0::z)=none:=dF;rw[e];exact hX (.inr (.inl (by rw[h9];exact⟨rfl,rfl,hbn hc,rfl⟩)))
theorem Qg6(s d x:List UInt8)(w:World)(hs:s.length<=4000000)(hd:d.length<=4000000)(hx:x.length<=4000000):
  Calls prog 39 #[s,d,x] w (Jr s d x w):=Qdf (fun w0 xs xv h hok=>Qfd w0 xs xv h hok) s d x w hs hd hx
end
end Go.Proofs.YtpjijpcemejlnaaGreatDoor
