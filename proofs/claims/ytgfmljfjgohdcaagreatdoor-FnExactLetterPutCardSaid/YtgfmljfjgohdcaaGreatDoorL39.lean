/- Texts joined. Conditions: as each theorem names them. -/
import Derived.Test.YtgfmljfjgohdcaaGreatDoorL38
set_option maxRecDepth 100000
set_option maxHeartbeats 32000000
set_option linter.unusedVariables false
set_option linter.unusedSimpArgs false
namespace Go.Proofs.YtgfmljfjgohdcaaGreatDoor
open Go.RowKit Go.Proofs.Tryz
theorem Qgf(w0:World)(xs:List (Ty × Value))(A:Option Addr)(c:Nat)(hsc:Jt w0 (.slice A xs.length c) xs)(hok:Jv (Af xs))(k:Kd)(t:Ty)(tv:Value)(hx:D5 xs k.name=some (t,tv))(h2:t.sort=82)(d:Nat)
  (H:∀k',Cs k'->SrC w0 (Af xs) (.slice A xs.length c) k' d):Qla w0 (.slice A xs.length c) (Af xs) k (Al (Af xs) 20 d) (.int .u8 82) t.name tv t.fields (d:Int):=by
 obtain⟨hm,_,hft⟩:=Dr hx;have htS:t∈Af xs:=(Ch hft).1;have hty:=hok.1.1 t htS;have h9:t.sort≠69:=dc;have hfs:Ff w0 tv t.fields:=eH;have hfo:∀f∈t.fields,S9 t.sort f:=hty.2.2.1.1;refine⟨fun s W hW hs=>?_,fun s f r h=>?_,fun k' s W hk' hW hs=>H k' hk' s W hW hs,fun k' s v r hk' h=>?_,fun k' s v r P b W hk' h hs hsv=>?_,fun s f r W h hW=>?_,fun ps hp=>?_⟩
 ·exact Tq _ _ _ _ rfl rfl rfl t.fields s W (hfs.below hW) (fun f hf=>(hfo f hf).2.1) aF
 ·have hf:=(P7 (G9 h).2.1).1;have h1:=hfo f hf;have hk:=(h1.2.2.2.2 h9).1;exact⟨hk,by have:=hk.2.2;omega,h1.1,h1.2.1⟩
 ·have:=(Fp hok.1.1 20 d k' s v r hk' h).2;rw[this];simp
 ·obtain⟨h1,h3⟩:=Fp hok.1.1 20 d k' s v r hk' h;exact Qh0 hok.1.1 P d k' v h1 hk' b W hsv (by rw[h3]at hs;simp at hs;omega)
 ·have hf:=(P7 (G9 h).2.1).1;have h1:=hfo f hf;exact Qm _ xs hok f W (hsc.below hW) (h1.2.2.2.2 h9).1 (hok.2.1 t htS h9 f hf) (aa (Mq h1) aI)
 rw[V6];congr 1
 refine List.map_congr_left fun p hp'=>?_;rw[Jd hft (hp p hp')]
theorem Qi3(w0:World)(xs:List (Ty × Value))(xv:Value)(hsc:Jt w0 xv xs)(hok:Jv (Af xs)):NmC w0 (Af xs) xv:=by
 obtain⟨A,c,rfl,h1000,_⟩:=hsc;have hsc:Jt w0 (.slice A xs.length c) xs:=⟨A,c,rfl,h1000,by assumption⟩
 intro d hd H k hk hsg hb s hs W hW hne;cases s with
 |nil=>exact absurd rfl hne
 |cons c0 z=>
  have hz:z.length<=1000000:=f9;have hkl:(Be k).length<=100:=cY;have hq:Al (Af xs) 20 (d+1) k (c0::z)=match Bu (Af xs) k.name with|none=>none|some t=>Jq (Af xs) (Al (Af xs) 20 d) t (c0::z):=by
   conv=>lhs;unfold Al
   rw[hsg];simp[hb];rfl
  have hrf:Mu xs k=D5 xs k.name:=if_pos ⟨hsg,hb⟩;cases hx:D5 xs k.name with
  |none=>
   rw[hq,Qci hx];refine Qjv (Af xs) k w0 (.slice A xs.length c) rfl (Be k) hkl 0 ⟨#[]⟩ none 0 0 false c0 z _ W hW hz (fun W' hW'=>?_) (.inr (.inr (.inr ⟨rfl,rfl,rfl⟩)));exact ja
  |some x=>
   obtain⟨t,tv⟩:=x;obtain⟨hm,_,hft⟩:=Dr hx;have htS:t∈Af xs:=(Ch hft).1;have hty:=hok.1.1 t htS;have hfs:Ff w0 tv t.fields:=eH;have hfo:∀f∈t.fields,S9 t.sort f:=hty.2.2.1.1;have htg:∀f∈t.fields,f.tag<=200:=fun f hf=>(hfo f hf).2.1;rw[hq,hft];simp only;have hX:∀(h:(((t.sort.toNat:Int) == 82)=true/\((c0.toNat:Int) == 123)=false/\((t.sort.toNat:Int) == 69)=false/\((t.sort.toNat:Int) == 85)=false)\/(((t.sort.toNat:Int) == 82)=false/\((t.sort.toNat:Int) == 69)=true/\((c0.toNat:Int) == 35)=false/\((t.sort.toNat:Int) == 85)=false)\/(((t.sort.toNat:Int) == 82)=false/\((t.sort.toNat:Int) == 69)=false/\((t.sort.toNat:Int) == 85)=true/\((c0.toNat:Int) == 60)=false)\/(((t.sort.toNat:Int) == 82)=false/\((t.sort.toNat:Int) == 69)=false/\((t.sort.toNat:Int) == 85)=false)),Calls prog 175 #[.agg #[.slice A xs.length c],(c0::z:List UInt8),.string ⟨(Be k).toArray⟩,.int .i64 ((d+1:Nat):Int)] W (Bj (Af xs) k none W):=fun h=>by
    obtain⟨A5,c5,rfl,_⟩:=hfs;refine Qjv (Af xs) k w0 (.slice A xs.length c) rfl (Be k) hkl (t.sort.toNat:Int) ⟨t.name.toArray⟩ A5 t.fields.length c5 true c0 z _ W hW hz (fun W' hW'=>?_) h;exact ja
   have hbn:∀{c1:UInt8},c0≠c1->((c0.toNat:Int) == (c1.toNat:Int))=false:=fun h=>by have:=Ao h;simpa using this
   rcases hty.1 with h9|h9|h9
   ·by_cases hc:c0=123
    ·subst hc;have e:Jq (Af xs) (Al (Af xs) 20 d) t (123::z)=Qfw (Af xs) (Al (Af xs) 20 d) t.fields z:=by unfold Jq Qfw;rw[h9];simp[Aq];rfl
     rw[e];refine Qlb w0 xs (.slice A xs.length c) rfl hsc k hk hsg hb t.name t.fields tv (by rw[hx,<-h9]) hfs htg d hd z W hW hz _ rfl _ fun W' hW'=>?_;have hR:=Qgf w0 xs A c hsc hok k t tv hx h9 d H;obtain⟨A5,c5,rfl,_⟩:=hfs;exact sRec_walk w0 (.slice A xs.length c) rfl (Af xs) k hkl (Al (Af xs) 20 d) t.name A5 c5 t.fields d hd hR z W' hW' hz _ rfl
    have e:Jq (Af xs) (Al (Af xs) 20 d) t (c0::z)=none:=dY;rw[e];exact hX (.inl (by rw[h9];exact⟨rfl,hbn hc,rfl,rfl⟩))
   ·by_cases hc:c0=60
    ·subst hc;have h69:t.sort≠69:=by rw[h9];decide
     have e:Jq (Af xs) (Al (Af xs) 20 d) t (60::z)=unL (Al (Af xs) 20 d) (Fo t.fields z):=by
      unfold Jq Cu unL;rw[h9,if_neg aI,if_pos rfl,Bc];simp only;cases Fo t.fields z with
      |none=>rfl
      |some y=>
       obtain⟨f,r⟩:=y;simp only;cases Aq 61 r with
       |none=>rfl
       |some q=>
        simp only;cases Al (Af xs) 20 d f.kind q with
        |none=>rfl
        |some y=>rfl
     rw[e];exact Qkw w0 xs (.slice A xs.length c) rfl hsc k hk hsg hb t.name t.fields tv (by rw[hx,<-h9]) hfs htg d hd z W hW hz _ rfl H (fun f hf=>((hfo f hf).2.2.2.2 h69).1) (by rw[hft,<-h9]) _ rfl
    have e:Jq (Af xs) (Al (Af xs) 20 d) t (c0::z)=none:=dY;rw[e];exact hX (.inr (.inr (.inl (by rw[h9];exact⟨rfl,rfl,rfl,hbn hc⟩))))
   by_cases hc:c0=35
   ·subst hc;have e:Jq (Af xs) (Al (Af xs) 20 d) t (35::z)=enL (Fo t.fields z):=by
     unfold Jq enL;rw[h9,if_pos rfl,Bc];simp only;cases Fo t.fields z<;>rfl
    rw[e];exact Qk9 w0 xs (.slice A xs.length c) rfl hsc k hk hsg hb t.name t.fields tv (by rw[hx,<-h9]) hfs htg d hd z W hW hz _ rfl
   have e:Jq (Af xs) (Al (Af xs) 20 d) t (c0::z)=none:=dY;rw[e];exact hX (.inr (.inl (by rw[h9];exact⟨rfl,rfl,hbn hc,rfl⟩)))
theorem Qk4(s d x:List UInt8)(w:World)(hs:s.length<=4000000)(hd:d.length<=4000000)(hx:x.length<=4000000):
  Calls prog 91 #[s,d,x] w (Mb s d x w):=Qhl (fun w0 xs xv h hok=>Qi3 w0 xs xv h hok) s d x w hs hd hx
structure Qi6(base B:Nat)(W1:World)(h0 h1 tu:Value)(A:Option Addr)(n c:Nat)(gs:List Nat)(xs:List (Nat × SV))(z:SV)(l15 l16 l17 l20:Bool)(u15 u16 u17:Value)(W:World):Prop where
 s0:l15=false->W=W1
 s1:l15=true->l16=false->∃bx,u15=.pointer (some ⟨bx,0,none⟩)/\Below W1 W1 W/\Fx (fun c=>W1.heap.size<=c) W bx z
 s2:l16=true->l17=false->∃W7 bx,W=W7.alloc (.cells [.pointer (some ⟨bx,0,none⟩)].toArray 83)/\u16=.slice (some ⟨W7.heap.size,0,none⟩) 1 1/\Below W1 W1 W7/\Fx (fun c=>W1.heap.size<=c) W7 bx z
 s3:l17=true->l20=false->∃bx A6 c6,u17=.slice A6 (xs.length+1) c6/\Mz base B W h0 h1 tu tu (.slice A n c) u17 gs (xs++[(bx,z)])/\Below base W1 W
 s4:l20=true->∃bx A6 c6,Mz base B W h0 h1 tu tu (.slice A6 (xs.length+1) c6) (.slice A6 (xs.length+1) c6) gs (xs++[(bx,z)])/\Below B W1 W/\∀b o,b<base->b≠B->W.cell? ⟨b,o,none⟩=W1.cell? ⟨b,o,none⟩
section
variable {base B n c:Nat} {W1 W W':World} {h0 h1 tu u15 u16 u17:Value} {A:Option Addr} {gs:List Nat} {xs:List (Nat × SV)} {z:SV} {l15 l16 l17 l20:Bool} {b:Nat}
theorem Qi6.start:Qi6 base B W1 h0 h1 tu A n c gs xs z false false false false u15 u16 u17 W1:=
 ⟨fun _=>rfl,fun h=>Bool.noConfusion h,fun h=>Bool.noConfusion h,fun h=>Bool.noConfusion h,fun h=>Bool.noConfusion h⟩
theorem Qi6.be(h:Qi6 base B W1 h0 h1 tu A n c gs xs z l15 l16 l17 l20 u15 u16 u17 W)(h17:l17=false)(hi:l16=true->l15=true):Below W1 W1 W:=by
 cases h15:l15 with
 |false=>rw[h.s0 h15];exact Ar _ _
 |true=>
  cases h16:l16 with
  |false=>exact(h.s1 h15 h16).choose_spec.2.1
  |true=>
   obtain⟨W7,bx,rfl,_,hb,_⟩:=h.s2 h16 h17;exact hb.alloc hb.size _
end
end Go.Proofs.YtgfmljfjgohdcaaGreatDoor
