/- Texts joined. Conditions: as each theorem names them. -/
import Derived.Test.YtpjijpcemejlnaaGreatDoorM28
import Derived.Test.YtpjijpcemejlnaaGreatDoorM29
set_option maxRecDepth 100000
set_option maxHeartbeats 32000000
set_option linter.unusedVariables false
set_option linter.unusedSimpArgs false
namespace Go.Proofs.YtpjijpcemejlnaaGreatDoor
open Go.RowKit Go.Proofs.Tryz
section
attribute [local go_sem] Qkk Qj0 Qjm Qhu ByteArray.mk_append_mk
theorem Yu{st:UInt8}{f:Fd}(h:Te st f):f.given.length<=14:=by
 by_cases hs:st=69
 ·rw[(h.2.2.2.1 hs).2];simp
 by_cases hg:f.given=[]
 ·rw[hg];simp
 have:=((h.2.2.2.2 hs).2 hg).2.2;unfold Bx at this;split at this
 ·exact i7
 split at this
 ·exact gT
 split at this
 ·simp only[decide_eq_true_eq]at this;rw[this];simp
 cases this
theorem Qgk(w0:World)(xs:List (Ty × Value))(A:Option Addr)(c:Nat)(hsc:Ge w0 (.slice A xs.length c) xs)(hok:Nn (Af xs))(k:Kd)(t:Ty)(tv:Value)(hx:Eb xs k.name=some (t,tv))(h2:t.sort=82)(d:Nat)
  (H:∀k',Cu k'->SrC w0 (Af xs) (.slice A xs.length c) k' d):Qj4 w0 (.slice A xs.length c) (Af xs) k (Al (Af xs) 20 d) (.int .u8 82) t.name tv t.fields (d:Int):=by
 obtain⟨hm,_,hft⟩:=Co hx;have htS:t∈Af xs:=(Bv hft).1;have hty:=hok.1.1 t htS;have h9:t.sort≠69:=dj;have hfs:Dl w0 tv t.fields:=eQ;have hfo:∀f∈t.fields,Te t.sort f:=hty.2.2.1.1;refine⟨fun s W hW hs=>?_,fun s f r h=>?_,fun k' s W hk' hW hs=>H k' hk' s W hW hs,fun k' s v r hk' h=>?_,fun k' s v r P b W hk' h hs hsv=>?_,fun s f r W h hW=>?_,fun ps hp=>?_⟩
 ·exact Tp _ _ _ _ rfl rfl rfl t.fields s W (hfs.below hW) (fun f hf=>(hfo f hf).2.1) aH
 ·have hf:=(Qi (Jh h).2.1).1;have h1:=hfo f hf;have hk:=(h1.2.2.2.2 h9).1;exact⟨hk,by have:=hk.2.2;omega,h1.1,h1.2.1⟩
 ·have:=(Fo hok.1.1 20 d k' s v r hk' h).2;rw[this];simp
 ·obtain⟨h1,h3⟩:=Fo hok.1.1 20 d k' s v r hk' h;exact Qgr hok.1.1 P d k' v h1 hk' b W hsv (by rw[h3]at hs;simp at hs;omega)
 ·have hf:=(Qi (Jh h).2.1).1;have h1:=hfo f hf;exact Ve _ xs hok f W (hsc.below hW) (h1.2.2.2.2 h9).1 (hok.2.1 t htS h9 f hf) (ae (Yu h1) aL)
 rw[Qu];congr 1
 refine List.map_congr_left fun p hp'=>?_;rw[Gr hft (hp p hp')]
theorem Qih(w0:World)(xs:List (Ty × Value))(xv:Value)(hsc:Ge w0 xv xs)(hok:Nn (Af xs)):NmC w0 (Af xs) xv:=by
 obtain⟨A,c,rfl,h1000,_⟩:=hsc;have hsc:Ge w0 (.slice A xs.length c) xs:=⟨A,c,rfl,h1000,by assumption⟩
 intro d hd H k hk hsg hb s hs W hW hne;cases s with
 |nil=>exact absurd rfl hne
 |cons c0 z=>
  have hz:z.length<=1000000:=fi;have hkl:(Bn k).length<=100:=bR;have hq:Al (Af xs) 20 (d+1) k (c0::z)=match Bw (Af xs) k.name with|none=>none|some t=>Jy (Af xs) (Al (Af xs) 20 d) t (c0::z):=by
   conv=>lhs;unfold Al
   rw[hsg];simp[hb];rfl
  have hrf:H4 xs k=Eb xs k.name:=if_pos ⟨hsg,hb⟩;cases hx:Eb xs k.name with
  |none=>
   rw[hq,Qc5 hx];refine Qi9 (Af xs) k w0 (.slice A xs.length c) rfl (Bn k) hkl 0 ⟨#[]⟩ none 0 0 false c0 z _ W hW hz (fun W' hW'=>?_) (.inr (.inr (.inr ⟨rfl,rfl,rfl⟩)));exact jK
  |some x=>
   obtain⟨t,tv⟩:=x;obtain⟨hm,_,hft⟩:=Co hx;have htS:t∈Af xs:=(Bv hft).1;have hty:=hok.1.1 t htS;have hfs:Dl w0 tv t.fields:=eQ;have hfo:∀f∈t.fields,Te t.sort f:=hty.2.2.1.1;have htg:∀f∈t.fields,f.tag<=200:=fun f hf=>(hfo f hf).2.1;rw[hq,hft];simp only;have hX:∀(h:(((t.sort.toNat:Int) == 82)=true/\((c0.toNat:Int) == 123)=false/\((t.sort.toNat:Int) == 69)=false/\((t.sort.toNat:Int) == 85)=false)\/(((t.sort.toNat:Int) == 82)=false/\((t.sort.toNat:Int) == 69)=true/\((c0.toNat:Int) == 35)=false/\((t.sort.toNat:Int) == 85)=false)\/(((t.sort.toNat:Int) == 82)=false/\((t.sort.toNat:Int) == 69)=false/\((t.sort.toNat:Int) == 85)=true/\((c0.toNat:Int) == 60)=false)\/(((t.sort.toNat:Int) == 82)=false/\((t.sort.toNat:Int) == 69)=false/\((t.sort.toNat:Int) == 85)=false)),Calls prog 125 #[.agg #[.slice A xs.length c],(c0::z:List UInt8),.string ⟨(Bn k).toArray⟩,.int .i64 ((d+1:Nat):Int)] W (Bm (Af xs) k none W):=fun h=>by
    obtain⟨A5,c5,rfl,_⟩:=hfs;refine Qi9 (Af xs) k w0 (.slice A xs.length c) rfl (Bn k) hkl (t.sort.toNat:Int) ⟨t.name.toArray⟩ A5 t.fields.length c5 true c0 z _ W hW hz (fun W' hW'=>?_) h;exact jK
   have hbn:∀{c1:UInt8},c0≠c1->((c0.toNat:Int) == (c1.toNat:Int))=false:=fun h=>by have:=Aq h;simpa using this
   rcases hty.1 with h9|h9|h9
   ·by_cases hc:c0=123
    ·subst hc;have e:Jy (Af xs) (Al (Af xs) 20 d) t (123::z)=Qeg (Af xs) (Al (Af xs) 20 d) t.fields z:=by unfold Jy Qeg;rw[h9];simp[Ap];rfl
     rw[e];refine Qj7 w0 xs (.slice A xs.length c) rfl hsc k hk hsg hb t.name t.fields tv (by rw[hx,<-h9]) hfs htg d hd z W hW hz _ rfl _ fun W' hW'=>?_;have hR:=Qgk w0 xs A c hsc hok k t tv hx h9 d H;obtain⟨A5,c5,rfl,_⟩:=hfs;exact sRec_walk w0 (.slice A xs.length c) rfl (Af xs) k hkl (Al (Af xs) 20 d) t.name A5 c5 t.fields d hd hR z W' hW' hz _ rfl
    have e:Jy (Af xs) (Al (Af xs) 20 d) t (c0::z)=none:=ei;rw[e];exact hX (.inl (by rw[h9];exact⟨rfl,hbn hc,rfl,rfl⟩))
   ·by_cases hc:c0=60
    ·subst hc;have h69:t.sort≠69:=by rw[h9];decide
     have e:Jy (Af xs) (Al (Af xs) 20 d) t (60::z)=unL (Al (Af xs) 20 d) (Fj t.fields z):=by
      unfold Jy Cw unL;rw[h9,if_neg aL,if_pos rfl,Bo];simp only;cases Fj t.fields z with
      |none=>rfl
      |some y=>
       obtain⟨f,r⟩:=y;simp only;cases Ap 61 r with
       |none=>rfl
       |some q=>
        simp only;cases Al (Af xs) 20 d f.kind q with
        |none=>rfl
        |some y=>rfl
     rw[e];exact Qkb w0 xs (.slice A xs.length c) rfl hsc k hk hsg hb t.name t.fields tv (by rw[hx,<-h9]) hfs htg d hd z W hW hz _ rfl H (fun f hf=>((hfo f hf).2.2.2.2 h69).1) (by rw[hft,<-h9]) _ rfl
    have e:Jy (Af xs) (Al (Af xs) 20 d) t (c0::z)=none:=ei;rw[e];exact hX (.inr (.inr (.inl (by rw[h9];exact⟨rfl,rfl,rfl,hbn hc⟩))))
   by_cases hc:c0=35
   ·subst hc;have e:Jy (Af xs) (Al (Af xs) 20 d) t (35::z)=enL (Fj t.fields z):=by
     unfold Jy enL;rw[h9,if_pos rfl,Bo];simp only;cases Fj t.fields z<;>rfl
    rw[e];exact Qj5 w0 xs (.slice A xs.length c) rfl hsc k hk hsg hb t.name t.fields tv (by rw[hx,<-h9]) hfs htg d hd z W hW hz _ rfl
   have e:Jy (Af xs) (Al (Af xs) 20 d) t (c0::z)=none:=ei;rw[e];exact hX (.inr (.inl (by rw[h9];exact⟨rfl,rfl,hbn hc,rfl⟩)))
theorem Qkc(s d x:List UInt8)(w:World)(hs:s.length<=4000000)(hd:d.length<=4000000)(hx:x.length<=4000000):
  Calls prog 39 #[s,d,x] w (Kb s d x w):=Qgz (fun w0 xs xv h hok=>Qih w0 xs xv h hok) s d x w hs hd hx
theorem Dl.grown{w w':World}{g p:Nat}{v:Value}{fs:List Fd}(h:Dl w v fs)(hR:D8 w g p)(hg:w.grownBy w' (some g)):Dl w' v fs:=by
 obtain⟨A,c,e,hl,hr⟩:=h;refine⟨A,c,e,hl,hr.grown hg (fun b off e1 hn=>?_)⟩;rintro rfl;obtain⟨b',off',e',_,c0,c1,_,_⟩:=Dl.at_ hr (i:=0) aH;rw[e1]at e';injection e' with e';injection e' with e2 e3;subst e2 e3;obtain⟨A2,n2,c2,l2,hh,_⟩:=hR;rcases(show off=0\/off=1\/2<=off by omega)with ho|ho|ho
 ·exact iE
 ·subst ho;simp[World.cell?,hh]at c1
 obtain⟨k,rfl⟩:∃k,off=k+2:=⟨off - 2,by omega⟩
 simp[World.cell?,hh]at c0
theorem Ge.grown{w w':World}{g p:Nat}{v:Value}{xs:List (Ty × Value)}(h:Ge w v xs)(hR:D8 w g p)(hg:w.grownBy w' (some g)):Ge w' v xs:=by
 obtain⟨A,c,e,hl,hr,hf⟩:=h;refine⟨A,c,e,hl,hr.grown hg (fun b off e1 hn=>?_),fun x hx=>(hf x hx).grown hR hg⟩;rintro rfl;obtain⟨b',off',e',_,c0,_,_⟩:=Ge.at_ hr (i:=0) aH;rw[e1]at e';injection e' with e';injection e' with e2 e3;subst e2 e3;obtain⟨A2,n2,c2,l2,hh,_⟩:=hR;rcases(show off=0\/off=1\/2<=off by omega)with ho|ho|ho
 ·exact iE
 ·exact iE
 obtain⟨k,rfl⟩:∃k,off=k+2:=⟨off - 2,by omega⟩
 simp[World.cell?,hh]at c0
end
end Go.Proofs.YtpjijpcemejlnaaGreatDoor
