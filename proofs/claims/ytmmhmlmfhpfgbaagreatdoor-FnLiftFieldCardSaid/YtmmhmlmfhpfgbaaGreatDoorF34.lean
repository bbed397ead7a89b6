/- Texts joined. Conditions: as each theorem names them. -/
import Derived.Test.YtmmhmlmfhpfgbaaGreatDoorF32
import Derived.Test.YtmmhmlmfhpfgbaaGreatDoorF33
set_option maxRecDepth 100000
set_option maxHeartbeats 32000000
set_option linter.unusedVariables false
set_option linter.unusedSimpArgs false
namespace Go.Proofs.YtmmhmlmfhpfgbaaGreatDoor
open Go.RowKit Go.Proofs.Tryz
theorem Qj2(w0:World)(xs:List (Ty × Value))(A:Option Addr)(c:Nat)(hsc:Gb w0 (.slice A xs.length c) xs)(hok:G7 (Ad xs))(k:Kd)(t:Ty)(tv:Value)(hx:Dy xs k.name=some (t,tv))(h2:t.sort=82)(d:Nat)
  (H:∀k',Ck k'->SrC w0 (Ad xs) (.slice A xs.length c) k' d):Qns w0 (.slice A xs.length c) (Ad xs) k (Ar (Ad xs) 20 d) (.int .u8 82) t.name tv t.fields (d:Int):=by
 obtain⟨hm,_,hft⟩:=Cp hx;have htS:t∈Ad xs:=(Cf hft).1;have hty:=hok.1.1 t htS;have h9:t.sort≠69:=cW;have hfs:Dq w0 tv t.fields:=fS;have hfo:∀f∈t.fields,Tj t.sort f:=hty.2.2.1.1;refine⟨fun s W hW hs=>?_,fun s f r h=>?_,fun k' s W hk' hW hs=>H k' hk' s W hW hs,fun k' s v r hk' h=>?_,fun k' s v r P b W hk' h hs hsv=>?_,fun s f r W h hW=>?_,fun ps hp=>?_⟩
 ·exact Y8 _ _ _ _ rfl rfl rfl t.fields s W (hfs.below hW) (fun f hf=>(hfo f hf).2.1) aH
 ·have hf:=(S7 (Kh h).2.1).1;have h1:=hfo f hf;have hk:=(h1.2.2.2.2 h9).1;exact⟨hk,by have:=hk.2.2;omega,h1.1,h1.2.1⟩
 ·have:=(Gy hok.1.1 20 d k' s v r hk' h).2;rw[this];simp
 ·obtain⟨h1,h3⟩:=Gy hok.1.1 20 d k' s v r hk' h;exact Zn hok.1.1 P d k' v h1 hk' b W hsv (by rw[h3]at hs;simp at hs;omega)
 ·have hf:=(S7 (Kh h).2.1).1;have h1:=hfo f hf;exact Mr _ xs hok f W (hsc.below hW) (h1.2.2.2.2 h9).1 (hok.2.1 t htS h9 f hf) (ad (Fq h1) aJ)
 rw[Qs];congr 1
 refine List.map_congr_left fun p hp'=>?_;rw[Ez hft (hp p hp')]
theorem Qlp(w0:World)(xs:List (Ty × Value))(xv:Value)(hsc:Gb w0 xv xs)(hok:G7 (Ad xs)):NmC w0 (Ad xs) xv:=by
 obtain⟨A,c,rfl,h1000,_⟩:=hsc;have hsc:Gb w0 (.slice A xs.length c) xs:=⟨A,c,rfl,h1000,by assumption⟩
 intro d hd H k hk hsg hb s hs W hW hne;cases s with
 |nil=>exact absurd rfl hne
 |cons c0 z=>
  have hz:z.length<=1000000:=gE;have hkl:(Ax k).length<=100:=cd;have hq:Ar (Ad xs) 20 (d+1) k (c0::z)=match Bk (Ad xs) k.name with|none=>none|some t=>Kv (Ad xs) (Ar (Ad xs) 20 d) t (c0::z):=by
   conv=>lhs;unfold Ar
   rw[hsg];simp[hb];rfl
  have hrf:Jq xs k=Dy xs k.name:=if_pos ⟨hsg,hb⟩;cases hx:Dy xs k.name with
  |none=>
   rw[hq,Qgc hx];refine Qmn (Ad xs) k w0 (.slice A xs.length c) rfl (Ax k) hkl 0 ⟨#[]⟩ none 0 0 false c0 z _ W hW hz (fun W' hW'=>?_) (.inr (.inr (.inr ⟨rfl,rfl,rfl⟩)));exact lJ
  |some x=>
   obtain⟨t,tv⟩:=x;obtain⟨hm,_,hft⟩:=Cp hx;have htS:t∈Ad xs:=(Cf hft).1;have hty:=hok.1.1 t htS;have hfs:Dq w0 tv t.fields:=fS;have hfo:∀f∈t.fields,Tj t.sort f:=hty.2.2.1.1;have htg:∀f∈t.fields,f.tag<=200:=fun f hf=>(hfo f hf).2.1;rw[hq,hft];simp only;have hX:∀(h:(((t.sort.toNat:Int) == 82)=true/\((c0.toNat:Int) == 123)=false/\((t.sort.toNat:Int) == 69)=false/\((t.sort.toNat:Int) == 85)=false)\/(((t.sort.toNat:Int) == 82)=false/\((t.sort.toNat:Int) == 69)=true/\((c0.toNat:Int) == 35)=false/\((t.sort.toNat:Int) == 85)=false)\/(((t.sort.toNat:Int) == 82)=false/\((t.sort.toNat:Int) == 69)=false/\((t.sort.toNat:Int) == 85)=true/\((c0.toNat:Int) == 60)=false)\/(((t.sort.toNat:Int) == 82)=false/\((t.sort.toNat:Int) == 69)=false/\((t.sort.toNat:Int) == 85)=false)),Calls prog 160 #[.agg #[.slice A xs.length c],(c0::z:List UInt8),.string ⟨(Ax k).toArray⟩,.int .i64 ((d+1:Nat):Int)] W (Bx (Ad xs) k none W):=fun h=>by
    obtain⟨A5,c5,rfl,_⟩:=hfs;refine Qmn (Ad xs) k w0 (.slice A xs.length c) rfl (Ax k) hkl (t.sort.toNat:Int) ⟨t.name.toArray⟩ A5 t.fields.length c5 true c0 z _ W hW hz (fun W' hW'=>?_) h;exact lJ
   have hbn:∀{c1:UInt8},c0≠c1->((c0.toNat:Int) == (c1.toNat:Int))=false:=fun h=>by have:=Ap h;simpa using this
   rcases hty.1 with h9|h9|h9
   ·by_cases hc:c0=123
    ·subst hc;have e:Kv (Ad xs) (Ar (Ad xs) 20 d) t (123::z)=Qh1 (Ad xs) (Ar (Ad xs) 20 d) t.fields z:=by unfold Kv Qh1;rw[h9];simp[Av];rfl
     rw[e];refine Qn1 w0 xs (.slice A xs.length c) rfl hsc k hk hsg hb t.name t.fields tv (by rw[hx,<-h9]) hfs htg d hd z W hW hz _ rfl _ fun W' hW'=>?_;have hR:=Qj2 w0 xs A c hsc hok k t tv hx h9 d H;obtain⟨A5,c5,rfl,_⟩:=hfs;exact sRec_walk w0 (.slice A xs.length c) rfl (Ad xs) k hkl (Ar (Ad xs) 20 d) t.name A5 c5 t.fields d hd hR z W' hW' hz _ rfl
    have e:Kv (Ad xs) (Ar (Ad xs) 20 d) t (c0::z)=none:=fi;rw[e];exact hX (.inl (by rw[h9];exact⟨rfl,hbn hc,rfl,rfl⟩))
   ·by_cases hc:c0=60
    ·subst hc;have h69:t.sort≠69:=by rw[h9];decide
     have e:Kv (Ad xs) (Ar (Ad xs) 20 d) t (60::z)=unL (Ar (Ad xs) 20 d) (G0 t.fields z):=by
      unfold Kv Dj unL;rw[h9,if_neg aJ,if_pos rfl,Bv];simp only;cases G0 t.fields z with
      |none=>rfl
      |some y=>
       obtain⟨f,r⟩:=y;simp only;cases Av 61 r with
       |none=>rfl
       |some q=>
        simp only;cases Ar (Ad xs) 20 d f.kind q with
        |none=>rfl
        |some y=>rfl
     rw[e];exact Qn0 w0 xs (.slice A xs.length c) rfl hsc k hk hsg hb t.name t.fields tv (by rw[hx,<-h9]) hfs htg d hd z W hW hz _ rfl H (fun f hf=>((hfo f hf).2.2.2.2 h69).1) (by rw[hft,<-h9]) _ rfl
    have e:Kv (Ad xs) (Ar (Ad xs) 20 d) t (c0::z)=none:=fi;rw[e];exact hX (.inr (.inr (.inl (by rw[h9];exact⟨rfl,rfl,rfl,hbn hc⟩))))
   by_cases hc:c0=35
   ·subst hc;have e:Kv (Ad xs) (Ar (Ad xs) 20 d) t (35::z)=enL (G0 t.fields z):=by
     unfold Kv enL;rw[h9,if_pos rfl,Bv];simp only;cases G0 t.fields z<;>rfl
    rw[e];exact Qnz w0 xs (.slice A xs.length c) rfl hsc k hk hsg hb t.name t.fields tv (by rw[hx,<-h9]) hfs htg d hd z W hW hz _ rfl
   have e:Kv (Ad xs) (Ar (Ad xs) 20 d) t (c0::z)=none:=fi;rw[e];exact hX (.inr (.inl (by rw[h9];exact⟨rfl,rfl,hbn hc,rfl⟩)))
theorem Qnu(s d x:List UInt8)(w:World)(hs:s.length<=4000000)(hd:d.length<=4000000)(hx:x.length<=4000000):
  Calls prog 79 #[s,d,x] w (Ql s d x w):=Qjo (fun w0 xs xv h hok=>Qlp w0 xs xv h hok) s d x w hs hd hx
def Vz(y:SV)(w:World)(e:Ending)(w':World):Prop:=∃B,e=.returned (.pointer (some ⟨B,0,none⟩))/\Below w w w'/\Fl (fun c=>w.heap.size<=c) w' B y
theorem Ee.kid{base B:Nat}{W W':World}{h0 h1 tu tv ku kv:Value}{gs:List Nat}{xs:List (Nat × SV)}(h:Ee base B W h0 h1 tu tv ku kv gs xs){b:Nat}{y:SV}(hy:Fl (fun c=>W.heap.size<=c) W' b y):Pg base tv kv W' (b,y):=
 hy.mono fun c hc _=>⟨ad h.bs hc,fun e=>by have:=(h.row.lt c e).2;omega,fun e=>by have:=(h.tags.lt c e).2;omega⟩
structure P7(base B:Nat)(W1:World)(h0 h1 tu:Value)(A:Option Addr)(n c:Nat)(gs:List Nat)(xs:List (Nat × SV))(z:SV)(l15 l16 l17 l20:Bool)(u15 u16 u17:Value)(W:World):Prop where
 s0:l15=false->W=W1
 s1:l15=true->l16=false->∃bx,u15=.pointer (some ⟨bx,0,none⟩)/\Below W1 W1 W/\Fl (fun c=>W1.heap.size<=c) W bx z
 s2:l16=true->l17=false->∃W7 bx,W=W7.alloc (.cells [.pointer (some ⟨bx,0,none⟩)].toArray 76)/\u16=.slice (some ⟨W7.heap.size,0,none⟩) 1 1/\Below W1 W1 W7/\Fl (fun c=>W1.heap.size<=c) W7 bx z
 s3:l17=true->l20=false->∃bx A6 c6,u17=.slice A6 (xs.length+1) c6/\Ee base B W h0 h1 tu tu (.slice A n c) u17 gs (xs++[(bx,z)])/\Below base W1 W
 s4:l20=true->∃bx A6 c6,Ee base B W h0 h1 tu tu (.slice A6 (xs.length+1) c6) (.slice A6 (xs.length+1) c6) gs (xs++[(bx,z)])/\Below B W1 W/\∀b o,b<base->b≠B->W.cell? ⟨b,o,none⟩=W1.cell? ⟨b,o,none⟩
section
variable {base B n c:Nat} {W1 W W':World} {h0 h1 tu u15 u16 u17:Value} {A:Option Addr} {gs:List Nat} {xs:List (Nat × SV)} {z:SV} {l15 l16 l17 l20:Bool} {b:Nat}
theorem P7.start:P7 base B W1 h0 h1 tu A n c gs xs z false false false false u15 u16 u17 W1:=
 ⟨fun _=>rfl,fun h=>Bool.noConfusion h,fun h=>Bool.noConfusion h,fun h=>Bool.noConfusion h,fun h=>Bool.noConfusion h⟩
theorem P7.be(h:P7 base B W1 h0 h1 tu A n c gs xs z l15 l16 l17 l20 u15 u16 u17 W)(h17:l17=false)(hi:l16=true->l15=true):Below W1 W1 W:=by
 cases h15:l15 with
 |false=>rw[h.s0 h15];exact Ao _ _
 |true=>
  cases h16:l16 with
  |false=>exact(h.s1 h15 h16).choose_spec.2.1
  |true=>
   obtain⟨W7,bx,rfl,_,hb,_⟩:=h.s2 h16 h17;exact hb.alloc hb.size _
theorem P7.put15(h16:l16=false)(h17:l17=false)(h20:l20=false)(hb:Below W1 W1 W)(hs:Fl (fun c=>W1.heap.size<=c) W b z):P7 base B W1 h0 h1 tu A n c gs xs z true l16 l17 l20 b u16 u17 W:=by
 subst h16 h17 h20;exact⟨fun h=>Bool.noConfusion h,fun _ _=>⟨b,rfl,hb,hs⟩,fun h=>Bool.noConfusion h,fun h=>Bool.noConfusion h,fun h=>Bool.noConfusion h⟩
theorem P7.put16(h:P7 base B W1 h0 h1 tu A n c gs xs z l15 l16 l17 l20 u15 u16 u17 W)(h15:l15=true)(h16:l16=false)(h17:l17=false)(h20:l20=false):∃bx,u15=.pointer (some ⟨bx,0,none⟩) /\
  P7 base B W1 h0 h1 tu A n c gs xs z l15 true l17 l20 u15 (.slice (W,0) 1 1) u17 (W.alloc (.cells #[.pointer (some ⟨bx,0,none⟩)] 76)):=by
 obtain⟨bx,e,hb,hs⟩:=h.s1 h15 h16;subst h17 h20;exact⟨bx,e,fun h=>absurd (h15.symm.trans h) aJ,fun _ h=>Bool.noConfusion h,fun _ _=>⟨W,bx,rfl,rfl,hb,hs⟩,fun h=>Bool.noConfusion h,fun h=>Bool.noConfusion h⟩
theorem P7.put17{W7:World}{v:Value}(hS:Ee base B W1 h0 h1 tu tu (.slice A n c) (.slice A n c) gs xs)(hb:Below W1 W1 W7)(hs:Fl (fun c=>W1.heap.size<=c) W7 b z)(h15:l15=true)(h16:l16=true)(h20:l20=false)
  (hown:W.ownsRow base 76 1 v (xs.length+1) (Dx (xs.map (·.1))++[.pointer (some ⟨b,0,none⟩)])) (hg:W7.grownBy W (Value.slice A n c).ownBlock) (hwh:v.ownBlock=(Value.slice A n c).ownBlock\/∃k,v.ownBlock=some k/\W7.heap.size<=k):
  P7 base B W1 h0 h1 tu A n c gs xs z l15 l16 true l20 u15 u16 v W/\∃A6 c6,v=.slice A6 (xs.length+1) c6:=by
 have hS7:=hS.after hb;obtain⟨A6,c6,e,k1,k2⟩:=hS7.push (x:=(b,z)) (hS.kid hs) hown hg hwh;have e2:v=.slice A6 (xs.length+1) c6:=fh;subst h20;exact⟨⟨fun h=>absurd (h15.symm.trans h) aJ,fun _ h=>absurd (h16.symm.trans h) aJ,fun _ h=>Bool.noConfusion h,fun _ _=>⟨b,A6,c6,e2,k1,(hb.mono hS.bs).trans k2⟩,fun h=>Bool.noConfusion h⟩,A6,c6,e2⟩
theorem P7.put20(h:P7 base B W1 h0 h1 tu A n c gs xs z l15 l16 l17 l20 u15 u16 u17 W)(h15:l15=true)(h16:l16=true)(h17:l17=true)(h20:l20=false)(hW:W'=W.setCell ⟨B,3,none⟩ u17):P7 base B W1 h0 h1 tu A n c gs xs z l15 l16 l17 true u15 u16 u17 W':=by
 subst hW;obtain⟨bx,A6,c6,e,hS,hb⟩:=h.s3 h17 h20;have hS3:=hS.set3;rw[e]at hS3 ⊢;exact⟨fun h=>absurd (h15.symm.trans h) aJ,fun _ h=>absurd (h16.symm.trans h) aJ,fun _ h=>absurd (h17.symm.trans h) aJ,fun _ h=>Bool.noConfusion h,fun _=>⟨bx,A6,c6,hS3,(hb.mono (Nat.le_of_lt hS.hB)).setCell (p:=⟨B,3,none⟩) (An B) _,fun b o h1 h2=>((Am W B 3 _).cell_far ⟨b,o,none⟩ (ac h1 hS.bs) (by simp;exact h2)).trans (hb.cell (p:=⟨b,o,none⟩) h1)⟩⟩
end
section
attribute [local go_sem] Qoe Qnf Qmu Qk2 ByteArray.mk_append_mk
structure Qn5(w:World)(h0 h1:Value)(zs:List SV)(wr:World)(kv:Value)(xs:List (Nat × SV))(i:Nat):Prop where
 bel:Below w w wr
 st:Ee (w.heap.size+1) w.heap.size wr h0 h1 (.slice none 0 0) (.slice none 0 0) kv kv [] xs
 eq:xs.map (·.2)=zs.take i
theorem Qcm(P:Nat->Prop)(bv:Nat)(xv:Value)(hxv:xv.oneCell'=true)(w:World)(c0:UInt8)(kr:List UInt8)(hkl:kr.length<=100)(h64:c0≠64)(ka text:List UInt8)(gs:List Nat)(ys zs:List SV)(hlen:zs.length=ys.length)(hl:ys.length<=1000)(h:Fl P w bv (.mk ka text gs ys))
  (HK:∀i (hi:i<ys.length) (hj:i<zs.length) W bx,Below w w W->Fl P W bx ys[i]->Calls prog 117 #[bx,xv,kr] W (Vz zs[i] W)):
  Calls prog 117 #[bv,xv,(c0::kr:List UInt8)] w (Vz (.mk (c0::kr) text [] zs) w):=by
 have H:=Aa h;have HK:=Aa HK;have Hlen:=Aa hlen;obtain⟨A1,A2,c1,c2,ks,hb,hP,v0,v1,v2,v3,hr1,hr2,_,_,hks,hkids⟩:=h.open_;have Hks:=Aa hks;have Hkids:=Aa hkids;have Hr2:=Aa hr2;have V3:=Aa v3;have hkl2:=@Aa (ks.length=ys.length) (by rw[hks];simp);have hks1:ks.length<=1000:=dV;clear h v0 v2 v3 hr1 hr2 hks hkids hlen;have t64:((c0.toNat:Int) != 64)=true:=by have:=Ap h64;simpa using this
 clear h64;have L0:=@Aa (Qn5 w (c0::kr:List UInt8) text zs (w.alloc (.cells #[(c0::kr:List UInt8),text,.slice none 0 0,.slice none 0 0] 148)) (.slice none 0 0) [] 0) ⟨(Ao w.heap.size w).alloc (An _) _,Ee.new _ _,rfl⟩;go_enter func117,ntmps117;go_wp2_with fail;go_loopw [8] (fun ix wr=>∃(i:Nat) (A3:Option Addr) (c3:Nat) (xs:List (Nat × SV)),ix=(i:Int)/\i<=ys.length/\Hid (xs.length=i)/\Hid (Qn5 w (c0::kr:List UInt8) text zs wr (.slice A3 xs.length c3) xs i)) (fun ix _=>ys.length - (intOf ix).toNat)
 case atStart=>exact⟨0,none,0,[],rfl,ag _,rfl,L0.o⟩
 case round=>
  obtain⟨i,A3,c3,xs,rfl,hi,hxl,HL⟩:=hrel;have i0:(0:Int)<=(i:Int):=aH;have hx1:xs.length<=1000:=by have:=hxl.o;omega
  have p3:wr.cell? (bv,3)=some (.slice A2 ks.length c2):=(HL.o.bel.cell (p:=⟨bv,3,none⟩) hb).trans V3.o;have hbr:bv<wr.heap.size:=ac hb HL.o.bel.size;by_cases hlt:i<ys.length
  ·have i1:(i:Int)<(ks.length:Int):=dV;have hik:i<ks.length:=aH;obtain⟨B2,o2,rfl,hBl,hc2⟩:=Hr2.o.2.2 aH;have y2:w.cell? ⟨B2,o2+i,none⟩=some (.pointer (some ⟨(ks[i]'hik).1,0,none⟩)):=hc2 i _ (by rw[List.getElem?_eq_getElem (by simp[Dx];omega)];simp[Dx]);have Y2:=Aa ((HL.o.bel.cell (p:=⟨B2,o2+i,none⟩) hBl).trans y2);have hBr:B2<wr.heap.size:=ac hBl HL.o.bel.size;have hyi:(ks[i]'hik).2=ys[i]:=by have:=Hks.o;subst this;simp
   have Hk:=@Aa (Fl P w (ks[i]'hik).1 ys[i]) (hyi ▸ Hkids.o _ (ae _));generalize (ks[i]'hik).1=bx at *;have hzl:i<zs.length:=fe;have HC:=Aa (fun W (hW:Below w w W)=>HK.o i hlt hzl W bx hW (Hk.o.after hW));have Hzi:=@Aa (zs.take (i+1)=zs.take i++[zs[i]]) (List.take_succ_eq_append_getElem hzl);generalize zs[i]=z at *;clear y2 hc2 hyi;go_wp2_with fail;refine Jd [34,35,36,37,38,39,40,41,42,43,44,45,46,47,48,49,50,51,52,53,999]
    (fun ix v W=>match ix with|0=>v=w.heap.size|1=>v=w.heap.size|2=>v=w.heap.size|3=>v=(w,3)|4=>v=.slice A3 xs.length c3|5=>v=bv|6=>v=bv|7=>v=(bv,3)|8=>v=.slice (some ⟨B2,o2,none⟩) ks.length c2|9=>v=(i:Int)|10=>v=.pointer (some ⟨B2,o2+i,none⟩)|11=>v=bx|12=>v=xv|13=>v=(c0::kr:List UInt8)|14=>v=(kr:List UInt8)|18=>v=w.heap.size|19=>v=(w,3)|_=>True)
    (fun L U W=>P7 (w.heap.size+1) w.heap.size wr.drew (c0::kr:List UInt8) text (.slice none 0 0) A3 xs.length c3 [] xs z (L 15) (L 16) (L 17) (L 20) (U 15) (U 16) (U 17) W) (P7.start) ?_ ?_
   ·repeat (first|exact Ak.nil|(refine Ak.cons ?_ ?_;rotate_left))
    all_goals
     rintro L U W hL hpre HR Hdep K hK;first|(simp[Region.binds]at hpre;done)|simp[Region.binds]at hpre|clear hpre
    iterate 4
     ·exact hD
    ·have h17:L 17=false:=Bb Hdep.o 17 4 rfl hL;have hbe:=HR.o.be h17 (fun h=>by cases h5:L 15 with|true=>rfl|false=>exact absurd ((Bb Hdep.o 16 15 rfl h5).symm.trans h) aJ);have x3:=(hbe.cell (p:=⟨w.heap.size,3,none⟩) (by have:=HL.o.st.lt;simp;omega)).trans ((aB _ _).trans HL.o.st.c3);exact kL
    iterate 3
     ·exact hD
    ·have h11:L 11=false:=Bb Hdep.o 11 10 rfl (Bb Hdep.o 10 8 rfl hL);have h15:L 15=false:=Bb Hdep.o 15 11 rfl h11;have hW:=HR.o.s0 h15;subst hW;exact kL
    ·exact hD
    ·exact jg
    ·have h15:L 15=false:=Bb Hdep.o 15 11 rfl hL;have hW:=HR.o.s0 h15;subst hW;have x2:=Y2.o;exact kL
    iterate 2
     ·exact hD
    ·go_simp;rw[if_pos aH];go_simp;exact hK kr _ _ rfl Ac HR.o aI
    ·have h16:L 16=false:=Bb Hdep.o 16 15 rfl hL;have h17:L 17=false:=Bb Hdep.o 17 16 rfl h16;have h20:L 20=false:=Bb Hdep.o 20 17 rfl h17;have hW:=HR.o.s0 hL;subst hW;go_simp;refine(HC.o _ HL.o.bel.drew).mono ?_;rintro e w5 ⟨b5,rfl,hb5,hs5⟩;go_simp;exact hK _ _ _ Ac Ac (P7.put15 h16 h17 h20 hb5 hs5) aI
    ·have l15:L 15=true:=aL;have h17:L 17=false:=Bb Hdep.o 17 16 rfl hL;have h20:L 20=false:=Bb Hdep.o 20 17 rfl h17;obtain⟨b5,u15,hn⟩:=HR.o.put16 l15 hL h17 h20;simp only[u15];go_simp;exact hK _ _ _ Ac Ac hn (by simp[Act.put,hpre,u15])
    ·obtain⟨l4,u4⟩:L 4=true/\U 4=.slice A3 xs.length c3:=by
      exact kY
     have l16:L 16=true:=bB;have l15:L 15=true:=Np (Bb Hdep.o 16 15 rfl) l16;have h20:L 20=false:=Bb Hdep.o 20 17 rfl hL;obtain⟨W7,b5,hW,u16,hb7,hs7⟩:=HR.o.s2 l16 hL;subst hW;rw[if_pos cr];refine Fp W7 (.tmp 38) (.tmp 50) 146 rfl (w.heap.size+1) 76 (.pointer none) 1 8 underlying146 So rfl aJ [b5] rfl bh (.slice A3 xs.length c3) xs.length (Dx (xs.map (·.1))) u4 u16 (HL.o.st.after ((Ao _ _).drew.trans (hb7.mono aK))).row aU aH (HL.o.st.after ((Ao _ _).drew.trans (hb7.mono aK))).bs ?_;intro v6 w6 hown hg hwh;obtain⟨hn,A6,c6,e6⟩:=P7.put17 (u15:=U 15) (u16:=U 16) (HL.o.st.after (Ao _ _).drew) hb7 hs7 l15 l16 h20 hown hg hwh;exact lG
    iterate 2
     ·exact hD
    ·have l17:L 17=true:=bB;have l16:L 16=true:=Np (Bb Hdep.o 17 16 rfl) l17;have l15:L 15=true:=Np (Bb Hdep.o 16 15 rfl) l16;obtain⟨b5,A6,c6,e6,hS6,hb6⟩:=HR.o.s3 l17 hL;have x3:=hS6.c3;have x4:=hS6.bk.live 3;have x5:=hS6.lt;go_simp;exact hK undef _ _ Ac Ac (HR.o.put20 l15 l16 l17 hL (by rw[e6])) cB
   rintro L U W hL hφ hR;clear hφ;obtain⟨b5,A6,c6,hS6,hb6,_⟩:=hR.s4 (hL 20 aJ);have HS6:=Aa hS6;have HB6:=Aa (HL.o.bel.drew.trans hb6);clear hR hL hS6 hb6;have el:(xs++[(b5,z)]).length=xs.length+1:=aK;go_wp2_with fail;go_roundw
   case rel=>exact⟨i+1,A6,c6,xs++[(b5,z)],by go_num,by omega,(by show (xs++[(b5,z)]).length=i+1;have:=hxl.o;simp;omega),⟨HB6.o,by rw[el];exact HS6.o,by rw[Hzi.o,az,HL.o.eq];rfl⟩⟩
   case measure=>simp[intOf];omega
  ·have i1:¬((i:Int)<(ks.length:Int)):=dV;go_wp2_with fail;go_ret;refine⟨w.heap.size,rfl,HL.o.bel,?_⟩;have hd:=HL.o.st.done (kind:=c0::kr) (text:=text) aK aH;have e:xs.map (·.2)=zs:=by rw[HL.o.eq,au fe]
   rw[e]at hd;exact hd
structure Vm(w1:World)(cs:List Value)(al st:Bool)(ual:Value)(W:World):Prop where
 be:Below w1 w1 W
 a:al=true->∃B,ual=.pointer (some ⟨B,0,none⟩)/\w1.heap.size<=B/\B<W.heap.size/\W.there B 0 4/\(st=true->W.rangeAt B 0 cs)
section
variable {w1 W W':World} {cs:List Value} {al st:Bool} {ual:Value} {B:Nat}
theorem Vm.start:Vm w1 cs false st ual w1:=⟨Ao _ _,fun h=>Bool.noConfusion h⟩
theorem Vm.grow(h:Vm w1 cs al st ual W)(hb:Below W W W'):Vm w1 cs al st ual W':=
 ⟨h.be.trans (hb.mono h.be.size),fun ha=>by obtain⟨B,e,h1,h2,h3,h4⟩:=h.a ha;exact⟨B,e,h1,ac h2 hb.size,Aj h3 h2 hb,fun hs=>Ah (h4 hs) h2 hb⟩⟩
theorem Vm.alloc(h:Vm w1 cs al st ual W)(hst:st=false)(T:TypeId):Vm w1 cs true st W.heap.size (W.alloc (.cells #[.int .i64 0,a6,a6,a6] T)):=
 ⟨h.be.alloc h.be.size _,fun _=>⟨_,rfl,h.be.size,by simp,Bz W [.int .i64 0,a6,a6,a6] T,fun h=>absurd (hst.symm.trans h) aJ⟩⟩
theorem Vm.store(h:Vm w1 cs al st ual W)(ha:al=true)(hc:cs.length=4):∃B,ual=.pointer (some ⟨B,0,none⟩)/\W.there B 0 4/\Vm w1 cs al true ual (W.setCells B 0 cs):=by
 obtain⟨B,e,h1,h2,h3,_⟩:=h.a ha;exact⟨B,e,h3,Ai _ h1 _ _ _ h.be,fun _=>⟨B,e,h1,by rw[Ch];exact h2,ai h3 _ _ _,fun _=>aa _ _ _ _ (by rw[hc];exact h3)⟩⟩
end
def LnR(P:Nat->Prop)(w:World)(xv:Value)(S:List Ty)(fs:List Fd)(text:List UInt8)(ys:List SV)(i g:Nat)(r:Option (Nat × Option SV)):Prop:=
 (Au fs g=none/\r=none)\/∃f,Au fs g=some f/\f.tag<=200/\(Ax f.kind).length<=100/\((ys.length<=i/\r=some (f.tag,none))\/∃(hi:i<ys.length) (z:SV),
  (∀W bx,Below w w W->Fl P W bx ys[i]->Calls prog 117 #[.pointer (some ⟨bx,0,none⟩),xv,.string ⟨(Ax f.kind).toArray⟩] W (Vz z W)) /\
  ((text≠[82]/\r=some (f.tag,some z))\/(text=[82]/\∃lz,(∀(Q:Nat->Prop) W b,Fl Q W b z->Calls prog 48 #[b] W (Gm lz W)) /\
   (∀W,Below w w W->Calls prog 155 #[xv,.agg #[(f.tag:Int),.string ⟨f.name.toArray⟩,.string ⟨(Ax f.kind).toArray⟩,.string ⟨f.given.toArray⟩]] W (Fz (G9 S f) W))/\((lz=G9 S f/\r=none)\/(lz≠G9 S f/\r=some (f.tag,some z))))))
structure Qeg(w:World)(base T9:Nat)(y0 y1 y2 h0 h1:Value)(rs:List (Nat × Option SV))(wr:World)(tv kv:Value)(xs:List (Nat × SV)):Prop where
 bel:Below w w wr
 b0:wr.cell? (T9,0)=some y0
 b1:wr.cell? (T9,1)=some y1
 b2:wr.cell? (T9,2)=some y2
 lt:T9<base
 gt:w.heap.size<T9
 st:Ee base w.heap.size wr h0 h1 tv tv kv kv (rs.map (·.1)) xs
 eq:xs.map (·.2)=rs.filterMap (·.2)
theorem Qeg.after{w wr W:World}{base T9:Nat}{y0 y1 y2 h0 h1 tv kv:Value}{rs:List (Nat × Option SV)}{xs:List (Nat × SV)}(h:Qeg w base T9 y0 y1 y2 h0 h1 rs wr tv kv xs)(hb:Below wr wr W):Qeg w base T9 y0 y1 y2 h0 h1 rs W tv kv xs:=by
 have hl:T9<wr.heap.size:=ac h.lt h.st.bs;have hc:∀o,W.cell? ⟨T9,o,none⟩=wr.cell? ⟨T9,o,none⟩:=fun o=>hb.cell (p:=⟨T9,o,none⟩) hl;exact⟨h.bel.trans (hb.mono h.bel.size),(hc _).trans h.b0,(hc _).trans h.b1,(hc _).trans h.b2,h.lt,h.gt,h.st.after hb,h.eq⟩
theorem Qe0{base B:Nat}{W:World}{h0 h1:Value}(h:Ee base B W h0 h1 (.slice none 0 0) (.slice none 0 0) (.slice none 0 0) (.slice none 0 0) [] []):Ee W.heap.size B W h0 h1 (.slice none 0 0) (.slice none 0 0) (.slice none 0 0) (.slice none 0 0) [] []:=
 ⟨h.lt,An _,h.lt,h.bk,h.c0,h.c1,h.c2,h.c3,World.ownsRow_nil _ _ _ _,World.ownsRow_nil _ _ _ _,by simp⟩
theorem Qeg.push{w W9 W:World}{base T9:Nat}{y0 y1 y2 h0 h1 tv' kv kv':Value}{rs:List (Nat × Option SV)}{xs xs':List (Nat × SV)}{g:Nat}{o:Option SV}(h:Qeg w base T9 y0 y1 y2 h0 h1 rs W9 tv' kv xs)
  (hb:Below w W9 W) (hc:∀o,W.cell? ⟨T9,o,none⟩=W9.cell? ⟨T9,o,none⟩) {tv:Value} (hS:Ee base w.heap.size W h0 h1 tv tv kv' kv' (rs.map (·.1)++[g]) xs') (he:xs'.map (·.2)=rs.filterMap (·.2)++o.toList):
  Qeg w base T9 y0 y1 y2 h0 h1 (rs++[(g,o)]) W tv kv' xs':=
 ⟨h.bel.trans hb,(hc _).trans h.b0,(hc _).trans h.b1,(hc _).trans h.b2,h.lt,h.gt,by simpa using hS,by rw[he,List.filterMap_append];cases o<;>simp⟩
theorem Qez(P:Nat->Prop)(bv:Nat)(xv:Value)(hxv:xv.oneCell'=true)(w:World)(kr:List UInt8)(hkl:kr.length<=100)(s0:Int)(nm:List UInt8)(A9:Option Addr)(c9:Nat)(fs:List Fd)(hfs:Dq w (.slice A9 fs.length c9) fs)(okr:Bool)(S:List Ty)(ka text:List UInt8)(gs:List Nat)(ys:List SV)(hgl:∀g∈gs,g<=1000)(h:Fl P w bv (.mk ka text gs ys))
  (hrf:∀W,Below w w W->Calls prog 101 #[xv,(64::kr:List UInt8)] W fun e w'=>e=.returned (.tuple #[.agg #[.int .u8 s0,nm,.slice A9 fs.length c9],.bool okr])/\Below W W w')
  (res:List (Option (Nat × Option SV))) (hres:res.length=gs.length) (HK:∀i (hi:i<gs.length) (hj:i<res.length),LnR P w xv S fs text ys i gs[i] res[i]):
  Calls prog 117 #[bv,xv,(64::kr:List UInt8)] w (Vz (.mk (64::kr) text ((res.filterMap id).map (·.1)) ((res.filterMap id).filterMap (·.2))) w):=by
 have HK:=Aa HK;have Hres:=Aa hres;have Hrf:=Aa hrf;have Hfs:=Aa hfs;have Hgl:=Aa hgl;obtain⟨A1,A2,c1,c2,ks,hb,hP,v0,v1,v2,v3,hr1,hr2,hg1,hk1,hks,hkids⟩:=h.open_;have Hks:=Aa hks;have Hkids:=Aa hkids;have Hr1:=Aa hr1;have Hr2:=Aa hr2;have V1:=Aa v1;have V2:=Aa v2;have V3:=Aa v3;have hkl2:=@Aa (ks.length=ys.length) (by rw[hks];simp);clear h v0 v2 v3 hr1 hr2 hks hkids hres hrf hfs hgl;have t64:((((64:UInt8).toNat:Nat):Int) != 64)=false:=rfl;go_enter func117,ntmps117;go_wp2_with fail;refine(Hrf.o _ ((Ao w.heap.size w).alloc (An _) _)).mono ?_;rintro e w1 ⟨rfl,hb1⟩;have hz1:=hb1.size;simp only[World.size_alloc]at hz1
 have L0:=Aa (show ∀W,W=w1.alloc (.cells #[.int .u8 s0,nm,.slice A9 fs.length c9] 143)->Qeg w W.heap.size w1.heap.size (.int .u8 s0) nm (.slice A9 fs.length c9) (64::kr:List UInt8) text [] W (.slice none 0 0) (.slice none 0 0) []from by
  rintro W rfl;have hs:=((Ee.new (W:=w) (T:=148) (64::kr:List UInt8) text).after hb1).after ((Ao w1.heap.size w1).alloc (An _) (.cells #[.int .u8 s0,nm,.slice A9 fs.length c9] 143));exact⟨(((Ao w.heap.size w).alloc (An _) _).trans (hb1.mono aK)).alloc aH _,by go_simp,by go_simp,by go_simp,by simp,by omega,Qe0 hs,rfl⟩)
 clear hb1;go_upto_region 9 with fail
 obtain⟨W2,hW2⟩:∃W2,W2=w1.alloc (.cells #[.int .u8 s0,nm,.slice A9 fs.length c9] 143):=⟨_,rfl⟩
 have L1:=Aa (L0.o _ hW2);rw[<-hW2];clear hW2 L0;generalize w1.heap.size=T9 at *;go_wp2_with fail;go_loopw [11] (fun ix wr=>∃(i:Nat) (A4:Option Addr) (c4:Nat) (A3:Option Addr) (c3:Nat) (rs:List (Nat × Option SV)) (xs:List (Nat × SV)),ix=(i:Int)/\i<=gs.length/\Hid (rs=(res.take i).filterMap id)/\rs.length<=i/\xs.length<=i/\Hid (Qeg w W2.heap.size T9 (.int .u8 s0) nm (.slice A9 fs.length c9) (64::kr:List UInt8) text rs wr (.slice A4 rs.length c4) (.slice A3 xs.length c3) xs)) (fun ix _=>gs.length - (intOf ix).toNat)
 case atStart=>exact⟨0,none,0,none,0,[],[],rfl,ag _,rfl,An _,An _,L1.o⟩
 case round=>
  obtain⟨i,A4,c4,A3,c3,rs,xs,rfl,hi,Hrs,hrl,hxl,HL⟩:=hrel;have i0:(0:Int)<=(i:Int):=aH;have p2:wr.cell? (bv,2)=some (.slice A1 gs.length c1):=(HL.o.bel.cell (p:=⟨bv,2,none⟩) hb).trans V2.o;have hbr:bv<wr.heap.size:=ac hb HL.o.bel.size;by_cases hlt:i<gs.length
  ·have i1:(i:Int)<(gs.length:Int):=aH;obtain⟨B1,o1,rfl,hBl,hc2⟩:=Hr1.o.2.2 aH;have Y2:=Aa ((HL.o.bel.cell (p:=⟨B1,o1+i,none⟩) hBl).trans (hc2 i _ (show (De gs)[i]?=some (.int .i64 (gs[i]:Int))from by simp[De,hlt])));have hBr:B1<wr.heap.size:=ac hBl HL.o.bel.size;have hrl2:i<res.length:=by have:=Hres.o;omega
   have HR:=Aa (HK.o i hlt hrl2);have Htk:=@Aa (res.take (i+1)=res.take i++[res[i]]) (List.take_succ_eq_append_getElem hrl2);have hgi:=Hgl.o _ (ae hlt);generalize gs[i]=g at *;generalize res[i]=r at *;have HCf:=Aa (fun W (hW:Below w w W)=>Sx (.int .u8 s0) nm (.slice A9 fs.length c9) fs g W (Hfs.o.below hW) aH);clear hc2;obtain⟨o,hoo⟩:∃o,Au fs g=o:=⟨_,rfl⟩
   rw[hoo]at HCf;obtain⟨n0,a0,b0,d0,ok,hv,hof⟩:∃(n0:Nat) (a0 b0 d0:List UInt8) (ok:Bool),sfR o=.tuple #[.agg #[(n0:Int),a0,b0,d0],.bool ok]/\((o=none/\ok=false)\/∃f,o=some f/\ok=true/\n0=f.tag/\a0=f.name/\b0=Ax f.kind/\d0=f.given):=by
    cases o with
    |none=>exact⟨0,[],[],[],false,rfl,.inl ⟨rfl,rfl⟩⟩
    |some f=>exact⟨f.tag,f.name,Ax f.kind,f.given,true,rfl,.inr ⟨f,rfl,rfl,rfl,rfl,rfl,rfl⟩⟩
   rw[hv]at HCf;have Hof:=Aa hof;have Hoo:=Aa hoo;clear hv hof hoo;go_wp2_with fail;refine Jd [71,72,73,74,75,76,77,78,79,70,80,81,12,999,13]
    (fun ix v W=>match ix with|0=>v=.agg #[.int .u8 s0,nm,.slice A9 fs.length c9]|1=>v=bv|2=>v=bv|3=>v=(bv,2)|4=>v=.slice (some ⟨B1,o1,none⟩) gs.length c1|5=>v=(i:Int)|6=>v=.pointer (some ⟨B1,o1+i,none⟩)|7=>v=(g:Int)|8=>v=.tuple #[.agg #[(n0:Int),a0,b0,d0],.bool ok]|9=>v=.tuple #[.agg #[(n0:Int),a0,b0,d0],.bool ok]|10=>v=.agg #[(n0:Int),a0,b0,d0]|11=>v=.bool ok|14=>v=.bool ok|_=>True)
    (fun L U W=>Vm wr.drew [(n0:Int),a0,b0,d0] (L 12) (L 13) (U 12) W) (Vm.start) ?_ ?_
   ·repeat (first|exact Ak.nil|(refine Ak.cons ?_ ?_;rotate_left))
    all_goals
     rintro L U W hL hpre HR Hdep K hK;have hbe:=HR.o.be;have t0:=(hbe.cell (p:=⟨T9,0,none⟩) dL).trans ((aB _ _).trans HL.o.b0);have t1:=(hbe.cell (p:=⟨T9,1,none⟩) dL).trans ((aB _ _).trans HL.o.b1);have t2:=(hbe.cell (p:=⟨T9,2,none⟩) dL).trans ((aB _ _).trans HL.o.b2);have x2:=(hbe.cell (p:=⟨bv,2,none⟩) aM).trans ((aB _ _).trans p2);have x3:=(hbe.cell (p:=⟨B1,o1+i,none⟩) aM).trans ((aB _ _).trans Y2.o);first|(simp[Region.binds]at hpre;done)|simp[Region.binds]at hpre|clear hpre
    iterate 8
     ·exact hD
    ·go_simp;refine(HCf.o _ (HL.o.bel.drew.trans (hbe.mono (by have:=HL.o.bel.size;simp;omega)))).mono ?_;rintro e w5 ⟨rfl,hb5⟩;go_simp;exact hK _ _ _ rfl Ac (HR.o.grow hb5) aI
    iterate 3
     ·exact hD
    ·have h13:L 13=false:=Bb Hdep.o 13 12 rfl hL;go_simp;exact hK (.pointer (some ⟨W.heap.size,0,none⟩)) _ _ Ac Ac (HR.o.alloc h13 _) aI
    ·have l12:L 12=true:=by first|exact hpre.1|exact hpre.1.1
     have u10:U 10=.agg #[(n0:Int),a0,b0,d0]:=by first|exact hpre.2.2|exact hpre.2.1.2
     obtain⟨B,u12,ht,hn⟩:=HR.o.store l12 rfl;rw[if_pos cr];refine wp_store_mid 157 _ _ rfl B 0 ([(n0:Int),a0,b0,d0]:List Value).toArray u12 u10 ht aN bh ?_;exact lK
    ·exact hD
   rintro L U W hL hφ hR;obtain⟨B12,u12,hB1,hB2,hB3,hrg⟩:∃B,U 12=.pointer (some ⟨B,0,none⟩)/\wr.heap.size<=B/\B<W.heap.size/\True/\W.rangeAt B 0 [(n0:Int),a0,b0,d0]:=by
    obtain⟨B,e,q1,q2,_,q4⟩:=hR.a (hL 12 aJ);exact⟨B,e,by simpa using q1,q2,Ac,q4 (hL 13 aJ)⟩
   have u14:U 14=.bool ok:=hφ 14 aJ;simp only[u12,u14];have hbW:Below wr wr W:=(Ao _ _).drew.trans (hR.be.mono aK);have HL2:=Aa (HL.o.after hbW);have Hrg:=Aa hrg;have hz2:=hbW.size;clear hR hL hφ u12 u14 hrg hbW p2;obtain⟨W3,rfl⟩:∃W3:World,W3=W:=⟨_,rfl⟩
   rcases HR.o with⟨hfn,hrn⟩|⟨f,hff,hf2,hfk,hrest⟩
   ·have hok:ok=false:=by
     rcases Hof.o with⟨_,h⟩|⟨f,h,_⟩
     ·exact h
     rw[Hoo.o]at hfn;rw[h]at hfn;cases hfn
    subst hok;have Hn:=@Aa (rs=(res.take (i+1)).filterMap id) (by rw[Htk.o,List.filterMap_append,<-Hrs.o,hrn];simp);clear hfn hrn;go_wp2_with fail;go_roundw
    case rel=>exact⟨i+1,A4,c4,A3,c3,rs,xs,by go_num,by omega,Hn.o,by omega,by omega,HL2.o⟩
    case measure=>simp[intOf];omega
   have hoe:ok=true/\n0=f.tag/\a0=f.name/\b0=Ax f.kind/\d0=f.given:=by
    rcases Hof.o with⟨h,_⟩|⟨f',h,h1,h2,h3,h4,h5⟩
    ·rw[Hoo.o]at hff;rw[h]at hff;cases hff
    rw[Hoo.o]at hff;rw[h]at hff;injection hff with hff;subst hff;exact⟨h1,h2,h3,h4,h5⟩
   obtain⟨rfl,rfl,rfl,rfl,rfl⟩:=hoe;have Hrest:=Aa hrest;clear hff hrest Hof Hoo HR;have Hfk:=@Aa (∃kf,kf=Ax f.kind) ⟨_,rfl⟩;obtain⟨kf,hkf⟩:=Hfk.o;have HKf:=Aa hkf;rw[<-hkf]at Hrg hfk;clear hkf Hfk;have p3:W3.cell? (bv,3)=some (.slice A2 ks.length c2):=(HL2.o.bel.cell (p:=⟨bv,3,none⟩) hb).trans V3.o;have hb3:bv<W3.heap.size:=aH;rcases Hrest.o with⟨hge,hre⟩|⟨hyl,z,hlf,hway⟩
   ·have j1:¬((i:Int)<(ks.length:Int)):=dV;have Hn:=@Aa (rs++[(f.tag,none)]=(res.take (i+1)).filterMap id) (by rw[Htk.o,List.filterMap_append,<-Hrs.o,hre];simp);have HLa:=HL2;clear hge hre Hrest;have Y9:=Aa (by simpa using Ab Hrg.o 0 rfl:W3.cell? (B12,0)=(f.tag:Int));go_upto_region 18 with fail
    refine Jd [125,126,127,128,129,130,131,132,133,134,135,999]
     (fun ix v W=>match ix with|0=>v=w.heap.size|1=>v=w.heap.size|2=>v=w.heap.size|3=>v=(w,2)|4=>v=.slice A4 rs.length c4|5=>v=B12|6=>v=(f.tag:Int)|9=>v=w.heap.size|10=>v=(w,2)|_=>True)
     (fun L U W=>Fr W2.heap.size w.heap.size W3.drew (64::kr:List UInt8) text A4 rs.length c4 (.slice A3 xs.length c3) (rs.map (·.1)) xs [] f.tag (L 7) (L 8) (L 11) (U 7) (U 8) W) (Fr.start) ?_ ?_
    ·repeat (first|exact Ak.nil|(refine Ak.cons ?_ ?_;rotate_left))
     all_goals
      rintro L U W hL hpre HR Hdep K hK;first|(simp[Region.binds]at hpre;done)|simp[Region.binds]at hpre|clear hpre
     iterate 4
      ·exact hD
     ·have h8:L 8=false:=Bb Hdep.o 8 4 rfl hL;have x2:=((HR.o.be h8).cell (p:=⟨w.heap.size,2,none⟩) (by have:=HLa.o.st.lt;simp;omega)).trans ((aB _ _).trans HLa.o.st.c2);exact kL
     ·exact hD
     ·exact iL
     ·exact iI
     ·obtain⟨lv,uv⟩:L 4=true/\U 4=.slice A4 rs.length c4:=by
       exact kY
      have l7:L 7=true:=by
       exact lE
      have h11:L 11=false:=Bb Hdep.o 11 8 rfl hL;obtain⟨hW,u7⟩:=HR.o.p1 l7 hL;subst hW;rw[if_pos cr];have HSd:=HLa.o.st.after (Ao _ _).drew;refine Fp W3.drew (.tmp 129) (.tmp 132) 32 rfl W2 3 (.int .i64 0) 1 8 underlying32 Zb rfl aJ [(f.tag:Int)] rfl bh (.slice A4 rs.length c4) rs.length (De (rs.map (·.1))) uv u7 (by simpa using HSd.tags) aU aH HSd.bs ?_;exact lL
     iterate 2
      ·exact hD
     ·exact iy
    rintro L U W hL hφ hR;clear hφ;obtain⟨A6,c6,hS6,hb6,_⟩:=hR.p3 (hL 11 aJ);have hc6:=hR.p4 (hL 11 aJ);have el:(rs.map (·.1)++[f.tag]).length=(rs++[(f.tag,none)]).length:=aK;rw[el]at hS6;have HLn:=Aa (HLa.o.push (o:=none) ((Ao _ _).drew.trans hb6) (fun o=>hc6 T9 o HLa.o.lt (by have:=HLa.o.gt;omega)) hS6 (by rw[HLa.o.eq];simp));clear hR hL hS6 hb6 hc6 el;go_wp2_with fail;go_roundw
    case rel=>exact⟨i+1,A6,c6,_,_,rs++[(f.tag,none)],xs,by go_num,by omega,Hn.o,by simp;omega,by first|(simp;omega)|omega,HLn.o⟩
    case measure=>simp[intOf];omega
   have j1:(i:Int)<(ks.length:Int):=dV;have hik:i<ks.length:=aH;obtain⟨B2,o2,rfl,hBl2,hc2⟩:=Hr2.o.2.2 aH;have q2:=hc2 i _ (show (Dx (ks.map (·.1)))[i]?=some (.pointer (some ⟨ks[i].1,0,none⟩))from by simp[Dx,hik]);have Y3:=Aa ((HL2.o.bel.cell (p:=⟨B2,o2+i,none⟩) hBl2).trans q2);have hB2r:B2<W3.heap.size:=ac hBl2 HL2.o.bel.size;have hyi:(ks[i]'hik).2=ys[i]:=by have:=Hks.o;subst this;simp
   have Hk:=@Aa (Fl P w (ks[i]'hik).1 ys[i]) (hyi ▸ Hkids.o _ (ae _));generalize (ks[i]'hik).1=bx at *;have HC:=Aa (fun W (hW:Below w w W)=>hlf W bx hW (Hk.o.after hW));rw[<-HKf.o]at HC;have Hway:=Aa hway;have hBk:bv<W3.heap.size:=hb3;have Y12:=Aa (by simpa using Ab Hrg.o 2 rfl:W3.cell? (B12,2)=some (.string ⟨kf.toArray⟩));have P3:=Aa p3;clear hc2 q2 hyi hlf hway Hrest;go_upto_region 15 with fail
   clear p3;refine Jd [91,92,93,94,95,96,97,98,99,100,101,14]
    (fun ix v W=>match ix with|0=>v=bv|1=>v=bv|2=>v=(bv,3)|3=>v=.slice (some ⟨B2,o2,none⟩) ks.length c2|4=>v=(i:Int)|5=>v=.pointer (some ⟨B2,o2+i,none⟩)|6=>v=bx|7=>v=xv|8=>v=(B12,2)|9=>v=.string ⟨(kf:List UInt8).toArray⟩|_=>True)
    (fun L U W=>(L 10=false->W=W3.drew)/\(L 10=true->∃b5,U 10=.pointer (some ⟨b5,0,none⟩)/\Below W3.drew.heap.size W3.drew W/\Fl (fun c=>W3.drew.heap.size<=c) W b5 z/\(L 11=true->U 11=.pointer (some ⟨b5,0,none⟩)))) (⟨fun _=>rfl,fun h=>Bool.noConfusion h⟩) ?_ ?_
   ·repeat (first|exact Ak.nil|(refine Ak.cons ?_ ?_;rotate_left))
    all_goals
     rintro L U W hL hpre HR Hdep K hK;first|(simp[Region.binds]at hpre;done)|simp[Region.binds]at hpre|clear hpre
    iterate 3
     ·exact hD
    ·have h10:L 10=false:=Bb Hdep.o 10 6 rfl (Bb Hdep.o 6 5 rfl (Bb Hdep.o 5 3 rfl hL));have hW:=HR.o.1 h10;subst hW;have x3:=P3.o;exact kL
    iterate 2
     ·exact hD
    ·have h10:L 10=false:=Bb Hdep.o 10 6 rfl hL;have hW:=HR.o.1 h10;subst hW;have x3:=Y3.o;exact kL
    iterate 2
     ·exact hD
    ·have h10:L 10=false:=Bb Hdep.o 10 9 rfl hL;have hW:=HR.o.1 h10;subst hW;have x3:=Y12.o;exact kL
    ·have h11:L 11=false:=Bb Hdep.o 11 10 rfl hL;have hW:=HR.o.1 hL;subst hW;go_simp;refine(HC.o _ HL2.o.bel.drew).mono ?_;rintro e w5 ⟨b5,rfl,hb5,hs5⟩;go_simp;exact hK _ _ _ Ac Ac ⟨fun h=>by simp at h,fun _=>⟨b5,rfl,hb5,hs5,fun h=>absurd (h11.symm.trans aR) aJ⟩⟩ aI
    ·have l10:L 10=true:=aL;obtain⟨b5,u10,hb5,hs5,_⟩:=HR.o.2 l10;go_simp;exact hK (U 10) _ _ Ac Ac ⟨fun h=>absurd (l10.symm.trans h) aJ,fun _=>⟨b5,u10,hb5,hs5,fun _=>u10⟩⟩ (by simp[Act.put,hpre,u10])
   rintro L U W hL hφ hR;clear hφ;obtain⟨b5,e5,hb5,hs5,u11⟩:=hR.2 (hL 10 aJ);have u11:=u11 (hL 11 aJ);simp only[u11];have hb35:Below W3 W3 W:=(Ao _ _).drew.trans (hb5.mono aK);have HL5:=Aa (HL2.o.after hb35);have Hrg5:=Aa (Ah Hrg.o hB2 hb35);have hz5:=hb35.size;have Hs5:=Aa hs5;have V15:=Aa ((HL5.o.bel.cell (p:=⟨bv,1,none⟩) hb).trans v1);clear hR hL u11 hb5 hs5 e5 hb35;obtain⟨W5,rfl⟩:∃W5:World,W5=W:=⟨_,rfl⟩
   go_upto_region 16 with fail
   go_cut [114]from 102 to 115 (fun bt wx=>Hid (Below W5 W5 wx)/\((bt=.bool true/\r=none)\/(bt=.bool false/\r=some (f.tag,some z))))
   case first=>
    rcases Hway.o with⟨hnr,hrr⟩|⟨htx,lz,hO,hSt,hr⟩
    ·have x1:=V15.o;have tR:(text == [82])=false:=by simpa using hnr
     have Hrr:=Aa hrr;clear hnr hrr;go_quiet (fail)
     go_wp2_with fail;go_meet
     exact⟨below_drewN (Ao _ _) _,.inr ⟨rfl,Hrr.o⟩⟩
    ·have HO:=Aa (fun W (hW:Below W5 W5 W)=>hO _ W b5 (Hs5.o.after hW));have HS:=Aa (fun W (hW:Below W5 W5 W)=>hSt W (HL5.o.bel.trans (hW.mono HL5.o.bel.size)));rw[<-HKf.o]at HS;have Yr:=Aa (Ab Hrg5.o);have Y50:=Aa (by simpa using Ab Hrg5.o 0 rfl:W5.cell? (B12,0)=(f.tag:Int));have Y51:=Aa (by simpa using Ab Hrg5.o 1 rfl:W5.cell? (B12,1)=some (.string ⟨f.name.toArray⟩));have Y52:=Aa (by simpa using Ab Hrg5.o 2 rfl:W5.cell? (B12,2)=some (.string ⟨kf.toArray⟩));have Y53:=Aa (by simpa using Ab Hrg5.o 3 rfl:W5.cell? (B12,3)=some (.string ⟨f.given.toArray⟩));have Hr:=Aa hr;generalize hov:G9 S f=ov at *;have hB5:B12<W5.heap.size:=aH;have hb5v:bv<W5.heap.size:=aH;clear hO hSt hr hov Yr;by_cases hlo:lz=ov
     ·have hpe:(lz == ov)=true:=by simpa using hlo
      have Hrn:=@Aa (r=none) (by rcases Hr.o with⟨_,h⟩|⟨h,_⟩;exact h;exact absurd hlo h);clear hlo;subst htx;refine Jd [102,103,104,105,106,107,108,109,110,111,112,113,114]
       (fun ix v W=>match ix with|0=>v=bv|1=>v=bv|2=>v=(bv,1)|3=>v=([82]:List UInt8)|4=>v=.bool true|5=>v=.bool true|6=>v=.pointer (some ⟨b5,0,none⟩)|7=>v=(lz:List UInt8)|8=>v=xv|9=>v=.agg #[(f.tag:Int),.string ⟨f.name.toArray⟩,.string ⟨kf.toArray⟩,.string ⟨f.given.toArray⟩]|10=>v=(ov:List UInt8)|11=>v=.bool true|12=>v=.bool true|_=>True)
       (fun L U W=>Below W5.drew.heap.size W5.drew W) (Ao _ _) ?_ ?_
      ·exact hJ
      rintro L U W hL hφ hR;have e12:U 12=.bool true:=hφ 12 aJ;simp only[e12];clear hφ;go_wp2_with fail;go_meet
      exact⟨(Ao _ _).drew.trans (hR.mono aK),.inl ⟨rfl,Hrn.o⟩⟩
     have hpe:(lz == ov)=false:=by simpa using hlo
     have Hrn:=@Aa (r=some (f.tag,some z)) (by rcases Hr.o with⟨h,_⟩|⟨_,h⟩;exact absurd h hlo;exact h);clear hlo;subst htx;refine Jd [102,103,104,105,106,107,108,109,110,111,112,113,114]
      (fun ix v W=>match ix with|0=>v=bv|1=>v=bv|2=>v=(bv,1)|3=>v=([82]:List UInt8)|4=>v=.bool true|5=>v=.bool true|6=>v=.pointer (some ⟨b5,0,none⟩)|7=>v=(lz:List UInt8)|8=>v=xv|9=>v=.agg #[(f.tag:Int),.string ⟨f.name.toArray⟩,.string ⟨kf.toArray⟩,.string ⟨f.given.toArray⟩]|10=>v=(ov:List UInt8)|11=>v=.bool false|12=>v=.bool false|_=>True)
      (fun L U W=>Below W5.drew.heap.size W5.drew W) (Ao _ _) ?_ ?_
     ·exact hJ
     rintro L U W hL hφ hR;have e12:U 12=.bool false:=hφ 12 aJ;simp only[e12];clear hφ;go_wp2_with fail;go_meet
     exact⟨(Ao _ _).drew.trans (hR.mono aK),.inr ⟨rfl,Hrn.o⟩⟩
   case rest=>
    obtain⟨Hbc,⟨rfl,hrr⟩|⟨rfl,hrr⟩⟩:=hcut
    ·have Hn:=@Aa (rs=(res.take (i+1)).filterMap id) fI;have HL6:=Aa (HL5.o.after Hbc.o);clear hrr;go_wp2_with fail;go_roundw
     case rel=>exact⟨i+1,A4,c4,A3,c3,rs,xs,by go_num,by omega,Hn.o,by omega,by omega,HL6.o⟩
     case measure=>simp[intOf];omega
    ·have Hn:=@Aa (rs++[(f.tag,some z)]=(res.take (i+1)).filterMap id) fI;obtain⟨W6,rfl⟩:∃W6:World,W6=wc:=⟨_,rfl⟩
     have HL6:=Aa (HL5.o.after Hbc.o)
     have HKd:=Aa (show Pg W2.heap.size (.slice A4 rs.length c4) (.slice A3 xs.length c3) W6 (b5,z)from by
      have h1:=(HL2.o.after (Ao _ _).drew).st.kid (Hs5.o.after Hbc.o);exact h1)
     have Y60:=Aa ((Hbc.o.cell (p:=⟨B12,0,none⟩) (show B12<W5.heap.size by omega)).trans (by simpa using Ab Hrg5.o 0 rfl:W5.cell? (B12,0)=(f.tag:Int)));have hz6:=Hbc.o.size;have s3:=HL6.o.st.c3;have s4:=HL6.o.st.lt;have hx5:xs.length<=1000:=aH;clear hrr;go_wp2_with (at_builtin;go_loud (refine Ff _ rfl _ _ 146 rfl W2 76 (.pointer none) 8 underlying146 So rfl W6 (.pointer (some ⟨b5,0,none⟩)) rfl rfl (.slice A3 xs.length c3) xs.length (Dx (xs.map (·.1))) rfl rfl HL6.o.st.row aU aH HL6.o.st.bs ?_;intro v7 w7 hown7 hg7 hwh7;obtain⟨A7,c7,e7,hS7,hb7⟩:=HL6.o.st.push (x:=(b5,z)) HKd.o hown7 hg7 hwh7;subst e7;have HG7:=Aa hg7;have HS7:=Aa hS7;have HB7:=Aa hb7;have r3:=hS7.c3;have f3:=hS7.bk.live 3;have hz7:=hS7.lt;clear hS7 hb7 hown7 hg7 hwh7))
     have el7:(xs++[(b5,z)]).length=xs.length+1:=aK;obtain⟨W9,hW9⟩:∃W9,W9=w7.setCell ⟨w.heap.size,3,none⟩ (.slice A7 (xs.length+1) c7):=⟨_,rfl⟩
     rw[<-hW9];have hcf:∀b o,b<W2.heap.size->b≠w.heap.size->W9.cell? ⟨b,o,none⟩=W6.cell? ⟨b,o,none⟩:=fun b o h1 h2=>by
      rw[hW9];exact((Am w7 w 3 _).cell_far ⟨b,o,none⟩ (ac h1 (ad HL6.o.st.bs HB7.o.size)) (by simp;exact h2)).trans (HB7.o.cell (p:=⟨b,o,none⟩) h1)
     have Hbw:=@Aa (Below w W6 W9) (by rw[hW9];exact(HB7.o.mono (Nat.le_of_lt HS7.o.hB)).setCell (p:=⟨w.heap.size,3,none⟩) (An w.heap.size) _);have hS9:Ee W2.heap.size w.heap.size W9 (64::kr:List UInt8) text (.slice A4 rs.length c4) (.slice A4 rs.length c4) (.slice A7 (xs++[(b5,z)]).length c7) (.slice A7 (xs++[(b5,z)]).length c7) (rs.map (·.1)) (xs++[(b5,z)]):=by rw[hW9,<-el7];exact HS7.o.set3
     have Y9:=Aa (show W9.cell? (B12,0)=(f.tag:Int)from by
      rw[hW9];refine((Am w7 w 3 _).cell (HG7.o.cell Y60.o fun e=>?_) (by simp;have:=HL.o.gt;have:=HL.o.lt;have:=HL.o.st.bs;omega));have:=(HL.o.st.row.lt B12 e.symm).2;omega)
     have Hcf:=Aa (fun o=>hcf T9 o HL6.o.lt (by have:=HL6.o.gt;omega));have hB9:B12<W9.heap.size:=by have:=Hbw.o.size;omega
     have Hs9:=Aa hS9;clear hcf hS9 hW9;go_upto_region 18 with fail
     refine Jd [125,126,127,128,129,130,131,132,133,134,135,999]
      (fun ix v W=>match ix with|0=>v=w.heap.size|1=>v=w.heap.size|2=>v=w.heap.size|3=>v=(w,2)|4=>v=.slice A4 rs.length c4|5=>v=B12|6=>v=(f.tag:Int)|9=>v=w.heap.size|10=>v=(w,2)|_=>True)
      (fun L U W=>Fr W2.heap.size w.heap.size W9.drew (64::kr:List UInt8) text A4 rs.length c4 (.slice A7 (xs++[(b5,z)]).length c7) (rs.map (·.1)) (xs++[(b5,z)]) [] f.tag (L 7) (L 8) (L 11) (U 7) (U 8) W) (Fr.start) ?_ ?_
     ·repeat (first|exact Ak.nil|(refine Ak.cons ?_ ?_;rotate_left))
      all_goals
       rintro L U W hL hpre HR Hdep K hK;first|(simp[Region.binds]at hpre;done)|simp[Region.binds]at hpre|clear hpre
      iterate 4
       ·exact hD
      ·have h8:L 8=false:=Bb Hdep.o 8 4 rfl hL;have x2:=((HR.o.be h8).cell (p:=⟨w.heap.size,2,none⟩) (by have:=Hs9.o.lt;simp;omega)).trans ((aB _ _).trans Hs9.o.c2);exact kL
      ·exact hD
      ·exact iL
      ·exact iI
      ·obtain⟨lv,uv⟩:L 4=true/\U 4=.slice A4 rs.length c4:=by
        exact kY
       have l7:L 7=true:=by
        exact lE
       have h11:L 11=false:=Bb Hdep.o 11 8 rfl hL;obtain⟨hW,u7⟩:=HR.o.p1 l7 hL;subst hW;rw[if_pos cr];have HSd:=Hs9.o.after (Ao _ _).drew;refine Fp W9.drew (.tmp 129) (.tmp 132) 32 rfl W2 3 (.int .i64 0) 1 8 underlying32 Zb rfl aJ [(f.tag:Int)] rfl bh (.slice A4 rs.length c4) rs.length (De (rs.map (·.1))) uv u7 (by simpa using HSd.tags) aU aH HSd.bs ?_;exact lL
      iterate 2
       ·exact hD
      ·exact iy
     rintro L U W hL hφ hR;clear hφ;obtain⟨A6,c6,hS6,hb6,_⟩:=hR.p3 (hL 11 aJ);have hc6:=hR.p4 (hL 11 aJ);have el:(rs.map (·.1)++[f.tag]).length=(rs++[(f.tag,some z)]).length:=aK;rw[el]at hS6;have HLn:=Aa (HL6.o.push (o:=some z) (Hbw.o.trans ((Ao _ _).drew.trans hb6)) (fun o=>(hc6 T9 o HL6.o.lt (by have:=HL6.o.gt;omega)).trans ((aB _ _).trans (Hcf.o o))) hS6 (by rw[az,HL6.o.eq];rfl));clear hR hL hS6 hb6 hc6 el;go_wp2_with fail;go_roundw
     case rel=>exact⟨i+1,A6,c6,_,_,rs++[(f.tag,some z)],(xs++[(b5,z)]),by go_num,by omega,Hn.o,by simp;omega,by first|(simp;omega)|omega,HLn.o⟩
     case measure=>simp[intOf];omega
  ·have i1:¬((i:Int)<(gs.length:Int)):=aH;go_wp2_with fail;go_ret;refine⟨w.heap.size,rfl,HL.o.bel,?_⟩;have hd:=HL.o.st.done (kind:=64::kr) (text:=text) aM aH;rw[HL.o.eq,Hrs.o,au (by have:=Hres.o;omega)]at hd;exact hd
end
end Go.Proofs.YtmmhmlmfhpfgbaaGreatDoor
