/- Texts joined. Conditions: as each theorem names them. -/
import Derived.Test.YtkgkoicedddkmaaGreatDoorC29
import Derived.Test.YtkgkoicedddkmaaGreatDoorC39
import Derived.Test.YtkgkoicedddkmaaGreatDoorC40
import Derived.Test.YtkgkoicedddkmaaGreatDoorC42
set_option maxRecDepth 100000
set_option maxHeartbeats 32000000
set_option linter.unusedVariables false
set_option linter.unusedSimpArgs false
namespace Go.Proofs.YtkgkoicedddkmaaGreatDoor
open Go.RowKit Go.Proofs.Tryz
theorem Qfc(w0:World)(xs:List (Ty × Value))(A:Option Addr)(c:Nat)(hsc:Jq w0 (.slice A xs.length c) xs)(hok:Jc (Af xs))(k:Kd)(t:Ty)(tv:Value)(hx:Dq xs k.name=some (t,tv))(h2:t.sort=82)(d:Nat)
  (H:∀k',Cw k'->SrC w0 (Af xs) (.slice A xs.length c) k' d):Qik w0 (.slice A xs.length c) (Af xs) k (An (Af xs) 20 d) (.int .u8 82) (.string ⟨t.name.toArray⟩) tv t.fields (d:Int):=by
 obtain⟨hm,_,hft⟩:=Dj hx
 have htS:t∈Af xs:=(Cu hft).1
 have hty:=hok.1.1 t htS
 have h9:t.sort≠69:=by rw[h2];decide
 have hfs:Er w0 tv t.fields:=by obtain⟨_,_,_,_,_,hf⟩:=hsc;exact hf _ hm
 have hfo:∀f∈t.fields,Sb t.sort f:=hty.2.2.1.1
 refine⟨fun s W hW hs=>?_,fun s f r h=>?_,fun k' s W hk' hW hs=>H k' hk' s W hW hs,fun k' s v r hk' h=>?_,fun k' s v r P b W hk' h hs hsv=>?_,fun s f r W h hW=>?_,fun ps hp=>?_⟩
 ·exact Vw _ _ _ _ rfl rfl rfl t.fields s W (hfs.below hW) (fun f hf=>(hfo f hf).2.1) (by omega)
 ·have hf:=(Qs (H4 h).2.1).1
  have h1:=hfo f hf
  have hk:=(h1.2.2.2.2 h9).1
  exact⟨hk,by have:=hk.2.2;omega,h1.1,h1.2.1⟩
 ·have:=(Fr hok.1.1 20 d k' s v r hk' h).2
  rw[this];simp
 ·obtain⟨h1,h3⟩:=Fr hok.1.1 20 d k' s v r hk' h
  exact Tx hok.1.1 P d k' v h1 hk' b W hsv (by rw[h3]at hs;simp at hs;omega)
 ·have hf:=(Qs (H4 h).2.1).1
  have h1:=hfo f hf
  exact Nc _ xs hok f W (hsc.below hW) (h1.2.2.2.2 h9).1 (hok.2.1 t htS h9 f hf) (Nat.le_trans (Jf h1) (by decide))
 rw[Q4]
 congr 1
 refine List.map_congr_left fun p hp'=>?_
 rw[Fs hft (hp p hp')]
theorem Qhn(w0:World)(xs:List (Ty × Value))(xv:Value)(hsc:Jq w0 xv xs)(hok:Jc (Af xs)):NmC w0 (Af xs) xv:=by
 obtain⟨A,c,rfl,h1000,_⟩:=hsc
 have hsc:Jq w0 (.slice A xs.length c) xs:=⟨A,c,rfl,h1000,by assumption⟩
 intro d hd H k hk hsg hb s hs W hW hne
 cases s with
 |nil=>exact absurd rfl hne
 |cons c0 z=>
  have hz:z.length<=1000000:=by simp at hs;omega
  have hkl:(Bj k).length<=100:=by have:=hk.2.2;omega
  have hq:An (Af xs) 20 (d+1) k (c0::z)=match Bp (Af xs) k.name with|none=>none|some t=>Ju (Af xs) (An (Af xs) 20 d) t (c0::z):=by
   conv=>lhs;unfold An
   rw[hsg]
   simp[hb]
   rfl
  have hrf:Kz xs k=Dq xs k.name:=if_pos ⟨hsg,hb⟩
  cases hx:Dq xs k.name with
  |none=>
   rw[hq,Qbu hx]
   refine Qhx (Af xs) k w0 (.slice A xs.length c) rfl (Bj k) hkl 0 ⟨#[]⟩ none 0 0 false c0 z _ W hW hz (fun W' hW'=>?_) (.inr (.inr (.inr ⟨rfl,rfl,rfl⟩)))
   have h:=Fu (.slice A xs.length c) xs k W' (hsc.below hW') hk
   rw[hrf,hx]at h
   exact h
  |some x=>
   obtain⟨t,tv⟩:=x
   obtain⟨hm,_,hft⟩:=Dj hx
   have htS:t∈Af xs:=(Cu hft).1
   have hty:=hok.1.1 t htS
   have hfs:Er w0 tv t.fields:=by obtain⟨_,_,_,_,_,hf⟩:=hsc;exact hf _ hm
   have hfo:∀f∈t.fields,Sb t.sort f:=hty.2.2.1.1
   have htg:∀f∈t.fields,f.tag<=200:=fun f hf=>(hfo f hf).2.1
   rw[hq,hft]
   simp only
   have hX:∀(h:(((t.sort.toNat:Int) == 82)=true/\((c0.toNat:Int) == 123)=false/\((t.sort.toNat:Int) == 69)=false/\((t.sort.toNat:Int) == 85)=false)\/(((t.sort.toNat:Int) == 82)=false/\((t.sort.toNat:Int) == 69)=true/\((c0.toNat:Int) == 35)=false/\((t.sort.toNat:Int) == 85)=false)\/(((t.sort.toNat:Int) == 82)=false/\((t.sort.toNat:Int) == 69)=false/\((t.sort.toNat:Int) == 85)=true/\((c0.toNat:Int) == 60)=false)\/(((t.sort.toNat:Int) == 82)=false/\((t.sort.toNat:Int) == 69)=false/\((t.sort.toNat:Int) == 85)=false)),Calls prog 68 #[.agg #[.slice A xs.length c],.string ⟨(c0::z:List UInt8).toArray⟩,.string ⟨(Bj k).toArray⟩,.int .i64 ((d+1:Nat):Int)] W (Bl (Af xs) k none W):=fun h=>by
    obtain⟨A5,c5,rfl,_⟩:=hfs
    refine Qhx (Af xs) k w0 (.slice A xs.length c) rfl (Bj k) hkl (t.sort.toNat:Int) ⟨t.name.toArray⟩ A5 t.fields.length c5 true c0 z _ W hW hz (fun W' hW'=>?_) h
    have h:=Fu (.slice A xs.length c) xs k W' (hsc.below hW') hk
    rw[hrf,hx]at h
    exact h
   have hbn:∀{c1:UInt8},c0≠c1->((c0.toNat:Int) == (c1.toNat:Int))=false:=fun h=>by have:=Am h;simpa using this
   rcases hty.1 with h9|h9|h9
   ·by_cases hc:c0=123
    ·subst hc
     have e:Ju (Af xs) (An (Af xs) 20 d) t (123::z)=Qdr (Af xs) (An (Af xs) 20 d) t.fields z:=by unfold Ju Qdr;rw[h9];simp[Ar];rfl
     rw[e]
     refine Qil w0 xs (.slice A xs.length c) rfl hsc k hk hsg hb t.name t.fields tv (by rw[hx,<-h9]) hfs htg d hd z W hW hz _ rfl _ fun W' hW'=>?_
     have hR:=Qfc w0 xs A c hsc hok k t tv hx h9 d H
     obtain⟨A5,c5,rfl,_⟩:=hfs
     exact sRec_walk w0 (.slice A xs.length c) rfl (Af xs) k hkl (An (Af xs) 20 d) t.name A5 c5 t.fields d hd hR z W' hW' hz _ rfl
    have e:Ju (Af xs) (An (Af xs) 20 d) t (c0::z)=none:=by unfold Ju;rw[h9];simp[Ar,hc]
    rw[e]
    exact hX (.inl (by rw[h9];exact⟨rfl,hbn hc,rfl,rfl⟩))
   ·by_cases hc:c0=60
    ·subst hc
     have h69:t.sort≠69:=by rw[h9];decide
     have e:Ju (Af xs) (An (Af xs) 20 d) t (60::z)=unL (An (Af xs) 20 d) (Fq t.fields z):=by
      unfold Ju Cy unL
      rw[h9,if_neg (by decide),if_pos rfl,Bq]
      simp only
      cases Fq t.fields z with
      |none=>rfl
      |some y=>
       obtain⟨f,r⟩:=y
       simp only
       cases Ar 61 r with
       |none=>rfl
       |some q=>
        simp only
        cases An (Af xs) 20 d f.kind q with
        |none=>rfl
        |some y=>rfl
     rw[e]
     exact Qip w0 xs (.slice A xs.length c) rfl hsc k hk hsg hb t.name t.fields tv (by rw[hx,<-h9]) hfs htg d hd z W hW hz _ rfl H (fun f hf=>((hfo f hf).2.2.2.2 h69).1) (by rw[hft,<-h9]) _ rfl
    have e:Ju (Af xs) (An (Af xs) 20 d) t (c0::z)=none:=by unfold Ju;rw[h9];simp[Ar,hc]
    rw[e]
    exact hX (.inr (.inr (.inl (by rw[h9];exact⟨rfl,rfl,rfl,hbn hc⟩))))
   by_cases hc:c0=35
   ·subst hc
    have e:Ju (Af xs) (An (Af xs) 20 d) t (35::z)=enL (Fq t.fields z):=by
     unfold Ju enL
     rw[h9,if_pos rfl,Bq]
     simp only
     cases Fq t.fields z<;>rfl
    rw[e]
    exact Qin w0 xs (.slice A xs.length c) rfl hsc k hk hsg hb t.name t.fields tv (by rw[hx,<-h9]) hfs htg d hd z W hW hz _ rfl
   have e:Ju (Af xs) (An (Af xs) 20 d) t (c0::z)=none:=by unfold Ju;rw[h9];simp[Ar,hc]
   rw[e]
   exact hX (.inr (.inl (by rw[h9];exact⟨rfl,rfl,hbn hc,rfl⟩)))
theorem Qio(s d x:List UInt8)(w:World)(hs:s.length<=4000000)(hd:d.length<=4000000)(hx:x.length<=4000000):
  Calls prog 26 #[.string ⟨s.toArray⟩,.string ⟨d.toArray⟩,.string ⟨x.toArray⟩] w (Pa s d x w):=Qfa (fun w0 xs xv h hok=>Qhn w0 xs xv h hok) s d x w hs hd hx
def Sc(y:SV)(w:World)(e:Ending)(w':World):Prop:=∃B,e=.returned (.pointer (some ⟨B,0,none⟩))/\Below w.heap.size w w'/\Fl (fun c=>w.heap.size<=c) w' B y
theorem Jr.kid{base B:Nat}{W W':World}{h0 h1 tu tv ku kv:Value}{gs:List Nat}{xs:List (Nat × SV)}(h:Jr base B W h0 h1 tu tv ku kv gs xs){b:Nat}{y:SV}(hy:Fl (fun c=>W.heap.size<=c) W' b y):P6 base tv kv W' (b,y):=
 hy.mono fun c hc _=>⟨Nat.le_trans h.bs hc,fun e=>by have:=(h.row.lt c e).2;omega,fun e=>by have:=(h.tags.lt c e).2;omega⟩
structure No(base B:Nat)(W1:World)(h0 h1 tu:Value)(A:Option Addr)(n c:Nat)(gs:List Nat)(xs:List (Nat × SV))(z:SV)(l15 l16 l17 l20:Bool)(u15 u16 u17:Value)(W:World):Prop where
 s0:l15=false->W=W1
 s1:l15=true->l16=false->∃bx,u15=.pointer (some ⟨bx,0,none⟩)/\Below W1.heap.size W1 W/\Fl (fun c=>W1.heap.size<=c) W bx z
 s2:l16=true->l17=false->∃W7 bx,W=W7.alloc (.cells [.pointer (some ⟨bx,0,none⟩)].toArray 56)/\u16=.slice (some ⟨W7.heap.size,0,none⟩) 1 1/\Below W1.heap.size W1 W7/\Fl (fun c=>W1.heap.size<=c) W7 bx z
 s3:l17=true->l20=false->∃bx A6 c6,u17=.slice A6 (xs.length+1) c6/\Jr base B W h0 h1 tu tu (.slice A n c) u17 gs (xs++[(bx,z)])/\Below base W1 W
 s4:l20=true->∃bx A6 c6,Jr base B W h0 h1 tu tu (.slice A6 (xs.length+1) c6) (.slice A6 (xs.length+1) c6) gs (xs++[(bx,z)])/\Below B W1 W/\∀b o,b<base->b≠B->W.cell? ⟨b,o,none⟩=W1.cell? ⟨b,o,none⟩
section
variable {base B n c:Nat} {W1 W W':World} {h0 h1 tu u15 u16 u17:Value} {A:Option Addr} {gs:List Nat} {xs:List (Nat × SV)} {z:SV} {l15 l16 l17 l20:Bool} {b:Nat}
theorem No.start:No base B W1 h0 h1 tu A n c gs xs z false false false false u15 u16 u17 W1:=
 ⟨fun _=>rfl,fun h=>Bool.noConfusion h,fun h=>Bool.noConfusion h,fun h=>Bool.noConfusion h,fun h=>Bool.noConfusion h⟩
theorem No.be(h:No base B W1 h0 h1 tu A n c gs xs z l15 l16 l17 l20 u15 u16 u17 W)(h17:l17=false)(hi:l16=true->l15=true):Below W1.heap.size W1 W:=by
 cases h15:l15 with
 |false=>rw[h.s0 h15];exact Aq _ _
 |true=>
  cases h16:l16 with
  |false=>exact(h.s1 h15 h16).choose_spec.2.1
  |true=>
   obtain⟨W7,bx,rfl,_,hb,_⟩:=h.s2 h16 h17
   exact hb.alloc hb.size _
theorem No.put15(h16:l16=false)(h17:l17=false)(h20:l20=false)(hb:Below W1.heap.size W1 W)(hs:Fl (fun c=>W1.heap.size<=c) W b z):No base B W1 h0 h1 tu A n c gs xs z true l16 l17 l20 (.pointer (some ⟨b,0,none⟩)) u16 u17 W:=by
 subst h16 h17 h20
 exact⟨fun h=>Bool.noConfusion h,fun _ _=>⟨b,rfl,hb,hs⟩,fun h=>Bool.noConfusion h,fun h=>Bool.noConfusion h,fun h=>Bool.noConfusion h⟩
theorem No.put16(h:No base B W1 h0 h1 tu A n c gs xs z l15 l16 l17 l20 u15 u16 u17 W)(h15:l15=true)(h16:l16=false)(h17:l17=false)(h20:l20=false):∃bx,u15=.pointer (some ⟨bx,0,none⟩) /\
  No base B W1 h0 h1 tu A n c gs xs z l15 true l17 l20 u15 (.slice (some ⟨W.heap.size,0,none⟩) 1 1) u17 (W.alloc (.cells #[.pointer (some ⟨bx,0,none⟩)] 56)):=by
 obtain⟨bx,e,hb,hs⟩:=h.s1 h15 h16
 subst h17 h20
 exact⟨bx,e,fun h=>absurd (h15.symm.trans h) (by decide),fun _ h=>Bool.noConfusion h,fun _ _=>⟨W,bx,rfl,rfl,hb,hs⟩,fun h=>Bool.noConfusion h,fun h=>Bool.noConfusion h⟩
theorem No.put17{W7:World}{v:Value}(hS:Jr base B W1 h0 h1 tu tu (.slice A n c) (.slice A n c) gs xs)(hb:Below W1.heap.size W1 W7)(hs:Fl (fun c=>W1.heap.size<=c) W7 b z)(h15:l15=true)(h16:l16=true)(h20:l20=false)
  (hown:W.ownsRow base 56 1 v (xs.length+1) (Do (xs.map (·.1))++[.pointer (some ⟨b,0,none⟩)])) (hg:W7.grownBy W (Value.slice A n c).ownBlock) (hwh:v.ownBlock=(Value.slice A n c).ownBlock\/∃k,v.ownBlock=some k/\W7.heap.size<=k):
  No base B W1 h0 h1 tu A n c gs xs z l15 l16 true l20 u15 u16 v W/\∃A6 c6,v=.slice A6 (xs.length+1) c6:=by
 have hS7:=hS.after hb
 obtain⟨A6,c6,e,k1,k2⟩:=hS7.push (x:=(b,z)) (hS.kid hs) hown hg hwh
 have e2:v=.slice A6 (xs.length+1) c6:=by simpa using e
 subst h20
 exact⟨⟨fun h=>absurd (h15.symm.trans h) (by decide),fun _ h=>absurd (h16.symm.trans h) (by decide),fun _ h=>Bool.noConfusion h,fun _ _=>⟨b,A6,c6,e2,k1,(hb.mono hS.bs).trans k2⟩,fun h=>Bool.noConfusion h⟩,A6,c6,e2⟩
theorem No.put20(h:No base B W1 h0 h1 tu A n c gs xs z l15 l16 l17 l20 u15 u16 u17 W)(h15:l15=true)(h16:l16=true)(h17:l17=true)(h20:l20=false)(hW:W'=W.setCell ⟨B,3,none⟩ u17):No base B W1 h0 h1 tu A n c gs xs z l15 l16 l17 true u15 u16 u17 W':=by
 subst hW
 obtain⟨bx,A6,c6,e,hS,hb⟩:=h.s3 h17 h20
 have hS3:=hS.set3
 rw[e]at hS3 ⊢
 exact⟨fun h=>absurd (h15.symm.trans h) (by decide),fun _ h=>absurd (h16.symm.trans h) (by decide),fun _ h=>absurd (h17.symm.trans h) (by decide),fun _ h=>Bool.noConfusion h,fun _=>⟨bx,A6,c6,hS3,(hb.mono (Nat.le_of_lt hS.hB)).setCell (p:=⟨B,3,none⟩) (Ap B) _,fun b o h1 h2=>((At W B 3 _).cell_far ⟨b,o,none⟩ (Nat.lt_of_lt_of_le h1 hS.bs) (by simp;exact h2)).trans (hb.cell (p:=⟨b,o,none⟩) h1)⟩⟩
end
section
attribute [local go_sem] Qiz Qii Qib Qgw ByteArray.mk_append_mk
structure Qiw(w:World)(h0 h1:Value)(zs:List SV)(wr:World)(kv:Value)(xs:List (Nat × SV))(i:Nat):Prop where
 bel:Below w.heap.size w wr
 st:Jr (w.heap.size+1) w.heap.size wr h0 h1 (.slice none 0 0) (.slice none 0 0) kv kv [] xs
 eq:xs.map (·.2)=zs.take i
theorem Zm(P:Nat->Prop)(bv:Nat)(xv:Value)(hxv:xv.oneCell'=true)(w:World)(c0:UInt8)(kr:List UInt8)(hkl:kr.length<=100)(h64:c0≠64)(ka text:List UInt8)(gs:List Nat)(ys zs:List SV)(hlen:zs.length=ys.length)(hl:ys.length<=1000)(h:Fl P w bv (.mk ka text gs ys))
  (HK:∀i (hi:i<ys.length) (hj:i<zs.length) W bx,Below w.heap.size w W->Fl P W bx ys[i]->Calls prog 27 #[.pointer (some ⟨bx,0,none⟩),xv,.string ⟨kr.toArray⟩] W (Sc zs[i] W)):
  Calls prog 27 #[.pointer (some ⟨bv,0,none⟩),xv,.string ⟨(c0::kr:List UInt8).toArray⟩] w (Sc (.mk (c0::kr) text [] zs) w):=by
 have H:=Aa h
 have HK:=Aa HK
 have Hlen:=Aa hlen
 obtain⟨A1,A2,c1,c2,ks,hb,hP,v0,v1,v2,v3,hr1,hr2,_,_,hks,hkids⟩:=h.open_
 have Hks:=Aa hks
 have Hkids:=Aa hkids
 have Hr2:=Aa hr2
 have V3:=Aa v3
 have hkl2:=Aa (show ks.length=ys.length from by rw[hks];simp)
 have hks1:ks.length<=1000:=by have:=hkl2.o;omega
 clear h v0 v2 v3 hr1 hr2 hks hkids hlen
 have t64:((c0.toNat:Int) != 64)=true:=by have:=Am h64;simpa using this
 clear h64
 have L0:=Aa (show Qiw w (.string ⟨(c0::kr:List UInt8).toArray⟩) (.string ⟨text.toArray⟩) zs (w.alloc (.cells #[.string ⟨(c0::kr:List UInt8).toArray⟩,.string ⟨text.toArray⟩,.slice none 0 0,.slice none 0 0] 97)) (.slice none 0 0) [] 0 from⟨(Aq w.heap.size w).alloc (Ap _) _,Jr.new _ _,rfl⟩)
 go_enter func27,ntmps27
 go_wp2_with fail
 go_loopw [8] (fun ix wr=>∃(i:Nat) (A3:Option Addr) (c3:Nat) (xs:List (Nat × SV)),ix=.int .i64 (i:Int)/\i<=ys.length/\Hid (xs.length=i)/\Hid (Qiw w (.string ⟨(c0::kr:List UInt8).toArray⟩) (.string ⟨text.toArray⟩) zs wr (.slice A3 xs.length c3) xs i)) (fun ix _=>ys.length - (intOf ix).toNat)
 case atStart=>exact⟨0,none,0,[],rfl,Nat.zero_le _,rfl,L0.o⟩
 case round=>
  obtain⟨i,A3,c3,xs,rfl,hi,hxl,HL⟩:=hrel
  have i0:(0:Int)<=(i:Int):=by omega
  have hx1:xs.length<=1000:=by have:=hxl.o;omega
  have p3:wr.cell? ⟨bv,3,none⟩=some (.slice A2 ks.length c2):=(HL.o.bel.cell (p:=⟨bv,3,none⟩) hb).trans V3.o
  have hbr:bv<wr.heap.size:=Nat.lt_of_lt_of_le hb HL.o.bel.size
  by_cases hlt:i<ys.length
  ·have i1:(i:Int)<(ks.length:Int):=by have:=hkl2.o;omega
   have hik:i<ks.length:=by omega
   obtain⟨B2,o2,rfl,hBl,hc2⟩:=Hr2.o.2.2 (by omega)
   have y2:w.cell? ⟨B2,o2+i,none⟩=some (.pointer (some ⟨(ks[i]'hik).1,0,none⟩)):=hc2 i _ (by rw[List.getElem?_eq_getElem (by simp[Do];omega)];simp[Do])
   have Y2:=Aa ((HL.o.bel.cell (p:=⟨B2,o2+i,none⟩) hBl).trans y2)
   have hBr:B2<wr.heap.size:=Nat.lt_of_lt_of_le hBl HL.o.bel.size
   have hyi:(ks[i]'hik).2=ys[i]:=by have:=Hks.o;subst this;simp
   have Hk:=Aa (show Fl P w (ks[i]'hik).1 ys[i]from hyi ▸ Hkids.o _ (List.getElem_mem _))
   generalize (ks[i]'hik).1=bx at *
   have hzl:i<zs.length:=by have:=Hlen.o;omega
   have HC:=Aa (fun W (hW:Below w.heap.size w W)=>HK.o i hlt hzl W bx hW (Hk.o.after hW))
   have Hzi:=Aa (show zs.take (i+1)=zs.take i++[zs[i]]from List.take_succ_eq_append_getElem hzl)
   generalize zs[i]=z at *
   clear y2 hc2 hyi
   go_wp2_with fail
   refine Ge [34,35,36,37,38,39,40,41,42,43,44,45,46,47,48,49,50,51,52,53,999]
    (fun ix v W=>match ix with|0=>v=.pointer (some ⟨w.heap.size,0,none⟩)|1=>v=.pointer (some ⟨w.heap.size,0,none⟩)|2=>v=.pointer (some ⟨w.heap.size,0,none⟩)|3=>v=.pointer (some ⟨w.heap.size,3,none⟩)|4=>v=.slice A3 xs.length c3|5=>v=.pointer (some ⟨bv,0,none⟩)|6=>v=.pointer (some ⟨bv,0,none⟩)|7=>v=.pointer (some ⟨bv,3,none⟩)|8=>v=.slice (some ⟨B2,o2,none⟩) ks.length c2|9=>v=.int .i64 (i:Int)|10=>v=.pointer (some ⟨B2,o2+i,none⟩)|11=>v=.pointer (some ⟨bx,0,none⟩)|12=>v=xv|13=>v=.string ⟨(c0::kr:List UInt8).toArray⟩|14=>v=.string ⟨(kr:List UInt8).toArray⟩|18=>v=.pointer (some ⟨w.heap.size,0,none⟩)|19=>v=.pointer (some ⟨w.heap.size,3,none⟩)|_=>True)
    (fun L U W=>No (w.heap.size+1) w.heap.size wr.drew (.string ⟨(c0::kr:List UInt8).toArray⟩) (.string ⟨text.toArray⟩) (.slice none 0 0) A3 xs.length c3 [] xs z (L 15) (L 16) (L 17) (L 20) (U 15) (U 16) (U 17) W) (No.start) ?_ ?_
   ·repeat (first|exact Ah.nil|(refine Ah.cons ?_ ?_;rotate_left))
    all_goals
     rintro L U W hL hpre HR Hdep K hK
     first|(simp[Region.binds]at hpre;done)|simp[Region.binds]at hpre|clear hpre
    iterate 4
     ·go_simp
      exact kE hK HR.o
    ·have h17:L 17=false:=Ax Hdep.o 17 4 rfl hL
     have hbe:=HR.o.be h17 (fun h=>by cases h5:L 15 with|true=>rfl|false=>exact absurd ((Ax Hdep.o 16 15 rfl h5).symm.trans h) (by decide))
     have x3:=(hbe.cell (p:=⟨w.heap.size,3,none⟩) (by have:=HL.o.st.lt;simp;omega)).trans ((World.cell?_drew _ _).trans HL.o.st.c3)
     go_simp
     exact kE hK HR.o
    iterate 3
     ·go_simp
      exact kE hK HR.o
    ·have h11:L 11=false:=Ax Hdep.o 11 10 rfl (Ax Hdep.o 10 8 rfl hL)
     have h15:L 15=false:=Ax Hdep.o 15 11 rfl h11
     have hW:=HR.o.s0 h15
     subst hW
     go_simp
     exact kE hK HR.o
    ·go_simp
     exact kE hK HR.o
    ·go_simp
     exact kE hK HR.o
    ·have h15:L 15=false:=Ax Hdep.o 15 11 rfl hL
     have hW:=HR.o.s0 h15
     subst hW
     have x2:=Y2.o
     go_simp
     exact kE hK HR.o
    iterate 2
     ·go_simp
      exact kE hK HR.o
    ·go_simp
     rw[if_pos (by omega)]
     go_simp
     exact hK (.string ⟨kr.toArray⟩) _ _ rfl Ac HR.o (by simp[Act.put,hpre])
    ·have h16:L 16=false:=Ax Hdep.o 16 15 rfl hL
     have h17:L 17=false:=Ax Hdep.o 17 16 rfl h16
     have h20:L 20=false:=Ax Hdep.o 20 17 rfl h17
     have hW:=HR.o.s0 hL
     subst hW
     go_simp
     refine(HC.o _ HL.o.bel.drew).mono ?_
     rintro e w5 ⟨b5,rfl,hb5,hs5⟩
     go_simp
     exact hK _ _ _ Ac Ac (No.put15 h16 h17 h20 hb5 hs5) (by simp[Act.put,hpre])
    ·have l15:L 15=true:=by first|exact hpre|exact hpre.1|exact hpre.2|exact hpre.2.1|exact hpre.1.1|exact hpre.2.2.1
     have h17:L 17=false:=Ax Hdep.o 17 16 rfl hL
     have h20:L 20=false:=Ax Hdep.o 20 17 rfl h17
     obtain⟨b5,u15,hn⟩:=HR.o.put16 l15 hL h17 h20
     simp only[u15]
     go_simp
     exact hK _ _ _ Ac Ac hn (by simp[Act.put,hpre,u15])
    ·obtain⟨l4,u4⟩:L 4=true/\U 4=.slice A3 xs.length c3:=by
      first|exact hpre.1|exact hpre.2
     have l16:L 16=true:=by first|exact hpre.2|exact hpre.2.1|exact hpre.1
     have l15:L 15=true:=Jx (Ax Hdep.o 16 15 rfl) l16
     have h20:L 20=false:=Ax Hdep.o 20 17 rfl hL
     obtain⟨W7,b5,hW,u16,hb7,hs7⟩:=HR.o.s2 l16 hL
     subst hW
     rw[if_pos (by rfl)]
     refine Jn W7 (.tmp 38) (.tmp 50) 95 rfl (w.heap.size+1) 56 (.pointer none) 1 8 underlying95 Vs rfl (by decide) [.pointer (some ⟨b5,0,none⟩)] rfl (by simp[Value.oneCell']) (.slice A3 xs.length c3) xs.length (Do (xs.map (·.1))) u4 u16 (HL.o.st.after ((Aq _ _).drew.trans (hb7.mono (by simp)))).row (by unfold maxLen;omega) (by omega) (HL.o.st.after ((Aq _ _).drew.trans (hb7.mono (by simp)))).bs ?_
     intro v6 w6 hown hg hwh
     obtain⟨hn,A6,c6,e6⟩:=No.put17 (u15:=U 15) (u16:=U 16) (HL.o.st.after (Aq _ _).drew) hb7 hs7 l15 l16 h20 hown hg hwh
     exact hK _ _ _ Ac Ac hn rfl
    iterate 2
     ·go_simp
      exact kE hK HR.o
    ·have l17:L 17=true:=by first|exact hpre.2|exact hpre.2.1|exact hpre.1
     have l16:L 16=true:=Jx (Ax Hdep.o 17 16 rfl) l17
     have l15:L 15=true:=Jx (Ax Hdep.o 16 15 rfl) l16
     obtain⟨b5,A6,c6,e6,hS6,hb6⟩:=HR.o.s3 l17 hL
     have x3:=hS6.c3
     have x4:=hS6.bk.live 3
     have x5:=hS6.lt
     go_simp
     exact hK undef _ _ Ac Ac (HR.o.put20 l15 l16 l17 hL (by rw[e6])) (by simp[Act.put,hpre,e6])
   rintro L U W hL hφ hR
   clear hφ
   obtain⟨b5,A6,c6,hS6,hb6,_⟩:=hR.s4 (hL 20 (by decide))
   have HS6:=Aa hS6
   have HB6:=Aa (HL.o.bel.drew.trans hb6)
   clear hR hL hS6 hb6
   have el:(xs++[(b5,z)]).length=xs.length+1:=by simp
   go_wp2_with fail
   go_roundw
   case rel=>exact⟨i+1,A6,c6,xs++[(b5,z)],by go_num,by omega,(by show (xs++[(b5,z)]).length=i+1;have:=hxl.o;simp;omega),⟨HB6.o,by rw[el];exact HS6.o,by rw[Hzi.o,List.map_append,HL.o.eq];rfl⟩⟩
   case measure=>simp[intOf];omega
  ·have i1:¬((i:Int)<(ks.length:Int)):=by have:=hkl2.o;omega
   go_wp2_with fail
   go_ret
   refine⟨w.heap.size,rfl,HL.o.bel,?_⟩
   have hd:=HL.o.st.done (kind:=c0::kr) (text:=text) (by simp) (by omega)
   have e:xs.map (·.2)=zs:=by rw[HL.o.eq,List.take_of_length_le (by have:=Hlen.o;omega)]
   rw[e]at hd
   exact hd
end
end Go.Proofs.YtkgkoicedddkmaaGreatDoor
