/- Texts joined. Conditions: as each theorem names them. -/
import Derived.Test.YtkgkoicedddkmaaGreatDoorC02
import Derived.Test.YtkgkoicedddkmaaGreatDoorC06
set_option maxRecDepth 100000
set_option maxHeartbeats 32000000
set_option linter.unusedVariables false
set_option linter.unusedSimpArgs false
namespace Go.Proofs.YtkgkoicedddkmaaGreatDoor
open Go.RowKit Go.Proofs.Tryz
section
attribute [local go_sem] Qiz Qii Qib Qgw ByteArray.mk_append_mk
def Cp(o:Option Fd)(w:World)(e:Ending)(w':World):Prop:=
 (match o with
  |some f=>e=.returned (.tuple #[sfV f,.bool true])
  |none=>∃(x:Int) (a b c:ByteArray),e=.returned (.tuple #[.agg #[.int .i64 x,.string a,.string b,.string c],.bool false]))/\Below w.heap.size w w'
theorem Cp.no{w w':World}{e:Ending}{o:Option Fd}(ho:o=none){x:Int}{a b c:ByteArray}(he:e=.returned (.tuple #[.agg #[.int .i64 x,.string a,.string b,.string c],.bool false]))(hb:Below w.heap.size w w'):Cp o w e w':=by
 rw[ho];exact⟨⟨x,a,b,c,he⟩,hb⟩
theorem Cp.yes{w w':World}{e:Ending}{o:Option Fd}{f:Fd}(ho:o=some f)(he:e=.returned (.tuple #[sfV f,.bool true]))(hb:Below w.heap.size w w'):Cp o w e w':=by
 rw[ho];exact⟨he,hb⟩
theorem Nb{w:World}{base:Nat}{v:Value}{a b:List UInt8}(h:w.ownsRow base 9 1 v [a,b].length (Bt [a,b])):
  ∃g c,v=.slice (some ⟨g,0,none⟩) 2 c/\base<=g/\g<w.heap.size/\w.cell? ⟨g,0,none⟩=some (.string ⟨a.toArray⟩)/\w.cell? ⟨g,1,none⟩=some (.string ⟨b.toArray⟩):=by
 rcases h.2 with⟨_,h0⟩|⟨g,cap,cur,rfl,hb,hh,_⟩
 ·simp at h0
 have hc:=fun j u hu=>h.cells (g:=g) rfl j u hu
 have e1:∀j,(⟨g,0,none⟩:Addr).add j=⟨g,j,none⟩:=fun j=>by unfold Addr.add;split<;>simp_all
 refine⟨g,cap,rfl,hb,(h.lt g rfl).2,?_,?_⟩
 ·have:=hc 0 _ rfl;rwa [e1]at this
 have:=hc 1 _ rfl;rwa [e1]at this
theorem Ga{w:World}{base:Nat}{v:Value}{a b d:List UInt8}(h:w.ownsRow base 9 1 v [a,b,d].length (Bt [a,b,d])):
  ∃g c,v=.slice (some ⟨g,0,none⟩) 3 c/\base<=g/\g<w.heap.size/\w.cell? ⟨g,0,none⟩=some (.string ⟨a.toArray⟩)/\w.cell? ⟨g,1,none⟩=some (.string ⟨b.toArray⟩)/\w.cell? ⟨g,2,none⟩=some (.string ⟨d.toArray⟩):=by
 rcases h.2 with⟨_,h0⟩|⟨g,cap,cur,rfl,hb,hh,_⟩
 ·simp at h0
 have hc:=fun j u hu=>h.cells (g:=g) rfl j u hu
 have e1:∀j,(⟨g,0,none⟩:Addr).add j=⟨g,j,none⟩:=fun j=>by unfold Addr.add;split<;>simp_all
 refine⟨g,cap,rfl,hb,(h.lt g rfl).2,?_,?_,?_⟩
 ·have:=hc 0 _ rfl;rwa [e1]at this
 ·have:=hc 1 _ rfl;rwa [e1]at this
 have:=hc 2 _ rfl;rwa [e1]at this
theorem Sa(st:UInt8)(s:List UInt8)(w:World)(hs:s.length<=1000)(hp:(Ai 58 s).length≠(if st=69 then 2 else 3)):
  Calls prog 109 #[.string ⟨s.toArray⟩,.int .u8 (st.toNat:Int)] w (Cp (Br st s) w):=by
 have hno:Br st s=none:=by
  unfold Br
  by_cases h:st=69
  ·rw[if_pos h]at hp ⊢
   have:J2 (Ai 58 s)=none:=by
    cases hh:J2 (Ai 58 s)with
    |none=>rfl
    |some x=>rw[(Qh7 (n:=x.1) (b:=x.2)).1 hh |>.1]at hp;simp at hp
   rw[this]
  rw[if_neg h]at hp ⊢
  have:Kw (Ai 58 s)=none:=by
   cases hh:Kw (Ai 58 s)with
   |none=>rfl
   |some x=>rw[(Fy (n:=x.1) (b:=x.2.1) (c:=x.2.2)).1 hh |>.1]at hp;simp at hp
  rw[this]
 have Hno:=Aa hno
 have Hl:=Aa (E7 58 s)
 have hst:=st.toNat_lt
 clear hno
 have Hcut:=Aa (fun W=>Cg s 58 58 rfl W (by omega))
 generalize Ai 58 s=ps at hp Hl Hcut
 by_cases h69:st=69
 ·rw[if_pos h69]at hp
  have t1:((st.toNat:Int) != 69)=false:=by have:=Be h69;simpa using this
  have t2:((st.toNat:Int) == 69)=true:=Be h69
  have t3:((ps.length:Int) != 2)=true:=by rw[bne_iff_ne];omega
  clear h69 hp
  go_enter func109,ntmps109
  go_wp2_with fail
  refine(Hcut.o _).mono ?_
  rintro e w1 ⟨v,rfl,ho,hb⟩
  obtain⟨A,c,rfl,_⟩:=B9.own ho
  obtain⟨hc,hfz,hz⟩:=By hb
  have Hb:=Aa (((Aq w.heap.size w).alloc (Ap _) _).trans (hb.mono (by simp)))
  clear hb ho
  go_wp2_with fail
  all_goals
   refine bodyPost_ret (v:=.tuple #[sf0,.bool false]) (by simp[results,results109,go_sem,sf0,hc]) rfl ?_
   exact Cp.no Hno.o rfl ((((Hb.o.setCell (Ap _) _).setCell (Ap _) _).setCell (Ap _) _).setCell (Ap _) _)
 rw[if_neg h69]at hp
 have t1:((st.toNat:Int) != 69)=true:=by have:=Am h69;simpa using this
 have t2:((st.toNat:Int) == 69)=false:=Am h69
 have t3:((ps.length:Int) != 3)=true:=by rw[bne_iff_ne];omega
 clear h69 hp
 go_enter func109,ntmps109
 go_wp2_with fail
 refine(Hcut.o _).mono ?_
 rintro e w1 ⟨v,rfl,ho,hb⟩
 obtain⟨A,c,rfl,_⟩:=B9.own ho
 obtain⟨hc,hfz,hz⟩:=By hb
 have Hb:=Aa (((Aq w.heap.size w).alloc (Ap _) _).trans (hb.mono (by simp)))
 clear hb ho
 go_wp2_with fail
 all_goals
  refine bodyPost_ret (v:=.tuple #[sf0,.bool false]) (by simp[results,results109,go_sem,sf0,hc]) rfl ?_
  exact Cp.no Hno.o rfl ((((Hb.o.setCell (Ap _) _).setCell (Ap _) _).setCell (Ap _) _).setCell (Ap _) _)
theorem Sx(a b:List UInt8):Dp a 200=false\/(Dp a 200=true/\Cn a=some 0)\/(∃n,Dp a 200=true/\Cn a=some n/\1<=n/\n<=200/\Aw b=false)\/(∃n,Dp a 200=true/\Cn a=some n/\1<=n/\n<=200/\Aw b=true):=by
 cases hd:Cn a with
 |none=>exact .inl (Mr hd)
 |some n=>
  rw[Mn hd]
  by_cases h:n<=200
  ·have e:decide (n<=200)=true:=by simpa using h
   rw[e]
   by_cases h0:n=0
   ·subst h0;exact .inr (.inl ⟨rfl,rfl⟩)
   rcases Bool.eq_false_or_eq_true (Aw b)with hb|hb
   ·exact .inr (.inr (.inr ⟨n,rfl,rfl,by omega,h,hb⟩))
   exact .inr (.inr (.inl ⟨n,rfl,rfl,by omega,h,hb⟩))
  left;simpa using h
theorem To{a b:List UInt8}(h:Dp a 200=false\/Cn a=some 0\/Aw b=false):J2 [a,b]=none:=by
 cases hh:J2 [a,b]with
 |none=>rfl
 |some x=>
  obtain⟨n,c⟩:=x
  obtain⟨e,h1,h2,h3⟩:=Qh7.1 hh
  simp at e
  obtain⟨rfl,rfl⟩:=e
  have hd:Cn (Bb n)=some n:=Ca.2 ⟨by omega,rfl⟩
  rcases h with h|h|h
  ·rw[Mn hd]at h;simp at h;omega
  ·rw[hd]at h;injection h with h;omega
  rw[h3]at h;cases h
theorem Vq{a b c:List UInt8}(h:Dp a 200=false\/Cn a=some 0\/Aw b=false):Kw [a,b,c]=none:=by
 cases hh:Kw [a,b,c]with
 |none=>rfl
 |some x=>
  obtain⟨n,d,f⟩:=x
  obtain⟨e,h1,h2,h3⟩:=Fy.1 hh
  simp at e
  obtain⟨rfl,rfl,rfl⟩:=e
  have hd:Cn (Bb n)=some n:=Ca.2 ⟨by omega,rfl⟩
  rcases h with h|h|h
  ·rw[Mn hd]at h;simp at h;omega
  ·rw[hd]at h;injection h with h;omega
  rw[h3]at h;cases h
theorem Qeq{a b:List UInt8}{n:Nat}(hd:Cn a=some n)(h1:1<=n)(h2:n<=200)(hb:Aw b=true):J2 [a,b]=some (n,b):=Qh7.2 ⟨by rw[(Ca.1 hd).2],h1,h2,hb⟩
theorem J8{a b c:List UInt8}{n:Nat}(hd:Cn a=some n)(h1:1<=n)(h2:n<=200)(hb:Aw b=true):Kw [a,b,c]=some (n,b,c):=Fy.2 ⟨by rw[(Ca.1 hd).2],h1,h2,hb⟩
theorem Qgn(s a b:List UInt8)(w:World)(hs:s.length<=1000)(hp:Ai 58 s=[a,b])(ho:Dp a 200=false):
  Calls prog 109 #[.string ⟨s.toArray⟩,.int .u8 69] w (Cp (Br 69 s) w):=by
 have hal:=Ak 58 s a (by rw[hp];simp)
 have hbl:=Ak 58 s b (by rw[hp];simp)
 have hF:Br 69 s=(match J2 [a,b]with|some (n,b)=>some ⟨n,b,Kd.nil,[]⟩|none=>none):=by unfold Br;rw[if_pos rfl,hp];cases J2 [a,b]<;>rfl
 have Hcut:=Aa (fun W=>Cg s 58 58 rfl W (by omega))
 rw[hp]at Hcut
 have Hnum:=Aa (fun W=>Dg a 200 W (by omega) (by omega))
 have Hname:=Aa (fun W=>Cd b W (by omega))
 clear hp
 rw[To (.inl ho)]at hF
 have HF:=Aa hF
 have Ho:=Aa ho
 clear hF ho
 go_enter func109,ntmps109
 go_wp2_with fail
 refine(Hcut.o _).mono ?_
 rintro e w1 ⟨v,rfl,ho,hb⟩
 obtain⟨g,c,rfl,hg1,hg2,c0,c1⟩:=Nb ho
 simp at hg1
 obtain⟨hc,hfz,hz⟩:=By hb
 have Hb:=Aa (((Aq w.heap.size w).alloc (Ap _) _).trans (hb.mono (by simp)))
 have hzz:=hz w.heap.size (by simp)
 clear hb ho
 go_wp2_with fail
 refine(Hnum.o _).mono ?_
 rintro e w2 ⟨n,hn,rfl,hdn,hb2⟩
 rw[Ho.o]
 obtain⟨hc2,hfz2,hz2⟩:=By hb2
 have Hb2:=Aa (Hb.o.trans (hb2.mono Hb.o.size))
 have hsz:=Hb2.o.size
 have hz3:=hz2 _ hzz
 clear hb2
 go_wp2_with fail
 refine bodyPost_ret (v:=.tuple #[.agg #[.int .i64 n,.string ⟨b.toArray⟩,.string ⟨#[]⟩,.string ⟨#[]⟩],.bool false]) (by simp[results,results109,go_sem,hc,hc2,hzz,hz3]) rfl ?_
 exact Cp.no HF.o rfl (by(repeat (first|exact Hb2.o|refine Below.setCell ?_ (by first|exact Ap _|(simp;omega)|omega) _|refine Below.alloc ?_ (by first|exact Ap _|(simp;omega)|omega) _|refine Below.drew ?_)))
theorem Qgv(s a b:List UInt8)(w:World)(hs:s.length<=1000)(hp:Ai 58 s=[a,b])(ho:Dp a 200=true)(hd:Cn a=some 0):
  Calls prog 109 #[.string ⟨s.toArray⟩,.int .u8 69] w (Cp (Br 69 s) w):=by
 have hal:=Ak 58 s a (by rw[hp];simp)
 have hbl:=Ak 58 s b (by rw[hp];simp)
 have hF:Br 69 s=(match J2 [a,b]with|some (n,b)=>some ⟨n,b,Kd.nil,[]⟩|none=>none):=by unfold Br;rw[if_pos rfl,hp];cases J2 [a,b]<;>rfl
 have Hcut:=Aa (fun W=>Cg s 58 58 rfl W (by omega))
 rw[hp]at Hcut
 have Hnum:=Aa (fun W=>Dg a 200 W (by omega) (by omega))
 have Hname:=Aa (fun W=>Cd b W (by omega))
 clear hp
 rw[To (.inr (.inl hd))]at hF
 have HF:=Aa hF
 have Ho:=Aa ho
 have Hd:=Aa hd
 clear hF ho hd
 go_enter func109,ntmps109
 go_wp2_with fail
 refine(Hcut.o _).mono ?_
 rintro e w1 ⟨v,rfl,ho,hb⟩
 obtain⟨g,c,rfl,hg1,hg2,c0,c1⟩:=Nb ho
 simp at hg1
 obtain⟨hc,hfz,hz⟩:=By hb
 have Hb:=Aa (((Aq w.heap.size w).alloc (Ap _) _).trans (hb.mono (by simp)))
 have hzz:=hz w.heap.size (by simp)
 clear hb ho
 go_wp2_with fail
 refine(Hnum.o _).mono ?_
 rintro e w2 ⟨n,hn,rfl,hdn,hb2⟩
 rw[Ho.o]
 obtain⟨hc2,hfz2,hz2⟩:=By hb2
 have Hb2:=Aa (Hb.o.trans (hb2.mono Hb.o.size))
 have hsz:=Hb2.o.size
 have hz3:=hz2 _ hzz
 clear hb2
 obtain rfl:=hdn 0 Hd.o
 clear hdn
 go_wp2_with fail
 refine bodyPost_ret (v:=.tuple #[.agg #[.int .i64 0,.string ⟨b.toArray⟩,.string ⟨#[]⟩,.string ⟨#[]⟩],.bool false]) (by simp[results,results109,go_sem,hc,hc2,hzz,hz3]) rfl ?_
 exact Cp.no HF.o rfl (by(repeat (first|exact Hb2.o|refine Below.setCell ?_ (by first|exact Ap _|(simp;omega)|omega) _|refine Below.alloc ?_ (by first|exact Ap _|(simp;omega)|omega) _|refine Below.drew ?_)))
theorem Qgf(s a b:List UInt8)(w:World)(hs:s.length<=1000)(hp:Ai 58 s=[a,b])(n0:Nat)(ho:Dp a 200=true)(hd:Cn a=some n0)(h1:1<=n0)(h2:n0<=200)(hnm:Aw b=false):
  Calls prog 109 #[.string ⟨s.toArray⟩,.int .u8 69] w (Cp (Br 69 s) w):=by
 have hal:=Ak 58 s a (by rw[hp];simp)
 have hbl:=Ak 58 s b (by rw[hp];simp)
 have hF:Br 69 s=(match J2 [a,b]with|some (n,b)=>some ⟨n,b,Kd.nil,[]⟩|none=>none):=by unfold Br;rw[if_pos rfl,hp];cases J2 [a,b]<;>rfl
 have Hcut:=Aa (fun W=>Cg s 58 58 rfl W (by omega))
 rw[hp]at Hcut
 have Hnum:=Aa (fun W=>Dg a 200 W (by omega) (by omega))
 have Hname:=Aa (fun W=>Cd b W (by omega))
 clear hp
 rw[To (.inr (.inr hnm))]at hF
 have HF:=Aa hF
 have Ho:=Aa ho
 have Hd:=Aa hd
 have Hnm:=Aa hnm
 clear hF ho hd hnm
 go_enter func109,ntmps109
 go_wp2_with fail
 refine(Hcut.o _).mono ?_
 rintro e w1 ⟨v,rfl,ho,hb⟩
 obtain⟨g,c,rfl,hg1,hg2,c0,c1⟩:=Nb ho
 simp at hg1
 obtain⟨hc,hfz,hz⟩:=By hb
 have Hb:=Aa (((Aq w.heap.size w).alloc (Ap _) _).trans (hb.mono (by simp)))
 have hzz:=hz w.heap.size (by simp)
 clear hb ho
 go_wp2_with fail
 refine(Hnum.o _).mono ?_
 rintro e w2 ⟨n,hn,rfl,hdn,hb2⟩
 rw[Ho.o]
 obtain⟨hc2,hfz2,hz2⟩:=By hb2
 have Hb2:=Aa (Hb.o.trans (hb2.mono Hb.o.size))
 have hsz:=Hb2.o.size
 have hz3:=hz2 _ hzz
 clear hb2
 obtain rfl:=hdn n0 Hd.o
 clear hdn
 go_wp2_with fail
 refine(Hname.o _).mono ?_
 rintro e w3 ⟨rfl,rfl⟩
 rw[Hnm.o]
 go_wp2_with fail
 refine bodyPost_ret (v:=.tuple #[.agg #[.int .i64 n0,.string ⟨b.toArray⟩,.string ⟨#[]⟩,.string ⟨#[]⟩],.bool false]) (by simp[results,results109,go_sem,hc,hc2,hzz,hz3]) rfl ?_
 exact Cp.no HF.o rfl (by(repeat (first|exact Hb2.o|refine Below.setCell ?_ (by first|exact Ap _|(simp;omega)|omega) _|refine Below.alloc ?_ (by first|exact Ap _|(simp;omega)|omega) _|refine Below.drew ?_)))
theorem Qfo(s a b:List UInt8)(w:World)(hs:s.length<=1000)(hp:Ai 58 s=[a,b])(n0:Nat)(ho:Dp a 200=true)(hd:Cn a=some n0)(h1:1<=n0)(h2:n0<=200)(hnm:Aw b=true):
  Calls prog 109 #[.string ⟨s.toArray⟩,.int .u8 69] w (Cp (Br 69 s) w):=by
 have hal:=Ak 58 s a (by rw[hp];simp)
 have hbl:=Ak 58 s b (by rw[hp];simp)
 have hF:Br 69 s=(match J2 [a,b]with|some (n,b)=>some ⟨n,b,Kd.nil,[]⟩|none=>none):=by unfold Br;rw[if_pos rfl,hp];cases J2 [a,b]<;>rfl
 have Hcut:=Aa (fun W=>Cg s 58 58 rfl W (by omega))
 rw[hp]at Hcut
 have Hnum:=Aa (fun W=>Dg a 200 W (by omega) (by omega))
 have Hname:=Aa (fun W=>Cd b W (by omega))
 clear hp
 rw[Qeq hd h1 h2 hnm]at hF
 have HF:=Aa hF
 have Ho:=Aa ho
 have Hd:=Aa hd
 have Hnm:=Aa hnm
 clear hF ho hd hnm
 go_enter func109,ntmps109
 go_wp2_with fail
 refine(Hcut.o _).mono ?_
 rintro e w1 ⟨v,rfl,ho,hb⟩
 obtain⟨g,c,rfl,hg1,hg2,c0,c1⟩:=Nb ho
 simp at hg1
 obtain⟨hc,hfz,hz⟩:=By hb
 have Hb:=Aa (((Aq w.heap.size w).alloc (Ap _) _).trans (hb.mono (by simp)))
 have hzz:=hz w.heap.size (by simp)
 clear hb ho
 go_wp2_with fail
 refine(Hnum.o _).mono ?_
 rintro e w2 ⟨n,hn,rfl,hdn,hb2⟩
 rw[Ho.o]
 obtain⟨hc2,hfz2,hz2⟩:=By hb2
 have Hb2:=Aa (Hb.o.trans (hb2.mono Hb.o.size))
 have hsz:=Hb2.o.size
 have hz3:=hz2 _ hzz
 clear hb2
 obtain rfl:=hdn n0 Hd.o
 clear hdn
 go_wp2_with fail
 refine(Hname.o _).mono ?_
 rintro e w3 ⟨rfl,rfl⟩
 rw[Hnm.o]
 go_wp2_with fail
 refine bodyPost_ret (v:=.tuple #[sfV ⟨n0,b,Kd.nil,[]⟩,.bool true]) (by simp[results,results109,go_sem,sfV,Kd.nil,Bj,Bs,hc,hc2,hzz,hz3]) rfl ?_
 exact Cp.yes HF.o rfl (by(repeat (first|exact Hb2.o|refine Below.setCell ?_ (by first|exact Ap _|(simp;omega)|omega) _|refine Below.alloc ?_ (by first|exact Ap _|(simp;omega)|omega) _|refine Below.drew ?_)))
theorem S6(s a b:List UInt8)(w:World)(hs:s.length<=1000)(hp:Ai 58 s=[a,b]):
  Calls prog 109 #[.string ⟨s.toArray⟩,.int .u8 69] w (Cp (Br 69 s) w):=by
 rcases Sx a b with ho|⟨ho,hd⟩|⟨n0,ho,hd,h1,h2,hnm⟩|⟨n0,ho,hd,h1,h2,hnm⟩
 ·exact Qgn s a b w hs hp ho
 ·exact Qgv s a b w hs hp ho hd
 ·exact Qgf s a b w hs hp n0 ho hd h1 h2 hnm
 exact Qfo s a b w hs hp n0 ho hd h1 h2 hnm
end
end Go.Proofs.YtkgkoicedddkmaaGreatDoor
