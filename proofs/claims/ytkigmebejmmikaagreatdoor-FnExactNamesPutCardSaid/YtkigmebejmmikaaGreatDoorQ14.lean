/- Texts joined. Conditions: as each theorem names them. -/
import Derived.Test.YtkigmebejmmikaaGreatDoorQ03
import Derived.Test.YtkigmebejmmikaaGreatDoorQ13
set_option maxRecDepth 100000
set_option maxHeartbeats 32000000
set_option linter.unusedVariables false
set_option linter.unusedSimpArgs false
namespace Go.Proofs.YtkigmebejmmikaaGreatDoor
open Go.RowKit Go.Proofs.Tryz
section
attribute [local go_sem] Qja Qit Qib Qgw ByteArray.mk_append_mk
theorem Qcw{w:World}{base:Nat}{v:Value}{a:List UInt8}(h:w.ownsRow base 9 1 v [a].length (Ae [a])):
  ∃g c,v=.slice (some ⟨g,0,none⟩) 1 c/\base<=g/\g<w.heap.size/\w.cell? ⟨g,0,none⟩=some (.string ⟨a.toArray⟩):=by
 rcases h.2 with⟨_,h0⟩|⟨g,cap,cur,rfl,hb,hh,_⟩
 ·simp at h0
 have hc:=fun j u hu=>h.cells (g:=g) rfl j u hu
 have e1:∀j,(⟨g,0,none⟩:Addr).add j=⟨g,j,none⟩:=fun j=>by unfold Addr.add;split<;>simp_all
 refine⟨g,cap,rfl,hb,(h.lt g rfl).2,?_⟩
 have:=hc 0 _ rfl;rwa [e1]at this
def Du(st:UInt8)(a b d:List UInt8):Option Fd:=
 match Kg [a,b,d]with
 |some (n,b,c)=>(match Af 61 c with
  |[k]=>(match Cg k with|some k=>some ⟨n,b,k,[]⟩|none=>none)
  |[k,v]=>if st=82/\Bv k v=true then some ⟨n,b,⟨[],k,[]⟩,v⟩else none
  |_=>none)
 |none=>none
theorem Dt{st:UInt8}{s a b d:List UInt8}(hst:st≠69)(hp:Af 58 s=[a,b,d]):Bu st s=Du st a b d:=by
 unfold Bu Du
 rw[if_neg hst,hp]
 cases Kg [a,b,d]with
 |none=>rfl
 |some x=>
  obtain⟨n,b',c⟩:=x
  simp only
  match Af 61 c with
  |[]=>rfl
  |[k]=>simp only;cases Cg k<;>rfl
  |[k,v]=>rfl
  |_::_::_::_=>rfl
theorem Qu{st:UInt8}{a b d:List UInt8}(h:Kg [a,b,d]=none):Du st a b d=none:=by unfold Du;rw[h]
theorem Vp{st:UInt8}{a b d k:List UInt8}{n:Nat}(h:Kg [a,b,d]=some (n,b,d))(hq:Af 61 d=[k]):Du st a b d=(Cg k).map fun k=>⟨n,b,k,[]⟩:=by
 unfold Du;rw[h];simp only;rw[hq];simp only;cases Cg k<;>rfl
theorem Rh{st:UInt8}{a b d k v:List UInt8}{n:Nat}(h:Kg [a,b,d]=some (n,b,d))(hq:Af 61 d=[k,v]):Du st a b d=if st=82/\Bv k v=true then some ⟨n,b,⟨[],k,[]⟩,v⟩else none:=by
 unfold Du;rw[h];simp only;rw[hq]
theorem Qbl{st:UInt8}{a b d k v x:List UInt8}{l:List (List UInt8)}{n:Nat}(h:Kg [a,b,d]=some (n,b,d))(hq:Af 61 d=k::v::x::l):Du st a b d=none:=by
 unfold Du;rw[h];simp only;rw[hq]
theorem Qfd(st:UInt8)(hst:st≠69)(s a b d:List UInt8)(w:World)(hs:s.length<=1000)(hp:Af 58 s=[a,b,d])(ho:Dj a 200=false):
  Calls prog 114 #[.string ⟨s.toArray⟩,.int .u8 (st.toNat:Int)] w (Cm (Bu st s) w):=by
 have hal:=Aj 58 s a (by rw[hp];simp)
 have hbl:=Aj 58 s b (by rw[hp];simp)
 have hdl:=Aj 58 s d (by rw[hp];simp)
 have hF:Bu st s=Du st a b d:=Dt hst hp
 have Hcut:=Aa (fun W=>Cc s 58 58 rfl W (by omega))
 rw[hp]at Hcut
 have Hnum:=Aa (fun W=>Db a 200 W (by omega) (by omega))
 have Hname:=Aa (fun W=>Cd b W (by omega))
 have hsl:=st.toNat_lt
 have t1:((st.toNat:Int) != 69)=true:=by have:=An hst;simpa using this
 have t2:((st.toNat:Int) == 69)=false:=An hst
 clear hp hst
 rw[Qu (Td (.inl ho))]at hF
 have HF:=Aa hF
 have Ho:=Aa ho
 clear hF ho
 go_enter func114,ntmps114
 go_wp2_with fail
 refine(Hcut.o _).mono ?_
 rintro e w1 ⟨v,rfl,ho,hb⟩
 obtain⟨g,c,rfl,hg1,hg2,c0,c1,c2⟩:=Fp ho
 simp at hg1
 obtain⟨hc,hfz,hz⟩:=Bw hb
 have Hb:=Aa (((As w.heap.size w).alloc (Ap _) _).trans (hb.mono (by simp)))
 have hzz:=hz w.heap.size (by simp)
 clear hb ho
 go_wp2_with fail
 refine(Hnum.o _).mono ?_
 rintro e w2 ⟨n,hn,rfl,hdn,hb2⟩
 rw[Ho.o]
 obtain⟨hc2,hfz2,hz2⟩:=Bw hb2
 have Hb2:=Aa (Hb.o.trans (hb2.mono Hb.o.size))
 have hsz:=Hb2.o.size
 have hz3:=hz2 _ hzz
 clear hb2
 go_wp2_with fail
 refine bodyPost_ret (v:=.tuple #[.agg #[.int .i64 n,.string ⟨b.toArray⟩,.string ⟨#[]⟩,.string ⟨#[]⟩],.bool false]) (by simp[results,results114,go_sem,hc,hc2,hzz,hz3]) rfl ?_
 exact Cm.no HF.o rfl (by(repeat (first|exact Hb2.o|refine Below.setCell ?_ (by first|exact Ap _|(simp;omega)|omega) _|refine Below.alloc ?_ (by first|exact Ap _|(simp;omega)|omega) _|refine Below.drew ?_)))
theorem Qf3(st:UInt8)(hst:st≠69)(s a b d:List UInt8)(w:World)(hs:s.length<=1000)(hp:Af 58 s=[a,b,d])(ho:Dj a 200=true)(hd:Cf a=some 0):
  Calls prog 114 #[.string ⟨s.toArray⟩,.int .u8 (st.toNat:Int)] w (Cm (Bu st s) w):=by
 have hal:=Aj 58 s a (by rw[hp];simp)
 have hbl:=Aj 58 s b (by rw[hp];simp)
 have hdl:=Aj 58 s d (by rw[hp];simp)
 have hF:Bu st s=Du st a b d:=Dt hst hp
 have Hcut:=Aa (fun W=>Cc s 58 58 rfl W (by omega))
 rw[hp]at Hcut
 have Hnum:=Aa (fun W=>Db a 200 W (by omega) (by omega))
 have Hname:=Aa (fun W=>Cd b W (by omega))
 have hsl:=st.toNat_lt
 have t1:((st.toNat:Int) != 69)=true:=by have:=An hst;simpa using this
 have t2:((st.toNat:Int) == 69)=false:=An hst
 clear hp hst
 rw[Qu (Td (.inr (.inl hd)))]at hF
 have HF:=Aa hF
 have Ho:=Aa ho
 have Hd:=Aa hd
 clear hF ho hd
 go_enter func114,ntmps114
 go_wp2_with fail
 refine(Hcut.o _).mono ?_
 rintro e w1 ⟨v,rfl,ho,hb⟩
 obtain⟨g,c,rfl,hg1,hg2,c0,c1,c2⟩:=Fp ho
 simp at hg1
 obtain⟨hc,hfz,hz⟩:=Bw hb
 have Hb:=Aa (((As w.heap.size w).alloc (Ap _) _).trans (hb.mono (by simp)))
 have hzz:=hz w.heap.size (by simp)
 clear hb ho
 go_wp2_with fail
 refine(Hnum.o _).mono ?_
 rintro e w2 ⟨n,hn,rfl,hdn,hb2⟩
 rw[Ho.o]
 obtain⟨hc2,hfz2,hz2⟩:=Bw hb2
 have Hb2:=Aa (Hb.o.trans (hb2.mono Hb.o.size))
 have hsz:=Hb2.o.size
 have hz3:=hz2 _ hzz
 clear hb2
 obtain rfl:=hdn 0 Hd.o
 clear hdn
 go_wp2_with fail
 refine bodyPost_ret (v:=.tuple #[.agg #[.int .i64 0,.string ⟨b.toArray⟩,.string ⟨#[]⟩,.string ⟨#[]⟩],.bool false]) (by simp[results,results114,go_sem,hc,hc2,hzz,hz3]) rfl ?_
 exact Cm.no HF.o rfl (by(repeat (first|exact Hb2.o|refine Below.setCell ?_ (by first|exact Ap _|(simp;omega)|omega) _|refine Below.alloc ?_ (by first|exact Ap _|(simp;omega)|omega) _|refine Below.drew ?_)))
theorem Qgl(st:UInt8)(hst:st≠69)(s a b d:List UInt8)(w:World)(hs:s.length<=1000)(hp:Af 58 s=[a,b,d])(n0:Nat)(ho:Dj a 200=true)(hd:Cf a=some n0)(h1:1<=n0)(h2:n0<=200)(hnm:Au b=false):
  Calls prog 114 #[.string ⟨s.toArray⟩,.int .u8 (st.toNat:Int)] w (Cm (Bu st s) w):=by
 have hal:=Aj 58 s a (by rw[hp];simp)
 have hbl:=Aj 58 s b (by rw[hp];simp)
 have hdl:=Aj 58 s d (by rw[hp];simp)
 have hF:Bu st s=Du st a b d:=Dt hst hp
 have Hcut:=Aa (fun W=>Cc s 58 58 rfl W (by omega))
 rw[hp]at Hcut
 have Hnum:=Aa (fun W=>Db a 200 W (by omega) (by omega))
 have Hname:=Aa (fun W=>Cd b W (by omega))
 have hsl:=st.toNat_lt
 have t1:((st.toNat:Int) != 69)=true:=by have:=An hst;simpa using this
 have t2:((st.toNat:Int) == 69)=false:=An hst
 clear hp hst
 rw[Qu (Td (.inr (.inr hnm)))]at hF
 have HF:=Aa hF
 have Ho:=Aa ho
 have Hd:=Aa hd
 have Hnm:=Aa hnm
 clear hF ho hd hnm
 go_enter func114,ntmps114
 go_wp2_with fail
 refine(Hcut.o _).mono ?_
 rintro e w1 ⟨v,rfl,ho,hb⟩
 obtain⟨g,c,rfl,hg1,hg2,c0,c1,c2⟩:=Fp ho
 simp at hg1
 obtain⟨hc,hfz,hz⟩:=Bw hb
 have Hb:=Aa (((As w.heap.size w).alloc (Ap _) _).trans (hb.mono (by simp)))
 have hzz:=hz w.heap.size (by simp)
 clear hb ho
 go_wp2_with fail
 refine(Hnum.o _).mono ?_
 rintro e w2 ⟨n,hn,rfl,hdn,hb2⟩
 rw[Ho.o]
 obtain⟨hc2,hfz2,hz2⟩:=Bw hb2
 have Hb2:=Aa (Hb.o.trans (hb2.mono Hb.o.size))
 have hsz:=Hb2.o.size
 have hz3:=hz2 _ hzz
 clear hb2
 obtain rfl:=hdn n0 Hd.o
 clear hdn
 go_wp2_with fail
 refine(Hname.o _).mono ?_
 rintro e w3 ⟨rfl,rfl⟩
 rw[Hnm.o]
 go_wp2_with fail
 refine bodyPost_ret (v:=.tuple #[.agg #[.int .i64 n0,.string ⟨b.toArray⟩,.string ⟨#[]⟩,.string ⟨#[]⟩],.bool false]) (by simp[results,results114,go_sem,hc,hc2,hzz,hz3]) rfl ?_
 exact Cm.no HF.o rfl (by(repeat (first|exact Hb2.o|refine Below.setCell ?_ (by first|exact Ap _|(simp;omega)|omega) _|refine Below.alloc ?_ (by first|exact Ap _|(simp;omega)|omega) _|refine Below.drew ?_)))
theorem Qed(st:UInt8)(hst:st≠69)(s a b d:List UInt8)(w:World)(hs:s.length<=1000)(hp:Af 58 s=[a,b,d])(n0:Nat)(ho:Dj a 200=true)(hd:Cf a=some n0)(h1:1<=n0)(h2:n0<=200)(hnm:Au b=true)(k:List UInt8)(hq:Af 61 d=[k])(hk:Cg k=none):
  Calls prog 114 #[.string ⟨s.toArray⟩,.int .u8 (st.toNat:Int)] w (Cm (Bu st s) w):=by
 have hal:=Aj 58 s a (by rw[hp];simp)
 have hbl:=Aj 58 s b (by rw[hp];simp)
 have hdl:=Aj 58 s d (by rw[hp];simp)
 have hF:Bu st s=Du st a b d:=Dt hst hp
 have Hcut:=Aa (fun W=>Cc s 58 58 rfl W (by omega))
 rw[hp]at Hcut
 have Hnum:=Aa (fun W=>Db a 200 W (by omega) (by omega))
 have Hname:=Aa (fun W=>Cd b W (by omega))
 have hsl:=st.toNat_lt
 have t1:((st.toNat:Int) != 69)=true:=by have:=An hst;simpa using this
 have t2:((st.toNat:Int) == 69)=false:=An hst
 clear hp hst
 have hkl:=Aj 61 d k (by rw[hq];simp)
 rw[Vp (Jw hd h1 h2 hnm) hq,hk]at hF
 have HF:=Aa hF
 have Ho:=Aa ho
 have Hd:=Aa hd
 have Hnm:=Aa hnm
 have Hcut2:=Aa (fun W=>Cc d 61 61 rfl W (by omega))
 rw[hq]at Hcut2
 clear hF ho hd hnm hq
 have hkk:=fun W=>Mt k.length k W (Ap _) (by omega)
 rw[hk]at hkk
 have Hk:=Aa hkk
 clear hkk hk
 go_enter func114,ntmps114
 go_wp2_with fail
 refine(Hcut.o _).mono ?_
 rintro e w1 ⟨v,rfl,ho,hb⟩
 obtain⟨g,c,rfl,hg1,hg2,c0,c1,c2⟩:=Fp ho
 simp at hg1
 obtain⟨hc,hfz,hz⟩:=Bw hb
 have Hb:=Aa (((As w.heap.size w).alloc (Ap _) _).trans (hb.mono (by simp)))
 have hzz:=hz w.heap.size (by simp)
 clear hb ho
 go_wp2_with fail
 refine(Hnum.o _).mono ?_
 rintro e w2 ⟨n,hn,rfl,hdn,hb2⟩
 rw[Ho.o]
 obtain⟨hc2,hfz2,hz2⟩:=Bw hb2
 have Hb2:=Aa (Hb.o.trans (hb2.mono Hb.o.size))
 have hsz:=Hb2.o.size
 have hz3:=hz2 _ hzz
 clear hb2
 obtain rfl:=hdn n0 Hd.o
 clear hdn
 go_wp2_with fail
 refine(Hname.o _).mono ?_
 rintro e w3 ⟨rfl,rfl⟩
 rw[Hnm.o]
 go_wp2_with fail
 refine(Hcut2.o _).mono ?_
 rintro e w4 ⟨v4,rfl,ho4,hb4⟩
 obtain⟨g4,c4,rfl,hg4,hg5,c40⟩:=Qcw ho4
 obtain⟨hc4,hfz4,hz4⟩:=Bw hb4
 have hzb:=hz4 w.heap.size (Nat.lt_trans hz3 (by simp))
 have hzf:=hz4 w2.heap.size (by simp)
 have Hb4:=Aa ((Hb2.o.alloc hsz _).trans (hb4.mono (Nat.le_trans hsz (by simp))))
 have u0:w4.cell? ⟨w.heap.size,0,none⟩=some (.int .i64 0):=by rw[hc4 w.heap.size 0 (by simp;omega)];simp[go_sem,hc2,hc,hzz,hz3]
 have u1:w4.cell? ⟨w.heap.size,1,none⟩=some (.string ⟨#[]⟩):=by rw[hc4 w.heap.size 1 (by simp;omega)];simp[go_sem,hc2,hc,hzz,hz3]
 have u2:w4.cell? ⟨w.heap.size,2,none⟩=some (.string ⟨#[]⟩):=by rw[hc4 w.heap.size 2 (by simp;omega)];simp[go_sem,hc2,hc,hzz,hz3]
 have u3:w4.cell? ⟨w.heap.size,3,none⟩=some (.string ⟨#[]⟩):=by rw[hc4 w.heap.size 3 (by simp;omega)];simp[go_sem,hc2,hc,hzz,hz3]
 have d0:w4.cell? ⟨w2.heap.size,0,none⟩=some (.int .i64 (n0:Int)):=by rw[hc4 w2.heap.size 0 (by simp)];simp
 have d1:w4.cell? ⟨w2.heap.size,1,none⟩=some (.string ⟨b.toArray⟩):=by rw[hc4 w2.heap.size 1 (by simp)];simp
 have d2:w4.cell? ⟨w2.heap.size,2,none⟩=some (.string ⟨#[]⟩):=by rw[hc4 w2.heap.size 2 (by simp)];simp
 have d3:w4.cell? ⟨w2.heap.size,3,none⟩=some (.string ⟨#[]⟩):=by rw[hc4 w2.heap.size 3 (by simp)];simp
 have f1:∀j,w4.frozen? ⟨w.heap.size,j,none⟩=false:=fun j=>by rw[hfz4 w.heap.size j (by simp;omega)];simp[go_sem,hfz2,hfz,hzz,hz3]
 have f2:∀j,w4.frozen? ⟨w2.heap.size,j,none⟩=false:=fun j=>by rw[hfz4 w2.heap.size j (by simp)];simp
 clear hb4 ho4 hc hc2 hc4 hfz hfz2 hfz4 hz hz2 hz4
 have hn1:¬(w2.heap.size=w.heap.size):=by omega
 have hn2:¬(w.heap.size=w2.heap.size):=by omega
 have hn3:¬(w4.heap.size=w.heap.size):=by omega
 have hn4:¬(w.heap.size=w4.heap.size):=by omega
 go_wp2_with fail
 generalize hW0:w4.setCell ⟨w2.heap.size,2,none⟩ (.string ⟨k.toArray⟩)=W0
 have e0:W0.cell? ⟨w2.heap.size,0,none⟩=some (.int .i64 (n0:Int)):=by rw[<-hW0];simp[go_sem,d0]
 have e1:W0.cell? ⟨w2.heap.size,1,none⟩=some (.string ⟨b.toArray⟩):=by rw[<-hW0];simp[go_sem,d1]
 have e2:W0.cell? ⟨w2.heap.size,2,none⟩=some (.string ⟨k.toArray⟩):=by rw[<-hW0];simp[go_sem,hzf,d2,f2]
 have e3:W0.cell? ⟨w2.heap.size,3,none⟩=some (.string ⟨#[]⟩):=by rw[<-hW0];simp[go_sem,hzf,d3,f2]
 have v0:W0.cell? ⟨w.heap.size,0,none⟩=some (.int .i64 0):=by rw[<-hW0];simp[go_sem,u0,hn1,hn2]
 have v1:W0.cell? ⟨w.heap.size,1,none⟩=some (.string ⟨#[]⟩):=by rw[<-hW0];simp[go_sem,u1,hn1,hn2]
 have v2:W0.cell? ⟨w.heap.size,2,none⟩=some (.string ⟨#[]⟩):=by rw[<-hW0];simp[go_sem,u2,hn1,hn2]
 have v3:W0.cell? ⟨w.heap.size,3,none⟩=some (.string ⟨#[]⟩):=by rw[<-hW0];simp[go_sem,u3,hn1,hn2]
 have g1:∀j,W0.frozen? ⟨w.heap.size,j,none⟩=false:=fun j=>by rw[<-hW0];simp[go_sem,f1]
 have y1:w.heap.size<W0.heap.size:=by rw[<-hW0];simp[go_sem,hzb]
 have Hb5:Below w.heap.size w W0:=by
  rw[<-hW0]
  (repeat (first|exact Hb4.o|refine Below.setCell ?_ (by first|exact Ap _|(simp;omega)|omega) _|refine Below.alloc ?_ (by first|exact Ap _|(simp;omega)|omega) _|refine Below.drew ?_))
 have Hb5:=Aa Hb5
 clear hW0 u0 u1 u2 u3 d0 d1 d2 d3 f1 f2 Hb4 hzb hzf
 refine Gf [83,84,85,86,87,88,89,90,91,999,5] (by kernel_rfl) (by kernel_rfl) (by kernel_rfl) (fun u=>by dsimp only[Br,Bi,List.set])
  (fun i x W=>x=[.agg #[.int .i64 n0,.string ⟨b.toArray⟩,.string ⟨k.toArray⟩,.string ⟨#[]⟩],.slice (some ⟨g4,0,none⟩) 1 c4,.int .i64 1,.bool true,.bool true,.pointer (some ⟨w2.heap.size,2,none⟩),.string ⟨k.toArray⟩,.bool false,.bool false,undef,.bool false][i]?.getD undef)
  (fun L W=>W=if L 9=true then(((W0.drew.setCell ⟨w.heap.size,0,none⟩ (.int .i64 n0)).setCell ⟨w.heap.size,1,none⟩ (.string ⟨b.toArray⟩)).setCell ⟨w.heap.size,2,none⟩ (.string ⟨k.toArray⟩)).setCell ⟨w.heap.size,3,none⟩ (.string ⟨#[]⟩)else W0.drew) (fun _ _=>True) (fun _ _ _ _ _ h=>h) rfl ?_ ?_
 ·repeat (first|exact Aq.nil|(refine Aq.cons ?_ ?_;rotate_left))
  all_goals
   rintro L u W hL hpre hR K hK
   first|(simp[Region.binds]at hpre;done)|simp[Region.binds]at hpre|clear hpre
   rcases hl:L 9 with _|_
   all_goals
    first|exact absurd (hl.symm.trans hL) (by decide)|(
     rw[hl]at hR
     first|rw[if_neg (by decide)]at hR|rw[if_pos rfl]at hR
     have hR':=hR.symm
     subst hR'
     go_simp
     try (go_at_call 42;refine(Hk.o _).mono ?_;rintro e w' ⟨rfl,rfl⟩)
     first|(refine hK _ _ _ rfl Ab (by simp[hl,go_sem]) rfl;done)|(refine hK _ _ _ rfl Ab (by simp[hl,go_sem]) (by simp[Act.put,hpre]);done)|(refine hK undef _ _ rfl Ab (by simp[hl,go_sem]) (by simp[Act.put,hpre]);done))
 rintro L u W hL hφ hR
 have c10:=hφ 10 (by decide)
 simp at c10
 simp only[c10]
 rw[if_pos (hL 9 (by decide))]at hR
 subst hR
 go_wp2_with fail
 refine bodyPost_ret (v:=.tuple #[.agg #[.int .i64 n0,.string ⟨b.toArray⟩,.string ⟨k.toArray⟩,.string ⟨#[]⟩],.bool false]) (by simp[results,results114,go_sem,g1,y1,v0,v1,v2,v3]) rfl ?_
 exact Cm.no HF.o rfl (by(repeat (first|exact Hb5.o|refine Below.setCell ?_ (by first|exact Ap _|(simp;omega)|omega) _|refine Below.alloc ?_ (by first|exact Ap _|(simp;omega)|omega) _|refine Below.drew ?_)))
theorem Qdf(st:UInt8)(hst:st≠69)(s a b d:List UInt8)(w:World)(hs:s.length<=1000)(hp:Af 58 s=[a,b,d])(n0:Nat)(ho:Dj a 200=true)(hd:Cf a=some n0)(h1:1<=n0)(h2:n0<=200)(hnm:Au b=true)(k:List UInt8)(hq:Af 61 d=[k])(kk:Kd)(hk:Cg k=some kk):
  Calls prog 114 #[.string ⟨s.toArray⟩,.int .u8 (st.toNat:Int)] w (Cm (Bu st s) w):=by
 have hal:=Aj 58 s a (by rw[hp];simp)
 have hbl:=Aj 58 s b (by rw[hp];simp)
 have hdl:=Aj 58 s d (by rw[hp];simp)
 have hF:Bu st s=Du st a b d:=Dt hst hp
 have Hcut:=Aa (fun W=>Cc s 58 58 rfl W (by omega))
 rw[hp]at Hcut
 have Hnum:=Aa (fun W=>Db a 200 W (by omega) (by omega))
 have Hname:=Aa (fun W=>Cd b W (by omega))
 have hsl:=st.toNat_lt
 have t1:((st.toNat:Int) != 69)=true:=by have:=An hst;simpa using this
 have t2:((st.toNat:Int) == 69)=false:=An hst
 clear hp hst
 have hkl:=Aj 61 d k (by rw[hq];simp)
 rw[Vp (Jw hd h1 h2 hnm) hq,hk]at hF
 have Hkb:=Aa (Ee.1 hk).2
 have HF:=Aa hF
 have Ho:=Aa ho
 have Hd:=Aa hd
 have Hnm:=Aa hnm
 have Hcut2:=Aa (fun W=>Cc d 61 61 rfl W (by omega))
 rw[hq]at Hcut2
 clear hF ho hd hnm hq
 have hkk:=fun W=>Mt k.length k W (Ap _) (by omega)
 rw[hk]at hkk
 have Hk:=Aa hkk
 clear hkk hk
 go_enter func114,ntmps114
 go_wp2_with fail
 refine(Hcut.o _).mono ?_
 rintro e w1 ⟨v,rfl,ho,hb⟩
 obtain⟨g,c,rfl,hg1,hg2,c0,c1,c2⟩:=Fp ho
 simp at hg1
 obtain⟨hc,hfz,hz⟩:=Bw hb
 have Hb:=Aa (((As w.heap.size w).alloc (Ap _) _).trans (hb.mono (by simp)))
 have hzz:=hz w.heap.size (by simp)
 clear hb ho
 go_wp2_with fail
 refine(Hnum.o _).mono ?_
 rintro e w2 ⟨n,hn,rfl,hdn,hb2⟩
 rw[Ho.o]
 obtain⟨hc2,hfz2,hz2⟩:=Bw hb2
 have Hb2:=Aa (Hb.o.trans (hb2.mono Hb.o.size))
 have hsz:=Hb2.o.size
 have hz3:=hz2 _ hzz
 clear hb2
 obtain rfl:=hdn n0 Hd.o
 clear hdn
 go_wp2_with fail
 refine(Hname.o _).mono ?_
 rintro e w3 ⟨rfl,rfl⟩
 rw[Hnm.o]
 go_wp2_with fail
 refine(Hcut2.o _).mono ?_
 rintro e w4 ⟨v4,rfl,ho4,hb4⟩
 obtain⟨g4,c4,rfl,hg4,hg5,c40⟩:=Qcw ho4
 obtain⟨hc4,hfz4,hz4⟩:=Bw hb4
 have hzb:=hz4 w.heap.size (Nat.lt_trans hz3 (by simp))
 have hzf:=hz4 w2.heap.size (by simp)
 have Hb4:=Aa ((Hb2.o.alloc hsz _).trans (hb4.mono (Nat.le_trans hsz (by simp))))
 have u0:w4.cell? ⟨w.heap.size,0,none⟩=some (.int .i64 0):=by rw[hc4 w.heap.size 0 (by simp;omega)];simp[go_sem,hc2,hc,hzz,hz3]
 have u1:w4.cell? ⟨w.heap.size,1,none⟩=some (.string ⟨#[]⟩):=by rw[hc4 w.heap.size 1 (by simp;omega)];simp[go_sem,hc2,hc,hzz,hz3]
 have u2:w4.cell? ⟨w.heap.size,2,none⟩=some (.string ⟨#[]⟩):=by rw[hc4 w.heap.size 2 (by simp;omega)];simp[go_sem,hc2,hc,hzz,hz3]
 have u3:w4.cell? ⟨w.heap.size,3,none⟩=some (.string ⟨#[]⟩):=by rw[hc4 w.heap.size 3 (by simp;omega)];simp[go_sem,hc2,hc,hzz,hz3]
 have d0:w4.cell? ⟨w2.heap.size,0,none⟩=some (.int .i64 (n0:Int)):=by rw[hc4 w2.heap.size 0 (by simp)];simp
 have d1:w4.cell? ⟨w2.heap.size,1,none⟩=some (.string ⟨b.toArray⟩):=by rw[hc4 w2.heap.size 1 (by simp)];simp
 have d2:w4.cell? ⟨w2.heap.size,2,none⟩=some (.string ⟨#[]⟩):=by rw[hc4 w2.heap.size 2 (by simp)];simp
 have d3:w4.cell? ⟨w2.heap.size,3,none⟩=some (.string ⟨#[]⟩):=by rw[hc4 w2.heap.size 3 (by simp)];simp
 have f1:∀j,w4.frozen? ⟨w.heap.size,j,none⟩=false:=fun j=>by rw[hfz4 w.heap.size j (by simp;omega)];simp[go_sem,hfz2,hfz,hzz,hz3]
 have f2:∀j,w4.frozen? ⟨w2.heap.size,j,none⟩=false:=fun j=>by rw[hfz4 w2.heap.size j (by simp)];simp
 clear hb4 ho4 hc hc2 hc4 hfz hfz2 hfz4 hz hz2 hz4
 have hn1:¬(w2.heap.size=w.heap.size):=by omega
 have hn2:¬(w.heap.size=w2.heap.size):=by omega
 have hn3:¬(w4.heap.size=w.heap.size):=by omega
 have hn4:¬(w.heap.size=w4.heap.size):=by omega
 go_wp2_with fail
 generalize hW0:w4.setCell ⟨w2.heap.size,2,none⟩ (.string ⟨k.toArray⟩)=W0
 have e0:W0.cell? ⟨w2.heap.size,0,none⟩=some (.int .i64 (n0:Int)):=by rw[<-hW0];simp[go_sem,d0]
 have e1:W0.cell? ⟨w2.heap.size,1,none⟩=some (.string ⟨b.toArray⟩):=by rw[<-hW0];simp[go_sem,d1]
 have e2:W0.cell? ⟨w2.heap.size,2,none⟩=some (.string ⟨k.toArray⟩):=by rw[<-hW0];simp[go_sem,hzf,d2,f2]
 have e3:W0.cell? ⟨w2.heap.size,3,none⟩=some (.string ⟨#[]⟩):=by rw[<-hW0];simp[go_sem,hzf,d3,f2]
 have v0:W0.cell? ⟨w.heap.size,0,none⟩=some (.int .i64 0):=by rw[<-hW0];simp[go_sem,u0,hn1,hn2]
 have v1:W0.cell? ⟨w.heap.size,1,none⟩=some (.string ⟨#[]⟩):=by rw[<-hW0];simp[go_sem,u1,hn1,hn2]
 have v2:W0.cell? ⟨w.heap.size,2,none⟩=some (.string ⟨#[]⟩):=by rw[<-hW0];simp[go_sem,u2,hn1,hn2]
 have v3:W0.cell? ⟨w.heap.size,3,none⟩=some (.string ⟨#[]⟩):=by rw[<-hW0];simp[go_sem,u3,hn1,hn2]
 have g1:∀j,W0.frozen? ⟨w.heap.size,j,none⟩=false:=fun j=>by rw[<-hW0];simp[go_sem,f1]
 have y1:w.heap.size<W0.heap.size:=by rw[<-hW0];simp[go_sem,hzb]
 have Hb5:Below w.heap.size w W0:=by
  rw[<-hW0]
  (repeat (first|exact Hb4.o|refine Below.setCell ?_ (by first|exact Ap _|(simp;omega)|omega) _|refine Below.alloc ?_ (by first|exact Ap _|(simp;omega)|omega) _|refine Below.drew ?_))
 have Hb5:=Aa Hb5
 clear hW0 u0 u1 u2 u3 d0 d1 d2 d3 f1 f2 Hb4 hzb hzf
 refine Gf [83,84,85,86,87,88,89,90,91,999,5] (by kernel_rfl) (by kernel_rfl) (by kernel_rfl) (fun u=>by dsimp only[Br,Bi,List.set])
  (fun i x W=>x=[.agg #[.int .i64 n0,.string ⟨b.toArray⟩,.string ⟨k.toArray⟩,.string ⟨#[]⟩],.slice (some ⟨g4,0,none⟩) 1 c4,.int .i64 1,.bool true,.bool true,.pointer (some ⟨w2.heap.size,2,none⟩),.string ⟨k.toArray⟩,.bool true,.bool true,undef,.bool true][i]?.getD undef)
  (fun L W=>W=if L 9=true then(((W0.drew.setCell ⟨w.heap.size,0,none⟩ (.int .i64 n0)).setCell ⟨w.heap.size,1,none⟩ (.string ⟨b.toArray⟩)).setCell ⟨w.heap.size,2,none⟩ (.string ⟨k.toArray⟩)).setCell ⟨w.heap.size,3,none⟩ (.string ⟨#[]⟩)else W0.drew) (fun _ _=>True) (fun _ _ _ _ _ h=>h) rfl ?_ ?_
 ·repeat (first|exact Aq.nil|(refine Aq.cons ?_ ?_;rotate_left))
  all_goals
   rintro L u W hL hpre hR K hK
   first|(simp[Region.binds]at hpre;done)|simp[Region.binds]at hpre|clear hpre
   rcases hl:L 9 with _|_
   all_goals
    first|exact absurd (hl.symm.trans hL) (by decide)|(
     rw[hl]at hR
     first|rw[if_neg (by decide)]at hR|rw[if_pos rfl]at hR
     have hR':=hR.symm
     subst hR'
     go_simp
     try (go_at_call 42;refine(Hk.o _).mono ?_;rintro e w' ⟨rfl,rfl⟩)
     first|(refine hK _ _ _ rfl Ab (by simp[hl,go_sem]) rfl;done)|(refine hK _ _ _ rfl Ab (by simp[hl,go_sem]) (by simp[Act.put,hpre]);done)|(refine hK undef _ _ rfl Ab (by simp[hl,go_sem]) (by simp[Act.put,hpre]);done))
 rintro L u W hL hφ hR
 have c10:=hφ 10 (by decide)
 simp at c10
 simp only[c10]
 rw[if_pos (hL 9 (by decide))]at hR
 subst hR
 go_wp2_with fail
 refine bodyPost_ret (v:=.tuple #[.agg #[.int .i64 n0,.string ⟨b.toArray⟩,.string ⟨k.toArray⟩,.string ⟨#[]⟩],.bool true]) (by simp[results,results114,go_sem,g1,y1,v0,v1,v2,v3]) rfl ?_
 exact Cm.yes HF.o (by unfold sfV;rw[Hkb.o]) (by(repeat (first|exact Hb5.o|refine Below.setCell ?_ (by first|exact Ap _|(simp;omega)|omega) _|refine Below.alloc ?_ (by first|exact Ap _|(simp;omega)|omega) _|refine Below.drew ?_)))
theorem Qei(s a b d:List UInt8)(w:World)(hs:s.length<=1000)(hp:Af 58 s=[a,b,d])(n0:Nat)(ho:Dj a 200=true)(hd:Cf a=some n0)(h1:1<=n0)(h2:n0<=200)(hnm:Au b=true)(k v:List UInt8)(hq:Af 61 d=[k,v]):
  Calls prog 114 #[.string ⟨s.toArray⟩,.int .u8 85] w (Cm (Bu 85 s) w):=by
 have hal:=Aj 58 s a (by rw[hp];simp)
 have hbl:=Aj 58 s b (by rw[hp];simp)
 have hdl:=Aj 58 s d (by rw[hp];simp)
 have hF:Bu 85 s=Du 85 a b d:=Dt (by decide) hp
 have Hcut:=Aa (fun W=>Cc s 58 58 rfl W (by omega))
 rw[hp]at Hcut
 have Hnum:=Aa (fun W=>Db a 200 W (by omega) (by omega))
 have Hname:=Aa (fun W=>Cd b W (by omega))
 clear hp
 have hkl:=Aj 61 d k (by rw[hq];simp)
 have hvl:=Aj 61 d v (by rw[hq];simp)
 rw[Rh (Jw hd h1 h2 hnm) hq]at hF
 rw[if_neg (fun h=>absurd h.1 (by decide))]at hF
 have HF:=Aa hF
 have Ho:=Aa ho
 have Hd:=Aa hd
 have Hnm:=Aa hnm
 have Hcut2:=Aa (fun W=>Cc d 61 61 rfl W (by omega))
 rw[hq]at Hcut2
 clear hF ho hd hnm hq
 go_enter func114,ntmps114
 go_wp2_with fail
 refine(Hcut.o _).mono ?_
 rintro e w1 ⟨v,rfl,ho,hb⟩
 obtain⟨g,c,rfl,hg1,hg2,c0,c1,c2⟩:=Fp ho
 simp at hg1
 obtain⟨hc,hfz,hz⟩:=Bw hb
 have Hb:=Aa (((As w.heap.size w).alloc (Ap _) _).trans (hb.mono (by simp)))
 have hzz:=hz w.heap.size (by simp)
 clear hb ho
 go_wp2_with fail
 refine(Hnum.o _).mono ?_
 rintro e w2 ⟨n,hn,rfl,hdn,hb2⟩
 rw[Ho.o]
 obtain⟨hc2,hfz2,hz2⟩:=Bw hb2
 have Hb2:=Aa (Hb.o.trans (hb2.mono Hb.o.size))
 have hsz:=Hb2.o.size
 have hz3:=hz2 _ hzz
 clear hb2
 obtain rfl:=hdn n0 Hd.o
 clear hdn
 go_wp2_with fail
 refine(Hname.o _).mono ?_
 rintro e w3 ⟨rfl,rfl⟩
 rw[Hnm.o]
 go_wp2_with fail
 refine(Hcut2.o _).mono ?_
 rintro e w4 ⟨v4,rfl,ho4,hb4⟩
 obtain⟨g4,c4,rfl,hg4,hg5,c40,c41⟩:=Mp ho4
 obtain⟨hc4,hfz4,hz4⟩:=Bw hb4
 have hzb:=hz4 w.heap.size (Nat.lt_trans hz3 (by simp))
 have hzf:=hz4 w2.heap.size (by simp)
 have Hb4:=Aa ((Hb2.o.alloc hsz _).trans (hb4.mono (Nat.le_trans hsz (by simp))))
 have u0:w4.cell? ⟨w.heap.size,0,none⟩=some (.int .i64 0):=by rw[hc4 w.heap.size 0 (by simp;omega)];simp[go_sem,hc2,hc,hzz,hz3]
 have u1:w4.cell? ⟨w.heap.size,1,none⟩=some (.string ⟨#[]⟩):=by rw[hc4 w.heap.size 1 (by simp;omega)];simp[go_sem,hc2,hc,hzz,hz3]
 have u2:w4.cell? ⟨w.heap.size,2,none⟩=some (.string ⟨#[]⟩):=by rw[hc4 w.heap.size 2 (by simp;omega)];simp[go_sem,hc2,hc,hzz,hz3]
 have u3:w4.cell? ⟨w.heap.size,3,none⟩=some (.string ⟨#[]⟩):=by rw[hc4 w.heap.size 3 (by simp;omega)];simp[go_sem,hc2,hc,hzz,hz3]
 have d0:w4.cell? ⟨w2.heap.size,0,none⟩=some (.int .i64 (n0:Int)):=by rw[hc4 w2.heap.size 0 (by simp)];simp
 have d1:w4.cell? ⟨w2.heap.size,1,none⟩=some (.string ⟨b.toArray⟩):=by rw[hc4 w2.heap.size 1 (by simp)];simp
 have d2:w4.cell? ⟨w2.heap.size,2,none⟩=some (.string ⟨#[]⟩):=by rw[hc4 w2.heap.size 2 (by simp)];simp
 have d3:w4.cell? ⟨w2.heap.size,3,none⟩=some (.string ⟨#[]⟩):=by rw[hc4 w2.heap.size 3 (by simp)];simp
 have f1:∀j,w4.frozen? ⟨w.heap.size,j,none⟩=false:=fun j=>by rw[hfz4 w.heap.size j (by simp;omega)];simp[go_sem,hfz2,hfz,hzz,hz3]
 have f2:∀j,w4.frozen? ⟨w2.heap.size,j,none⟩=false:=fun j=>by rw[hfz4 w2.heap.size j (by simp)];simp
 clear hb4 ho4 hc hc2 hc4 hfz hfz2 hfz4 hz hz2 hz4
 have hn1:¬(w2.heap.size=w.heap.size):=by omega
 have hn2:¬(w.heap.size=w2.heap.size):=by omega
 have hn3:¬(w4.heap.size=w.heap.size):=by omega
 have hn4:¬(w.heap.size=w4.heap.size):=by omega
 go_wp2_with fail
 generalize hW0:(w4.setCell ⟨w2.heap.size,2,none⟩ (.string ⟨k.toArray⟩)).setCell ⟨w2.heap.size,3,none⟩ (.string ⟨v.toArray⟩)=W0
 have e0:W0.cell? ⟨w2.heap.size,0,none⟩=some (.int .i64 (n0:Int)):=by rw[<-hW0];simp[go_sem,d0]
 have e1:W0.cell? ⟨w2.heap.size,1,none⟩=some (.string ⟨b.toArray⟩):=by rw[<-hW0];simp[go_sem,d1]
 have e2:W0.cell? ⟨w2.heap.size,2,none⟩=some (.string ⟨k.toArray⟩):=by rw[<-hW0];simp[go_sem,hzf,d2,f2]
 have e3:W0.cell? ⟨w2.heap.size,3,none⟩=some (.string ⟨v.toArray⟩):=by rw[<-hW0];simp[go_sem,hzf,d3,f2]
 have v0:W0.cell? ⟨w.heap.size,0,none⟩=some (.int .i64 0):=by rw[<-hW0];simp[go_sem,u0,hn1,hn2]
 have v1:W0.cell? ⟨w.heap.size,1,none⟩=some (.string ⟨#[]⟩):=by rw[<-hW0];simp[go_sem,u1,hn1,hn2]
 have v2:W0.cell? ⟨w.heap.size,2,none⟩=some (.string ⟨#[]⟩):=by rw[<-hW0];simp[go_sem,u2,hn1,hn2]
 have v3:W0.cell? ⟨w.heap.size,3,none⟩=some (.string ⟨#[]⟩):=by rw[<-hW0];simp[go_sem,u3,hn1,hn2]
 have g1:∀j,W0.frozen? ⟨w.heap.size,j,none⟩=false:=fun j=>by rw[<-hW0];simp[go_sem,f1]
 have y1:w.heap.size<W0.heap.size:=by rw[<-hW0];simp[go_sem,hzb]
 have Hb5:Below w.heap.size w W0:=by
  rw[<-hW0]
  (repeat (first|exact Hb4.o|refine Below.setCell ?_ (by first|exact Ap _|(simp;omega)|omega) _|refine Below.alloc ?_ (by first|exact Ap _|(simp;omega)|omega) _|refine Below.drew ?_))
 have Hb5:=Aa Hb5
 clear hW0 u0 u1 u2 u3 d0 d1 d2 d3 f1 f2 Hb4 hzb hzf
 refine Gf [73,74,75,76,77,78,79,80,81,82,999,5] (by kernel_rfl) (by kernel_rfl) (by kernel_rfl) (fun u=>by dsimp only[Br,Bi,List.set])
  (fun i x W=>x=[.agg #[.int .i64 n0,.string ⟨b.toArray⟩,.string ⟨k.toArray⟩,.string ⟨v.toArray⟩],.int .u8 85,.bool false,.bool false,undef,undef,undef,undef,undef,.bool false,undef,.bool false][i]?.getD undef)
  (fun L W=>W=if L 10=true then(((W0.drew.setCell ⟨w.heap.size,0,none⟩ (.int .i64 n0)).setCell ⟨w.heap.size,1,none⟩ (.string ⟨b.toArray⟩)).setCell ⟨w.heap.size,2,none⟩ (.string ⟨k.toArray⟩)).setCell ⟨w.heap.size,3,none⟩ (.string ⟨v.toArray⟩)else W0.drew) (fun _ _=>True) (fun _ _ _ _ _ h=>h) rfl ?_ ?_
 ·repeat (first|exact Aq.nil|(refine Aq.cons ?_ ?_;rotate_left))
  all_goals
   rintro L u W hL hpre hR K hK
   first|(simp[Region.binds]at hpre;done)|simp[Region.binds]at hpre|clear hpre
   rcases hl:L 10 with _|_
   all_goals
    first|exact absurd (hl.symm.trans hL) (by decide)|(
     rw[hl]at hR
     first|rw[if_neg (by decide)]at hR|rw[if_pos rfl]at hR
     have hR':=hR.symm
     subst hR'
     go_simp
     first|(refine hK _ _ _ rfl Ab (by simp[hl,go_sem]) rfl;done)|(refine hK _ _ _ rfl Ab (by simp[hl,go_sem]) (by simp[Act.put,hpre]);done)|(refine hK undef _ _ rfl Ab (by simp[hl,go_sem]) (by simp[Act.put,hpre]);done))
 rintro L u W hL hφ hR
 have c11:=hφ 11 (by decide)
 simp at c11
 simp only[c11]
 rw[if_pos (hL 10 (by decide))]at hR
 subst hR
 go_wp2_with fail
 refine bodyPost_ret (v:=.tuple #[.agg #[.int .i64 n0,.string ⟨b.toArray⟩,.string ⟨k.toArray⟩,.string ⟨v.toArray⟩],.bool false]) (by simp[results,results114,go_sem,g1,y1,v0,v1,v2,v3]) rfl ?_
 exact Cm.no HF.o rfl (by(repeat (first|exact Hb5.o|refine Below.setCell ?_ (by first|exact Ap _|(simp;omega)|omega) _|refine Below.alloc ?_ (by first|exact Ap _|(simp;omega)|omega) _|refine Below.drew ?_)))
end
end Go.Proofs.YtkigmebejmmikaaGreatDoor
