/- Texts joined. Conditions: as each theorem names them. -/
import Derived.Test.YtkgkoicedddkmaaGreatDoorC03
import Derived.Test.YtkgkoicedddkmaaGreatDoorC09
set_option maxRecDepth 100000
set_option maxHeartbeats 32000000
set_option linter.unusedVariables false
set_option linter.unusedSimpArgs false
namespace Go.Proofs.YtkgkoicedddkmaaGreatDoor
open Go.RowKit Go.Proofs.Tryz
section
attribute [local go_sem] Qiz Qii Qib Qgw ByteArray.mk_append_mk
theorem Qdi(st:UInt8)(hst:st≠69)(s a b d:List UInt8)(w:World)(hs:s.length<=1000)(hp:Ai 58 s=[a,b,d])(n0:Nat)(ho:Dp a 200=true)(hd:Cn a=some n0)(h1:1<=n0)(h2:n0<=200)(hnm:Aw b=true)(k:List UInt8)(hq:Ai 61 d=[k])(kk:Kd)(hk:Co k=some kk):
  Calls prog 109 #[.string ⟨s.toArray⟩,.int .u8 (st.toNat:Int)] w (Cp (Br st s) w):=by
 have hal:=Ak 58 s a (by rw[hp];simp)
 have hbl:=Ak 58 s b (by rw[hp];simp)
 have hdl:=Ak 58 s d (by rw[hp];simp)
 have hF:Br st s=D4 st a b d:=D3 hst hp
 have Hcut:=Aa (fun W=>Cg s 58 58 rfl W (by omega))
 rw[hp]at Hcut
 have Hnum:=Aa (fun W=>Dg a 200 W (by omega) (by omega))
 have Hname:=Aa (fun W=>Cd b W (by omega))
 have hsl:=st.toNat_lt
 have t1:((st.toNat:Int) != 69)=true:=by have:=Am hst;simpa using this
 have t2:((st.toNat:Int) == 69)=false:=Am hst
 clear hp hst
 have hkl:=Ak 61 d k (by rw[hq];simp)
 rw[Xo (J8 hd h1 h2 hnm) hq,hk]at hF
 have Hkb:=Aa (Em.1 hk).2
 have HF:=Aa hF
 have Ho:=Aa ho
 have Hd:=Aa hd
 have Hnm:=Aa hnm
 have Hcut2:=Aa (fun W=>Cg d 61 61 rfl W (by omega))
 rw[hq]at Hcut2
 clear hF ho hd hnm hq
 have hkk:=fun W=>Na k.length k W (Ap _) (by omega)
 rw[hk]at hkk
 have Hk:=Aa hkk
 clear hkk hk
 go_enter func109,ntmps109
 go_wp2_with fail
 refine(Hcut.o _).mono ?_
 rintro e w1 ⟨v,rfl,ho,hb⟩
 obtain⟨g,c,rfl,hg1,hg2,c0,c1,c2⟩:=Ga ho
 simp at hg1
 obtain⟨hc,hfz,hz⟩:=By hb
 have Hb:=Aa (((Aq w.heap.size w).alloc (Ap _) _).trans (hb.mono (by simp)))
 have hzz:=hz w.heap.size (by simp)
 clear hb ho
 go_wp2_with fail
 refine(Hnum.o _).mono ?_
 rintro e w2 ⟨n,hn,rfl,hdn,hb2⟩
 rw[Ho.o]
 obtain⟨hc2,hfz2,hz2⟩:=By hb2
 have Hb2:=Aa (Hb.o.trans (hb2.mono Hb.o.size))
 have hsz:=Hb2.o.size
 have hz3:=hz2 _ hzz
 clear hb2
 obtain rfl:=hdn n0 Hd.o
 clear hdn
 go_wp2_with fail
 refine(Hname.o _).mono ?_
 rintro e w3 ⟨rfl,rfl⟩
 rw[Hnm.o]
 go_wp2_with fail
 refine(Hcut2.o _).mono ?_
 rintro e w4 ⟨v4,rfl,ho4,hb4⟩
 obtain⟨g4,c4,rfl,hg4,hg5,c40⟩:=Qc7 ho4
 obtain⟨hc4,hfz4,hz4⟩:=By hb4
 have hzb:=hz4 w.heap.size (Nat.lt_trans hz3 (by simp))
 have hzf:=hz4 w2.heap.size (by simp)
 have Hb4:=Aa ((Hb2.o.alloc hsz _).trans (hb4.mono (Nat.le_trans hsz (by simp))))
 have u0:w4.cell? ⟨w.heap.size,0,none⟩=some (.int .i64 0):=by rw[hc4 w.heap.size 0 (by simp;omega)];simp[go_sem,hc2,hc,hzz,hz3]
 have u1:w4.cell? ⟨w.heap.size,1,none⟩=some (.string ⟨#[]⟩):=by rw[hc4 w.heap.size 1 (by simp;omega)];simp[go_sem,hc2,hc,hzz,hz3]
 have u2:w4.cell? ⟨w.heap.size,2,none⟩=some (.string ⟨#[]⟩):=by rw[hc4 w.heap.size 2 (by simp;omega)];simp[go_sem,hc2,hc,hzz,hz3]
 have u3:w4.cell? ⟨w.heap.size,3,none⟩=some (.string ⟨#[]⟩):=by rw[hc4 w.heap.size 3 (by simp;omega)];simp[go_sem,hc2,hc,hzz,hz3]
 have d0:w4.cell? ⟨w2.heap.size,0,none⟩=some (.int .i64 (n0:Int)):=by rw[hc4 w2.heap.size 0 (by simp)];simp
 have d1:w4.cell? ⟨w2.heap.size,1,none⟩=some (.string ⟨b.toArray⟩):=by rw[hc4 w2.heap.size 1 (by simp)];simp
 have d2:w4.cell? ⟨w2.heap.size,2,none⟩=some (.string ⟨#[]⟩):=by rw[hc4 w2.heap.size 2 (by simp)];simp
 have d3:w4.cell? ⟨w2.heap.size,3,none⟩=some (.string ⟨#[]⟩):=by rw[hc4 w2.heap.size 3 (by simp)];simp
 have f1:∀j,w4.frozen? ⟨w.heap.size,j,none⟩=false:=fun j=>by rw[hfz4 w.heap.size j (by simp;omega)];simp[go_sem,hfz2,hfz,hzz,hz3]
 have f2:∀j,w4.frozen? ⟨w2.heap.size,j,none⟩=false:=fun j=>by rw[hfz4 w2.heap.size j (by simp)];simp
 clear hb4 ho4 hc hc2 hc4 hfz hfz2 hfz4 hz hz2 hz4
 have hn1:¬(w2.heap.size=w.heap.size):=by omega
 have hn2:¬(w.heap.size=w2.heap.size):=by omega
 have hn3:¬(w4.heap.size=w.heap.size):=by omega
 have hn4:¬(w.heap.size=w4.heap.size):=by omega
 go_wp2_with fail
 generalize hW0:w4.setCell ⟨w2.heap.size,2,none⟩ (.string ⟨k.toArray⟩)=W0
 have e0:W0.cell? ⟨w2.heap.size,0,none⟩=some (.int .i64 (n0:Int)):=by rw[<-hW0];simp[go_sem,d0]
 have e1:W0.cell? ⟨w2.heap.size,1,none⟩=some (.string ⟨b.toArray⟩):=by rw[<-hW0];simp[go_sem,d1]
 have e2:W0.cell? ⟨w2.heap.size,2,none⟩=some (.string ⟨k.toArray⟩):=by rw[<-hW0];simp[go_sem,hzf,d2,f2]
 have e3:W0.cell? ⟨w2.heap.size,3,none⟩=some (.string ⟨#[]⟩):=by rw[<-hW0];simp[go_sem,hzf,d3,f2]
 have v0:W0.cell? ⟨w.heap.size,0,none⟩=some (.int .i64 0):=by rw[<-hW0];simp[go_sem,u0,hn1,hn2]
 have v1:W0.cell? ⟨w.heap.size,1,none⟩=some (.string ⟨#[]⟩):=by rw[<-hW0];simp[go_sem,u1,hn1,hn2]
 have v2:W0.cell? ⟨w.heap.size,2,none⟩=some (.string ⟨#[]⟩):=by rw[<-hW0];simp[go_sem,u2,hn1,hn2]
 have v3:W0.cell? ⟨w.heap.size,3,none⟩=some (.string ⟨#[]⟩):=by rw[<-hW0];simp[go_sem,u3,hn1,hn2]
 have g1:∀j,W0.frozen? ⟨w.heap.size,j,none⟩=false:=fun j=>by rw[<-hW0];simp[go_sem,f1]
 have y1:w.heap.size<W0.heap.size:=by rw[<-hW0];simp[go_sem,hzb]
 have Hb5:Below w.heap.size w W0:=by
  rw[<-hW0]
  (repeat (first|exact Hb4.o|refine Below.setCell ?_ (by first|exact Ap _|(simp;omega)|omega) _|refine Below.alloc ?_ (by first|exact Ap _|(simp;omega)|omega) _|refine Below.drew ?_))
 have Hb5:=Aa Hb5
 clear hW0 u0 u1 u2 u3 d0 d1 d2 d3 f1 f2 Hb4 hzb hzf
 refine Gl [83,84,85,86,87,88,89,90,91,999,5] (by kernel_rfl) (by kernel_rfl) (by kernel_rfl) (fun u=>by dsimp only[Qbm,Bm,List.set])
  (fun i x W=>x=[.agg #[.int .i64 n0,.string ⟨b.toArray⟩,.string ⟨k.toArray⟩,.string ⟨#[]⟩],.slice (some ⟨g4,0,none⟩) 1 c4,.int .i64 1,.bool true,.bool true,.pointer (some ⟨w2.heap.size,2,none⟩),.string ⟨k.toArray⟩,.bool true,.bool true,undef,.bool true][i]?.getD undef)
  (fun L W=>W=if L 9=true then(((W0.drew.setCell ⟨w.heap.size,0,none⟩ (.int .i64 n0)).setCell ⟨w.heap.size,1,none⟩ (.string ⟨b.toArray⟩)).setCell ⟨w.heap.size,2,none⟩ (.string ⟨k.toArray⟩)).setCell ⟨w.heap.size,3,none⟩ (.string ⟨#[]⟩)else W0.drew) (fun _ _=>True) (fun _ _ _ _ _ h=>h) rfl ?_ ?_
 ·repeat (first|exact Ah.nil|(refine Ah.cons ?_ ?_;rotate_left))
  all_goals
   rintro L u W hL hpre hR K hK
   first|(simp[Region.binds]at hpre;done)|simp[Region.binds]at hpre|clear hpre
   rcases hl:L 9 with _|_
   all_goals
    first|exact absurd (hl.symm.trans hL) (by decide)|(
     rw[hl]at hR
     first|rw[if_neg (by decide)]at hR|rw[if_pos rfl]at hR
     have hR':=hR.symm
     subst hR'
     go_simp
     try (go_at_call 62;refine(Hk.o _).mono ?_;rintro e w' ⟨rfl,rfl⟩)
     first|(refine hK _ _ _ rfl Ac (by simp[hl,go_sem]) rfl;done)|(refine hK _ _ _ rfl Ac (by simp[hl,go_sem]) (by simp[Act.put,hpre]);done)|(refine hK undef _ _ rfl Ac (by simp[hl,go_sem]) (by simp[Act.put,hpre]);done))
 rintro L u W hL hφ hR
 have c10:=hφ 10 (by decide)
 simp at c10
 simp only[c10]
 rw[if_pos (hL 9 (by decide))]at hR
 subst hR
 go_wp2_with fail
 refine bodyPost_ret (v:=.tuple #[.agg #[.int .i64 n0,.string ⟨b.toArray⟩,.string ⟨k.toArray⟩,.string ⟨#[]⟩],.bool true]) (by simp[results,results109,go_sem,g1,y1,v0,v1,v2,v3]) rfl ?_
 exact Cp.yes HF.o (by unfold sfV;rw[Hkb.o]) (by(repeat (first|exact Hb5.o|refine Below.setCell ?_ (by first|exact Ap _|(simp;omega)|omega) _|refine Below.alloc ?_ (by first|exact Ap _|(simp;omega)|omega) _|refine Below.drew ?_)))
theorem Qeg(s a b d:List UInt8)(w:World)(hs:s.length<=1000)(hp:Ai 58 s=[a,b,d])(n0:Nat)(ho:Dp a 200=true)(hd:Cn a=some n0)(h1:1<=n0)(h2:n0<=200)(hnm:Aw b=true)(k v:List UInt8)(hq:Ai 61 d=[k,v]):
  Calls prog 109 #[.string ⟨s.toArray⟩,.int .u8 85] w (Cp (Br 85 s) w):=by
 have hal:=Ak 58 s a (by rw[hp];simp)
 have hbl:=Ak 58 s b (by rw[hp];simp)
 have hdl:=Ak 58 s d (by rw[hp];simp)
 have hF:Br 85 s=D4 85 a b d:=D3 (by decide) hp
 have Hcut:=Aa (fun W=>Cg s 58 58 rfl W (by omega))
 rw[hp]at Hcut
 have Hnum:=Aa (fun W=>Dg a 200 W (by omega) (by omega))
 have Hname:=Aa (fun W=>Cd b W (by omega))
 clear hp
 have hkl:=Ak 61 d k (by rw[hq];simp)
 have hvl:=Ak 61 d v (by rw[hq];simp)
 rw[Qix (J8 hd h1 h2 hnm) hq]at hF
 rw[if_neg (fun h=>absurd h.1 (by decide))]at hF
 have HF:=Aa hF
 have Ho:=Aa ho
 have Hd:=Aa hd
 have Hnm:=Aa hnm
 have Hcut2:=Aa (fun W=>Cg d 61 61 rfl W (by omega))
 rw[hq]at Hcut2
 clear hF ho hd hnm hq
 go_enter func109,ntmps109
 go_wp2_with fail
 refine(Hcut.o _).mono ?_
 rintro e w1 ⟨v,rfl,ho,hb⟩
 obtain⟨g,c,rfl,hg1,hg2,c0,c1,c2⟩:=Ga ho
 simp at hg1
 obtain⟨hc,hfz,hz⟩:=By hb
 have Hb:=Aa (((Aq w.heap.size w).alloc (Ap _) _).trans (hb.mono (by simp)))
 have hzz:=hz w.heap.size (by simp)
 clear hb ho
 go_wp2_with fail
 refine(Hnum.o _).mono ?_
 rintro e w2 ⟨n,hn,rfl,hdn,hb2⟩
 rw[Ho.o]
 obtain⟨hc2,hfz2,hz2⟩:=By hb2
 have Hb2:=Aa (Hb.o.trans (hb2.mono Hb.o.size))
 have hsz:=Hb2.o.size
 have hz3:=hz2 _ hzz
 clear hb2
 obtain rfl:=hdn n0 Hd.o
 clear hdn
 go_wp2_with fail
 refine(Hname.o _).mono ?_
 rintro e w3 ⟨rfl,rfl⟩
 rw[Hnm.o]
 go_wp2_with fail
 refine(Hcut2.o _).mono ?_
 rintro e w4 ⟨v4,rfl,ho4,hb4⟩
 obtain⟨g4,c4,rfl,hg4,hg5,c40,c41⟩:=Nb ho4
 obtain⟨hc4,hfz4,hz4⟩:=By hb4
 have hzb:=hz4 w.heap.size (Nat.lt_trans hz3 (by simp))
 have hzf:=hz4 w2.heap.size (by simp)
 have Hb4:=Aa ((Hb2.o.alloc hsz _).trans (hb4.mono (Nat.le_trans hsz (by simp))))
 have u0:w4.cell? ⟨w.heap.size,0,none⟩=some (.int .i64 0):=by rw[hc4 w.heap.size 0 (by simp;omega)];simp[go_sem,hc2,hc,hzz,hz3]
 have u1:w4.cell? ⟨w.heap.size,1,none⟩=some (.string ⟨#[]⟩):=by rw[hc4 w.heap.size 1 (by simp;omega)];simp[go_sem,hc2,hc,hzz,hz3]
 have u2:w4.cell? ⟨w.heap.size,2,none⟩=some (.string ⟨#[]⟩):=by rw[hc4 w.heap.size 2 (by simp;omega)];simp[go_sem,hc2,hc,hzz,hz3]
 have u3:w4.cell? ⟨w.heap.size,3,none⟩=some (.string ⟨#[]⟩):=by rw[hc4 w.heap.size 3 (by simp;omega)];simp[go_sem,hc2,hc,hzz,hz3]
 have d0:w4.cell? ⟨w2.heap.size,0,none⟩=some (.int .i64 (n0:Int)):=by rw[hc4 w2.heap.size 0 (by simp)];simp
 have d1:w4.cell? ⟨w2.heap.size,1,none⟩=some (.string ⟨b.toArray⟩):=by rw[hc4 w2.heap.size 1 (by simp)];simp
 have d2:w4.cell? ⟨w2.heap.size,2,none⟩=some (.string ⟨#[]⟩):=by rw[hc4 w2.heap.size 2 (by simp)];simp
 have d3:w4.cell? ⟨w2.heap.size,3,none⟩=some (.string ⟨#[]⟩):=by rw[hc4 w2.heap.size 3 (by simp)];simp
 have f1:∀j,w4.frozen? ⟨w.heap.size,j,none⟩=false:=fun j=>by rw[hfz4 w.heap.size j (by simp;omega)];simp[go_sem,hfz2,hfz,hzz,hz3]
 have f2:∀j,w4.frozen? ⟨w2.heap.size,j,none⟩=false:=fun j=>by rw[hfz4 w2.heap.size j (by simp)];simp
 clear hb4 ho4 hc hc2 hc4 hfz hfz2 hfz4 hz hz2 hz4
 have hn1:¬(w2.heap.size=w.heap.size):=by omega
 have hn2:¬(w.heap.size=w2.heap.size):=by omega
 have hn3:¬(w4.heap.size=w.heap.size):=by omega
 have hn4:¬(w.heap.size=w4.heap.size):=by omega
 go_wp2_with fail
 generalize hW0:(w4.setCell ⟨w2.heap.size,2,none⟩ (.string ⟨k.toArray⟩)).setCell ⟨w2.heap.size,3,none⟩ (.string ⟨v.toArray⟩)=W0
 have e0:W0.cell? ⟨w2.heap.size,0,none⟩=some (.int .i64 (n0:Int)):=by rw[<-hW0];simp[go_sem,d0]
 have e1:W0.cell? ⟨w2.heap.size,1,none⟩=some (.string ⟨b.toArray⟩):=by rw[<-hW0];simp[go_sem,d1]
 have e2:W0.cell? ⟨w2.heap.size,2,none⟩=some (.string ⟨k.toArray⟩):=by rw[<-hW0];simp[go_sem,hzf,d2,f2]
 have e3:W0.cell? ⟨w2.heap.size,3,none⟩=some (.string ⟨v.toArray⟩):=by rw[<-hW0];simp[go_sem,hzf,d3,f2]
 have v0:W0.cell? ⟨w.heap.size,0,none⟩=some (.int .i64 0):=by rw[<-hW0];simp[go_sem,u0,hn1,hn2]
 have v1:W0.cell? ⟨w.heap.size,1,none⟩=some (.string ⟨#[]⟩):=by rw[<-hW0];simp[go_sem,u1,hn1,hn2]
 have v2:W0.cell? ⟨w.heap.size,2,none⟩=some (.string ⟨#[]⟩):=by rw[<-hW0];simp[go_sem,u2,hn1,hn2]
 have v3:W0.cell? ⟨w.heap.size,3,none⟩=some (.string ⟨#[]⟩):=by rw[<-hW0];simp[go_sem,u3,hn1,hn2]
 have g1:∀j,W0.frozen? ⟨w.heap.size,j,none⟩=false:=fun j=>by rw[<-hW0];simp[go_sem,f1]
 have y1:w.heap.size<W0.heap.size:=by rw[<-hW0];simp[go_sem,hzb]
 have Hb5:Below w.heap.size w W0:=by
  rw[<-hW0]
  (repeat (first|exact Hb4.o|refine Below.setCell ?_ (by first|exact Ap _|(simp;omega)|omega) _|refine Below.alloc ?_ (by first|exact Ap _|(simp;omega)|omega) _|refine Below.drew ?_))
 have Hb5:=Aa Hb5
 clear hW0 u0 u1 u2 u3 d0 d1 d2 d3 f1 f2 Hb4 hzb hzf
 refine Gl [73,74,75,76,77,78,79,80,81,82,999,5] (by kernel_rfl) (by kernel_rfl) (by kernel_rfl) (fun u=>by dsimp only[Qbm,Bm,List.set])
  (fun i x W=>x=[.agg #[.int .i64 n0,.string ⟨b.toArray⟩,.string ⟨k.toArray⟩,.string ⟨v.toArray⟩],.int .u8 85,.bool false,.bool false,undef,undef,undef,undef,undef,.bool false,undef,.bool false][i]?.getD undef)
  (fun L W=>W=if L 10=true then(((W0.drew.setCell ⟨w.heap.size,0,none⟩ (.int .i64 n0)).setCell ⟨w.heap.size,1,none⟩ (.string ⟨b.toArray⟩)).setCell ⟨w.heap.size,2,none⟩ (.string ⟨k.toArray⟩)).setCell ⟨w.heap.size,3,none⟩ (.string ⟨v.toArray⟩)else W0.drew) (fun _ _=>True) (fun _ _ _ _ _ h=>h) rfl ?_ ?_
 ·repeat (first|exact Ah.nil|(refine Ah.cons ?_ ?_;rotate_left))
  all_goals
   rintro L u W hL hpre hR K hK
   first|(simp[Region.binds]at hpre;done)|simp[Region.binds]at hpre|clear hpre
   rcases hl:L 10 with _|_
   all_goals
    first|exact absurd (hl.symm.trans hL) (by decide)|(
     rw[hl]at hR
     first|rw[if_neg (by decide)]at hR|rw[if_pos rfl]at hR
     have hR':=hR.symm
     subst hR'
     go_simp
     first|(refine hK _ _ _ rfl Ac (by simp[hl,go_sem]) rfl;done)|(refine hK _ _ _ rfl Ac (by simp[hl,go_sem]) (by simp[Act.put,hpre]);done)|(refine hK undef _ _ rfl Ac (by simp[hl,go_sem]) (by simp[Act.put,hpre]);done))
 rintro L u W hL hφ hR
 have c11:=hφ 11 (by decide)
 simp at c11
 simp only[c11]
 rw[if_pos (hL 10 (by decide))]at hR
 subst hR
 go_wp2_with fail
 refine bodyPost_ret (v:=.tuple #[.agg #[.int .i64 n0,.string ⟨b.toArray⟩,.string ⟨k.toArray⟩,.string ⟨v.toArray⟩],.bool false]) (by simp[results,results109,go_sem,g1,y1,v0,v1,v2,v3]) rfl ?_
 exact Cp.no HF.o rfl (by(repeat (first|exact Hb5.o|refine Below.setCell ?_ (by first|exact Ap _|(simp;omega)|omega) _|refine Below.alloc ?_ (by first|exact Ap _|(simp;omega)|omega) _|refine Below.drew ?_)))
end
end Go.Proofs.YtkgkoicedddkmaaGreatDoor
