/- Texts joined. Conditions: as each theorem names them. -/
import Derived.Test.YtkigmebejmmikaaGreatDoorQ14
set_option maxRecDepth 100000
set_option maxHeartbeats 32000000
set_option linter.unusedVariables false
set_option linter.unusedSimpArgs false
namespace Go.Proofs.YtkigmebejmmikaaGreatDoor
open Go.RowKit Go.Proofs.Tryz
section
attribute [local go_sem] Qja Qit Qib Qgw ByteArray.mk_append_mk
theorem Qdt(s a b d:List UInt8)(w:World)(hs:s.length<=1000)(hp:Af 58 s=[a,b,d])(n0:Nat)(ho:Dj a 200=true)(hd:Cf a=some n0)(h1:1<=n0)(h2:n0<=200)(hnm:Au b=true)(k v:List UInt8)(hq:Af 61 d=[k,v])(hsv:Bv k v=false):
  Calls prog 114 #[.string ⟨s.toArray⟩,.int .u8 82] w (Cm (Bu 82 s) w):=by
 have hal:=Aj 58 s a (by rw[hp];simp)
 have hbl:=Aj 58 s b (by rw[hp];simp)
 have hdl:=Aj 58 s d (by rw[hp];simp)
 have hF:Bu 82 s=Du 82 a b d:=Dt (by decide) hp
 have Hcut:=Aa (fun W=>Cc s 58 58 rfl W (by omega))
 rw[hp]at Hcut
 have Hnum:=Aa (fun W=>Db a 200 W (by omega) (by omega))
 have Hname:=Aa (fun W=>Cd b W (by omega))
 clear hp
 have hkl:=Aj 61 d k (by rw[hq];simp)
 have hvl:=Aj 61 d v (by rw[hq];simp)
 rw[Rh (Jw hd h1 h2 hnm) hq]at hF
 have hst2:Bv k v=false:=hsv
 have hkk:=fun W=>Rn k v W (by omega)
 rw[hsv]at hkk
 have Hk:=Aa hkk
 rw[if_neg (fun h=>by rw[hsv]at h;cases h.2)]at hF
 clear hsv hst2 hkk
 have HF:=Aa hF
 have Ho:=Aa ho
 have Hd:=Aa hd
 have Hnm:=Aa hnm
 have Hcut2:=Aa (fun W=>Cc d 61 61 rfl W (by omega))
 rw[hq]at Hcut2
 clear hF ho hd hnm hq
 go_enter func114,ntmps114
 go_wp2_with fail
 refine(Hcut.o _).mono ?_
 rintro e w1 ⟨v,rfl,ho,hb⟩
 obtain⟨g,c,rfl,hg1,hg2,c0,c1,c2⟩:=Fp ho
 simp at hg1
 obtain⟨hc,hfz,hz⟩:=Bw hb
 have Hb:=Aa (((As w.heap.size w).alloc (Ap _) _).trans (hb.mono (by simp)))
 have hzz:=hz w.heap.size (by simp)
 clear hb ho
 go_wp2_with fail
 refine(Hnum.o _).mono ?_
 rintro e w2 ⟨n,hn,rfl,hdn,hb2⟩
 rw[Ho.o]
 obtain⟨hc2,hfz2,hz2⟩:=Bw hb2
 have Hb2:=Aa (Hb.o.trans (hb2.mono Hb.o.size))
 have hsz:=Hb2.o.size
 have hz3:=hz2 _ hzz
 clear hb2
 obtain rfl:=hdn n0 Hd.o
 clear hdn
 go_wp2_with fail
 refine(Hname.o _).mono ?_
 rintro e w3 ⟨rfl,rfl⟩
 rw[Hnm.o]
 go_wp2_with fail
 refine(Hcut2.o _).mono ?_
 rintro e w4 ⟨v4,rfl,ho4,hb4⟩
 obtain⟨g4,c4,rfl,hg4,hg5,c40,c41⟩:=Mp ho4
 obtain⟨hc4,hfz4,hz4⟩:=Bw hb4
 have hzb:=hz4 w.heap.size (Nat.lt_trans hz3 (by simp))
 have hzf:=hz4 w2.heap.size (by simp)
 have Hb4:=Aa ((Hb2.o.alloc hsz _).trans (hb4.mono (Nat.le_trans hsz (by simp))))
 have u0:w4.cell? ⟨w.heap.size,0,none⟩=some (.int .i64 0):=by rw[hc4 w.heap.size 0 (by simp;omega)];simp[go_sem,hc2,hc,hzz,hz3]
 have u1:w4.cell? ⟨w.heap.size,1,none⟩=some (.string ⟨#[]⟩):=by rw[hc4 w.heap.size 1 (by simp;omega)];simp[go_sem,hc2,hc,hzz,hz3]
 have u2:w4.cell? ⟨w.heap.size,2,none⟩=some (.string ⟨#[]⟩):=by rw[hc4 w.heap.size 2 (by simp;omega)];simp[go_sem,hc2,hc,hzz,hz3]
 have u3:w4.cell? ⟨w.heap.size,3,none⟩=some (.string ⟨#[]⟩):=by rw[hc4 w.heap.size 3 (by simp;omega)];simp[go_sem,hc2,hc,hzz,hz3]
 have d0:w4.cell? ⟨w2.heap.size,0,none⟩=some (.int .i64 (n0:Int)):=by rw[hc4 w2.heap.size 0 (by simp)];simp
 have d1:w4.cell? ⟨w2.heap.size,1,none⟩=some (.string ⟨b.toArray⟩):=by rw[hc4 w2.heap.size 1 (by simp)];simp
 have d2:w4.cell? ⟨w2.heap.size,2,none⟩=some (.string ⟨#[]⟩):=by rw[hc4 w2.heap.size 2 (by simp)];simp
 have d3:w4.cell? ⟨w2.heap.size,3,none⟩=some (.string ⟨#[]⟩):=by rw[hc4 w2.heap.size 3 (by simp)];simp
 have f1:∀j,w4.frozen? ⟨w.heap.size,j,none⟩=false:=fun j=>by rw[hfz4 w.heap.size j (by simp;omega)];simp[go_sem,hfz2,hfz,hzz,hz3]
 have f2:∀j,w4.frozen? ⟨w2.heap.size,j,none⟩=false:=fun j=>by rw[hfz4 w2.heap.size j (by simp)];simp
 clear hb4 ho4 hc hc2 hc4 hfz hfz2 hfz4 hz hz2 hz4
 have hn1:¬(w2.heap.size=w.heap.size):=by omega
 have hn2:¬(w.heap.size=w2.heap.size):=by omega
 have hn3:¬(w4.heap.size=w.heap.size):=by omega
 have hn4:¬(w.heap.size=w4.heap.size):=by omega
 go_wp2_with fail
 go_region_with (go_at_call 150;refine(Hk.o _).mono ?_;rintro e w' ⟨rfl,hb6⟩;obtain⟨hc6,hfz6,hz6⟩:=Bw hb6)
 all_goals
  go_wp2
  refine bodyPost_ret (v:=.tuple #[.agg #[.int .i64 n0,.string ⟨b.toArray⟩,.string ⟨k.toArray⟩,.string ⟨v.toArray⟩],.bool false]) (by simp[results,results114,go_sem,u0,u1,u2,u3,d0,d1,d2,d3,hc6,hzz,hz3,hzb,hzf,hn1,hn2,hn3,hn4,sfV]) rfl ?_
  exact Cm.no HF.o rfl (by(repeat (first|exact Hb4.o|refine Below.setCell ?_ (by first|exact Ap _|(simp;omega)|omega) _|refine Below.alloc ?_ (by first|exact Ap _|(simp;omega)|omega) _|refine Below.drew ?_|refine Below.trans ?_ (hb6.mono (by first|exact Ap _|(simp;omega)|omega)))))
end
end Go.Proofs.YtkigmebejmmikaaGreatDoor
