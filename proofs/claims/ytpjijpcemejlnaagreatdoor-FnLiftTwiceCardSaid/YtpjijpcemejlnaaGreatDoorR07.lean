/- Texts joined. Conditions: as each theorem names them. -/
import Derived.Test.YtpjijpcemejlnaaGreatDoorR04
set_option maxRecDepth 100000
set_option maxHeartbeats 32000000
set_option linter.unusedVariables false
set_option linter.unusedSimpArgs false
namespace Go.Proofs.YtpjijpcemejlnaaGreatDoor
open Go.RowKit Go.Proofs.Tryz
section
attribute [local go_sem] Qm0 Ql8 Qlz Qj6 ByteArray.mk_append_mk
theorem Qh2(s a b d:List UInt8)(w:World)(hs:s.length<=1000)(hp:Ak 58 s=[a,b,d])(n0:Nat)(ho:D9 a 200=true)(hd:Cw a=some n0)(h1:1<=n0)(h2:n0<=200)(hnm:Be b=true)(k v:List UInt8)(hq:Ak 61 d=[k,v])(hsv:Cc k v=true):
  Calls prog 152 #[s,.int .u8 82] w (C7 (Ca 82 s) w):=by
 have hal:=Ar 58 s a bF;have hbl:=Ar 58 s b bF;have hdl:=Ar 58 s d bF;have hF:Ca 82 s=Ei 82 a b d:=Ek aL hp;have Hcut:=Aa (fun W=>Cu s 58 58 rfl W aI);rw[hp]at Hcut;have Hnum:=Aa (fun W=>Dx a 200 W aI aI);have Hname:=Aa (fun W=>Ct b W aI);clear hp;have hkl:=Ar 61 d k dS;have hvl:=Ar 61 d v dS;rw[Tn (Mk hd h1 h2 hnm) hq]at hF;have hst2:Cc k v=true:=hsv;have hkk:=fun W=>V9 k v W aI;rw[hsv]at hkk;have Hk:=Aa hkk;rw[if_pos ⟨rfl,hsv⟩]at hF;have Hkb:=Aa (Py (Pd hsv)).2;clear hsv hst2 hkk;have HF:=Aa hF;have Ho:=Aa ho;have Hd:=Aa hd;have Hnm:=Aa hnm;have Hcut2:=Aa (fun W=>Cu d 61 61 rfl W aI);rw[hq]at Hcut2;clear hF ho hd hnm hq;go_enter func152,ntmps152;go_wp2_with fail;refine(Hcut.o _).mono ?_;rintro e w1 ⟨v,rfl,ho,hb⟩;obtain⟨g,c,rfl,hg1,hg2,c0,c1,c2⟩:=H5 ho;simp at hg1;obtain⟨hc,hfz,hz⟩:=Ci hb;have Hb:=Aa (((Am w.heap.size w).alloc (Ao _) _).trans (hb.mono aN));have hzz:=hz w.heap.size aN;clear hb ho;go_wp2_with fail;refine(Hnum.o _).mono ?_;rintro e w2 ⟨n,hn,rfl,hdn,hb2⟩;rw[Ho.o];obtain⟨hc2,hfz2,hz2⟩:=Ci hb2;have Hb2:=Aa (Hb.o.trans (hb2.mono Hb.o.size));have hsz:=Hb2.o.size;have hz3:=hz2 _ hzz;clear hb2;obtain rfl:=hdn n0 Hd.o;clear hdn;go_wp2_with fail;refine(Hname.o _).mono ?_;rintro e w3 ⟨rfl,rfl⟩;rw[Hnm.o];go_wp2_with fail;refine(Hcut2.o _).mono ?_;rintro e w4 ⟨v4,rfl,ho4,hb4⟩;obtain⟨g4,c4,rfl,hg4,hg5,c40,c41⟩:=Pn ho4;obtain⟨hc4,hfz4,hz4⟩:=Ci hb4;have hzb:=hz4 w.heap.size (Nat.lt_trans hz3 aN);have hzf:=hz4 w2.heap.size aN;have Hb4:=Aa ((Hb2.o.alloc hsz _).trans (hb4.mono (ae hsz aN)));have u0:w4.cell? (w,0)=some (.int .i64 0):=gU;have u1:w4.cell? (w,1)=aa:=gV;have u2:w4.cell? (w,2)=aa:=gW;have u3:w4.cell? (w,3)=aa:=gX;have d0:w4.cell? (w2,0)=(n0:Int):=i7;have d1:w4.cell? (w2,1)=b:=i8;have d2:w4.cell? (w2,2)=aa:=i9;have d3:w4.cell? (w2,3)=aa:=ia;have f1:∀j,w4.frozen? ⟨w.heap.size,j,none⟩=false:=fun j=>gT;have f2:∀j,w4.frozen? ⟨w2.heap.size,j,none⟩=false:=fun j=>hG;clear hb4 ho4 hc hc2 hc4 hfz hfz2 hfz4 hz hz2 hz4;have hn1:¬(w2.heap.size=w.heap.size):=aI;have hn2:¬(w.heap.size=w2.heap.size):=aI;have hn3:¬(w4.heap.size=w.heap.size):=aI;have hn4:¬(w.heap.size=w4.heap.size):=aI;go_wp2_with fail;go_region_with (go_at_call 189;refine(Hk.o _).mono ?_;rintro e w' ⟨rfl,hb6⟩;obtain⟨hc6,hfz6,hz6⟩:=Ci hb6)
 all_goals
  go_wp2
  refine aG (v:=.tuple #[.agg #[.int .i64 n0,b,k,v],.bool true]) (by simp[results,results152,go_sem,u0,u1,u2,u3,d0,d1,d2,d3,hc6,hzz,hz3,hzb,hzf,hn1,hn2,hn3,hn4,sfV]) rfl ?_;exact C7.yes HF.o (by unfold sfV;rw[Hkb.o]) bV
end
end Go.Proofs.YtpjijpcemejlnaaGreatDoor
