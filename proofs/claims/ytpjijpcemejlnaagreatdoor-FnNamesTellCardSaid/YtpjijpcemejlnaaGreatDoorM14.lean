/- Texts joined. Conditions: as each theorem names them. -/
import Derived.Test.YtpjijpcemejlnaaGreatDoorM11
set_option maxRecDepth 100000
set_option maxHeartbeats 32000000
set_option linter.unusedVariables false
set_option linter.unusedSimpArgs false
namespace Go.Proofs.YtpjijpcemejlnaaGreatDoor
open Go.RowKit Go.Proofs.Tryz
section
attribute [local go_sem] Qkk Qj0 Qjm Qhu ByteArray.mk_append_mk
theorem Qeb(s a b d:List UInt8)(w:World)(hs:s.length<=1000)(hp:Ag 58 s=[a,b,d])(n0:Nat)(ho:Dn a 200=true)(hd:Ci a=some n0)(h1:1<=n0)(h2:n0<=200)(hnm:Av b=true)(k v:List UInt8)(hq:Ag 61 d=[k,v])(hsv:Bx k v=true):
  Calls prog 152 #[s,.int .u8 82] w (Cp (Bu 82 s) w):=by
 have hal:=Ak 58 s a br;have hbl:=Ak 58 s b br;have hdl:=Ak 58 s d br;have hF:Bu 82 s=Dv 82 a b d:=Dy aL hp;have Hcut:=Aa (fun W=>Cg s 58 58 rfl W aH);rw[hp]at Hcut;have Hnum:=Aa (fun W=>Df a 200 W aH aH);have Hname:=Aa (fun W=>Ch b W aH);clear hp;have hkl:=Ak 61 d k dh;have hvl:=Ak 61 d v dh;rw[Ry (Ka hd h1 h2 hnm) hq]at hF;have hst2:Bx k v=true:=hsv;have hkk:=fun W=>So k v W aH;rw[hsv]at hkk;have Hk:=Aa hkk;rw[if_pos ⟨rfl,hsv⟩]at hF;have Hkb:=Aa (Pe (Nd hsv)).2;clear hsv hst2 hkk;have HF:=Aa hF;have Ho:=Aa ho;have Hd:=Aa hd;have Hnm:=Aa hnm;have Hcut2:=Aa (fun W=>Cg d 61 61 rfl W aH);rw[hq]at Hcut2;clear hF ho hd hnm hq;go_enter func152,ntmps152;go_wp2_with fail;refine(Hcut.o _).mono ?_;rintro e w1 ⟨v,rfl,ho,hb⟩;obtain⟨g,c,rfl,hg1,hg2,c0,c1,c2⟩:=Fv ho;simp at hg1;obtain⟨hc,hfz,hz⟩:=By hb;have Hb:=Aa (((At w.heap.size w).alloc (Ao _) _).trans (hb.mono aM));have hzz:=hz w.heap.size aM;clear hb ho;go_wp2_with fail;refine(Hnum.o _).mono ?_;rintro e w2 ⟨n,hn,rfl,hdn,hb2⟩;rw[Ho.o];obtain⟨hc2,hfz2,hz2⟩:=By hb2;have Hb2:=Aa (Hb.o.trans (hb2.mono Hb.o.size));have hsz:=Hb2.o.size;have hz3:=hz2 _ hzz;clear hb2;obtain rfl:=hdn n0 Hd.o;clear hdn;go_wp2_with fail;refine(Hname.o _).mono ?_;rintro e w3 ⟨rfl,rfl⟩;rw[Hnm.o];go_wp2_with fail;refine(Hcut2.o _).mono ?_;rintro e w4 ⟨v4,rfl,ho4,hb4⟩;obtain⟨g4,c4,rfl,hg4,hg5,c40,c41⟩:=Na ho4;obtain⟨hc4,hfz4,hz4⟩:=By hb4;have hzb:=hz4 w.heap.size (Nat.lt_trans hz3 aM);have hzf:=hz4 w2.heap.size aM;have Hb4:=Aa ((Hb2.o.alloc hsz _).trans (hb4.mono (ae hsz aM)));have u0:w4.cell? (w,0)=some (.int .i64 0):=fm;have u1:w4.cell? (w,1)=aa:=fq;have u2:w4.cell? (w,2)=aa:=fr;have u3:w4.cell? (w,3)=aa:=ft;have d0:w4.cell? (w2,0)=(n0:Int):=fE;have d1:w4.cell? (w2,1)=b:=fF;have d2:w4.cell? (w2,2)=aa:=fG;have d3:w4.cell? (w2,3)=aa:=fH;have f1:∀j,w4.frozen? ⟨w.heap.size,j,none⟩=false:=fun j=>fl;have f2:∀j,w4.frozen? ⟨w2.heap.size,j,none⟩=false:=fun j=>fy;clear hb4 ho4 hc hc2 hc4 hfz hfz2 hfz4 hz hz2 hz4;have hn1:¬(w2.heap.size=w.heap.size):=aH;have hn2:¬(w.heap.size=w2.heap.size):=aH;have hn3:¬(w4.heap.size=w.heap.size):=aH;have hn4:¬(w.heap.size=w4.heap.size):=aH;go_wp2_with fail;go_region_with (go_at_call 189;refine(Hk.o _).mono ?_;rintro e w' ⟨rfl,hb6⟩;obtain⟨hc6,hfz6,hz6⟩:=By hb6)
 all_goals
  go_wp2
  refine aF (v:=.tuple #[.agg #[.int .i64 n0,b,k,v],.bool true]) (by simp[results,results152,go_sem,u0,u1,u2,u3,d0,d1,d2,d3,hc6,hzz,hz3,hzb,hzf,hn1,hn2,hn3,hn4,sfV]) rfl ?_;exact Cp.yes HF.o (by unfold sfV;rw[Hkb.o]) bH
end
end Go.Proofs.YtpjijpcemejlnaaGreatDoor
