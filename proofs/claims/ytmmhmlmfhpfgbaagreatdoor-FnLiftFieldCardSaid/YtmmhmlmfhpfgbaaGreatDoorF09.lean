/- Texts joined. Conditions: as each theorem names them. -/
import Derived.BigRegion
import Derived.BigQuiet
import Derived.Test.YtmmhmlmfhpfgbaaGreatDoorF06
import Derived.Test.YtmmhmlmfhpfgbaaGreatDoorF07
import Derived.Test.YtmmhmlmfhpfgbaaGreatDoorF08
import Derived.Test.YtmmhmlmfhpfgbaaGreatDoorF10
set_option maxRecDepth 100000
set_option maxHeartbeats 32000000
set_option linter.unusedVariables false
set_option linter.unusedSimpArgs false
namespace Go.Proofs.YtmmhmlmfhpfgbaaGreatDoor
open Go.RowKit Go.Proofs.Tryz
section
attribute [local go_sem] Qoe Qnf Qmu Qk2 ByteArray.mk_append_mk
theorem Qiz(st:UInt8)(hst:st≠69)(s a b d:List UInt8)(w:World)(hs:s.length<=1000)(hp:Al 58 s=[a,b,d])(n0:Nat)(ho:Ef a 200=true)(hd:Cx a=some n0)(h1:1<=n0)(h2:n0<=200)(hnm:Be b=true)(k v x:List UInt8)(l:List (List UInt8))(hq:Al 61 d=k::v::x::l):
  Calls prog 203 #[s,.int .u8 (st.toNat:Int)] w (C7 (Ce st s) w):=by
 have hal:=Aq 58 s a bz;have hbl:=Aq 58 s b bz;have hdl:=Aq 58 s d bz;have hF:Ce st s=En st a b d:=Eo hst hp;have Hcut:=Aa (fun W=>Cw s 58 58 rfl W aH);rw[hp]at Hcut;have Hnum:=Aa (fun W=>D1 a 200 W aH aH);have Hname:=Aa (fun W=>Cv b W aH);have hsl:=st.toNat_lt;have t1:((st.toNat:Int) != 69)=true:=cF;have t2:((st.toNat:Int) == 69)=false:=Ap hst;clear hp hst;have hll:=Jn 61 d;rw[hq]at hll;simp at hll;rw[Qgg (Mj hd h1 h2 hnm) hq]at hF;have HF:=Aa hF;have Ho:=Aa ho;have Hd:=Aa hd;have Hnm:=Aa hnm;have Hcut2:=Aa (fun W=>Cw d 61 61 rfl W aH);rw[hq]at Hcut2;clear hF ho hd hnm hq;go_enter func203,ntmps203;go_wp2_with fail;refine(Hcut.o _).mono ?_;rintro e w1 ⟨v,rfl,ho,hb⟩;obtain⟨g,c,rfl,hg1,hg2,c0,c1,c2⟩:=Jb ho;simp at hg1;obtain⟨hc,hfz,hz⟩:=Cj hb;have Hb:=Aa (((Ao w.heap.size w).alloc (An _) _).trans (hb.mono aK));have hzz:=hz w.heap.size aK;clear hb ho;go_wp2_with fail;refine(Hnum.o _).mono ?_;rintro e w2 ⟨n,hn,rfl,hdn,hb2⟩;rw[Ho.o];obtain⟨hc2,hfz2,hz2⟩:=Cj hb2;have Hb2:=Aa (Hb.o.trans (hb2.mono Hb.o.size));have hsz:=Hb2.o.size;have hz3:=hz2 _ hzz;clear hb2;obtain rfl:=hdn n0 Hd.o;clear hdn;go_wp2_with fail;refine(Hname.o _).mono ?_;rintro e w3 ⟨rfl,rfl⟩;rw[Hnm.o];go_wp2_with fail;refine(Hcut2.o _).mono ?_;rintro e w4 ⟨v4,rfl,ho4,hb4⟩;obtain⟨A4,c4,rfl,hrow⟩:=B0.own ho4;obtain⟨b4,o4,e4,hg5,hcc⟩:=hrow.at_ (k:=0) aK;subst e4;have c40:w4.cell? ⟨b4,o4,none⟩=k:=by simpa [By]using hcc
 clear hrow hcc;obtain⟨hc4,hfz4,hz4⟩:=Cj hb4;have hzb:=hz4 w.heap.size (Nat.lt_trans hz3 aK);have hzf:=hz4 w2.heap.size aK;have Hb4:=Aa ((Hb2.o.alloc hsz _).trans (hb4.mono (ad hsz aK)));have u0:w4.cell? (w,0)=some (.int .i64 0):=gG;have u1:w4.cell? (w,1)=a6:=gH;have u2:w4.cell? (w,2)=a6:=gI;have u3:w4.cell? (w,3)=a6:=gJ;have d0:w4.cell? (w2,0)=(n0:Int):=gS;have d1:w4.cell? (w2,1)=b:=gT;have d2:w4.cell? (w2,2)=a6:=gU;have d3:w4.cell? (w2,3)=a6:=gV;have f1:∀j,w4.frozen? ⟨w.heap.size,j,none⟩=false:=fun j=>gF;have f2:∀j,w4.frozen? ⟨w2.heap.size,j,none⟩=false:=fun j=>gN;clear hb4 ho4 hc hc2 hc4 hfz hfz2 hfz4 hz hz2 hz4;have q0:3<=(k::v::x::l).length:=aK;generalize (k::v::x::l).length=m at q0 hll ⊢;have q2:((m:Int) == 2)=false:=cq;have q3:((m:Int) == 1)=false:=cq;have q4:¬((m:Int)=2):=aH;have q5:¬((m:Int)=1):=aH;have q6:(0:Int)<(m:Int):=aH;have hn1:¬(w2.heap.size=w.heap.size):=aH;have hn2:¬(w.heap.size=w2.heap.size):=aH;have hn3:¬(w4.heap.size=w.heap.size):=aH;have hn4:¬(w.heap.size=w4.heap.size):=aH;go_wp2_with fail;generalize hW0:w4.setCell ⟨w2.heap.size,2,none⟩ k=W0;have e0:W0.cell? (w2,0)=(n0:Int):=dQ;have e1:W0.cell? (w2,1)=b:=dR;have e2:W0.cell? (w2,2)=k:=dr;have e3:W0.cell? (w2,3)=a6:=du;have v0:W0.cell? (w,0)=some (.int .i64 0):=dj;have v1:W0.cell? (w,1)=a6:=dk;have v2:W0.cell? (w,2)=a6:=dl;have v3:W0.cell? (w,3)=a6:=dm;have g1:∀j,W0.frozen? ⟨w.heap.size,j,none⟩=false:=fun j=>dS;have y1:w.heap.size<W0.heap.size:=dN;have Hb5:Below w w W0:=by
  rw[<-hW0];(repeat (first|exact Hb4.o|refine Below.setCell ?_ aO _|refine Below.alloc ?_ aO _|refine Below.drew ?_))
 have Hb5:=Aa Hb5;clear hW0 u0 u1 u2 u3 d0 d1 d2 d3 f1 f2 Hb4 hzb hzf;refine Jf [83,84,85,86,87,88,89,90,91,999,5] aN aN aN (fun u=>by dsimp only[Bt,Bq,List.set])
  (fun i x W=>x=[.agg #[.int .i64 n0,.string ⟨b.toArray⟩,.string ⟨k.toArray⟩,.string ⟨#[]⟩],.slice (some ⟨b4,o4,none⟩) m c4,.int .i64 (m:Int),.bool false,.bool false,undef,undef,undef,.bool false,undef,.bool false][i]?.getD undef)
  (fun L W=>W=if L 9=true then(((W0.drew.setCell ⟨w.heap.size,0,none⟩ (.int .i64 n0)).setCell ⟨w.heap.size,1,none⟩ b).setCell ⟨w.heap.size,2,none⟩ k).setCell ⟨w.heap.size,3,none⟩ a6 else W0.drew) (fun _ _=>True) (fun _ _ _ _ _ h=>h) rfl ?_ ?_
 ·repeat (first|exact Ak.nil|(refine Ak.cons ?_ ?_;rotate_left))
  all_goals
   rintro L u W hL hpre hR K hK;first|(simp[Region.binds]at hpre;done)|simp[Region.binds]at hpre|clear hpre
   rcases hl:L 9 with _|_;all_goals
    first|exact absurd (hl.symm.trans hL) aJ|(
     rw[hl]at hR;first|rw[if_neg aJ]at hR|rw[if_pos rfl]at hR
     have hR':=hR.symm;subst hR';go_simp;first|(refine hK _ _ _ rfl Ac co rfl;done)|(refine hK _ _ _ rfl Ac co aI;done)|(refine hK undef _ _ rfl Ac co aI;done))
 rintro L u W hL hφ hR;have c10:=hφ 10 aJ;simp at c10;simp only[c10];rw[if_pos (hL 9 aJ)]at hR;subst hR;go_wp2_with fail;refine aF (v:=.tuple #[.agg #[.int .i64 n0,b,k,a6],.bool false]) (by simp[results,results203,go_sem,g1,y1,v0,v1,v2,v3]) rfl ?_;exact C7.no HF.o rfl bc
theorem Z8(st:UInt8)(hso:Eh st)(s:List UInt8)(w:World)(hs:s.length<=1000):
  Calls prog 203 #[s,.int .u8 (st.toNat:Int)] w (C7 (Ce st s) w):=by
 by_cases hp:(Al 58 s).length=(if st=69 then 2 else 3)
 ·by_cases he:st=69
  ·subst he;rw[if_pos rfl]at hp;match hs2:Al 58 s,hp with
   |[a,b],_=>exact Xu s a b w hs hs2
  rw[if_neg he]at hp;match hs2:Al 58 s,hp with
  |[a,b,d],_=>
   rcases Xa a b with ho|⟨ho,hd⟩|⟨n0,ho,hd,h1,h2,hnm⟩|⟨n0,ho,hd,h1,h2,hnm⟩
   ·exact Qjt st he s a b d w hs hs2 ho
   ·exact Qi9 st he s a b d w hs hs2 ho hd
   ·exact Qke st he s a b d w hs hs2 n0 ho hd h1 h2 hnm
   match hq:Al 61 d with
   |[]=>exact absurd hq (Ew 61 d)
   |[k]=>
    cases hk:Cs k with
    |none=>exact Qih st he s a b d w hs hs2 n0 ho hd h1 h2 hnm k hq hk
    |some kk=>exact Qhi st he s a b d w hs hs2 n0 ho hd h1 h2 hnm k hq kk hk
   |[k,v]=>
    rcases hso with rfl|rfl|rfl
    ·rcases Bool.eq_false_or_eq_true (Cg k v)with hsv|hsv
     ·exact Qix s a b d w hs hs2 n0 ho hd h1 h2 hnm k v hq hsv
     exact Qh2 s a b d w hs hs2 n0 ho hd h1 h2 hnm k v hq hsv
    ·exact Qg8 s a b d w hs hs2 n0 ho hd h1 h2 hnm k v hq
    exact absurd rfl he
   |k::v::x::l=>exact Qiz st he s a b d w hs hs2 n0 ho hd h1 h2 hnm k v x l hq
 exact Vg st s w hs hp
def D2(o:Option Ty)(w:World)(e:Ending)(w':World):Prop:=
 (match o with
  |some t=>∃fv,e=.returned (.tuple #[Kx t fv,.bool true])/\w'.ownsRow w 157 4 fv t.fields.length (t.fields.flatMap Ky)
  |none=>∃(x:Int) (a:ByteArray) (A:Option Addr) (n c:Nat),e=.returned (.tuple #[.agg #[.int .u8 x,.string a,.slice A n c],.bool false]))/\Below w w w'
theorem D2.no{w w':World}{e:Ending}{o:Option Ty}(ho:o=none){x:Int}{a:ByteArray}{A:Option Addr}{n c:Nat}(he:e=.returned (.tuple #[.agg #[.int .u8 x,.string a,.slice A n c],.bool false]))(hb:Below w w w'):D2 o w e w':=by
 rw[ho];exact⟨⟨x,a,A,n,c,he⟩,hb⟩
theorem D2.yes{w w':World}{e:Ending}{o:Option Ty}{t:Ty}{fv:Value}(ho:o=some t)(he:e=.returned (.tuple #[Kx t fv,.bool true]))(hr:w'.ownsRow w 157 4 fv t.fields.length (t.fields.flatMap Ky))(hb:Below w w w'):D2 o w e w':=by
 rw[ho];exact⟨⟨fv,he,hr⟩,hb⟩
theorem Fh{c:UInt8}{s:List UInt8}{k:Nat}(hk:k<s.length)(h:c∉s.take k)(hc:s[k]≠c):c∉s.take (k+1):=by
 rw[Cb s k hk];simp only[af,aq,not_or];exact⟨h,fun e=>hc e.symm⟩
theorem Qle{c:UInt8}{p u:List UInt8}{k:Nat}(hp:c∉p)(hk:k<(p++c::u).length)(h:c∉(p++c::u).take k):k<=p.length/\((p++c::u)[k]=c↔k=p.length):=by
 have h1:k<=p.length:=by
  rcases aG p.length k with hlt|hge
  ·exfalso
   apply h;rw[List.take_append];rcases hd:k - p.length with _|d
   ·omega
   simp
  exact hge
 refine⟨h1,?_⟩;rcases aG k p.length with hlt|hge
 ·rw[List.getElem_append_left hlt];exact⟨fun e=>absurd (e ▸ ae hlt) hp,fun e=>by omega⟩
 obtain rfl:k=p.length:=aH;simp
theorem Qfm(s:List UInt8)(w:World)(hs:s.length<=1000)(h:61∉s):
  Calls prog 150 #[s] w (D2 (Dr s) w):=by
 have HF:=Aa (show Dr s=none by unfold Dr;rw[Rq h];cases s<;>rfl);have H:=Aa h;clear h;go_enter func150,ntmps150;go_wp2_with fail;go_loopw [4] (fun i wr=>∃k:Nat,i=.int .i64 k/\k<=s.length/\wr=w.alloc (.cells #[.int .u8 0,a6,.slice none 0 0] 143)) (fun i _=>s.length - (intOf i).toNat)
 case atStart=>exact⟨0,rfl,ag _,rfl⟩
 case round=>
  obtain⟨k,rfl,hk,rfl⟩:=hrel;by_cases hlt:k<s.length
  ·have k1:(k:Int)<(s.length:Int):=aH;have hne:s[k]≠61:=fun e=>H.o (e ▸ ae hlt);have t1:(((s[k]).toNat:Int) != 61)=true:=ce;have t2:(((s[k]).toNat:Int) == 61)=false:=Ap hne;have hb:=(s[k]).toNat_lt;clear hne;go_wp2_with fail;go_roundw
   case rel=>exact⟨k+1,by go_num,by omega,Ac⟩
   case measure=>simp[intOf];omega
  ·obtain rfl:k=s.length:=aH;have k1:¬((s.length:Int)<(s.length:Int)):=aH;rcases Nat.eq_zero_or_pos s.length with h0|h0
   ·have q1:((s.length:Int)<1):=aH;go_wp2_with fail;refine aF (v:=.tuple #[P6,.bool false]) (by simp[results,results150,go_sem,P6]) rfl ?_;exact jY
   have q1:¬((s.length:Int)<1):=aH;go_wp2_with fail;refine aF (v:=.tuple #[P6,.bool false]) (by simp[results,results150,go_sem,P6]) rfl ?_;exact jY
theorem Mt{c:UInt8}{p u s:List UInt8}{k:Nat}(hs:s=p++c::u)(hp:c∉p)(hk:k<s.length)(h:c∉s.take k):k<=p.length/\(s[k]=c↔k=p.length):=by
 subst hs;exact Qle hp hk h
theorem Qeu(s u:List UInt8)(w:World)(hs:s.length<=1000)(h:s=[]++61::u):
  Calls prog 150 #[s] w (D2 (Dr s) w):=by
 have HF:=Aa (show Dr s=none by rw[h];unfold Dr;rw[E7 aK]);have Hs:=Aa h;have Hsl:=Aa (show s.length=0+1+u.length by rw[h];simp;omega);have h0:0<s.length:=d7;have Hp:=Aa (show (61:UInt8)∉([]:List UInt8)by simp);clear h;go_enter func150,ntmps150;go_wp2_with fail;go_loopw [4] (fun i wr=>∃k:Nat,i=.int .i64 k/\k<s.length/\Hid (61∉s.take k)/\wr=w.alloc (.cells #[.int .u8 0,a6,.slice none 0 0] 143)) (fun i _=>s.length - (intOf i).toNat)
 case atStart=>exact⟨0,rfl,by omega,by simp[Hid],rfl⟩
 case round=>
  obtain⟨k,rfl,hlt,hno,rfl⟩:=hrel;have k1:(k:Int)<(s.length:Int):=aH;obtain⟨hkp,hiff⟩:=Mt Hs.o Hp.o hlt hno.o;have hb:=(s[k]).toNat_lt;by_cases hne:s[k]=61
  ·obtain rfl:k=0:=hiff.1 hne;have t1:(((s[0]).toNat:Int) != 61)=false:=cp;have t2:(((s[0]).toNat:Int) == 61)=true:=Bj hne;clear hne hiff hkp hno;go_wp2_with fail;refine aF (v:=.tuple #[P6,.bool false]) (by simp[results,results150,go_sem,P6]) rfl ?_;exact jY
  ·have Hno:=Aa (Fh hlt hno.o hne);have hk2:k+1<s.length:=by
    have h1:k≠0:=fun e=>hne (hiff.2 e);simp at hkp;exact jZ
   have t1:(((s[k]).toNat:Int) != 61)=true:=ce;have t2:(((s[k]).toNat:Int) == 61)=false:=Ap hne;clear hne hiff hkp;go_wp2_with fail;go_roundw
   case rel=>exact⟨k+1,by go_num,hk2,Hno.o,Ac⟩
   case measure=>simp[intOf];omega
theorem Qe8(s:List UInt8)(c:UInt8)(nm u:List UInt8)(w:World)(hs:s.length<=1000)(h:s=(c::nm)++61::u)(hp:61∉c::nm)(hnm:Be nm=false):
  Calls prog 150 #[s] w (D2 (Dr s) w):=by
 have HF:=Aa (show Dr s=none by rw[h];unfold Dr;rw[E7 hp];exact if_pos (.inl (by rw[hnm];decide)));have Hs:=Aa h;have Hsl:=Aa (show s.length=(c::nm).length+1+u.length by rw[h];simp;omega);have h0:0<s.length:=d7;have Hp:=Aa hp;have Hu:=Aa (fun W=>Cv nm W bC);rw[hnm]at Hu;clear h hp hnm;go_enter func150,ntmps150;go_wp2_with fail;go_loopw [4] (fun i wr=>∃k:Nat,i=.int .i64 k/\k<s.length/\Hid (61∉s.take k)/\wr=w.alloc (.cells #[.int .u8 0,a6,.slice none 0 0] 143)) (fun i _=>s.length - (intOf i).toNat)
 case atStart=>exact⟨0,rfl,by omega,by simp[Hid],rfl⟩
 case round=>
  obtain⟨k,rfl,hlt,hno,rfl⟩:=hrel;have k1:(k:Int)<(s.length:Int):=aH;obtain⟨hkp,hiff⟩:=Mt Hs.o Hp.o hlt hno.o;have hb:=(s[k]).toNat_lt;by_cases hne:s[k]=61
  ·obtain rfl:k=nm.length+1:=hiff.1 hne;have t1:(((s[nm.length+1]).toNat:Int) != 61)=false:=cp;have t2:(((s[nm.length+1]).toNat:Int) == 61)=true:=Bj hne;clear hne hiff hkp hno;have e0:s[0]=c:=fg;have e1:s.tail.take nm.length=nm:=cv;have e2:s.drop (nm.length+1+1)=u:=cv;have m1:(nm.length:Int)+1<(s.length:Int):=bC;have m2:¬((nm.length:Int)+1<1):=aH;have m3:¬((s.length:Int)<=(nm.length:Int)+1):=aH;have hcl:=c.toNat_lt;have hn1:¬(w.heap.size+1=w.heap.size):=aH;go_wp2_with fail;go_region
   go_wp2_with fail;refine(Hu.o _).mono ?_;rintro e w2 ⟨rfl,rfl⟩;go_wp2_with fail;refine aF (v:=.tuple #[.agg #[.int .u8 (c.toNat:Int),nm,.slice none 0 0],.bool false]) (by simp[results,results150,go_sem,hn1]) rfl ?_;exact jY
  ·have Hno:=Aa (Fh hlt hno.o hne);have hk2:k+1<s.length:=by
    exact k7
   have t1:(((s[k]).toNat:Int) != 61)=true:=ce;have t2:(((s[k]).toNat:Int) == 61)=false:=Ap hne;clear hne hiff hkp;go_wp2_with fail;go_roundw
   case rel=>exact⟨k+1,by go_num,hk2,Hno.o,Ac⟩
   case measure=>simp[intOf];omega
theorem Qe5(s:List UInt8)(c:UInt8)(nm u:List UInt8)(w:World)(hs:s.length<=1000)(h:s=(c::nm)++61::u)(hp:61∉c::nm)(hnm:Be nm=true)(hso:¬Eh c):
  Calls prog 150 #[s] w (D2 (Dr s) w):=by
 have HF:=Aa (show Dr s=none by rw[h];unfold Dr;rw[E7 hp];exact if_pos (.inr hso));have Hs:=Aa h;have Hsl:=Aa (show s.length=(c::nm).length+1+u.length by rw[h];simp;omega);have h0:0<s.length:=d7;have Hp:=Aa hp;have Hu:=Aa (fun W=>Cv nm W bC);rw[hnm]at Hu;have Hso:=Aa hso;clear h hp hnm hso;go_enter func150,ntmps150;go_wp2_with fail;go_loopw [4] (fun i wr=>∃k:Nat,i=.int .i64 k/\k<s.length/\Hid (61∉s.take k)/\wr=w.alloc (.cells #[.int .u8 0,a6,.slice none 0 0] 143)) (fun i _=>s.length - (intOf i).toNat)
 case atStart=>exact⟨0,rfl,by omega,by simp[Hid],rfl⟩
 case round=>
  obtain⟨k,rfl,hlt,hno,rfl⟩:=hrel;have k1:(k:Int)<(s.length:Int):=aH;obtain⟨hkp,hiff⟩:=Mt Hs.o Hp.o hlt hno.o;have hb:=(s[k]).toNat_lt;by_cases hne:s[k]=61
  ·obtain rfl:k=nm.length+1:=hiff.1 hne;have t1:(((s[nm.length+1]).toNat:Int) != 61)=false:=cp;have t2:(((s[nm.length+1]).toNat:Int) == 61)=true:=Bj hne;clear hne hiff hkp hno;have e0:s[0]=c:=fg;have e1:s.tail.take nm.length=nm:=cv;have e2:s.drop (nm.length+1+1)=u:=cv;have m1:(nm.length:Int)+1<(s.length:Int):=bC;have m2:¬((nm.length:Int)+1<1):=aH;have m3:¬((s.length:Int)<=(nm.length:Int)+1):=aH;have hcl:=c.toNat_lt;have hn1:¬(w.heap.size+1=w.heap.size):=aH;go_wp2_with fail;have s1:((c.toNat:Int) != 82)=true:=by have:=Ap (d:=82) (fun e=>Hso.o (.inl e));simpa using this
   have s2:((c.toNat:Int) != 85)=true:=by have:=Ap (d:=85) (fun e=>Hso.o (.inr (.inl e)));simpa using this
   have s3:((c.toNat:Int) != 69)=true:=by have:=Ap (d:=69) (fun e=>Hso.o (.inr (.inr e)));simpa using this
   go_region
   go_wp2_with fail;refine(Hu.o _).mono ?_;rintro e w2 ⟨rfl,rfl⟩;go_wp2_with fail;refine aF (v:=.tuple #[.agg #[.int .u8 (c.toNat:Int),nm,.slice none 0 0],.bool false]) (by simp[results,results150,go_sem,hn1]) rfl ?_;exact jY
  ·have Hno:=Aa (Fh hlt hno.o hne);have hk2:k+1<s.length:=by
    exact k7
   have t1:(((s[k]).toNat:Int) != 61)=true:=ce;have t2:(((s[k]).toNat:Int) == 61)=false:=Ap hne;clear hne hiff hkp;go_wp2_with fail;go_roundw
   case rel=>exact⟨k+1,by go_num,hk2,Hno.o,Ac⟩
   case measure=>simp[intOf];omega
theorem Qcf(s:List UInt8)(nm u:List UInt8)(w:World)(hs:s.length<=1000)(h:s=(82::nm)++61::u)(hp:61∉82::nm)(hnm:Be nm=true)(hu:u=[]):
  Calls prog 150 #[s] w (D2 (Dr s) w):=by
 have HF:=Aa (show Dr s=some ⟨82,nm,[]⟩by rw[h];unfold Dr;rw[E7 hp];subst hu;simp[hnm,Eh]);have Hs:=Aa h;have Hsl:=Aa (show s.length=(82::nm).length+1+u.length by rw[h];simp;omega);have h0:0<s.length:=d7;have Hp:=Aa hp;have Hu:=Aa (fun W=>Cv nm W bC);rw[hnm]at Hu;subst hu;clear h hp hnm;go_enter func150,ntmps150;go_wp2_with fail;go_loopw [4] (fun i wr=>∃k:Nat,i=.int .i64 k/\k<s.length/\Hid (61∉s.take k)/\wr=w.alloc (.cells #[.int .u8 0,a6,.slice none 0 0] 143)) (fun i _=>s.length - (intOf i).toNat)
 case atStart=>exact⟨0,rfl,by omega,by simp[Hid],rfl⟩
 case round=>
  obtain⟨k,rfl,hlt,hno,rfl⟩:=hrel;have k1:(k:Int)<(s.length:Int):=aH;obtain⟨hkp,hiff⟩:=Mt Hs.o Hp.o hlt hno.o;have hb:=(s[k]).toNat_lt;by_cases hne:s[k]=61
  ·obtain rfl:k=nm.length+1:=hiff.1 hne;have t1:(((s[nm.length+1]).toNat:Int) != 61)=false:=cp;have t2:(((s[nm.length+1]).toNat:Int) == 61)=true:=Bj hne;clear hne hiff hkp hno;have e0:s[0]=82:=fg;have e1:s.tail.take nm.length=nm:=cv;have e2:s.drop (nm.length+1+1)=[]:=cv;have m1:(nm.length:Int)+1<(s.length:Int):=bC;have m2:¬((nm.length:Int)+1<1):=aH;have m3:¬((s.length:Int)<=(nm.length:Int)+1):=aH;have hn1:¬(w.heap.size+1=w.heap.size):=aH;go_wp2_with fail;go_region
   go_wp2_with fail;refine(Hu.o _).mono ?_;rintro e w2 ⟨rfl,rfl⟩;go_wp2_with fail;go_region
   go_wp2_with fail;refine aF (v:=.tuple #[.agg #[.int .u8 82,nm,.slice none 0 0],.bool true]) (by simp[results,results150,go_sem,hn1]) rfl ?_;exact D2.yes HF.o rfl ⟨rfl,.inl ⟨rfl,rfl⟩⟩ aP
  ·have Hno:=Aa (Fh hlt hno.o hne);have hk2:k+1<s.length:=by
    have h1:k≠(82::nm).length:=fun e=>hne (hiff.2 e);exact jZ
   have t1:(((s[k]).toNat:Int) != 61)=true:=ce;have t2:(((s[k]).toNat:Int) == 61)=false:=Ap hne;clear hne hiff hkp;go_wp2_with fail;go_roundw
   case rel=>exact⟨k+1,by go_num,hk2,Hno.o,Ac⟩
   case measure=>simp[intOf];omega
theorem Qcs(s:List UInt8)(nm u:List UInt8)(w:World)(hs:s.length<=1000)(h:s=(85::nm)++61::u)(hp:61∉85::nm)(hnm:Be nm=true)(hu:u=[]):
  Calls prog 150 #[s] w (D2 (Dr s) w):=by
 have HF:=Aa (show Dr s=none by rw[h];unfold Dr;rw[E7 hp];subst hu;simp[hnm,Eh]);have Hs:=Aa h;have Hsl:=Aa (show s.length=(85::nm).length+1+u.length by rw[h];simp;omega);have h0:0<s.length:=d7;have Hp:=Aa hp;have Hu:=Aa (fun W=>Cv nm W bC);rw[hnm]at Hu;subst hu;clear h hp hnm;go_enter func150,ntmps150;go_wp2_with fail;go_loopw [4] (fun i wr=>∃k:Nat,i=.int .i64 k/\k<s.length/\Hid (61∉s.take k)/\wr=w.alloc (.cells #[.int .u8 0,a6,.slice none 0 0] 143)) (fun i _=>s.length - (intOf i).toNat)
 case atStart=>exact⟨0,rfl,by omega,by simp[Hid],rfl⟩
 case round=>
  obtain⟨k,rfl,hlt,hno,rfl⟩:=hrel;have k1:(k:Int)<(s.length:Int):=aH;obtain⟨hkp,hiff⟩:=Mt Hs.o Hp.o hlt hno.o;have hb:=(s[k]).toNat_lt;by_cases hne:s[k]=61
  ·obtain rfl:k=nm.length+1:=hiff.1 hne;have t1:(((s[nm.length+1]).toNat:Int) != 61)=false:=cp;have t2:(((s[nm.length+1]).toNat:Int) == 61)=true:=Bj hne;clear hne hiff hkp hno;have e0:s[0]=85:=fg;have e1:s.tail.take nm.length=nm:=cv;have e2:s.drop (nm.length+1+1)=[]:=cv;have m1:(nm.length:Int)+1<(s.length:Int):=bC;have m2:¬((nm.length:Int)+1<1):=aH;have m3:¬((s.length:Int)<=(nm.length:Int)+1):=aH;have hn1:¬(w.heap.size+1=w.heap.size):=aH;go_wp2_with fail;go_region
   go_wp2_with fail;refine(Hu.o _).mono ?_;rintro e w2 ⟨rfl,rfl⟩;go_wp2_with fail;go_region
   go_wp2_with fail;refine aF (v:=.tuple #[.agg #[.int .u8 85,nm,.slice none 0 0],.bool false]) (by simp[results,results150,go_sem,hn1]) rfl ?_;exact jY
  ·have Hno:=Aa (Fh hlt hno.o hne);have hk2:k+1<s.length:=by
    have h1:k≠(85::nm).length:=fun e=>hne (hiff.2 e);exact jZ
   have t1:(((s[k]).toNat:Int) != 61)=true:=ce;have t2:(((s[k]).toNat:Int) == 61)=false:=Ap hne;clear hne hiff hkp;go_wp2_with fail;go_roundw
   case rel=>exact⟨k+1,by go_num,hk2,Hno.o,Ac⟩
   case measure=>simp[intOf];omega
theorem Qcj(s:List UInt8)(nm u:List UInt8)(w:World)(hs:s.length<=1000)(h:s=(69::nm)++61::u)(hp:61∉69::nm)(hnm:Be nm=true)(hu:u=[]):
  Calls prog 150 #[s] w (D2 (Dr s) w):=by
 have HF:=Aa (show Dr s=none by rw[h];unfold Dr;rw[E7 hp];subst hu;simp[hnm,Eh]);have Hs:=Aa h;have Hsl:=Aa (show s.length=(69::nm).length+1+u.length by rw[h];simp;omega);have h0:0<s.length:=d7;have Hp:=Aa hp;have Hu:=Aa (fun W=>Cv nm W bC);rw[hnm]at Hu;subst hu;clear h hp hnm;go_enter func150,ntmps150;go_wp2_with fail;go_loopw [4] (fun i wr=>∃k:Nat,i=.int .i64 k/\k<s.length/\Hid (61∉s.take k)/\wr=w.alloc (.cells #[.int .u8 0,a6,.slice none 0 0] 143)) (fun i _=>s.length - (intOf i).toNat)
 case atStart=>exact⟨0,rfl,by omega,by simp[Hid],rfl⟩
 case round=>
  obtain⟨k,rfl,hlt,hno,rfl⟩:=hrel;have k1:(k:Int)<(s.length:Int):=aH;obtain⟨hkp,hiff⟩:=Mt Hs.o Hp.o hlt hno.o;have hb:=(s[k]).toNat_lt;by_cases hne:s[k]=61
  ·obtain rfl:k=nm.length+1:=hiff.1 hne;have t1:(((s[nm.length+1]).toNat:Int) != 61)=false:=cp;have t2:(((s[nm.length+1]).toNat:Int) == 61)=true:=Bj hne;clear hne hiff hkp hno;have e0:s[0]=69:=fg;have e1:s.tail.take nm.length=nm:=cv;have e2:s.drop (nm.length+1+1)=[]:=cv;have m1:(nm.length:Int)+1<(s.length:Int):=bC;have m2:¬((nm.length:Int)+1<1):=aH;have m3:¬((s.length:Int)<=(nm.length:Int)+1):=aH;have hn1:¬(w.heap.size+1=w.heap.size):=aH;go_wp2_with fail;go_region
   go_wp2_with fail;refine(Hu.o _).mono ?_;rintro e w2 ⟨rfl,rfl⟩;go_wp2_with fail;go_region
   go_wp2_with fail;refine aF (v:=.tuple #[.agg #[.int .u8 69,nm,.slice none 0 0],.bool false]) (by simp[results,results150,go_sem,hn1]) rfl ?_;exact jY
  ·have Hno:=Aa (Fh hlt hno.o hne);have hk2:k+1<s.length:=by
    have h1:k≠(69::nm).length:=fun e=>hne (hiff.2 e);exact jZ
   have t1:(((s[k]).toNat:Int) != 61)=true:=ce;have t2:(((s[k]).toNat:Int) == 61)=false:=Ap hne;clear hne hiff hkp;go_wp2_with fail;go_roundw
   case rel=>exact⟨k+1,by go_num,hk2,Hno.o,Ac⟩
   case measure=>simp[intOf];omega
def Qe1(c:UInt8)(nm:List UInt8):Option (List Fd)->Option Ty
 |some r=>if r.length<=8 then some ⟨c,nm,r⟩else none
 |none=>none
theorem Qbz{c:UInt8}{nm u s:List UInt8}(h:s=(c::nm)++61::u)(hp:61∉c::nm)(hnm:Be nm=true)(hc:Eh c)(hu:u≠[]):Dr s=Qe1 c nm (D4 c (Al 44 u) []):=by
 rw[h];unfold Dr;rw[E7 hp];simp only[];rw[if_neg (by rw[hnm];simp[hc]),if_neg hu];unfold Qe1;cases D4 c (Al 44 u) []<;>rfl
theorem Qbo{c:UInt8}{ps:List (List UInt8)}{acc:List Fd}{k:Nat}(hk:k<ps.length):D4 c (ps.drop k) acc=(match Ce c ps[k]with|none=>none|some f=>if Gt acc f=false then none else D4 c (ps.drop (k+1)) (acc++[f])):=by
 rw[List.drop_eq_getElem_cons hk];rfl
theorem Qgp(g j:Nat):(⟨g,0,none⟩:Addr).add j=⟨g,j,none⟩:=bD
def Ql6(W:World)(lo:Nat)(stored:Bool)(o:Option Fd)(v:Value):Prop:=
 ∃b8,v=.pointer (some ⟨b8,0,none⟩)/\lo<=b8/\b8<W.heap.size/\(∀j,W.frozen? ⟨b8,j,none⟩=false) /\
  (∃x0 x1 x2 x3,W.cell? ⟨b8,0,none⟩=some x0/\W.cell? ⟨b8,1,none⟩=some x1/\W.cell? ⟨b8,2,none⟩=some x2/\W.cell? ⟨b8,3,none⟩=some x3) /\
  (stored=true->∀f,o=some f->W.cell? ⟨b8,0,none⟩=(f.tag:Int)/\W.cell? ⟨b8,1,none⟩=some (.string ⟨f.name.toArray⟩)/\W.cell? ⟨b8,2,none⟩=some (.string ⟨(Ax f.kind).toArray⟩)/\W.cell? ⟨b8,3,none⟩=some (.string ⟨f.given.toArray⟩))
def Qkm(o:Option Fd)(v:Value):Prop:=
 match o with
 |some f=>v=sfV f
 |none=>∃(x:Int) (a b c:ByteArray),v=.agg #[.int .i64 x,.string a,.string b,.string c]
def Qmj(o:Option Fd)(v:Value):Prop:=∃rv,v=.tuple #[rv,.bool o.isSome]/\Qkm o rv
theorem Ql6.below{W W':World}{lo:Nat}{b:Bool}{o:Option Fd}{v:Value}(h:Ql6 W lo b o v)(hb:Below W W W'):Ql6 W' lo b o v:=by
 obtain⟨b8,rfl,h1,h2,h3,⟨x0,x1,x2,x3,e0,e1,e2,e3⟩,h5⟩:=h;have hc:∀j,W'.cell? ⟨b8,j,none⟩=W.cell? ⟨b8,j,none⟩:=fun j=>hb.cell (p:=⟨b8,j,none⟩) h2
 exact⟨b8,rfl,h1,ac h2 hb.size,fun j=>(hb.frozen (p:=⟨b8,j,none⟩) h2).trans (h3 j),⟨x0,x1,x2,x3,(hc 0).trans e0,(hc 1).trans e1,(hc 2).trans e2,(hc 3).trans e3⟩,fun hs f hf=>by
  obtain⟨a0,a1,a2,a3⟩:=h5 hs f hf;exact⟨(hc 0).trans a0,(hc 1).trans a1,(hc 2).trans a2,(hc 3).trans a3⟩⟩
theorem Qlk{c:UInt8}{p:List UInt8}{W W':World}{e:Ending}(h:C7 (Ce c p) W e W'):(∃rv,e=.returned (.tuple #[rv,.bool (Ce c p).isSome])/\Qkm (Ce c p) rv)/\Below W W W':=by
 obtain⟨h1,h2⟩:=h;refine⟨?_,h2⟩;cases hf:Ce c p with
 |none=>rw[hf]at h1;obtain⟨x,a,b,d,e1⟩:=h1;exact⟨_,e1,x,a,b,d,rfl⟩
 |some f=>rw[hf]at h1;exact⟨_,h1,rfl⟩
theorem Ti{w:World}{b0 base k:Nat}{e:TypeId}{v:Value}{n:Nat}{xs:List Value}(h:w.ownsRow base e k v n xs)(hb:b0<=base):w.ownsRow b0 e k v n xs:=by
 refine⟨h.1,?_⟩;rcases h.2 with hn|⟨g,cap,cur,rfl,hb2,rest⟩
 ·exact .inl hn
 exact .inr ⟨g,cap,cur,rfl,by omega,rest⟩
theorem Qlc{acc:List Fd}{f:Fd}{j:Nat}(hj:j<acc.length)(h:f.tag<=acc[j].tag\/acc[j].name=f.name):Gt acc f=false:=by
 rw[Bool.eq_false_iff];intro hf;have:=Mw.1 hf _ (ae hj);rcases h with h|h
 ·omega
 exact this.1 h
theorem Qh3{acc:List Fd}{f:Fd}{j:Nat}(hj:j<acc.length)(h:∀g∈acc.take j,g.name≠f.name/\g.tag<f.tag)(h1:¬f.tag<=acc[j].tag)(h2:acc[j].name≠f.name):∀g∈acc.take (j+1),g.name≠f.name/\g.tag<f.tag:=by
 intro g hg;rw[Cb acc j hj]at hg;rcases af.1 hg with hg|hg
 ·exact h g hg
 simp at hg;subst hg;exact⟨h2,by omega⟩
theorem stF{p:Prop}(h:p:=by
 have HF:=@Aa (Dr s=Qe1 zc nm (D4 zc (Al 44 u) [])) (Qbz h hp hnm aJ hu);have Hs:=Aa h;have Hsl:=Aa (show s.length=((zc:UInt8)::nm).length+1+u.length by rw[h];simp;omega);have h0:0<s.length:=d7;have Hp:=Aa hp;have Hu:=Aa (fun W=>Cv nm W bC);rw[hnm]at Hu;have Hcut:=Aa (fun W=>Cw u 44 44 rfl W bC);have Hsp:=Aa (Jn 44 u);have Hpl:=Aa (Aq 44 u);have Hps:=Aa (Ew 44 u);clear h hp hnm;go_enter func150,ntmps150;go_wp2_with fail;go_loopw [4] (fun i wr=>∃k:Nat,i=.int .i64 k/\k<s.length/\Hid (61∉s.take k)/\wr=w.alloc (.cells #[.int .u8 0,a6,.slice none 0 0] 143)) (fun i _=>s.length - (intOf i).toNat)
 case atStart=>exact⟨0,rfl,by omega,by simp[Hid],rfl⟩
 case round=>
  obtain⟨k,rfl,hlt,hno,rfl⟩:=hrel;have k1:(k:Int)<(s.length:Int):=aH;obtain⟨hkp,hiff⟩:=Mt Hs.o Hp.o hlt hno.o;have hb:=(s[k]).toNat_lt;by_cases hne:s[k]=61
  ·obtain rfl:k=nm.length+1:=hiff.1 hne;have t1:(((s[nm.length+1]).toNat:Int) != 61)=false:=cp;have t2:(((s[nm.length+1]).toNat:Int) == 61)=true:=Bj hne;clear hne hiff hkp hno;have e0:s[0]=(zc:UInt8):=fg;have e1:s.tail.take nm.length=nm:=cv;have e2:s.drop (nm.length+1+1)=u:=cv;have m1:(nm.length:Int)+1<(s.length:Int):=bC;have m2:¬((nm.length:Int)+1<1):=aH;have m3:¬((s.length:Int)<=(nm.length:Int)+1):=aH;have hn1:¬(w.heap.size+1=w.heap.size):=aH;go_wp2_with fail;go_region
   go_wp2_with fail;refine(Hu.o _).mono ?_;rintro e w2 ⟨rfl,rfl⟩;have hu1:(u == [])=false:=fa;generalize Al 44 u=ps at HF Hcut Hsp Hpl Hps;go_wp2_with fail;refine(Hcut.o _).mono ?_;rintro e w3 ⟨v,rfl,ho,hb3⟩;obtain⟨hc3,hfz3,hz3⟩:=Cj hb3;have Hb3:=@Aa (Below w w w3) (((((Ao w.heap.size w).alloc (An _) _).alloc aK _).drew).trans (hb3.mono aM));have u0:w3.cell? (w,0)=some (.int .u8 0):=by rw[hc3 w 0 aM];simp
   have u1:w3.cell? (w,1)=a6:=by rw[hc3 w 1 aM];simp
   have u2:w3.cell? (w,2)=some (.slice none 0 0):=by rw[hc3 w 2 aM];simp
   have d0:w3.cell? (w,1,0)=some (.int .u8 (zc:Int)):=by rw[hc3 (w.heap.size+1) 0 aK];simp
   have d1:w3.cell? (w,1,1)=nm:=by rw[hc3 (w.heap.size+1) 1 aK];simp
   have d2:w3.cell? (w,1,2)=some (.slice none 0 0):=by rw[hc3 (w.heap.size+1) 2 aK];simp
   have f1:∀j,w3.frozen? ⟨w.heap.size,j,none⟩=false:=fun j=>by rw[hfz3 w.heap.size j aM];simp
   have f2:∀j,w3.frozen? ⟨w.heap.size+1,j,none⟩=false:=fun j=>by rw[hfz3 (w.heap.size+1) j aK];simp
   have z2:w.heap.size+1<w3.heap.size:=hz3 (w.heap.size+1) aK;rcases ho.2 with⟨_,h0'⟩|⟨g6,c6,cur6,rfl,hg6,hg6',_⟩
   ·exact absurd h0' (by have:=Hps.o;cases ps with|nil=>exact fun h=>(this rfl).elim|cons=>simp)
   have hrow:=@Aa (∀j x,(By ps)[j]?=some x->w3.cell? ⟨g6,j,none⟩=some x) (fun j x hx=>(Qgp g6 j) ▸ ho.cells (g:=g6) rfl j x hx);have g6l:g6<w3.heap.size:=(ho.lt g6 rfl).2;have g6g:w.heap.size+1<g6:=by have:=hg6;simp at this;omega
   have Hown0:=Aa (World.ownsRow_nil w3 w3 157 4);clear hb3 ho hc3 hfz3 hz3 hg6 hg6';clear m2 m3 t1 t2 e0 e1 e2 hu1 hb;have hn2:¬(w.heap.size=w.heap.size+1):=aH;go_wp2_with fail
   go_loopw [7] (fun i wr=>∃(k:Nat) (acc:List Fd) (fv:Value),i=.int .i64 k/\k<=ps.length/\acc.length<=k/\Hid (Dr s=Qe1 zc nm (D4 zc (ps.drop k) acc)) /\
     Hid (wr.ownsRow w3 157 4 fv acc.length (acc.flatMap Ky))/\Hid (Below w w wr)/\w3.heap.size<=wr.heap.size /\
     (∀j x,(By ps)[j]?=some x->wr.cell? ⟨g6,j,none⟩=some x) /\
     wr.cell? (w,0)=some (.int .u8 0)/\wr.cell? (w,1)=a6/\wr.cell? (w,2)=some (.slice none 0 0) /\
     wr.cell? (w,1,0)=some (.int .u8 (zc:Int))/\wr.cell? (w,1,1)=nm/\wr.cell? (w,1,2)=some fv /\
     (∀j,wr.frozen? ⟨w.heap.size,j,none⟩=false)/\(∀j,wr.frozen? ⟨w.heap.size+1,j,none⟩=false)) (fun i _=>ps.length - (intOf i).toNat)
   case atStart=>exact⟨0,[],.slice none 0 0,rfl,ag _,An _,HF.o,Hown0.o,Hb3.o,An _,hrow.o,u0,u1,u2,d0,d1,d2,f1,f2⟩
   case round=>
    clear u0 u1 u2 d0 d1 d2 f1 f2;have hpsl:ps.length<=1002:=fU;obtain⟨k,acc,fv,rfl,hk,hak,hft,hown,hbr,hszr,hpr,u0,u1,u2,d0,d1,d2,f1,f2⟩:=hrel;by_cases hlt:k<ps.length
    ·have cell:=hpr k (.string ⟨ps[k].toArray⟩) (by simp[By,hlt]);have hft2:=Aa ((Qbo (c:=zc) (acc:=acc) hlt) ▸ hft.o);have hplk:=Hpl.o _ (ae hlt);have Hpr:=Aa hpr;clear hpr;have i1:(0:Int)<=(k:Int):=aH;have i2:(k:Int)<(ps.length:Int):=aH;generalize ps[k]=p at cell hft2 hplk;have hp1:p.length<=1000:=bC;go_wp2_with fail;have Hread:=Aa (fun W=>(show Calls prog 203 #[p,.int .u8 (zc:Int)] W (C7 (Ce zc p) W)from Z8 zc aJ p W hp1).mono (fun e W' h=>Qlk h));generalize Ce zc p=o at hft2 Hread;have gl:g6<wr.heap.size:=aH;have bl:w.heap.size+1<wr.heap.size:=aH;refine rgE [79,80,81,82,83,84,85,78,86,87,8,999,9]
      (fun i v W=>match i with|0=>v=.slice (g6,0) ps.length c6|1=>v=.int .i64 k|2=>v=.pointer (some ⟨g6,k,none⟩)|3=>v=p|4=>v=(w,1,0)|5=>v=.int .u8 (zc:Int)|6=>Qmj o v|7=>Qmj o v|8=>Qkm o v|9=>v=.bool o.isSome|12=>v=.bool o.isSome|_=>True)
      (fun L U W=>Below wr wr W/\(L 10=true->Ql6 W wr.heap.size (L 11) o (U 10))) ⟨(Ao _ _).drew,fun h=>by simp at h⟩ ?_ ?_
     ·repeat (first|exact Ak.nil|(refine Ak.cons ?_ ?_;rotate_left))
      all_goals
       rintro L U W hL hpre hR hun hdep K hK;have c1:W.cell? ⟨g6,k,none⟩=p:=(hR.1.cell (p:=⟨g6,k,none⟩) gl).trans cell;have c2:W.cell? (w,1,0)=some (.int .u8 (zc:Int)):=(hR.1.cell (p:=⟨w.heap.size+1,0,none⟩) bl).trans d0;have Hdep:=Aa hdep;clear hun hdep;first|(simp[Region.binds]at hpre;done)|simp[Region.binds]at hpre|clear hpre
      ·exact jC
      ·exact jC
      ·exact jn
      ·exact jn
      ·exact jC
      ·exact jn
      ·go_simp;refine(Hread.o _).mono ?_;rintro e w1 ⟨⟨rv,rfl,hv⟩,hb1⟩;exact hK _ _ _ ⟨rv,rfl,hv⟩ Ac ⟨hR.1.trans (hb1.mono hR.1.size),fun h=>(hR.2 h).below hb1⟩ aI
      ·go_simp;exact hK _ _ _ hpre.2 Ac hR rfl
      ·obtain⟨_,rv,hv,hf⟩:=hpre;go_simp;exact hK _ _ _ hf Ac hR (by simp[Act.put,hv])
      ·obtain⟨_,rv,hv,hf⟩:=hpre;go_simp;exact hK _ _ _ rfl Ac hR (by simp[Act.put,hv])
      ·have h11:L 11=false:=Bb Hdep.o 11 10 rfl hL;go_simp;refine hK _ _ _ Ac Ac ⟨hR.1.alloc hR.1.size _,fun _=>?_⟩ rfl;refine⟨W.heap.size,rfl,hR.1.size,by simp,fun j=>by simp,⟨_,_,_,_,by simp;rfl,by simp;rfl,by simp;rfl,by simp;rfl⟩,?_⟩;intro h f hf;exact absurd (h11.symm.trans aR) aJ
      ·obtain⟨h10,⟨_,hf8⟩,hrest⟩:=hpre;obtain⟨b8,e8,hl8,hs8,hfz8,⟨x0,x1,x2,x3,y0,y1,y2,y3⟩,_⟩:=hR.2 h10;cases o with
       |none=>
        obtain⟨x,a,b,c,hx⟩:=hf8;go_simp;refine hK undef _ _ Ac Ac ⟨?_,fun _=>⟨b8,e8,hl8,by simp[hs8],fun j=>by simp[go_sem,hfz8],⟨_,_,_,_,by simp[go_sem,y0,y1,y2,y3,hfz8,hs8];rfl,by simp[go_sem,y0,y1,y2,y3,hfz8,hs8];rfl,by simp[go_sem,y0,y1,y2,y3,hfz8,hs8];rfl,by simp[go_sem,y0,y1,y2,y3,hfz8,hs8];rfl⟩,fun _ f hf=>by cases hf⟩⟩ (by simp[Act.put,e8,hx,hrest]);exact k8
       |some f=>
        have hx:U 8=.agg #[(f.tag:Int),f.name,.string ⟨(Ax f.kind).toArray⟩,f.given]:=hf8;go_simp;refine hK undef _ _ Ac Ac ⟨?_,fun _=>⟨b8,e8,hl8,by simp[hs8],fun j=>by simp[go_sem,hfz8],⟨_,_,_,_,by simp[go_sem,y0,y1,y2,y3,hfz8,hs8];rfl,by simp[go_sem,y0,y1,y2,y3,hfz8,hs8];rfl,by simp[go_sem,y0,y1,y2,y3,hfz8,hs8];rfl,by simp[go_sem,y0,y1,y2,y3,hfz8,hs8];rfl⟩,fun _ f' hf=>by cases hf;simp[go_sem,y0,y1,y2,y3,hfz8,hs8]⟩⟩ (by simp[Act.put,e8,hx,hrest]);exact k8
      ·exact jn
     rintro L U W hL hφ hR;obtain⟨hbW,hF8⟩:=hR;obtain⟨b8,e8,hl8,hs8,hfz8,_,hx8⟩:=hF8 (hL 10 aJ);have e12:U 12=.bool o.isSome:=hφ 12 aJ;simp only[e8];have hx9:=hx8 (hL 11 aJ);obtain⟨hcW,hfzW,hzW⟩:=Cj hbW;rw[<-hcW _ _ bl]at d0 d1 d2;rw[<-hcW _ _ aH]at u0 u1 u2;have f1':∀j,W.frozen? ⟨w.heap.size,j,none⟩=false:=fun j=>(hfzW _ _ aH).trans (f1 j);have f2':∀j,W.frozen? ⟨w.heap.size+1,j,none⟩=false:=fun j=>(hfzW _ _ bl).trans (f2 j);have HbW:=Aa (hbr.o.trans (hbW.mono hbr.o.size));have Hpr':=@Aa (∀j x,(By ps)[j]?=some x->W.cell? ⟨g6,j,none⟩=some x) (fun j x hx=>(hcW _ _ gl).trans (Hpr.o j x hx));have Hown:=Aa (Ct hown.o hbW);have zW:w3.heap.size<=W.heap.size:=ad hszr hbW.size;have zb:w3.heap.size<=b8:=ad hszr hl8;clear hL hφ hF8 hx8 hbW hcW hfzW hzW f1 f2 hown hbr Hpr cell;cases o with
     |none=>
      have e12b:U 12=.bool false:=e12;simp only[e12b];obtain⟨A,cA,rfl,hrA⟩:=B0.ownK Hown.o cY;have Hend:=@Aa (Dr s=none) hft2.o;clear hft2 hft hx9;go_wp2_with fail;refine aF (v:=.tuple #[.agg #[.int .u8 (zc:Int),nm,.slice A acc.length cA],.bool false]) (by simp[results,results150,go_sem,u0,u1,u2,d0,d1,d2,f1',hn1,hn2]) rfl ?_;exact D2.no Hend.o rfl bo
     |some f=>
      have e12b:U 12=.bool true:=e12;simp only[e12b];obtain⟨a0,a1,a2,a3⟩:=hx9 f rfl;clear hx9;obtain⟨A,cA,rfl,hrA⟩:=B0.ownK Hown.o cY;have hal:acc.length<=1001:=fU;have HrA:=Aa hrA;have hft3:=@Aa (Dr s=Qe1 zc nm (if Gt acc f=false then none else D4 zc (List.drop (k+1) ps) (acc++[f]))) hft2.o;clear hft2 hft hrA;go_wp2_with fail;go_loopw [10] (fun kk wq=>∃j:Nat,kk=.int .i64 j/\j<=acc.length/\(∃q,wq=W.drewN q)/\Hid (∀g∈acc.take j,g.name≠f.name/\g.tag<f.tag)) (fun kk _=>acc.length - (intOf kk).toNat)
      case atStart=>exact⟨0,rfl,ag _,⟨0,rfl⟩,by intro g hg;simp at hg⟩
      case round=>
       obtain⟨j,rfl,hj,⟨q,rfl⟩,hin⟩:=hrel;by_cases hjlt:j<acc.length
       ·obtain⟨bA,oA,rfl,hbA,g0,g1,g2,g3⟩:=Dq.at_ HrA.o hjlt;have Hfn:=Aa (fun h=>Qlc (f:=f) hjlt h);have Hfs:=Aa (fun h1 h2=>Qh3 hjlt hin.o h1 h2);generalize acc[j]=g at g0 g1 g2 g3 Hfn Hfs;have j1:(0:Int)<=(j:Int):=aH;have j2:(j:Int)<(acc.length:Int):=aH;by_cases ht:f.tag<=g.tag
        ·have s1:decide ((f.tag:Int)<=(g.tag:Int))=true:=f9;have s2:(f.tag:Int)<=(g.tag:Int):=aH;have Hend:=Aa (show Dr s=none by rw[hft3.o,if_pos (Hfn.o (.inl ht))];rfl);clear hft3 ht;go_wp2_with fail;go_quiet (fail)
         go_wp2_with fail;refine aF (v:=.tuple #[.agg #[.int .u8 (zc:Int),nm,.slice (some ⟨bA,oA,none⟩) acc.length cA],.bool false]) (by simp[results,results150,go_sem,u0,u1,u2,d0,d1,d2,f1',hn1,hn2]) rfl ?_;exact D2.no Hend.o rfl bo
        have s1:decide ((f.tag:Int)<=(g.tag:Int))=false:=f9;have s2:¬(f.tag:Int)<=(g.tag:Int):=aH;have s4:decide (f.tag<=g.tag)=false:=f9;have s5:(f.tag<=g.tag)=False:=f9;by_cases hn:g.name=f.name
        ·have s3:(g.name == f.name)=true:=by simpa using hn
         have Hend:=Aa (show Dr s=none by rw[hft3.o,if_pos (Hfn.o (.inr hn))];rfl);clear hft3 ht hn;go_wp2_with fail;go_quiet (fail)
         go_wp2_with fail;refine aF (v:=.tuple #[.agg #[.int .u8 (zc:Int),nm,.slice (some ⟨bA,oA,none⟩) acc.length cA],.bool false]) (by simp[results,results150,go_sem,u0,u1,u2,d0,d1,d2,f1',hn1,hn2]) rfl ?_;exact D2.no Hend.o rfl bo
        have s3:(g.name == f.name)=false:=by simpa using hn
        have Hin:=Aa (Hfs.o ht hn);clear ht hn;go_wp2_with fail;go_quiet (fail)
        go_wp2
        go_roundw
        case rel=>exact⟨j+1,by go_num,by omega,⟨_,rfl⟩,Hin.o⟩
        case measure=>simp[intOf];omega
       ·have hfit:Gt acc f=true:=Mw.2 (fun g hg=>hin.o g (by rw[au aH];exact hg));have Hft4:=Aa (show Dr s=Qe1 zc nm (D4 zc (List.drop (k+1) ps) (acc++[f]))by rw[hft3.o,if_neg (by rw[hfit];decide)]);have Hown2:=@Aa ((W.drewN q).ownsRow w3 157 4 (.slice A acc.length cA) acc.length (acc.flatMap Ky)) Hown.o;clear hft3 hfit hin;go_wp2_with (at_builtin;go_loud (refine Qd8 _ rfl _ _ 141 rfl w3 157 sf0 4 56 underlying141 Qb6 rfl aJ (W.drewN q) [(f.tag:Int),f.name,.string ⟨(Ax f.kind).toArray⟩,f.given] rfl rfl bh _ acc.length (acc.flatMap Ky) rfl rfl Hown2.o aU aH zW ?_;intro v5 w5 hown5 hb5;obtain⟨A5,c5,rfl,_⟩:=B0.ownK hown5 aU;have Hown5:=Aa hown5;have hk5:∀b j,b<w3.heap.size->w5.cell? ⟨b,j,none⟩=W.cell? ⟨b,j,none⟩:=(fun b j h=>hb5.cell (p:=⟨b,j,none⟩) h);have hq5:∀b j,b<w3.heap.size->w5.frozen? ⟨b,j,none⟩=W.frozen? ⟨b,j,none⟩:=(fun b j h=>hb5.frozen (p:=⟨b,j,none⟩) h);have p0:=(hk5 w 0 aH).trans u0;have p1:=(hk5 w 1 aH).trans u1;have p2:=(hk5 w 2 aH).trans u2;have r0:=(hk5 (w.heap.size+1) 0 aH).trans d0;have r1:=(hk5 (w.heap.size+1) 1 aH).trans d1;have r2:=(hk5 (w.heap.size+1) 2 aH).trans d2;have n1:∀j,w5.frozen? ⟨w.heap.size,j,none⟩=false:=(fun j=>(hq5 _ j aH).trans (f1' j));have n2:∀j,w5.frozen? ⟨w.heap.size+1,j,none⟩=false:=(fun j=>(hq5 _ j aH).trans (f2' j));have z5:=hb5.size;have Hpr5:=@Aa (∀j x,(By ps)[j]?=some x->w5.cell? ⟨g6,j,none⟩=some x) (fun j x hx=>(hk5 g6 j aH).trans (Hpr'.out j x hx));have Hb5:=Aa (HbW.o.trans (((below_drewN (Ao _ W) q).trans hb5).mono aH));clear hk5 hq5 hb5 hown5 u0 u1 u2 d0 d1 d2 f1' f2' a0 a1 a2 a3))
        go_roundw
        case rel=>
         have zB:w.heap.size+1<w5.heap.size:=by have:W.heap.size<=w5.heap.size:=z5;omega
         have hg1:¬(w.heap.size+1=g6):=aH;have hg2:¬(g6=w.heap.size+1):=aH;refine⟨k+1,acc++[f],_,by go_num,by omega,by simp;omega,Hft4.o,?_,?_,?_,?_,?_,?_,?_,?_,?_,by simp[go_sem,r2,n2,zB];rfl,?_,?_⟩
         ·have h5:=ownsRow_setCell_below Hown5.o (a:=⟨w.heap.size+1,2,none⟩) (by show w.heap.size+1<w3.heap.size;omega) (.slice A5 (acc.length+1) c5);show World.ownsRow _ _ _ _ _ _ _;rw[List.flatMap_append,ah];exact h5
         ·exact Hb5.o.setCell (by show w.heap.size<=w.heap.size+1;omega) _
         ·have:W.heap.size<=w5.heap.size:=z5;simp;omega
         ·intro j' x hx;have:=Hpr5.o j' x hx;simp[go_sem,this,hg1,hg2]
         ·simp[go_sem,p0,hn1,hn2]
         ·simp[go_sem,p1,hn1,hn2]
         ·simp[go_sem,p2,hn1,hn2]
         ·simp[go_sem,r0]
         ·simp[go_sem,r1]
         ·intro j';simp[go_sem,n1]
         ·intro j';simp[go_sem,n2]
        case measure=>simp[intOf];omega
    ·obtain rfl:k=ps.length:=aH;obtain⟨A,cA,rfl,hrA⟩:=B0.ownK hown.o cY;have Hfin:=Aa (show Dr s=Qe1 zc nm (some acc)by rw[hft.o,List.drop_length];rfl);have Hbase:=Aa (show w.heap.size<=w3.heap.size by omega);clear hft hpr hrA;by_cases h8:acc.length<=8
     ·have Hend:=Aa (show Dr s=some ⟨zc,nm,acc⟩by rw[Hfin.o];exact if_pos h8);have s1:decide ((acc.length:Int)<=8)=true:=aM;have s2:(acc.length:Int)<=8:=aH;clear Hfin;go_wp2_with fail;go_region
      go_wp2_with fail;refine aF (v:=.tuple #[.agg #[.int .u8 (zc:Int),nm,.slice A acc.length cA],.bool true]) (by simp[results,results150,go_sem,u0,u1,u2,d0,d1,d2,f1,hn1,hn2]) rfl ?_;refine D2.yes (t:=⟨zc,nm,acc⟩) Hend.o rfl (Ti (base:=w3.heap.size) ?_ Hbase.o) bX;exact ownsRow_setCell_below (ownsRow_setCell_below (ownsRow_setCell_below hown.o eD _) eD _) eD _
     have Hend:=Aa (show Dr s=none by rw[Hfin.o];exact if_neg h8);have s1:decide ((acc.length:Int)<=8)=false:=aM;have s2:¬(acc.length:Int)<=8:=aH;clear Hfin;go_wp2_with fail;go_region
     go_wp2_with fail;refine aF (v:=.tuple #[.agg #[.int .u8 (zc:Int),nm,.slice A acc.length cA],.bool false]) (by simp[results,results150,go_sem,u0,u1,u2,d0,d1,d2,f1,hn1,hn2]) rfl ?_;exact D2.no Hend.o rfl bX
  ·have Hno:=Aa (Fh hlt hno.o hne);have hk2:k+1<s.length:=by
    have h1:k≠((zc:UInt8)::nm).length:=fun e=>hne (hiff.2 e);exact jZ
   have t1:(((s[k]).toNat:Int) != 61)=true:=ce;have t2:(((s[k]).toNat:Int) == 61)=false:=Ap hne;clear hne hiff hkp;go_wp2_with fail;go_roundw
   case rel=>exact⟨k+1,by go_num,hk2,Hno.o,Ac⟩
   case measure=>simp[intOf];omega):p:=h
end
end Go.Proofs.YtmmhmlmfhpfgbaaGreatDoor
