/- Texts joined. Conditions: as each theorem names them. -/
import Derived.BigRegion
import Derived.Test.YtkgkoicedddkmaaGreatDoorR07
import Derived.Test.YtkgkoicedddkmaaGreatDoorR08
set_option maxRecDepth 100000
set_option maxHeartbeats 32000000
set_option linter.unusedVariables false
set_option linter.unusedSimpArgs false
namespace Go.Proofs.YtkgkoicedddkmaaGreatDoor
open Go.RowKit Go.Proofs.Tryz
section
attribute [local go_sem] Qiz Qii Qib Qgw ByteArray.mk_append_mk
theorem Qgl(st:UInt8)(hst:st≠69)(s a b d:List UInt8)(w:World)(hs:s.length<=1000)(hp:Ai 58 s=[a,b,d])(n0:Nat)(ho:Dp a 200=true)(hd:Cn a=some n0)(h1:1<=n0)(h2:n0<=200)(hnm:Aw b=true)(k v x:List UInt8)(l:List (List UInt8))(hq:Ai 61 d=k::v::x::l):
  Calls prog 109 #[s,.int .u8 (st.toNat:Int)] w (Cp (Br st s) w):=by
 have hal:=Ak 58 s a bz;have hbl:=Ak 58 s b bz;have hdl:=Ak 58 s d bz;have hF:Br st s=D4 st a b d:=D3 hst hp;have Hcut:=Aa (fun W=>Cg s 58 58 rfl W aH);rw[hp]at Hcut;have Hnum:=Aa (fun W=>Dg a 200 W aH aH);have Hname:=Aa (fun W=>Cd b W aH);have hsl:=st.toNat_lt;have t1:((st.toNat:Int) != 69)=true:=cz;have t2:((st.toNat:Int) == 69)=false:=Am hst;clear hp hst;have hll:=E7 61 d;rw[hq]at hll;simp at hll;rw[Qcv (J8 hd h1 h2 hnm) hq]at hF;have HF:=Aa hF;have Ho:=Aa ho;have Hd:=Aa hd;have Hnm:=Aa hnm;have Hcut2:=Aa (fun W=>Cg d 61 61 rfl W aH);rw[hq]at Hcut2;clear hF ho hd hnm hq;go_enter func109,ntmps109;go_wp2_with fail;refine(Hcut.o _).mono ?_;rintro e w1 ⟨v,rfl,ho,hb⟩;obtain⟨g,c,rfl,hg1,hg2,c0,c1,c2⟩:=Ga ho;simp at hg1;obtain⟨hc,hfz,hz⟩:=By hb;have Hb:=Aa (((Aq w.heap.size w).alloc (Ap _) _).trans (hb.mono aL));have hzz:=hz w.heap.size aL;clear hb ho;go_wp2_with fail;refine(Hnum.o _).mono ?_;rintro e w2 ⟨n,hn,rfl,hdn,hb2⟩;rw[Ho.o];obtain⟨hc2,hfz2,hz2⟩:=By hb2;have Hb2:=Aa (Hb.o.trans (hb2.mono Hb.o.size));have hsz:=Hb2.o.size;have hz3:=hz2 _ hzz;clear hb2;obtain rfl:=hdn n0 Hd.o;clear hdn;go_wp2_with fail;refine(Hname.o _).mono ?_;rintro e w3 ⟨rfl,rfl⟩;rw[Hnm.o];go_wp2_with fail;refine(Hcut2.o _).mono ?_;rintro e w4 ⟨v4,rfl,ho4,hb4⟩;obtain⟨A4,c4,rfl,hrow⟩:=B9.own ho4;obtain⟨b4,o4,e4,hg5,hcc⟩:=hrow.at_ (k:=0) aL;subst e4;have c40:w4.cell? ⟨b4,o4,none⟩=k:=by simpa [Bt]using hcc
 clear hrow hcc;obtain⟨hc4,hfz4,hz4⟩:=By hb4;have hzb:=hz4 w.heap.size (Nat.lt_trans hz3 aL);have hzf:=hz4 w2.heap.size aL;have Hb4:=Aa ((Hb2.o.alloc hsz _).trans (hb4.mono (ad hsz aL)));have u0:w4.cell? (w,0)=some (.int .i64 0):=gB;have u1:w4.cell? (w,1)=a8:=gC;have u2:w4.cell? (w,2)=a8:=gD;have u3:w4.cell? (w,3)=a8:=gE;have d0:w4.cell? (w2,0)=(n0:Int):=gM;have d1:w4.cell? (w2,1)=b:=gN;have d2:w4.cell? (w2,2)=a8:=gO;have d3:w4.cell? (w2,3)=a8:=gP;have f1:∀j,w4.frozen? ⟨w.heap.size,j,none⟩=false:=fun j=>gA;have f2:∀j,w4.frozen? ⟨w2.heap.size,j,none⟩=false:=fun j=>gG;clear hb4 ho4 hc hc2 hc4 hfz hfz2 hfz4 hz hz2 hz4;have q0:3<=(k::v::x::l).length:=aL;generalize (k::v::x::l).length=m at q0 hll ⊢;have q2:((m:Int) == 2)=false:=cb;have q3:((m:Int) == 1)=false:=cb;have q4:¬((m:Int)=2):=aH;have q5:¬((m:Int)=1):=aH;have q6:(0:Int)<(m:Int):=aH;have hn1:¬(w2.heap.size=w.heap.size):=aH;have hn2:¬(w.heap.size=w2.heap.size):=aH;have hn3:¬(w4.heap.size=w.heap.size):=aH;have hn4:¬(w.heap.size=w4.heap.size):=aH;go_wp2_with fail;generalize hW0:w4.setCell ⟨w2.heap.size,2,none⟩ k=W0;have e0:W0.cell? (w2,0)=(n0:Int):=dT;have e1:W0.cell? (w2,1)=b:=dU;have e2:W0.cell? (w2,2)=k:=dn;have e3:W0.cell? (w2,3)=a8:=dp;have v0:W0.cell? (w,0)=some (.int .i64 0):=dg;have v1:W0.cell? (w,1)=a8:=dh;have v2:W0.cell? (w,2)=a8:=di;have v3:W0.cell? (w,3)=a8:=dj;have g1:∀j,W0.frozen? ⟨w.heap.size,j,none⟩=false:=fun j=>dV;have y1:w.heap.size<W0.heap.size:=dM;have Hb5:Below w w W0:=by
  rw[<-hW0];(repeat (first|exact Hb4.o|refine Below.setCell ?_ aP _|refine Below.alloc ?_ aP _|refine Below.drew ?_))
 have Hb5:=Aa Hb5;clear hW0 u0 u1 u2 u3 d0 d1 d2 d3 f1 f2 Hb4 hzb hzf;refine Gl [83,84,85,86,87,88,89,90,91,999,5] aO aO aO (fun u=>by dsimp only[Qbm,Bm,List.set])
  (fun i x W=>x=[.agg #[.int .i64 n0,.string ⟨b.toArray⟩,.string ⟨k.toArray⟩,.string ⟨#[]⟩],.slice (some ⟨b4,o4,none⟩) m c4,.int .i64 (m:Int),.bool false,.bool false,undef,undef,undef,.bool false,undef,.bool false][i]?.getD undef)
  (fun L W=>W=if L 9=true then(((W0.drew.setCell ⟨w.heap.size,0,none⟩ (.int .i64 n0)).setCell ⟨w.heap.size,1,none⟩ b).setCell ⟨w.heap.size,2,none⟩ k).setCell ⟨w.heap.size,3,none⟩ a8 else W0.drew) (fun _ _=>True) (fun _ _ _ _ _ h=>h) rfl ?_ ?_
 ·repeat (first|exact Ah.nil|(refine Ah.cons ?_ ?_;rotate_left))
  all_goals
   rintro L u W hL hpre hR K hK;first|(simp[Region.binds]at hpre;done)|simp[Region.binds]at hpre|clear hpre
   rcases hl:L 9 with _|_;all_goals
    first|exact absurd (hl.symm.trans hL) aK|(
     rw[hl]at hR;first|rw[if_neg aK]at hR|rw[if_pos rfl]at hR
     have hR':=hR.symm;subst hR';go_simp;first|(refine hK _ _ _ rfl Ac co rfl;done)|(refine hK _ _ _ rfl Ac co aI;done)|(refine hK undef _ _ rfl Ac co aI;done))
 rintro L u W hL hφ hR;have c10:=hφ 10 aK;simp at c10;simp only[c10];rw[if_pos (hL 9 aK)]at hR;subst hR;go_wp2_with fail;refine aF (v:=.tuple #[.agg #[.int .i64 n0,b,k,a8],.bool false]) (by simp[results,results109,go_sem,g1,y1,v0,v1,v2,v3]) rfl ?_;exact Cp.no HF.o rfl bh
theorem Kn(st:UInt8)(hso:Dr st)(s:List UInt8)(w:World)(hs:s.length<=1000):
  Calls prog 109 #[s,.int .u8 (st.toNat:Int)] w (Cp (Br st s) w):=by
 by_cases hp:(Ai 58 s).length=(if st=69 then 2 else 3)
 ·by_cases he:st=69
  ·subst he;rw[if_pos rfl]at hp;match hs2:Ai 58 s,hp with
   |[a,b],_=>exact S6 s a b w hs hs2
  rw[if_neg he]at hp;match hs2:Ai 58 s,hp with
  |[a,b,d],_=>
   rcases Sx a b with ho|⟨ho,hd⟩|⟨n0,ho,hd,h1,h2,hnm⟩|⟨n0,ho,hd,h1,h2,hnm⟩
   ·exact Qf1 st he s a b d w hs hs2 ho
   ·exact Qgm st he s a b d w hs hs2 ho hd
   ·exact Qfr st he s a b d w hs hs2 n0 ho hd h1 h2 hnm
   match hq:Ai 61 d with
   |[]=>exact absurd hq (Dm 61 d)
   |[k]=>
    cases hk:Co k with
    |none=>exact Qeh st he s a b d w hs hs2 n0 ho hd h1 h2 hnm k hq hk
    |some kk=>exact Qdi st he s a b d w hs hs2 n0 ho hd h1 h2 hnm k hq kk hk
   |[k,v]=>
    rcases hso with rfl|rfl|rfl
    ·rcases Bool.eq_false_or_eq_true (Bz k v)with hsv|hsv
     ·exact Qes s a b d w hs hs2 n0 ho hd h1 h2 hnm k v hq hsv
     exact Qdq s a b d w hs hs2 n0 ho hd h1 h2 hnm k v hq hsv
    ·exact Qeg s a b d w hs hs2 n0 ho hd h1 h2 hnm k v hq
    exact absurd rfl he
   |k::v::x::l=>exact Qgl st he s a b d w hs hs2 n0 ho hd h1 h2 hnm k v x l hq
 exact Sa st s w hs hp
def Cr(o:Option Ty)(w:World)(e:Ending)(w':World):Prop:=
 (match o with
  |some t=>∃fv,e=.returned (.tuple #[Kx t fv,.bool true])/\w'.ownsRow w 104 4 fv t.fields.length (t.fields.flatMap sfc)
  |none=>∃(x:Int) (a:ByteArray) (A:Option Addr) (n c:Nat),e=.returned (.tuple #[.agg #[.int .u8 x,.string a,.slice A n c],.bool false]))/\Below w w w'
theorem Cr.no{w w':World}{e:Ending}{o:Option Ty}(ho:o=none){x:Int}{a:ByteArray}{A:Option Addr}{n c:Nat}(he:e=.returned (.tuple #[.agg #[.int .u8 x,.string a,.slice A n c],.bool false]))(hb:Below w w w'):Cr o w e w':=by
 rw[ho];exact⟨⟨x,a,A,n,c,he⟩,hb⟩
theorem Cr.yes{w w':World}{e:Ending}{o:Option Ty}{t:Ty}{fv:Value}(ho:o=some t)(he:e=.returned (.tuple #[Kx t fv,.bool true]))(hr:w'.ownsRow w 104 4 fv t.fields.length (t.fields.flatMap sfc))(hb:Below w w w'):Cr o w e w':=by
 rw[ho];exact⟨⟨fv,he,hr⟩,hb⟩
theorem Dn{c:UInt8}{s:List UInt8}{k:Nat}(hk:k<s.length)(h:c∉s.take k)(hc:s[k]≠c):c∉s.take (k+1):=by
 rw[Ch s k hk];simp only[af,aq,not_or];exact⟨h,fun e=>hc e.symm⟩
theorem Qgz{c:UInt8}{p u:List UInt8}{k:Nat}(hp:c∉p)(hk:k<(p++c::u).length)(h:c∉(p++c::u).take k):k<=p.length/\((p++c::u)[k]=c↔k=p.length):=by
 have h1:k<=p.length:=by
  rcases aG p.length k with hlt|hge
  ·exfalso
   apply h;rw[List.take_append];rcases hd:k - p.length with _|d
   ·omega
   simp
  exact hge
 refine⟨h1,?_⟩;rcases aG k p.length with hlt|hge
 ·rw[List.getElem_append_left hlt];exact⟨fun e=>absurd (e ▸ ae hlt) hp,fun e=>by omega⟩
 obtain rfl:k=p.length:=aH;simp
theorem Qcg(s:List UInt8)(w:World)(hs:s.length<=1000)(h:61∉s):
  Calls prog 88 #[s] w (Cr (Cb s) w):=by
 have HF:=Aa (show Cb s=none by unfold Cb;rw[Pp h];cases s<;>rfl);have H:=Aa h;clear h;go_enter func88,ntmps88;go_wp2_with fail;go_loopw [4] (fun i wr=>∃k:Nat,i=.int .i64 k/\k<=s.length/\wr=w.alloc (.cells #[.int .u8 0,a8,.slice none 0 0] 100)) (fun i _=>s.length - (intOf i).toNat)
 case atStart=>exact⟨0,rfl,ag _,rfl⟩
 case round=>
  obtain⟨k,rfl,hk,rfl⟩:=hrel;by_cases hlt:k<s.length
  ·have k1:(k:Int)<(s.length:Int):=aH;have hne:s[k]≠61:=fun e=>H.o (e ▸ ae hlt);have t1:(((s[k]).toNat:Int) != 61)=true:=bM;have t2:(((s[k]).toNat:Int) == 61)=false:=Am hne;have hb:=(s[k]).toNat_lt;clear hne;go_wp2_with fail;go_roundw
   case rel=>exact⟨k+1,by go_num,by omega,Ac⟩
   case measure=>simp[intOf];omega
  ·obtain rfl:k=s.length:=aH;have k1:¬((s.length:Int)<(s.length:Int)):=aH;rcases Nat.eq_zero_or_pos s.length with h0|h0
   ·have q1:((s.length:Int)<1):=aH;go_wp2_with fail;refine aF (v:=.tuple #[Nq,.bool false]) (by simp[results,results88,go_sem,Nq]) rfl ?_;exact Cr.no HF.o rfl aS
   have q1:¬((s.length:Int)<1):=aH;go_wp2_with fail;refine aF (v:=.tuple #[Nq,.bool false]) (by simp[results,results88,go_sem,Nq]) rfl ?_;exact Cr.no HF.o rfl aS
theorem G9{c:UInt8}{p u s:List UInt8}{k:Nat}(hs:s=p++c::u)(hp:c∉p)(hk:k<s.length)(h:c∉s.take k):k<=p.length/\(s[k]=c↔k=p.length):=by
 subst hs;exact Qgz hp hk h
theorem Qbj(s u:List UInt8)(w:World)(hs:s.length<=1000)(h:s=[]++61::u):
  Calls prog 88 #[s] w (Cr (Cb s) w):=by
 have HF:=Aa (show Cb s=none by rw[h];unfold Cb;rw[Ed aL]);have Hs:=Aa h;have Hsl:=Aa (show s.length=0+1+u.length by rw[h];simp;omega);have h0:0<s.length:=cB;have Hp:=Aa (show (61:UInt8)∉([]:List UInt8)by simp);clear h;go_enter func88,ntmps88;go_wp2_with fail;go_loopw [4] (fun i wr=>∃k:Nat,i=.int .i64 k/\k<s.length/\Hid (61∉s.take k)/\wr=w.alloc (.cells #[.int .u8 0,a8,.slice none 0 0] 100)) (fun i _=>s.length - (intOf i).toNat)
 case atStart=>exact⟨0,rfl,by omega,by simp[Hid],rfl⟩
 case round=>
  obtain⟨k,rfl,hlt,hno,rfl⟩:=hrel;have k1:(k:Int)<(s.length:Int):=aH;obtain⟨hkp,hiff⟩:=G9 Hs.o Hp.o hlt hno.o;have hb:=(s[k]).toNat_lt;by_cases hne:s[k]=61
  ·obtain rfl:k=0:=hiff.1 hne;have t1:(((s[0]).toNat:Int) != 61)=false:=bT;have t2:(((s[0]).toNat:Int) == 61)=true:=Be hne;clear hne hiff hkp hno;go_wp2_with fail;refine aF (v:=.tuple #[Nq,.bool false]) (by simp[results,results88,go_sem,Nq]) rfl ?_;exact Cr.no HF.o rfl aS
  ·have Hno:=Aa (Dn hlt hno.o hne);have hk2:k+1<s.length:=by
    have h1:k≠0:=fun e=>hne (hiff.2 e);simp at hkp;have h2:=Hsl.o;omega
   have t1:(((s[k]).toNat:Int) != 61)=true:=bM;have t2:(((s[k]).toNat:Int) == 61)=false:=Am hne;clear hne hiff hkp;go_wp2_with fail;go_roundw
   case rel=>exact⟨k+1,by go_num,hk2,Hno.o,Ac⟩
   case measure=>simp[intOf];omega
theorem Qbr(s:List UInt8)(c:UInt8)(nm u:List UInt8)(w:World)(hs:s.length<=1000)(h:s=(c::nm)++61::u)(hp:61∉c::nm)(hnm:Aw nm=false):
  Calls prog 88 #[s] w (Cr (Cb s) w):=by
 have HF:=Aa (show Cb s=none by rw[h];unfold Cb;rw[Ed hp];exact if_pos (.inl (by rw[hnm];decide)));have Hs:=Aa h;have Hsl:=Aa (show s.length=(c::nm).length+1+u.length by rw[h];simp;omega);have h0:0<s.length:=cB;have Hp:=Aa hp;have Hu:=Aa (fun W=>Cd nm W ba);rw[hnm]at Hu;clear h hp hnm;go_enter func88,ntmps88;go_wp2_with fail;go_loopw [4] (fun i wr=>∃k:Nat,i=.int .i64 k/\k<s.length/\Hid (61∉s.take k)/\wr=w.alloc (.cells #[.int .u8 0,a8,.slice none 0 0] 100)) (fun i _=>s.length - (intOf i).toNat)
 case atStart=>exact⟨0,rfl,by omega,by simp[Hid],rfl⟩
 case round=>
  obtain⟨k,rfl,hlt,hno,rfl⟩:=hrel;have k1:(k:Int)<(s.length:Int):=aH;obtain⟨hkp,hiff⟩:=G9 Hs.o Hp.o hlt hno.o;have hb:=(s[k]).toNat_lt;by_cases hne:s[k]=61
  ·obtain rfl:k=nm.length+1:=hiff.1 hne;have t1:(((s[nm.length+1]).toNat:Int) != 61)=false:=bT;have t2:(((s[nm.length+1]).toNat:Int) == 61)=true:=Be hne;clear hne hiff hkp hno;have e0:s[0]=c:=dR;have e1:s.tail.take nm.length=nm:=bY;have e2:s.drop (nm.length+1+1)=u:=bY;have m1:(nm.length:Int)+1<(s.length:Int):=ba;have m2:¬((nm.length:Int)+1<1):=aH;have m3:¬((s.length:Int)<=(nm.length:Int)+1):=aH;have hcl:=c.toNat_lt;have hn1:¬(w.heap.size+1=w.heap.size):=aH;go_wp2_with fail;go_region
   go_wp2_with fail;refine(Hu.o _).mono ?_;rintro e w2 ⟨rfl,rfl⟩;go_wp2_with fail;refine aF (v:=.tuple #[.agg #[.int .u8 (c.toNat:Int),nm,.slice none 0 0],.bool false]) (by simp[results,results88,go_sem,hn1]) rfl ?_;exact Cr.no HF.o rfl aS
  ·have Hno:=Aa (Dn hlt hno.o hne);have hk2:k+1<s.length:=by
    have h1:k≠(c::nm).length:=fun e=>hne (hiff.2 e);have h2:=Hsl.o;omega
   have t1:(((s[k]).toNat:Int) != 61)=true:=bM;have t2:(((s[k]).toNat:Int) == 61)=false:=Am hne;clear hne hiff hkp;go_wp2_with fail;go_roundw
   case rel=>exact⟨k+1,by go_num,hk2,Hno.o,Ac⟩
   case measure=>simp[intOf];omega
theorem Qch(s:List UInt8)(c:UInt8)(nm u:List UInt8)(w:World)(hs:s.length<=1000)(h:s=(c::nm)++61::u)(hp:61∉c::nm)(hnm:Aw nm=true)(hso:¬Dr c):
  Calls prog 88 #[s] w (Cr (Cb s) w):=by
 have HF:=Aa (show Cb s=none by rw[h];unfold Cb;rw[Ed hp];exact if_pos (.inr hso));have Hs:=Aa h;have Hsl:=Aa (show s.length=(c::nm).length+1+u.length by rw[h];simp;omega);have h0:0<s.length:=cB;have Hp:=Aa hp;have Hu:=Aa (fun W=>Cd nm W ba);rw[hnm]at Hu;have Hso:=Aa hso;clear h hp hnm hso;go_enter func88,ntmps88;go_wp2_with fail;go_loopw [4] (fun i wr=>∃k:Nat,i=.int .i64 k/\k<s.length/\Hid (61∉s.take k)/\wr=w.alloc (.cells #[.int .u8 0,a8,.slice none 0 0] 100)) (fun i _=>s.length - (intOf i).toNat)
 case atStart=>exact⟨0,rfl,by omega,by simp[Hid],rfl⟩
 case round=>
  obtain⟨k,rfl,hlt,hno,rfl⟩:=hrel;have k1:(k:Int)<(s.length:Int):=aH;obtain⟨hkp,hiff⟩:=G9 Hs.o Hp.o hlt hno.o;have hb:=(s[k]).toNat_lt;by_cases hne:s[k]=61
  ·obtain rfl:k=nm.length+1:=hiff.1 hne;have t1:(((s[nm.length+1]).toNat:Int) != 61)=false:=bT;have t2:(((s[nm.length+1]).toNat:Int) == 61)=true:=Be hne;clear hne hiff hkp hno;have e0:s[0]=c:=dR;have e1:s.tail.take nm.length=nm:=bY;have e2:s.drop (nm.length+1+1)=u:=bY;have m1:(nm.length:Int)+1<(s.length:Int):=ba;have m2:¬((nm.length:Int)+1<1):=aH;have m3:¬((s.length:Int)<=(nm.length:Int)+1):=aH;have hcl:=c.toNat_lt;have hn1:¬(w.heap.size+1=w.heap.size):=aH;go_wp2_with fail;have s1:((c.toNat:Int) != 82)=true:=by have:=Am (d:=82) (fun e=>Hso.o (.inl e));simpa using this
   have s2:((c.toNat:Int) != 85)=true:=by have:=Am (d:=85) (fun e=>Hso.o (.inr (.inl e)));simpa using this
   have s3:((c.toNat:Int) != 69)=true:=by have:=Am (d:=69) (fun e=>Hso.o (.inr (.inr e)));simpa using this
   go_region
   go_wp2_with fail;refine(Hu.o _).mono ?_;rintro e w2 ⟨rfl,rfl⟩;go_wp2_with fail;refine aF (v:=.tuple #[.agg #[.int .u8 (c.toNat:Int),nm,.slice none 0 0],.bool false]) (by simp[results,results88,go_sem,hn1]) rfl ?_;exact Cr.no HF.o rfl aS
  ·have Hno:=Aa (Dn hlt hno.o hne);have hk2:k+1<s.length:=by
    have h1:k≠(c::nm).length:=fun e=>hne (hiff.2 e);have h2:=Hsl.o;omega
   have t1:(((s[k]).toNat:Int) != 61)=true:=bM;have t2:(((s[k]).toNat:Int) == 61)=false:=Am hne;clear hne hiff hkp;go_wp2_with fail;go_roundw
   case rel=>exact⟨k+1,by go_num,hk2,Hno.o,Ac⟩
   case measure=>simp[intOf];omega
theorem Zn(s:List UInt8)(nm u:List UInt8)(w:World)(hs:s.length<=1000)(h:s=(82::nm)++61::u)(hp:61∉82::nm)(hnm:Aw nm=true)(hu:u=[]):
  Calls prog 88 #[s] w (Cr (Cb s) w):=by
 have HF:=Aa (show Cb s=some ⟨82,nm,[]⟩by rw[h];unfold Cb;rw[Ed hp];subst hu;simp[hnm,Dr]);have Hs:=Aa h;have Hsl:=Aa (show s.length=(82::nm).length+1+u.length by rw[h];simp;omega);have h0:0<s.length:=cB;have Hp:=Aa hp;have Hu:=Aa (fun W=>Cd nm W ba);rw[hnm]at Hu;subst hu;clear h hp hnm;go_enter func88,ntmps88;go_wp2_with fail;go_loopw [4] (fun i wr=>∃k:Nat,i=.int .i64 k/\k<s.length/\Hid (61∉s.take k)/\wr=w.alloc (.cells #[.int .u8 0,a8,.slice none 0 0] 100)) (fun i _=>s.length - (intOf i).toNat)
 case atStart=>exact⟨0,rfl,by omega,by simp[Hid],rfl⟩
 case round=>
  obtain⟨k,rfl,hlt,hno,rfl⟩:=hrel;have k1:(k:Int)<(s.length:Int):=aH;obtain⟨hkp,hiff⟩:=G9 Hs.o Hp.o hlt hno.o;have hb:=(s[k]).toNat_lt;by_cases hne:s[k]=61
  ·obtain rfl:k=nm.length+1:=hiff.1 hne;have t1:(((s[nm.length+1]).toNat:Int) != 61)=false:=bT;have t2:(((s[nm.length+1]).toNat:Int) == 61)=true:=Be hne;clear hne hiff hkp hno;have e0:s[0]=82:=dR;have e1:s.tail.take nm.length=nm:=bY;have e2:s.drop (nm.length+1+1)=[]:=bY;have m1:(nm.length:Int)+1<(s.length:Int):=ba;have m2:¬((nm.length:Int)+1<1):=aH;have m3:¬((s.length:Int)<=(nm.length:Int)+1):=aH;have hn1:¬(w.heap.size+1=w.heap.size):=aH;go_wp2_with fail;go_region
   go_wp2_with fail;refine(Hu.o _).mono ?_;rintro e w2 ⟨rfl,rfl⟩;go_wp2_with fail;go_region
   go_wp2_with fail;refine aF (v:=.tuple #[.agg #[.int .u8 82,nm,.slice none 0 0],.bool true]) (by simp[results,results88,go_sem,hn1]) rfl ?_;exact Cr.yes HF.o rfl ⟨rfl,.inl ⟨rfl,rfl⟩⟩ aS
  ·have Hno:=Aa (Dn hlt hno.o hne);have hk2:k+1<s.length:=by
    have h1:k≠(82::nm).length:=fun e=>hne (hiff.2 e);have h2:=Hsl.o;omega
   have t1:(((s[k]).toNat:Int) != 61)=true:=bM;have t2:(((s[k]).toNat:Int) == 61)=false:=Am hne;clear hne hiff hkp;go_wp2_with fail;go_roundw
   case rel=>exact⟨k+1,by go_num,hk2,Hno.o,Ac⟩
   case measure=>simp[intOf];omega
theorem Yv(s:List UInt8)(nm u:List UInt8)(w:World)(hs:s.length<=1000)(h:s=(85::nm)++61::u)(hp:61∉85::nm)(hnm:Aw nm=true)(hu:u=[]):
  Calls prog 88 #[s] w (Cr (Cb s) w):=by
 have HF:=Aa (show Cb s=none by rw[h];unfold Cb;rw[Ed hp];subst hu;simp[hnm,Dr]);have Hs:=Aa h;have Hsl:=Aa (show s.length=(85::nm).length+1+u.length by rw[h];simp;omega);have h0:0<s.length:=cB;have Hp:=Aa hp;have Hu:=Aa (fun W=>Cd nm W ba);rw[hnm]at Hu;subst hu;clear h hp hnm;go_enter func88,ntmps88;go_wp2_with fail;go_loopw [4] (fun i wr=>∃k:Nat,i=.int .i64 k/\k<s.length/\Hid (61∉s.take k)/\wr=w.alloc (.cells #[.int .u8 0,a8,.slice none 0 0] 100)) (fun i _=>s.length - (intOf i).toNat)
 case atStart=>exact⟨0,rfl,by omega,by simp[Hid],rfl⟩
 case round=>
  obtain⟨k,rfl,hlt,hno,rfl⟩:=hrel;have k1:(k:Int)<(s.length:Int):=aH;obtain⟨hkp,hiff⟩:=G9 Hs.o Hp.o hlt hno.o;have hb:=(s[k]).toNat_lt;by_cases hne:s[k]=61
  ·obtain rfl:k=nm.length+1:=hiff.1 hne;have t1:(((s[nm.length+1]).toNat:Int) != 61)=false:=bT;have t2:(((s[nm.length+1]).toNat:Int) == 61)=true:=Be hne;clear hne hiff hkp hno;have e0:s[0]=85:=dR;have e1:s.tail.take nm.length=nm:=bY;have e2:s.drop (nm.length+1+1)=[]:=bY;have m1:(nm.length:Int)+1<(s.length:Int):=ba;have m2:¬((nm.length:Int)+1<1):=aH;have m3:¬((s.length:Int)<=(nm.length:Int)+1):=aH;have hn1:¬(w.heap.size+1=w.heap.size):=aH;go_wp2_with fail;go_region
   go_wp2_with fail;refine(Hu.o _).mono ?_;rintro e w2 ⟨rfl,rfl⟩;go_wp2_with fail;go_region
   go_wp2_with fail;refine aF (v:=.tuple #[.agg #[.int .u8 85,nm,.slice none 0 0],.bool false]) (by simp[results,results88,go_sem,hn1]) rfl ?_;exact Cr.no HF.o rfl aS
  ·have Hno:=Aa (Dn hlt hno.o hne);have hk2:k+1<s.length:=by
    have h1:k≠(85::nm).length:=fun e=>hne (hiff.2 e);have h2:=Hsl.o;omega
   have t1:(((s[k]).toNat:Int) != 61)=true:=bM;have t2:(((s[k]).toNat:Int) == 61)=false:=Am hne;clear hne hiff hkp;go_wp2_with fail;go_roundw
   case rel=>exact⟨k+1,by go_num,hk2,Hno.o,Ac⟩
   case measure=>simp[intOf];omega
theorem Yz(s:List UInt8)(nm u:List UInt8)(w:World)(hs:s.length<=1000)(h:s=(69::nm)++61::u)(hp:61∉69::nm)(hnm:Aw nm=true)(hu:u=[]):
  Calls prog 88 #[s] w (Cr (Cb s) w):=by
 have HF:=Aa (show Cb s=none by rw[h];unfold Cb;rw[Ed hp];subst hu;simp[hnm,Dr]);have Hs:=Aa h;have Hsl:=Aa (show s.length=(69::nm).length+1+u.length by rw[h];simp;omega);have h0:0<s.length:=cB;have Hp:=Aa hp;have Hu:=Aa (fun W=>Cd nm W ba);rw[hnm]at Hu;subst hu;clear h hp hnm;go_enter func88,ntmps88;go_wp2_with fail;go_loopw [4] (fun i wr=>∃k:Nat,i=.int .i64 k/\k<s.length/\Hid (61∉s.take k)/\wr=w.alloc (.cells #[.int .u8 0,a8,.slice none 0 0] 100)) (fun i _=>s.length - (intOf i).toNat)
 case atStart=>exact⟨0,rfl,by omega,by simp[Hid],rfl⟩
 case round=>
  obtain⟨k,rfl,hlt,hno,rfl⟩:=hrel;have k1:(k:Int)<(s.length:Int):=aH;obtain⟨hkp,hiff⟩:=G9 Hs.o Hp.o hlt hno.o;have hb:=(s[k]).toNat_lt;by_cases hne:s[k]=61
  ·obtain rfl:k=nm.length+1:=hiff.1 hne;have t1:(((s[nm.length+1]).toNat:Int) != 61)=false:=bT;have t2:(((s[nm.length+1]).toNat:Int) == 61)=true:=Be hne;clear hne hiff hkp hno;have e0:s[0]=69:=dR;have e1:s.tail.take nm.length=nm:=bY;have e2:s.drop (nm.length+1+1)=[]:=bY;have m1:(nm.length:Int)+1<(s.length:Int):=ba;have m2:¬((nm.length:Int)+1<1):=aH;have m3:¬((s.length:Int)<=(nm.length:Int)+1):=aH;have hn1:¬(w.heap.size+1=w.heap.size):=aH;go_wp2_with fail;go_region
   go_wp2_with fail;refine(Hu.o _).mono ?_;rintro e w2 ⟨rfl,rfl⟩;go_wp2_with fail;go_region
   go_wp2_with fail;refine aF (v:=.tuple #[.agg #[.int .u8 69,nm,.slice none 0 0],.bool false]) (by simp[results,results88,go_sem,hn1]) rfl ?_;exact Cr.no HF.o rfl aS
  ·have Hno:=Aa (Dn hlt hno.o hne);have hk2:k+1<s.length:=by
    have h1:k≠(69::nm).length:=fun e=>hne (hiff.2 e);have h2:=Hsl.o;omega
   have t1:(((s[k]).toNat:Int) != 61)=true:=bM;have t2:(((s[k]).toNat:Int) == 61)=false:=Am hne;clear hne hiff hkp;go_wp2_with fail;go_roundw
   case rel=>exact⟨k+1,by go_num,hk2,Hno.o,Ac⟩
   case measure=>simp[intOf];omega
def Nu(c:UInt8)(nm:List UInt8):Option (List Fd)->Option Ty
 |some r=>if r.length<=8 then some ⟨c,nm,r⟩else none
 |none=>none
theorem Nm{c:UInt8}{nm u s:List UInt8}(h:s=(c::nm)++61::u)(hp:61∉c::nm)(hnm:Aw nm=true)(hc:Dr c)(hu:u≠[]):Cb s=Nu c nm (Ct c (Ai 44 u) []):=by
 rw[h];unfold Cb;rw[Ed hp];simp only[];rw[if_neg (by rw[hnm];simp[hc]),if_neg hu];unfold Nu;cases Ct c (Ai 44 u) []<;>rfl
theorem M9{c:UInt8}{ps:List (List UInt8)}{acc:List Fd}{k:Nat}(hk:k<ps.length):Ct c (ps.drop k) acc=(match Br c ps[k]with|none=>none|some f=>if El acc f=false then none else Ct c (ps.drop (k+1)) (acc++[f])):=by
 rw[List.drop_eq_getElem_cons hk];rfl
theorem Yk(g j:Nat):(⟨g,0,none⟩:Addr).add j=⟨g,j,none⟩:=bB
def Qd9(W:World)(lo:Nat)(stored:Bool)(o:Option Fd)(v:Value):Prop:=
 ∃b8,v=.pointer (some ⟨b8,0,none⟩)/\lo<=b8/\b8<W.heap.size/\(∀j,W.frozen? ⟨b8,j,none⟩=false) /\
  (∃x0 x1 x2 x3,W.cell? ⟨b8,0,none⟩=some x0/\W.cell? ⟨b8,1,none⟩=some x1/\W.cell? ⟨b8,2,none⟩=some x2/\W.cell? ⟨b8,3,none⟩=some x3) /\
  (stored=true->∀f,o=some f->W.cell? ⟨b8,0,none⟩=(f.tag:Int)/\W.cell? ⟨b8,1,none⟩=some (.string ⟨f.name.toArray⟩)/\W.cell? ⟨b8,2,none⟩=some (.string ⟨(Bj f.kind).toArray⟩)/\W.cell? ⟨b8,3,none⟩=some (.string ⟨f.given.toArray⟩))
def Qah(o:Option Fd)(v:Value):Prop:=
 match o with
 |some f=>v=sfV f
 |none=>∃(x:Int) (a b c:ByteArray),v=.agg #[.int .i64 x,.string a,.string b,.string c]
def Xm(o:Option Fd)(v:Value):Prop:=∃rv,v=.tuple #[rv,.bool o.isSome]/\Qah o rv
theorem Qd9.below{W W':World}{lo:Nat}{b:Bool}{o:Option Fd}{v:Value}(h:Qd9 W lo b o v)(hb:Below W W W'):Qd9 W' lo b o v:=by
 obtain⟨b8,rfl,h1,h2,h3,⟨x0,x1,x2,x3,e0,e1,e2,e3⟩,h5⟩:=h;have hc:∀j,W'.cell? ⟨b8,j,none⟩=W.cell? ⟨b8,j,none⟩:=fun j=>hb.cell (p:=⟨b8,j,none⟩) h2
 exact⟨b8,rfl,h1,ac h2 hb.size,fun j=>(hb.frozen (p:=⟨b8,j,none⟩) h2).trans (h3 j),⟨x0,x1,x2,x3,(hc 0).trans e0,(hc 1).trans e1,(hc 2).trans e2,(hc 3).trans e3⟩,fun hs f hf=>by
  obtain⟨a0,a1,a2,a3⟩:=h5 hs f hf;exact⟨(hc 0).trans a0,(hc 1).trans a1,(hc 2).trans a2,(hc 3).trans a3⟩⟩
theorem Ze{c:UInt8}{p:List UInt8}{W W':World}{e:Ending}(h:Cp (Br c p) W e W'):(∃rv,e=.returned (.tuple #[rv,.bool (Br c p).isSome])/\Qah (Br c p) rv)/\Below W W W':=by
 obtain⟨h1,h2⟩:=h;refine⟨?_,h2⟩;cases hf:Br c p with
 |none=>rw[hf]at h1;obtain⟨x,a,b,d,e1⟩:=h1;exact⟨_,e1,x,a,b,d,rfl⟩
 |some f=>rw[hf]at h1;exact⟨_,h1,rfl⟩
theorem J0{w:World}{b0 base k:Nat}{e:TypeId}{v:Value}{n:Nat}{xs:List Value}(h:w.ownsRow base e k v n xs)(hb:b0<=base):w.ownsRow b0 e k v n xs:=by
 refine⟨h.1,?_⟩;rcases h.2 with hn|⟨g,cap,cur,rfl,hb2,rest⟩
 ·exact .inl hn
 exact .inr ⟨g,cap,cur,rfl,by omega,rest⟩
theorem Ym{acc:List Fd}{f:Fd}{j:Nat}(hj:j<acc.length)(h:f.tag<=acc[j].tag\/acc[j].name=f.name):El acc f=false:=by
 rw[Bool.eq_false_iff];intro hf;have:=Gr.1 hf _ (ae hj);rcases h with h|h
 ·omega
 exact this.1 h
theorem Rt{acc:List Fd}{f:Fd}{j:Nat}(hj:j<acc.length)(h:∀g∈acc.take j,g.name≠f.name/\g.tag<f.tag)(h1:¬f.tag<=acc[j].tag)(h2:acc[j].name≠f.name):∀g∈acc.take (j+1),g.name≠f.name/\g.tag<f.tag:=by
 intro g hg;rw[Ch acc j hj]at hg;rcases af.1 hg with hg|hg
 ·exact h g hg
 simp at hg;subst hg;exact⟨h2,by omega⟩
end
end Go.Proofs.YtkgkoicedddkmaaGreatDoor
