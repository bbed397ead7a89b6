/- Texts joined. Conditions: as each theorem names them. -/
import Derived.BigRegion
import Derived.Test.YtkgkoicedddkmaaGreatDoorC03
import Derived.Test.YtkgkoicedddkmaaGreatDoorC09
import Derived.Test.YtkgkoicedddkmaaGreatDoorC10
import Derived.Test.YtkgkoicedddkmaaGreatDoorC11
import Derived.Test.YtkgkoicedddkmaaGreatDoorC12
set_option maxRecDepth 100000
set_option maxHeartbeats 32000000
set_option linter.unusedVariables false
set_option linter.unusedSimpArgs false
namespace Go.Proofs.YtkgkoicedddkmaaGreatDoor
open Go.RowKit Go.Proofs.Tryz
section
attribute [local go_sem] Qiz Qii Qib Qgw ByteArray.mk_append_mk
theorem Qgl(st:UInt8)(hst:st≠69)(s a b d:List UInt8)(w:World)(hs:s.length<=1000)(hp:Ai 58 s=[a,b,d])(n0:Nat)(ho:Dp a 200=true)(hd:Cn a=some n0)(h1:1<=n0)(h2:n0<=200)(hnm:Aw b=true)(k v x:List UInt8)(l:List (List UInt8))(hq:Ai 61 d=k::v::x::l):
  Calls prog 109 #[.string ⟨s.toArray⟩,.int .u8 (st.toNat:Int)] w (Cp (Br st s) w):=by
 have hal:=Ak 58 s a (by rw[hp];simp)
 have hbl:=Ak 58 s b (by rw[hp];simp)
 have hdl:=Ak 58 s d (by rw[hp];simp)
 have hF:Br st s=D4 st a b d:=D3 hst hp
 have Hcut:=Aa (fun W=>Cg s 58 58 rfl W (by omega))
 rw[hp]at Hcut
 have Hnum:=Aa (fun W=>Dg a 200 W (by omega) (by omega))
 have Hname:=Aa (fun W=>Cd b W (by omega))
 have hsl:=st.toNat_lt
 have t1:((st.toNat:Int) != 69)=true:=by have:=Am hst;simpa using this
 have t2:((st.toNat:Int) == 69)=false:=Am hst
 clear hp hst
 have hll:=E7 61 d
 rw[hq]at hll
 simp at hll
 rw[Qcv (J8 hd h1 h2 hnm) hq]at hF
 have HF:=Aa hF
 have Ho:=Aa ho
 have Hd:=Aa hd
 have Hnm:=Aa hnm
 have Hcut2:=Aa (fun W=>Cg d 61 61 rfl W (by omega))
 rw[hq]at Hcut2
 clear hF ho hd hnm hq
 go_enter func109,ntmps109
 go_wp2_with fail
 refine(Hcut.o _).mono ?_
 rintro e w1 ⟨v,rfl,ho,hb⟩
 obtain⟨g,c,rfl,hg1,hg2,c0,c1,c2⟩:=Ga ho
 simp at hg1
 obtain⟨hc,hfz,hz⟩:=By hb
 have Hb:=Aa (((Aq w.heap.size w).alloc (Ap _) _).trans (hb.mono (by simp)))
 have hzz:=hz w.heap.size (by simp)
 clear hb ho
 go_wp2_with fail
 refine(Hnum.o _).mono ?_
 rintro e w2 ⟨n,hn,rfl,hdn,hb2⟩
 rw[Ho.o]
 obtain⟨hc2,hfz2,hz2⟩:=By hb2
 have Hb2:=Aa (Hb.o.trans (hb2.mono Hb.o.size))
 have hsz:=Hb2.o.size
 have hz3:=hz2 _ hzz
 clear hb2
 obtain rfl:=hdn n0 Hd.o
 clear hdn
 go_wp2_with fail
 refine(Hname.o _).mono ?_
 rintro e w3 ⟨rfl,rfl⟩
 rw[Hnm.o]
 go_wp2_with fail
 refine(Hcut2.o _).mono ?_
 rintro e w4 ⟨v4,rfl,ho4,hb4⟩
 obtain⟨A4,c4,rfl,hrow⟩:=B9.own ho4
 obtain⟨b4,o4,e4,hg5,hcc⟩:=hrow.at_ (k:=0) (by simp)
 subst e4
 have c40:w4.cell? ⟨b4,o4,none⟩=some (.string ⟨k.toArray⟩):=by simpa [Bt]using hcc
 clear hrow hcc
 obtain⟨hc4,hfz4,hz4⟩:=By hb4
 have hzb:=hz4 w.heap.size (Nat.lt_trans hz3 (by simp))
 have hzf:=hz4 w2.heap.size (by simp)
 have Hb4:=Aa ((Hb2.o.alloc hsz _).trans (hb4.mono (Nat.le_trans hsz (by simp))))
 have u0:w4.cell? ⟨w.heap.size,0,none⟩=some (.int .i64 0):=by rw[hc4 w.heap.size 0 (by simp;omega)];simp[go_sem,hc2,hc,hzz,hz3]
 have u1:w4.cell? ⟨w.heap.size,1,none⟩=some (.string ⟨#[]⟩):=by rw[hc4 w.heap.size 1 (by simp;omega)];simp[go_sem,hc2,hc,hzz,hz3]
 have u2:w4.cell? ⟨w.heap.size,2,none⟩=some (.string ⟨#[]⟩):=by rw[hc4 w.heap.size 2 (by simp;omega)];simp[go_sem,hc2,hc,hzz,hz3]
 have u3:w4.cell? ⟨w.heap.size,3,none⟩=some (.string ⟨#[]⟩):=by rw[hc4 w.heap.size 3 (by simp;omega)];simp[go_sem,hc2,hc,hzz,hz3]
 have d0:w4.cell? ⟨w2.heap.size,0,none⟩=some (.int .i64 (n0:Int)):=by rw[hc4 w2.heap.size 0 (by simp)];simp
 have d1:w4.cell? ⟨w2.heap.size,1,none⟩=some (.string ⟨b.toArray⟩):=by rw[hc4 w2.heap.size 1 (by simp)];simp
 have d2:w4.cell? ⟨w2.heap.size,2,none⟩=some (.string ⟨#[]⟩):=by rw[hc4 w2.heap.size 2 (by simp)];simp
 have d3:w4.cell? ⟨w2.heap.size,3,none⟩=some (.string ⟨#[]⟩):=by rw[hc4 w2.heap.size 3 (by simp)];simp
 have f1:∀j,w4.frozen? ⟨w.heap.size,j,none⟩=false:=fun j=>by rw[hfz4 w.heap.size j (by simp;omega)];simp[go_sem,hfz2,hfz,hzz,hz3]
 have f2:∀j,w4.frozen? ⟨w2.heap.size,j,none⟩=false:=fun j=>by rw[hfz4 w2.heap.size j (by simp)];simp
 clear hb4 ho4 hc hc2 hc4 hfz hfz2 hfz4 hz hz2 hz4
 have q0:3<=(k::v::x::l).length:=by simp
 generalize (k::v::x::l).length=m at q0 hll ⊢
 have q2:((m:Int) == 2)=false:=by rw[beq_eq_false_iff_ne];omega
 have q3:((m:Int) == 1)=false:=by rw[beq_eq_false_iff_ne];omega
 have q4:¬((m:Int)=2):=by omega
 have q5:¬((m:Int)=1):=by omega
 have q6:(0:Int)<(m:Int):=by omega
 have hn1:¬(w2.heap.size=w.heap.size):=by omega
 have hn2:¬(w.heap.size=w2.heap.size):=by omega
 have hn3:¬(w4.heap.size=w.heap.size):=by omega
 have hn4:¬(w.heap.size=w4.heap.size):=by omega
 go_wp2_with fail
 generalize hW0:w4.setCell ⟨w2.heap.size,2,none⟩ (.string ⟨k.toArray⟩)=W0
 have e0:W0.cell? ⟨w2.heap.size,0,none⟩=some (.int .i64 (n0:Int)):=by rw[<-hW0];simp[go_sem,d0]
 have e1:W0.cell? ⟨w2.heap.size,1,none⟩=some (.string ⟨b.toArray⟩):=by rw[<-hW0];simp[go_sem,d1]
 have e2:W0.cell? ⟨w2.heap.size,2,none⟩=some (.string ⟨k.toArray⟩):=by rw[<-hW0];simp[go_sem,hzf,d2,f2]
 have e3:W0.cell? ⟨w2.heap.size,3,none⟩=some (.string ⟨#[]⟩):=by rw[<-hW0];simp[go_sem,hzf,d3,f2]
 have v0:W0.cell? ⟨w.heap.size,0,none⟩=some (.int .i64 0):=by rw[<-hW0];simp[go_sem,u0,hn1,hn2]
 have v1:W0.cell? ⟨w.heap.size,1,none⟩=some (.string ⟨#[]⟩):=by rw[<-hW0];simp[go_sem,u1,hn1,hn2]
 have v2:W0.cell? ⟨w.heap.size,2,none⟩=some (.string ⟨#[]⟩):=by rw[<-hW0];simp[go_sem,u2,hn1,hn2]
 have v3:W0.cell? ⟨w.heap.size,3,none⟩=some (.string ⟨#[]⟩):=by rw[<-hW0];simp[go_sem,u3,hn1,hn2]
 have g1:∀j,W0.frozen? ⟨w.heap.size,j,none⟩=false:=fun j=>by rw[<-hW0];simp[go_sem,f1]
 have y1:w.heap.size<W0.heap.size:=by rw[<-hW0];simp[go_sem,hzb]
 have Hb5:Below w.heap.size w W0:=by
  rw[<-hW0]
  (repeat (first|exact Hb4.o|refine Below.setCell ?_ (by first|exact Ap _|(simp;omega)|omega) _|refine Below.alloc ?_ (by first|exact Ap _|(simp;omega)|omega) _|refine Below.drew ?_))
 have Hb5:=Aa Hb5
 clear hW0 u0 u1 u2 u3 d0 d1 d2 d3 f1 f2 Hb4 hzb hzf
 refine Gl [83,84,85,86,87,88,89,90,91,999,5] (by kernel_rfl) (by kernel_rfl) (by kernel_rfl) (fun u=>by dsimp only[Qbm,Bm,List.set])
  (fun i x W=>x=[.agg #[.int .i64 n0,.string ⟨b.toArray⟩,.string ⟨k.toArray⟩,.string ⟨#[]⟩],.slice (some ⟨b4,o4,none⟩) m c4,.int .i64 (m:Int),.bool false,.bool false,undef,undef,undef,.bool false,undef,.bool false][i]?.getD undef)
  (fun L W=>W=if L 9=true then(((W0.drew.setCell ⟨w.heap.size,0,none⟩ (.int .i64 n0)).setCell ⟨w.heap.size,1,none⟩ (.string ⟨b.toArray⟩)).setCell ⟨w.heap.size,2,none⟩ (.string ⟨k.toArray⟩)).setCell ⟨w.heap.size,3,none⟩ (.string ⟨#[]⟩)else W0.drew) (fun _ _=>True) (fun _ _ _ _ _ h=>h) rfl ?_ ?_
 ·repeat (first|exact Ah.nil|(refine Ah.cons ?_ ?_;rotate_left))
  all_goals
   rintro L u W hL hpre hR K hK
   first|(simp[Region.binds]at hpre;done)|simp[Region.binds]at hpre|clear hpre
   rcases hl:L 9 with _|_
   all_goals
    first|exact absurd (hl.symm.trans hL) (by decide)|(
     rw[hl]at hR
     first|rw[if_neg (by decide)]at hR|rw[if_pos rfl]at hR
     have hR':=hR.symm
     subst hR'
     go_simp
     first|(refine hK _ _ _ rfl Ac (by simp[hl,go_sem]) rfl;done)|(refine hK _ _ _ rfl Ac (by simp[hl,go_sem]) (by simp[Act.put,hpre]);done)|(refine hK undef _ _ rfl Ac (by simp[hl,go_sem]) (by simp[Act.put,hpre]);done))
 rintro L u W hL hφ hR
 have c10:=hφ 10 (by decide)
 simp at c10
 simp only[c10]
 rw[if_pos (hL 9 (by decide))]at hR
 subst hR
 go_wp2_with fail
 refine bodyPost_ret (v:=.tuple #[.agg #[.int .i64 n0,.string ⟨b.toArray⟩,.string ⟨k.toArray⟩,.string ⟨#[]⟩],.bool false]) (by simp[results,results109,go_sem,g1,y1,v0,v1,v2,v3]) rfl ?_
 exact Cp.no HF.o rfl (by(repeat (first|exact Hb5.o|refine Below.setCell ?_ (by first|exact Ap _|(simp;omega)|omega) _|refine Below.alloc ?_ (by first|exact Ap _|(simp;omega)|omega) _|refine Below.drew ?_)))
theorem Kn(st:UInt8)(hso:Dr st)(s:List UInt8)(w:World)(hs:s.length<=1000):
  Calls prog 109 #[.string ⟨s.toArray⟩,.int .u8 (st.toNat:Int)] w (Cp (Br st s) w):=by
 by_cases hp:(Ai 58 s).length=(if st=69 then 2 else 3)
 ·by_cases he:st=69
  ·subst he
   rw[if_pos rfl]at hp
   match hs2:Ai 58 s,hp with
   |[a,b],_=>exact S6 s a b w hs hs2
  rw[if_neg he]at hp
  match hs2:Ai 58 s,hp with
  |[a,b,d],_=>
   rcases Sx a b with ho|⟨ho,hd⟩|⟨n0,ho,hd,h1,h2,hnm⟩|⟨n0,ho,hd,h1,h2,hnm⟩
   ·exact Qf1 st he s a b d w hs hs2 ho
   ·exact Qgm st he s a b d w hs hs2 ho hd
   ·exact Qfr st he s a b d w hs hs2 n0 ho hd h1 h2 hnm
   match hq:Ai 61 d with
   |[]=>exact absurd hq (Dm 61 d)
   |[k]=>
    cases hk:Co k with
    |none=>exact Qeh st he s a b d w hs hs2 n0 ho hd h1 h2 hnm k hq hk
    |some kk=>exact Qdi st he s a b d w hs hs2 n0 ho hd h1 h2 hnm k hq kk hk
   |[k,v]=>
    rcases hso with rfl|rfl|rfl
    ·rcases Bool.eq_false_or_eq_true (Bz k v)with hsv|hsv
     ·exact Qes s a b d w hs hs2 n0 ho hd h1 h2 hnm k v hq hsv
     exact Qdq s a b d w hs hs2 n0 ho hd h1 h2 hnm k v hq hsv
    ·exact Qeg s a b d w hs hs2 n0 ho hd h1 h2 hnm k v hq
    exact absurd rfl he
   |k::v::x::l=>exact Qgl st he s a b d w hs hs2 n0 ho hd h1 h2 hnm k v x l hq
 exact Sa st s w hs hp
def Cr(o:Option Ty)(w:World)(e:Ending)(w':World):Prop:=
 (match o with
  |some t=>∃fv,e=.returned (.tuple #[Kx t fv,.bool true])/\w'.ownsRow w.heap.size 104 4 fv t.fields.length (t.fields.flatMap sfc)
  |none=>∃(x:Int) (a:ByteArray) (A:Option Addr) (n c:Nat),e=.returned (.tuple #[.agg #[.int .u8 x,.string a,.slice A n c],.bool false]))/\Below w.heap.size w w'
theorem Cr.no{w w':World}{e:Ending}{o:Option Ty}(ho:o=none){x:Int}{a:ByteArray}{A:Option Addr}{n c:Nat}(he:e=.returned (.tuple #[.agg #[.int .u8 x,.string a,.slice A n c],.bool false]))(hb:Below w.heap.size w w'):Cr o w e w':=by
 rw[ho];exact⟨⟨x,a,A,n,c,he⟩,hb⟩
theorem Cr.yes{w w':World}{e:Ending}{o:Option Ty}{t:Ty}{fv:Value}(ho:o=some t)(he:e=.returned (.tuple #[Kx t fv,.bool true]))(hr:w'.ownsRow w.heap.size 104 4 fv t.fields.length (t.fields.flatMap sfc))(hb:Below w.heap.size w w'):Cr o w e w':=by
 rw[ho];exact⟨⟨fv,he,hr⟩,hb⟩
theorem Dn{c:UInt8}{s:List UInt8}{k:Nat}(hk:k<s.length)(h:c∉s.take k)(hc:s[k]≠c):c∉s.take (k+1):=by
 rw[Ch s k hk]
 simp only[List.mem_append,List.mem_singleton,not_or]
 exact⟨h,fun e=>hc e.symm⟩
theorem Qgz{c:UInt8}{p u:List UInt8}{k:Nat}(hp:c∉p)(hk:k<(p++c::u).length)(h:c∉(p++c::u).take k):k<=p.length/\((p++c::u)[k]=c↔k=p.length):=by
 have h1:k<=p.length:=by
  rcases Nat.lt_or_ge p.length k with hlt|hge
  ·exfalso
   apply h
   rw[List.take_append]
   rcases hd:k - p.length with _|d
   ·omega
   simp
  exact hge
 refine⟨h1,?_⟩
 rcases Nat.lt_or_ge k p.length with hlt|hge
 ·rw[List.getElem_append_left hlt]
  exact⟨fun e=>absurd (e ▸ List.getElem_mem hlt) hp,fun e=>by omega⟩
 obtain rfl:k=p.length:=by omega
 simp
theorem Qcg(s:List UInt8)(w:World)(hs:s.length<=1000)(h:61∉s):
  Calls prog 88 #[.string ⟨s.toArray⟩] w (Cr (Cb s) w):=by
 have HF:=Aa (show Cb s=none by unfold Cb;rw[Pp h];cases s<;>rfl)
 have H:=Aa h
 clear h
 go_enter func88,ntmps88
 go_wp2_with fail
 go_loopw [4] (fun i wr=>∃k:Nat,i=.int .i64 k/\k<=s.length/\wr=w.alloc (.cells #[.int .u8 0,.string ⟨#[]⟩,.slice none 0 0] 100)) (fun i _=>s.length - (intOf i).toNat)
 case atStart=>exact⟨0,rfl,Nat.zero_le _,rfl⟩
 case round=>
  obtain⟨k,rfl,hk,rfl⟩:=hrel
  by_cases hlt:k<s.length
  ·have k1:(k:Int)<(s.length:Int):=by omega
   have hne:s[k]≠61:=fun e=>H.o (e ▸ List.getElem_mem hlt)
   have t1:(((s[k]).toNat:Int) != 61)=true:=by have:=Am hne;simpa using this
   have t2:(((s[k]).toNat:Int) == 61)=false:=Am hne
   have hb:=(s[k]).toNat_lt
   clear hne
   go_wp2_with fail
   go_roundw
   case rel=>exact⟨k+1,by go_num,by omega,Ac⟩
   case measure=>simp[intOf];omega
  ·obtain rfl:k=s.length:=by omega
   have k1:¬((s.length:Int)<(s.length:Int)):=by omega
   rcases Nat.eq_zero_or_pos s.length with h0|h0
   ·have q1:((s.length:Int)<1):=by omega
    go_wp2_with fail
    refine bodyPost_ret (v:=.tuple #[Nq,.bool false]) (by simp[results,results88,go_sem,Nq]) rfl ?_
    exact Cr.no HF.o rfl (by(repeat (first|exact Aq _ _|refine Below.setCell ?_ (by first|exact Ap _|(simp;done)|(simp;omega)|omega) _|refine Below.alloc ?_ (by first|exact Ap _|(simp;done)|(simp;omega)|omega) _|refine Below.drew ?_|refine below_drewN ?_ _)))
   have q1:¬((s.length:Int)<1):=by omega
   go_wp2_with fail
   refine bodyPost_ret (v:=.tuple #[Nq,.bool false]) (by simp[results,results88,go_sem,Nq]) rfl ?_
   exact Cr.no HF.o rfl (by(repeat (first|exact Aq _ _|refine Below.setCell ?_ (by first|exact Ap _|(simp;done)|(simp;omega)|omega) _|refine Below.alloc ?_ (by first|exact Ap _|(simp;done)|(simp;omega)|omega) _|refine Below.drew ?_|refine below_drewN ?_ _)))
theorem G9{c:UInt8}{p u s:List UInt8}{k:Nat}(hs:s=p++c::u)(hp:c∉p)(hk:k<s.length)(h:c∉s.take k):k<=p.length/\(s[k]=c↔k=p.length):=by
 subst hs;exact Qgz hp hk h
theorem Qbj(s u:List UInt8)(w:World)(hs:s.length<=1000)(h:s=[]++61::u):
  Calls prog 88 #[.string ⟨s.toArray⟩] w (Cr (Cb s) w):=by
 have HF:=Aa (show Cb s=none by rw[h];unfold Cb;rw[Ed (by simp)])
 have Hs:=Aa h
 have Hsl:=Aa (show s.length=0+1+u.length by rw[h];simp;omega)
 have h0:0<s.length:=by have:=Hsl.o;omega
 have Hp:=Aa (show (61:UInt8)∉([]:List UInt8)by simp)
 clear h
 go_enter func88,ntmps88
 go_wp2_with fail
 go_loopw [4] (fun i wr=>∃k:Nat,i=.int .i64 k/\k<s.length/\Hid (61∉s.take k)/\wr=w.alloc (.cells #[.int .u8 0,.string ⟨#[]⟩,.slice none 0 0] 100)) (fun i _=>s.length - (intOf i).toNat)
 case atStart=>exact⟨0,rfl,by omega,by simp[Hid],rfl⟩
 case round=>
  obtain⟨k,rfl,hlt,hno,rfl⟩:=hrel
  have k1:(k:Int)<(s.length:Int):=by omega
  obtain⟨hkp,hiff⟩:=G9 Hs.o Hp.o hlt hno.o
  have hb:=(s[k]).toNat_lt
  by_cases hne:s[k]=61
  ·obtain rfl:k=0:=hiff.1 hne
   have t1:(((s[0]).toNat:Int) != 61)=false:=by have:=Be hne;simpa using this
   have t2:(((s[0]).toNat:Int) == 61)=true:=Be hne
   clear hne hiff hkp hno
   go_wp2_with fail
   refine bodyPost_ret (v:=.tuple #[Nq,.bool false]) (by simp[results,results88,go_sem,Nq]) rfl ?_
   exact Cr.no HF.o rfl (by(repeat (first|exact Aq _ _|refine Below.setCell ?_ (by first|exact Ap _|(simp;done)|(simp;omega)|omega) _|refine Below.alloc ?_ (by first|exact Ap _|(simp;done)|(simp;omega)|omega) _|refine Below.drew ?_|refine below_drewN ?_ _)))
  ·have Hno:=Aa (Dn hlt hno.o hne)
   have hk2:k+1<s.length:=by
    have h1:k≠0:=fun e=>hne (hiff.2 e)
    simp at hkp
    have h2:=Hsl.o
    omega
   have t1:(((s[k]).toNat:Int) != 61)=true:=by have:=Am hne;simpa using this
   have t2:(((s[k]).toNat:Int) == 61)=false:=Am hne
   clear hne hiff hkp
   go_wp2_with fail
   go_roundw
   case rel=>exact⟨k+1,by go_num,hk2,Hno.o,Ac⟩
   case measure=>simp[intOf];omega
theorem Qbr(s:List UInt8)(c:UInt8)(nm u:List UInt8)(w:World)(hs:s.length<=1000)(h:s=(c::nm)++61::u)(hp:61∉c::nm)(hnm:Aw nm=false):
  Calls prog 88 #[.string ⟨s.toArray⟩] w (Cr (Cb s) w):=by
 have HF:=Aa (show Cb s=none by rw[h];unfold Cb;rw[Ed hp];exact if_pos (.inl (by rw[hnm];decide)))
 have Hs:=Aa h
 have Hsl:=Aa (show s.length=(c::nm).length+1+u.length by rw[h];simp;omega)
 have h0:0<s.length:=by have:=Hsl.o;omega
 have Hp:=Aa hp
 have Hu:=Aa (fun W=>Cd nm W (by have:=Hsl.o;simp at this;omega))
 rw[hnm]at Hu
 clear h hp hnm
 go_enter func88,ntmps88
 go_wp2_with fail
 go_loopw [4] (fun i wr=>∃k:Nat,i=.int .i64 k/\k<s.length/\Hid (61∉s.take k)/\wr=w.alloc (.cells #[.int .u8 0,.string ⟨#[]⟩,.slice none 0 0] 100)) (fun i _=>s.length - (intOf i).toNat)
 case atStart=>exact⟨0,rfl,by omega,by simp[Hid],rfl⟩
 case round=>
  obtain⟨k,rfl,hlt,hno,rfl⟩:=hrel
  have k1:(k:Int)<(s.length:Int):=by omega
  obtain⟨hkp,hiff⟩:=G9 Hs.o Hp.o hlt hno.o
  have hb:=(s[k]).toNat_lt
  by_cases hne:s[k]=61
  ·obtain rfl:k=nm.length+1:=hiff.1 hne
   have t1:(((s[nm.length+1]).toNat:Int) != 61)=false:=by have:=Be hne;simpa using this
   have t2:(((s[nm.length+1]).toNat:Int) == 61)=true:=Be hne
   clear hne hiff hkp hno
   have e0:s[0]=c:=by simp[Hs.o]
   have e1:s.tail.take nm.length=nm:=by rw[Hs.o];simp
   have e2:s.drop (nm.length+1+1)=u:=by rw[Hs.o];simp
   have m1:(nm.length:Int)+1<(s.length:Int):=by have:=Hsl.o;simp at this;omega
   have m2:¬((nm.length:Int)+1<1):=by omega
   have m3:¬((s.length:Int)<=(nm.length:Int)+1):=by omega
   have hcl:=c.toNat_lt
   have hn1:¬(w.heap.size+1=w.heap.size):=by omega
   go_wp2_with fail
   go_region
   go_wp2_with fail
   refine(Hu.o _).mono ?_
   rintro e w2 ⟨rfl,rfl⟩
   go_wp2_with fail
   refine bodyPost_ret (v:=.tuple #[.agg #[.int .u8 (c.toNat:Int),.string ⟨nm.toArray⟩,.slice none 0 0],.bool false]) (by simp[results,results88,go_sem,hn1]) rfl ?_
   exact Cr.no HF.o rfl (by(repeat (first|exact Aq _ _|refine Below.setCell ?_ (by first|exact Ap _|(simp;done)|(simp;omega)|omega) _|refine Below.alloc ?_ (by first|exact Ap _|(simp;done)|(simp;omega)|omega) _|refine Below.drew ?_|refine below_drewN ?_ _)))
  ·have Hno:=Aa (Dn hlt hno.o hne)
   have hk2:k+1<s.length:=by
    have h1:k≠(c::nm).length:=fun e=>hne (hiff.2 e)
    have h2:=Hsl.o
    omega
   have t1:(((s[k]).toNat:Int) != 61)=true:=by have:=Am hne;simpa using this
   have t2:(((s[k]).toNat:Int) == 61)=false:=Am hne
   clear hne hiff hkp
   go_wp2_with fail
   go_roundw
   case rel=>exact⟨k+1,by go_num,hk2,Hno.o,Ac⟩
   case measure=>simp[intOf];omega
theorem Qch(s:List UInt8)(c:UInt8)(nm u:List UInt8)(w:World)(hs:s.length<=1000)(h:s=(c::nm)++61::u)(hp:61∉c::nm)(hnm:Aw nm=true)(hso:¬Dr c):
  Calls prog 88 #[.string ⟨s.toArray⟩] w (Cr (Cb s) w):=by
 have HF:=Aa (show Cb s=none by rw[h];unfold Cb;rw[Ed hp];exact if_pos (.inr hso))
 have Hs:=Aa h
 have Hsl:=Aa (show s.length=(c::nm).length+1+u.length by rw[h];simp;omega)
 have h0:0<s.length:=by have:=Hsl.o;omega
 have Hp:=Aa hp
 have Hu:=Aa (fun W=>Cd nm W (by have:=Hsl.o;simp at this;omega))
 rw[hnm]at Hu
 have Hso:=Aa hso
 clear h hp hnm hso
 go_enter func88,ntmps88
 go_wp2_with fail
 go_loopw [4] (fun i wr=>∃k:Nat,i=.int .i64 k/\k<s.length/\Hid (61∉s.take k)/\wr=w.alloc (.cells #[.int .u8 0,.string ⟨#[]⟩,.slice none 0 0] 100)) (fun i _=>s.length - (intOf i).toNat)
 case atStart=>exact⟨0,rfl,by omega,by simp[Hid],rfl⟩
 case round=>
  obtain⟨k,rfl,hlt,hno,rfl⟩:=hrel
  have k1:(k:Int)<(s.length:Int):=by omega
  obtain⟨hkp,hiff⟩:=G9 Hs.o Hp.o hlt hno.o
  have hb:=(s[k]).toNat_lt
  by_cases hne:s[k]=61
  ·obtain rfl:k=nm.length+1:=hiff.1 hne
   have t1:(((s[nm.length+1]).toNat:Int) != 61)=false:=by have:=Be hne;simpa using this
   have t2:(((s[nm.length+1]).toNat:Int) == 61)=true:=Be hne
   clear hne hiff hkp hno
   have e0:s[0]=c:=by simp[Hs.o]
   have e1:s.tail.take nm.length=nm:=by rw[Hs.o];simp
   have e2:s.drop (nm.length+1+1)=u:=by rw[Hs.o];simp
   have m1:(nm.length:Int)+1<(s.length:Int):=by have:=Hsl.o;simp at this;omega
   have m2:¬((nm.length:Int)+1<1):=by omega
   have m3:¬((s.length:Int)<=(nm.length:Int)+1):=by omega
   have hcl:=c.toNat_lt
   have hn1:¬(w.heap.size+1=w.heap.size):=by omega
   go_wp2_with fail
   have s1:((c.toNat:Int) != 82)=true:=by have:=Am (d:=82) (fun e=>Hso.o (.inl e));simpa using this
   have s2:((c.toNat:Int) != 85)=true:=by have:=Am (d:=85) (fun e=>Hso.o (.inr (.inl e)));simpa using this
   have s3:((c.toNat:Int) != 69)=true:=by have:=Am (d:=69) (fun e=>Hso.o (.inr (.inr e)));simpa using this
   go_region
   go_wp2_with fail
   refine(Hu.o _).mono ?_
   rintro e w2 ⟨rfl,rfl⟩
   go_wp2_with fail
   refine bodyPost_ret (v:=.tuple #[.agg #[.int .u8 (c.toNat:Int),.string ⟨nm.toArray⟩,.slice none 0 0],.bool false]) (by simp[results,results88,go_sem,hn1]) rfl ?_
   exact Cr.no HF.o rfl (by(repeat (first|exact Aq _ _|refine Below.setCell ?_ (by first|exact Ap _|(simp;done)|(simp;omega)|omega) _|refine Below.alloc ?_ (by first|exact Ap _|(simp;done)|(simp;omega)|omega) _|refine Below.drew ?_|refine below_drewN ?_ _)))
  ·have Hno:=Aa (Dn hlt hno.o hne)
   have hk2:k+1<s.length:=by
    have h1:k≠(c::nm).length:=fun e=>hne (hiff.2 e)
    have h2:=Hsl.o
    omega
   have t1:(((s[k]).toNat:Int) != 61)=true:=by have:=Am hne;simpa using this
   have t2:(((s[k]).toNat:Int) == 61)=false:=Am hne
   clear hne hiff hkp
   go_wp2_with fail
   go_roundw
   case rel=>exact⟨k+1,by go_num,hk2,Hno.o,Ac⟩
   case measure=>simp[intOf];omega
end
end Go.Proofs.YtkgkoicedddkmaaGreatDoor
