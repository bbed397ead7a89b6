/- Texts joined. Conditions: as each theorem names them. -/
import Derived.Test.YtpjijpcemejlnaaGreatDoorM08
set_option maxRecDepth 100000
set_option maxHeartbeats 32000000
set_option linter.unusedVariables false
set_option linter.unusedSimpArgs false
namespace Go.Proofs.YtpjijpcemejlnaaGreatDoor
open Go.RowKit Go.Proofs.Tryz
section
attribute [local go_sem] Qkk Qj0 Qjm Qhu ByteArray.mk_append_mk
def Cp(o:Option Fd)(w:World)(e:Ending)(w':World):Prop:=
 (match o with
  |some f=>e=.returned (.tuple #[sfV f,.bool true])
  |none=>∃(x:Int) (a b c:ByteArray),e=.returned (.tuple #[.agg #[.int .i64 x,.string a,.string b,.string c],.bool false]))/\Below w w w'
theorem Cp.no{w w':World}{e:Ending}{o:Option Fd}(ho:o=none){x:Int}{a b c:ByteArray}(he:e=.returned (.tuple #[.agg #[.int .i64 x,.string a,.string b,.string c],.bool false]))(hb:Below w w w'):Cp o w e w':=by
 rw[ho];exact⟨⟨x,a,b,c,he⟩,hb⟩
theorem Cp.yes{w w':World}{e:Ending}{o:Option Fd}{f:Fd}(ho:o=some f)(he:e=.returned (.tuple #[sfV f,.bool true]))(hb:Below w w w'):Cp o w e w':=by
 rw[ho];exact⟨he,hb⟩
theorem Na{w:World}{base:Nat}{v:Value}{a b:List UInt8}(h:w.ownsRow base 9 1 v [a,b].length (Ah [a,b])):
  ∃g c,v=.slice (some ⟨g,0,none⟩) 2 c/\base<=g/\g<w.heap.size/\w.cell? ⟨g,0,none⟩=a/\w.cell? ⟨g,1,none⟩=b:=by
 rcases h.2 with⟨_,h0⟩|⟨g,cap,cur,rfl,hb,hh,_⟩
 ·simp at h0
 have hc:=fun j u hu=>h.cells (g:=g) rfl j u hu;have e1:∀j,(⟨g,0,none⟩:Addr).add j=⟨g,j,none⟩:=fun j=>bv;refine⟨g,cap,rfl,hb,(h.lt g rfl).2,?_,?_⟩
 ·have:=hc 0 _ rfl;rwa [e1]at this
 have:=hc 1 _ rfl;rwa [e1]at this
theorem Fv{w:World}{base:Nat}{v:Value}{a b d:List UInt8}(h:w.ownsRow base 9 1 v [a,b,d].length (Ah [a,b,d])):
  ∃g c,v=.slice (some ⟨g,0,none⟩) 3 c/\base<=g/\g<w.heap.size/\w.cell? ⟨g,0,none⟩=a/\w.cell? ⟨g,1,none⟩=b/\w.cell? ⟨g,2,none⟩=d:=by
 rcases h.2 with⟨_,h0⟩|⟨g,cap,cur,rfl,hb,hh,_⟩
 ·simp at h0
 have hc:=fun j u hu=>h.cells (g:=g) rfl j u hu;have e1:∀j,(⟨g,0,none⟩:Addr).add j=⟨g,j,none⟩:=fun j=>bv;refine⟨g,cap,rfl,hb,(h.lt g rfl).2,?_,?_,?_⟩
 ·have:=hc 0 _ rfl;rwa [e1]at this
 ·have:=hc 1 _ rfl;rwa [e1]at this
 have:=hc 2 _ rfl;rwa [e1]at this
theorem Sa(st:UInt8)(s:List UInt8)(w:World)(hs:s.length<=1000)(hp:(Ag 58 s).length≠(if st=69 then 2 else 3)):
  Calls prog 152 #[s,.int .u8 (st.toNat:Int)] w (Cp (Bu st s) w):=by
 have hno:Bu st s=none:=by
  unfold Bu;by_cases h:st=69
  ·rw[if_pos h]at hp ⊢;have:J4 (Ag 58 s)=none:=by
    cases hh:J4 (Ag 58 s)with
    |none=>rfl
    |some x=>rw[(Jk (n:=x.1) (b:=x.2)).1 hh |>.1]at hp;simp at hp
   rw[this]
  rw[if_neg h]at hp ⊢;have:Kv (Ag 58 s)=none:=by
   cases hh:Kv (Ag 58 s)with
   |none=>rfl
   |some x=>rw[(Fu (n:=x.1) (b:=x.2.1) (c:=x.2.2)).1 hh |>.1]at hp;simp at hp
  rw[this]
 have Hno:=Aa hno;have Hl:=Aa (Gt 58 s);have hst:=st.toNat_lt;clear hno;have Hcut:=Aa (fun W=>Cg s 58 58 rfl W aH);generalize Ag 58 s=ps at hp Hl Hcut;by_cases h69:st=69
 ·rw[if_pos h69]at hp;have t1:((st.toNat:Int) != 69)=false:=by have:=Bq h69;simpa using this
  have t2:((st.toNat:Int) == 69)=true:=Bq h69;have t3:((ps.length:Int) != 2)=true:=dQ;clear h69 hp;go_enter func152,ntmps152;go_wp2_with fail;refine(Hcut.o _).mono ?_;rintro e w1 ⟨v,rfl,ho,hb⟩;obtain⟨A,c,rfl,_⟩:=Bj.own ho;obtain⟨hc,hfz,hz⟩:=By hb;have Hb:=Aa (((At w.heap.size w).alloc (Ao _) _).trans (hb.mono aM));clear hb ho;go_wp2_with fail;all_goals
   refine aF (v:=.tuple #[sf0,.bool false]) (by simp[results,results152,go_sem,sf0,hc]) rfl ?_;exact jb
 rw[if_neg h69]at hp;have t1:((st.toNat:Int) != 69)=true:=by have:=Aq h69;simpa using this
 have t2:((st.toNat:Int) == 69)=false:=Aq h69;have t3:((ps.length:Int) != 3)=true:=dQ;clear h69 hp;go_enter func152,ntmps152;go_wp2_with fail;refine(Hcut.o _).mono ?_;rintro e w1 ⟨v,rfl,ho,hb⟩;obtain⟨A,c,rfl,_⟩:=Bj.own ho;obtain⟨hc,hfz,hz⟩:=By hb;have Hb:=Aa (((At w.heap.size w).alloc (Ao _) _).trans (hb.mono aM));clear hb ho;go_wp2_with fail;all_goals
  refine aF (v:=.tuple #[sf0,.bool false]) (by simp[results,results152,go_sem,sf0,hc]) rfl ?_;exact jb
theorem Ss(a b:List UInt8):Dn a 200=false\/(Dn a 200=true/\Ci a=some 0)\/(∃n,Dn a 200=true/\Ci a=some n/\1<=n/\n<=200/\Av b=false)\/(∃n,Dn a 200=true/\Ci a=some n/\1<=n/\n<=200/\Av b=true):=by
 cases hd:Ci a with
 |none=>exact .inl (M0 hd)
 |some n=>
  rw[Mq hd];by_cases h:n<=200
  ·have e:decide (n<=200)=true:=aS;rw[e];by_cases h0:n=0
   ·subst h0;exact .inr (.inl ⟨rfl,rfl⟩)
   rcases Bool.eq_false_or_eq_true (Av b)with hb|hb
   ·exact .inr (.inr (.inr ⟨n,rfl,rfl,by omega,h,hb⟩))
   exact .inr (.inr (.inl ⟨n,rfl,rfl,by omega,h,hb⟩))
  left;simpa using h
theorem Vt{a b:List UInt8}(h:Dn a 200=false\/Ci a=some 0\/Av b=false):J4 [a,b]=none:=by
 cases hh:J4 [a,b]with
 |none=>rfl
 |some x=>
  obtain⟨n,c⟩:=x;obtain⟨e,h1,h2,h3⟩:=Jk.1 hh;simp at e;obtain⟨rfl,rfl⟩:=e;have hd:Ci (Aw n)=some n:=B0.2 ⟨by omega,rfl⟩;rcases h with h|h|h
  ·rw[Mq hd]at h;simp at h;omega
  ·rw[hd]at h;injection h with h;omega
  rw[h3]at h;cases h
theorem Vw{a b c:List UInt8}(h:Dn a 200=false\/Ci a=some 0\/Av b=false):Kv [a,b,c]=none:=by
 cases hh:Kv [a,b,c]with
 |none=>rfl
 |some x=>
  obtain⟨n,d,f⟩:=x;obtain⟨e,h1,h2,h3⟩:=Fu.1 hh;simp at e;obtain⟨rfl,rfl,rfl⟩:=e;have hd:Ci (Aw n)=some n:=B0.2 ⟨by omega,rfl⟩;rcases h with h|h|h
  ·rw[Mq hd]at h;simp at h;omega
  ·rw[hd]at h;injection h with h;omega
  rw[h3]at h;cases h
theorem Qfb{a b:List UInt8}{n:Nat}(hd:Ci a=some n)(h1:1<=n)(h2:n<=200)(hb:Av b=true):J4 [a,b]=some (n,b):=Jk.2 ⟨by rw[(B0.1 hd).2],h1,h2,hb⟩
theorem Ka{a b c:List UInt8}{n:Nat}(hd:Ci a=some n)(h1:1<=n)(h2:n<=200)(hb:Av b=true):Kv [a,b,c]=some (n,b,c):=Fu.2 ⟨by rw[(B0.1 hd).2],h1,h2,hb⟩
theorem Qge(s a b:List UInt8)(w:World)(hs:s.length<=1000)(hp:Ag 58 s=[a,b])(ho:Dn a 200=false):
  Calls prog 152 #[s,.int .u8 69] w (Cp (Bu 69 s) w):=by
 have hal:=Ak 58 s a br;have hbl:=Ak 58 s b br;have hF:Bu 69 s=(match J4 [a,b]with|some (n,b)=>some ⟨n,b,Kd.nil,[]⟩|none=>none):=cu;have Hcut:=Aa (fun W=>Cg s 58 58 rfl W aH);rw[hp]at Hcut;have Hnum:=Aa (fun W=>Df a 200 W aH aH);have Hname:=Aa (fun W=>Ch b W aH);clear hp;rw[Vt (.inl ho)]at hF;have HF:=Aa hF;have Ho:=Aa ho;clear hF ho;go_enter func152,ntmps152;go_wp2_with fail;refine(Hcut.o _).mono ?_;rintro e w1 ⟨v,rfl,ho,hb⟩;obtain⟨g,c,rfl,hg1,hg2,c0,c1⟩:=Na ho;simp at hg1;obtain⟨hc,hfz,hz⟩:=By hb;have Hb:=Aa (((At w.heap.size w).alloc (Ao _) _).trans (hb.mono aM));have hzz:=hz w.heap.size aM;clear hb ho;go_wp2_with fail;refine(Hnum.o _).mono ?_;rintro e w2 ⟨n,hn,rfl,hdn,hb2⟩;rw[Ho.o];obtain⟨hc2,hfz2,hz2⟩:=By hb2;have Hb2:=Aa (Hb.o.trans (hb2.mono Hb.o.size));have hsz:=Hb2.o.size;have hz3:=hz2 _ hzz;clear hb2;go_wp2_with fail;refine aF (v:=.tuple #[.agg #[.int .i64 n,b,aa,aa],.bool false]) (by simp[results,results152,go_sem,hc,hc2,hzz,hz3]) rfl ?_;exact jc
theorem Qhl(s a b:List UInt8)(w:World)(hs:s.length<=1000)(hp:Ag 58 s=[a,b])(ho:Dn a 200=true)(hd:Ci a=some 0):
  Calls prog 152 #[s,.int .u8 69] w (Cp (Bu 69 s) w):=by
 have hal:=Ak 58 s a br;have hbl:=Ak 58 s b br;have hF:Bu 69 s=(match J4 [a,b]with|some (n,b)=>some ⟨n,b,Kd.nil,[]⟩|none=>none):=cu;have Hcut:=Aa (fun W=>Cg s 58 58 rfl W aH);rw[hp]at Hcut;have Hnum:=Aa (fun W=>Df a 200 W aH aH);have Hname:=Aa (fun W=>Ch b W aH);clear hp;rw[Vt (.inr (.inl hd))]at hF;have HF:=Aa hF;have Ho:=Aa ho;have Hd:=Aa hd;clear hF ho hd;go_enter func152,ntmps152;go_wp2_with fail;refine(Hcut.o _).mono ?_;rintro e w1 ⟨v,rfl,ho,hb⟩;obtain⟨g,c,rfl,hg1,hg2,c0,c1⟩:=Na ho;simp at hg1;obtain⟨hc,hfz,hz⟩:=By hb;have Hb:=Aa (((At w.heap.size w).alloc (Ao _) _).trans (hb.mono aM));have hzz:=hz w.heap.size aM;clear hb ho;go_wp2_with fail;refine(Hnum.o _).mono ?_;rintro e w2 ⟨n,hn,rfl,hdn,hb2⟩;rw[Ho.o];obtain⟨hc2,hfz2,hz2⟩:=By hb2;have Hb2:=Aa (Hb.o.trans (hb2.mono Hb.o.size));have hsz:=Hb2.o.size;have hz3:=hz2 _ hzz;clear hb2;obtain rfl:=hdn 0 Hd.o;clear hdn;go_wp2_with fail;refine aF (v:=.tuple #[.agg #[.int .i64 0,b,aa,aa],.bool false]) (by simp[results,results152,go_sem,hc,hc2,hzz,hz3]) rfl ?_;exact jc
theorem Qhk(s a b:List UInt8)(w:World)(hs:s.length<=1000)(hp:Ag 58 s=[a,b])(n0:Nat)(ho:Dn a 200=true)(hd:Ci a=some n0)(h1:1<=n0)(h2:n0<=200)(hnm:Av b=false):
  Calls prog 152 #[s,.int .u8 69] w (Cp (Bu 69 s) w):=by
 have hal:=Ak 58 s a br;have hbl:=Ak 58 s b br;have hF:Bu 69 s=(match J4 [a,b]with|some (n,b)=>some ⟨n,b,Kd.nil,[]⟩|none=>none):=cu;have Hcut:=Aa (fun W=>Cg s 58 58 rfl W aH);rw[hp]at Hcut;have Hnum:=Aa (fun W=>Df a 200 W aH aH);have Hname:=Aa (fun W=>Ch b W aH);clear hp;rw[Vt (.inr (.inr hnm))]at hF;have HF:=Aa hF;have Ho:=Aa ho;have Hd:=Aa hd;have Hnm:=Aa hnm;clear hF ho hd hnm;go_enter func152,ntmps152;go_wp2_with fail;refine(Hcut.o _).mono ?_;rintro e w1 ⟨v,rfl,ho,hb⟩;obtain⟨g,c,rfl,hg1,hg2,c0,c1⟩:=Na ho;simp at hg1;obtain⟨hc,hfz,hz⟩:=By hb;have Hb:=Aa (((At w.heap.size w).alloc (Ao _) _).trans (hb.mono aM));have hzz:=hz w.heap.size aM;clear hb ho;go_wp2_with fail;refine(Hnum.o _).mono ?_;rintro e w2 ⟨n,hn,rfl,hdn,hb2⟩;rw[Ho.o];obtain⟨hc2,hfz2,hz2⟩:=By hb2;have Hb2:=Aa (Hb.o.trans (hb2.mono Hb.o.size));have hsz:=Hb2.o.size;have hz3:=hz2 _ hzz;clear hb2;obtain rfl:=hdn n0 Hd.o;clear hdn;go_wp2_with fail;refine(Hname.o _).mono ?_;rintro e w3 ⟨rfl,rfl⟩;rw[Hnm.o];go_wp2_with fail;refine aF (v:=.tuple #[.agg #[.int .i64 n0,b,aa,aa],.bool false]) (by simp[results,results152,go_sem,hc,hc2,hzz,hz3]) rfl ?_;exact jc
theorem Qgq(s a b:List UInt8)(w:World)(hs:s.length<=1000)(hp:Ag 58 s=[a,b])(n0:Nat)(ho:Dn a 200=true)(hd:Ci a=some n0)(h1:1<=n0)(h2:n0<=200)(hnm:Av b=true):
  Calls prog 152 #[s,.int .u8 69] w (Cp (Bu 69 s) w):=by
 have hal:=Ak 58 s a br;have hbl:=Ak 58 s b br;have hF:Bu 69 s=(match J4 [a,b]with|some (n,b)=>some ⟨n,b,Kd.nil,[]⟩|none=>none):=cu;have Hcut:=Aa (fun W=>Cg s 58 58 rfl W aH);rw[hp]at Hcut;have Hnum:=Aa (fun W=>Df a 200 W aH aH);have Hname:=Aa (fun W=>Ch b W aH);clear hp;rw[Qfb hd h1 h2 hnm]at hF;have HF:=Aa hF;have Ho:=Aa ho;have Hd:=Aa hd;have Hnm:=Aa hnm;clear hF ho hd hnm;go_enter func152,ntmps152;go_wp2_with fail;refine(Hcut.o _).mono ?_;rintro e w1 ⟨v,rfl,ho,hb⟩;obtain⟨g,c,rfl,hg1,hg2,c0,c1⟩:=Na ho;simp at hg1;obtain⟨hc,hfz,hz⟩:=By hb;have Hb:=Aa (((At w.heap.size w).alloc (Ao _) _).trans (hb.mono aM));have hzz:=hz w.heap.size aM;clear hb ho;go_wp2_with fail;refine(Hnum.o _).mono ?_;rintro e w2 ⟨n,hn,rfl,hdn,hb2⟩;rw[Ho.o];obtain⟨hc2,hfz2,hz2⟩:=By hb2;have Hb2:=Aa (Hb.o.trans (hb2.mono Hb.o.size));have hsz:=Hb2.o.size;have hz3:=hz2 _ hzz;clear hb2;obtain rfl:=hdn n0 Hd.o;clear hdn;go_wp2_with fail;refine(Hname.o _).mono ?_;rintro e w3 ⟨rfl,rfl⟩;rw[Hnm.o];go_wp2_with fail;refine aF (v:=.tuple #[sfV ⟨n0,b,Kd.nil,[]⟩,.bool true]) (by simp[results,results152,go_sem,sfV,Kd.nil,Bn,Cm,hc,hc2,hzz,hz3]) rfl ?_;exact Cp.yes HF.o rfl aT
theorem Tc(s a b:List UInt8)(w:World)(hs:s.length<=1000)(hp:Ag 58 s=[a,b]):
  Calls prog 152 #[s,.int .u8 69] w (Cp (Bu 69 s) w):=by
 rcases Ss a b with ho|⟨ho,hd⟩|⟨n0,ho,hd,h1,h2,hnm⟩|⟨n0,ho,hd,h1,h2,hnm⟩
 ·exact Qge s a b w hs hp ho
 ·exact Qhl s a b w hs hp ho hd
 ·exact Qhk s a b w hs hp n0 ho hd h1 h2 hnm
 exact Qgq s a b w hs hp n0 ho hd h1 h2 hnm
theorem Qdp{w:World}{base:Nat}{v:Value}{a:List UInt8}(h:w.ownsRow base 9 1 v [a].length (Ah [a])):
  ∃g c,v=.slice (some ⟨g,0,none⟩) 1 c/\base<=g/\g<w.heap.size/\w.cell? ⟨g,0,none⟩=a:=by
 rcases h.2 with⟨_,h0⟩|⟨g,cap,cur,rfl,hb,hh,_⟩
 ·simp at h0
 have hc:=fun j u hu=>h.cells (g:=g) rfl j u hu;have e1:∀j,(⟨g,0,none⟩:Addr).add j=⟨g,j,none⟩:=fun j=>bv;refine⟨g,cap,rfl,hb,(h.lt g rfl).2,?_⟩;have:=hc 0 _ rfl;rwa [e1]at this
def Dv(st:UInt8)(a b d:List UInt8):Option Fd:=
 match Kv [a,b,d]with
 |some (n,b,c)=>(match Ag 61 c with
  |[k]=>(match Ck k with|some k=>some ⟨n,b,k,[]⟩|none=>none)
  |[k,v]=>if st=82/\Bx k v=true then some ⟨n,b,⟨[],k,[]⟩,v⟩else none
  |_=>none)
 |none=>none
theorem Dy{st:UInt8}{s a b d:List UInt8}(hst:st≠69)(hp:Ag 58 s=[a,b,d]):Bu st s=Dv st a b d:=by
 unfold Bu Dv;rw[if_neg hst,hp];cases Kv [a,b,d]with
 |none=>rfl
 |some x=>
  obtain⟨n,b',c⟩:=x;simp only;match Ag 61 c with
  |[]=>rfl
  |[k]=>simp only;cases Ck k<;>rfl
  |[k,v]=>rfl
  |_::_::_::_=>rfl
theorem Si{st:UInt8}{a b d:List UInt8}(h:Kv [a,b,d]=none):Dv st a b d=none:=by unfold Dv;rw[h]
theorem Yq{st:UInt8}{a b d k:List UInt8}{n:Nat}(h:Kv [a,b,d]=some (n,b,d))(hq:Ag 61 d=[k]):Dv st a b d=(Ck k).map fun k=>⟨n,b,k,[]⟩:=by
 unfold Dv;rw[h];simp only;rw[hq];simp only;cases Ck k<;>rfl
theorem Ry{st:UInt8}{a b d k v:List UInt8}{n:Nat}(h:Kv [a,b,d]=some (n,b,d))(hq:Ag 61 d=[k,v]):Dv st a b d=if st=82/\Bx k v=true then some ⟨n,b,⟨[],k,[]⟩,v⟩else none:=by
 unfold Dv;rw[h];simp only;rw[hq]
theorem Qca{st:UInt8}{a b d k v x:List UInt8}{l:List (List UInt8)}{n:Nat}(h:Kv [a,b,d]=some (n,b,d))(hq:Ag 61 d=k::v::x::l):Dv st a b d=none:=by
 unfold Dv;rw[h];simp only;rw[hq]
theorem Qhe(st:UInt8)(hst:st≠69)(s a b d:List UInt8)(w:World)(hs:s.length<=1000)(hp:Ag 58 s=[a,b,d])(ho:Dn a 200=false):
  Calls prog 152 #[s,.int .u8 (st.toNat:Int)] w (Cp (Bu st s) w):=by
 have hal:=Ak 58 s a br;have hbl:=Ak 58 s b br;have hdl:=Ak 58 s d br;have hF:Bu st s=Dv st a b d:=Dy hst hp;have Hcut:=Aa (fun W=>Cg s 58 58 rfl W aH);rw[hp]at Hcut;have Hnum:=Aa (fun W=>Df a 200 W aH aH);have Hname:=Aa (fun W=>Ch b W aH);have hsl:=st.toNat_lt;have t1:((st.toNat:Int) != 69)=true:=cr;have t2:((st.toNat:Int) == 69)=false:=Aq hst;clear hp hst;rw[Si (Vw (.inl ho))]at hF;have HF:=Aa hF;have Ho:=Aa ho;clear hF ho;go_enter func152,ntmps152;go_wp2_with fail;refine(Hcut.o _).mono ?_;rintro e w1 ⟨v,rfl,ho,hb⟩;obtain⟨g,c,rfl,hg1,hg2,c0,c1,c2⟩:=Fv ho;simp at hg1;obtain⟨hc,hfz,hz⟩:=By hb;have Hb:=Aa (((At w.heap.size w).alloc (Ao _) _).trans (hb.mono aM));have hzz:=hz w.heap.size aM;clear hb ho;go_wp2_with fail;refine(Hnum.o _).mono ?_;rintro e w2 ⟨n,hn,rfl,hdn,hb2⟩;rw[Ho.o];obtain⟨hc2,hfz2,hz2⟩:=By hb2;have Hb2:=Aa (Hb.o.trans (hb2.mono Hb.o.size));have hsz:=Hb2.o.size;have hz3:=hz2 _ hzz;clear hb2;go_wp2_with fail;refine aF (v:=.tuple #[.agg #[.int .i64 n,b,aa,aa],.bool false]) (by simp[results,results152,go_sem,hc,hc2,hzz,hz3]) rfl ?_;exact jc
theorem Qg9(st:UInt8)(hst:st≠69)(s a b d:List UInt8)(w:World)(hs:s.length<=1000)(hp:Ag 58 s=[a,b,d])(ho:Dn a 200=true)(hd:Ci a=some 0):
  Calls prog 152 #[s,.int .u8 (st.toNat:Int)] w (Cp (Bu st s) w):=by
 have hal:=Ak 58 s a br;have hbl:=Ak 58 s b br;have hdl:=Ak 58 s d br;have hF:Bu st s=Dv st a b d:=Dy hst hp;have Hcut:=Aa (fun W=>Cg s 58 58 rfl W aH);rw[hp]at Hcut;have Hnum:=Aa (fun W=>Df a 200 W aH aH);have Hname:=Aa (fun W=>Ch b W aH);have hsl:=st.toNat_lt;have t1:((st.toNat:Int) != 69)=true:=cr;have t2:((st.toNat:Int) == 69)=false:=Aq hst;clear hp hst;rw[Si (Vw (.inr (.inl hd)))]at hF;have HF:=Aa hF;have Ho:=Aa ho;have Hd:=Aa hd;clear hF ho hd;go_enter func152,ntmps152;go_wp2_with fail;refine(Hcut.o _).mono ?_;rintro e w1 ⟨v,rfl,ho,hb⟩;obtain⟨g,c,rfl,hg1,hg2,c0,c1,c2⟩:=Fv ho;simp at hg1;obtain⟨hc,hfz,hz⟩:=By hb;have Hb:=Aa (((At w.heap.size w).alloc (Ao _) _).trans (hb.mono aM));have hzz:=hz w.heap.size aM;clear hb ho;go_wp2_with fail;refine(Hnum.o _).mono ?_;rintro e w2 ⟨n,hn,rfl,hdn,hb2⟩;rw[Ho.o];obtain⟨hc2,hfz2,hz2⟩:=By hb2;have Hb2:=Aa (Hb.o.trans (hb2.mono Hb.o.size));have hsz:=Hb2.o.size;have hz3:=hz2 _ hzz;clear hb2;obtain rfl:=hdn 0 Hd.o;clear hdn;go_wp2_with fail;refine aF (v:=.tuple #[.agg #[.int .i64 0,b,aa,aa],.bool false]) (by simp[results,results152,go_sem,hc,hc2,hzz,hz3]) rfl ?_;exact jc
theorem Qhi(st:UInt8)(hst:st≠69)(s a b d:List UInt8)(w:World)(hs:s.length<=1000)(hp:Ag 58 s=[a,b,d])(n0:Nat)(ho:Dn a 200=true)(hd:Ci a=some n0)(h1:1<=n0)(h2:n0<=200)(hnm:Av b=false):
  Calls prog 152 #[s,.int .u8 (st.toNat:Int)] w (Cp (Bu st s) w):=by
 have hal:=Ak 58 s a br;have hbl:=Ak 58 s b br;have hdl:=Ak 58 s d br;have hF:Bu st s=Dv st a b d:=Dy hst hp;have Hcut:=Aa (fun W=>Cg s 58 58 rfl W aH);rw[hp]at Hcut;have Hnum:=Aa (fun W=>Df a 200 W aH aH);have Hname:=Aa (fun W=>Ch b W aH);have hsl:=st.toNat_lt;have t1:((st.toNat:Int) != 69)=true:=cr;have t2:((st.toNat:Int) == 69)=false:=Aq hst;clear hp hst;rw[Si (Vw (.inr (.inr hnm)))]at hF;have HF:=Aa hF;have Ho:=Aa ho;have Hd:=Aa hd;have Hnm:=Aa hnm;clear hF ho hd hnm;go_enter func152,ntmps152;go_wp2_with fail;refine(Hcut.o _).mono ?_;rintro e w1 ⟨v,rfl,ho,hb⟩;obtain⟨g,c,rfl,hg1,hg2,c0,c1,c2⟩:=Fv ho;simp at hg1;obtain⟨hc,hfz,hz⟩:=By hb;have Hb:=Aa (((At w.heap.size w).alloc (Ao _) _).trans (hb.mono aM));have hzz:=hz w.heap.size aM;clear hb ho;go_wp2_with fail;refine(Hnum.o _).mono ?_;rintro e w2 ⟨n,hn,rfl,hdn,hb2⟩;rw[Ho.o];obtain⟨hc2,hfz2,hz2⟩:=By hb2;have Hb2:=Aa (Hb.o.trans (hb2.mono Hb.o.size));have hsz:=Hb2.o.size;have hz3:=hz2 _ hzz;clear hb2;obtain rfl:=hdn n0 Hd.o;clear hdn;go_wp2_with fail;refine(Hname.o _).mono ?_;rintro e w3 ⟨rfl,rfl⟩;rw[Hnm.o];go_wp2_with fail;refine aF (v:=.tuple #[.agg #[.int .i64 n0,b,aa,aa],.bool false]) (by simp[results,results152,go_sem,hc,hc2,hzz,hz3]) rfl ?_;exact jc
end
end Go.Proofs.YtpjijpcemejlnaaGreatDoor
