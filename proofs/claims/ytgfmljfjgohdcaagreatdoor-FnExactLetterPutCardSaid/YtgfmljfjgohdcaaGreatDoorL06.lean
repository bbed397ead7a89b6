/- Texts joined. Conditions: as each theorem names them. -/
import Derived.Test.YtgfmljfjgohdcaaGreatDoorL05
set_option maxRecDepth 100000
set_option maxHeartbeats 32000000
set_option linter.unusedVariables false
set_option linter.unusedSimpArgs false
namespace Go.Proofs.YtgfmljfjgohdcaaGreatDoor
open Go.RowKit Go.Proofs.Tryz
section
attribute [local go_sem] Qls Qkr Qj4 Qig ByteArray.mk_append_mk
theorem Xd(s:List UInt8)(f k:Nat)(hf:f<=k)(hk:k<s.length):(s.drop f).take (k+1 - f)=(s.drop f).take (k - f)++[s[k]]:=by
 have h1:k - f<(s.drop f).length:=aL;rw[show k+1 - f=(k - f)+1 by omega,By _ _ h1];simp[show f+(k - f)=k by omega]
theorem Qb0(s:List UInt8)(f k:Nat)(hf:f<=k)(hk:k<s.length):s.drop f=(s.drop f).take (k - f)++s[k]::s.drop (k+1):=by
 have e1:(s.drop f).drop (k - f)=s[k]::s.drop (k+1):=by
  rw[List.drop_drop,show f+(k - f)=k by omega];exact List.drop_eq_getElem_cons hk
 rw[<-e1,List.take_append_drop]
theorem Cl(s:List UInt8)(c:UInt8)(m:Int)(hm:m=(c.toNat:Int))(w:World)(hs:s.length<=4000000):
  Calls prog 164 #[s,.int .u8 m] w fun e w'=>
   ∃v,e=.returned v/\w'.ownsRow w 9 1 v (Ai c s).length (Bz (Ai c s))/\Below w w w':=by
 have Hm:=Aa hm;have Hlen:=Aa (Gi c s);clear hm;go_enter func164,ntmps164;go_wp2_with fail
 go_loopw [5,6,7] (fun v y i wr=>∃(ps:List (List UInt8)) (f k:Nat),i=.int .i64 k/\k<=s.length/\y=.int .i64 f/\f<=k/\ps.length<=k/\Hid (Ai c s=ps++Ai c (s.drop f))/\Hid (c∉(s.drop f).take (k - f)) /\
   Hid (wr.ownsRow w 9 1 v ps.length (Bz ps))/\Hid (Below w w wr)) (fun _ _ i _=>s.length - (intOf i).toNat)
 case atStart=>exact⟨[],0,0,rfl,ae _,rfl,Am _,by simp,rfl,by simp[Hid],World.ownsRow_lit (base:=w.heap.size) (e:=9) (size:=1) w #[] 0 (Am _) (ae _) rfl,(Ar _ _).alloc (Am _) _⟩
 case round=>
  obtain⟨ps,f,k,rfl,hk,rfl,hf,hps,hsp,hno,hown,hb⟩:=hrel;by_cases hlt:k<s.length
  ·have hc:=(s[k]).toNat_lt;by_cases he:s[k]=c
   ·have t1:(((s[k]).toNat:Int) == m)=true:=by rw[Hm.o];exact Ba he
    have Hsp:=Aa (show Ai c s=(ps++[(s.drop f).take (k - f)])++Ai c (s.drop (k+1))by
     rw[hsp.o,Qb0 s f k hf hlt,he,Km c _ _ hno.o];simp only[List.append_assoc,List.singleton_append];have e2:=Qb0 s f k hf hlt;rw[he]at e2;rw[<-e2])
    have Hz:=Aa hb.o.size;clear he;have k1:(0:Int)<=(f:Int):=aF;have k2:(f:Int)<=(k:Int):=aF;have k3:(k:Int)<=(s.length:Int):=aF;go_wp2_with (at_builtin;refine Jl _ rfl _ _ 64 rfl w 9 a6 16 underlying64 Ta rfl wr _ rfl rfl _ _ _ rfl rfl hown.o aY aF Hz.o ?_;intro v' w' hown' hb';have Ho:=Aa (show w'.ownsRow w 9 1 v' (ps++[(s.drop f).take (k - f)]).length (Bz (ps++[(s.drop f).take (k - f)]))by rw[Nw,af];exact hown');have Hb:=Aa (hb.o.trans hb');clear hown' hb')
    go_roundw
    case rel=>exact⟨ps++[(s.drop f).take (k - f)],k+1,k+1,by go_num,by omega,by go_num,Am _,by rw[af];simp;omega,Hsp.o,by simp[Hid],Ho.o,Hb.o⟩
    case measure=>simp[intOf];omega
   have t1:(((s[k]).toNat:Int) == m)=false:=by rw[Hm.o];exact Ao he
   have Hno:=Aa (show c∉(s.drop f).take (k+1 - f)by
    rw[Xd s f k hf hlt];simp only[ad,an,not_or];exact⟨hno.o,fun h=>he h.symm⟩)
   clear he;go_wp2_with fail;go_roundw
   case rel=>exact⟨ps,f,k+1,by go_num,by omega,rfl,by omega,by omega,hsp.o,Hno.o,hown.o,hb.o⟩
   case measure=>simp[intOf];omega
  ·obtain rfl:k=s.length:=aF
   have Hsp:=Aa (show Ai c s=ps++[s.drop f]by
    have h:=hno.o;rw[aq aH]at h;rw[hsp.o,Ft c _ h])
   have Hz:=Aa hb.o.size;have k1:(0:Int)<=(f:Int):=aF;have k2:(f:Int)<=(s.length:Int):=aF;go_wp2_with (at_builtin;refine Jl _ rfl _ _ 64 rfl w 9 a6 16 underlying64 Ta rfl wr _ rfl rfl _ _ _ rfl rfl hown.o aY aF Hz.o ?_;intro v' w' hown' hb';have Ho:=Aa (show w'.ownsRow w 9 1 v' (ps++[s.drop f]).length (Bz (ps++[s.drop f]))by rw[Nw,af];exact hown');have Hb:=Aa (hb.o.trans hb');clear hown' hb')
   go_ret;refine⟨_,rfl,?_,Hb.o⟩;rw[Hsp.o];exact Ho.o
theorem Xl{b s:List UInt8}(h1:b≠[110])(h2:b≠[116])(h3:b≠[102]):Bv b s=false:=by
 unfold Bv;rw[if_neg h1,if_neg h2,if_neg h3]
theorem Qj9(s:List UInt8):Bv [116] s=(Fb s && !(s == [39,39])):=by
 show (decide (2<s.length) && decide (s.head?=some 39) && decide (s.getLast?=some 39) && Dk (s.drop 1).dropLast)=((decide (2<=s.length) && decide (s.head?=some 39) && decide (s.getLast?=some 39) && Dk (s.drop 1).dropLast) && !(s == [39,39]));rcases aE 2 s.length with h|h
 ·have e1:decide (2<s.length)=true:=aV;have e2:decide (2<=s.length)=true:=aL;have e3:(s == [39,39])=false:=by
   rw[beq_eq_false_iff_ne];rintro rfl;simp at h
  rw[e1,e2,e3];simp
 have e1:decide (2<s.length)=false:=aL;rw[e1];match s,h with
 |[],_=>rfl
 |[_],_=>rfl
 |[a,b],_=>
  by_cases ha:a=39
  ·by_cases hb:b=39
   ·subst ha;subst hb;rfl
   simp[hb]
  simp[ha]
theorem Sv(b s:List UInt8)(w:World)(hs:s.length<=4000000):
  Calls prog 244 #[b,s] w fun e w'=>e=.returned (.bool (Bv b s))/\Below w w w':=by
 by_cases h1:b=[110]
 ·subst h1;have Hp:=Aa (fun W=>C9 s 999999 W hs aF);have hf:Bv [110] s=(match Cg s with|some n=>decide (0<n)|none=>false):=rfl;have hv:(Do s 999999 && (s != [48]))=Bv [110] s:=by
   rw[hf];cases hd:Cg s with
   |none=>rw[Ml hd];rfl
   |some n=>
    obtain⟨h9,e⟩:=Br.1 hd;rw[Mo hd];have e1:decide (n<=999999)=true:=by simpa using h9
    rw[e1,Bool.true_and];by_cases h0:n=0
    ·subst h0;rw[e,Ed aF];decide
    have hne:s≠[48]:=by
     intro h;rw[e]at h;have:Au n=Au 0:=by rw[h,Ed (n:=0) aF];decide
     exact h0 (Qgq this)
    have e2:(s != [48])=true:=by simpa using hne
    rw[e2];simp;omega
  have Hv:=Aa hv;clear hf hv;go_enter func244,ntmps244;go_wp2_with fail;refine(Hp.o _).mono ?_;rintro e w' ⟨n,hn,rfl,_,hb⟩;have Hb:=Aa hb;clear hb;rcases Bool.eq_false_or_eq_true (Do s 999999)with ho|ho
  ·have Ho:=Aa ho;rw[ho];clear ho;go_wp2_with fail;exact i9
  have Ho:=Aa ho;rw[ho];clear ho;go_wp2_with fail;exact i9
 by_cases h2:b=[116]
 ·subst h2;have Hp:=Aa (fun W=>Vm s W hs);have Hv:=Aa (Qj9 s);clear h1;go_enter func244,ntmps244;go_wp2_with fail;refine(Hp.o _).mono ?_;rintro e w' ⟨rfl,rfl⟩;rcases Bool.eq_false_or_eq_true (Fb s)with ho|ho
  ·have Ho:=Aa ho;rw[ho];clear ho;rcases Bool.eq_false_or_eq_true (s == [39,39])with hq|hq
   ·have Hq:=Aa hq;have hq2:(s != [39,39])=false:=by simp[bne,hq]
    go_wp2_with fail;exact ia
   have Hq:=Aa hq;have hq2:(s != [39,39])=true:=by simp[bne,hq]
   go_wp2_with fail;exact ia
  have Ho:=Aa ho;rw[ho];clear ho;go_wp2_with fail;go_ret;exact⟨Ec (Cn (by rw[Hv.o,Ho.o];rfl)),Ar _ _⟩
 by_cases h3:b=[102]
 ·subst h3;have Hv:=Aa (show Bv [102] s=(s == [121,101,115])by show decide (s=[121,101,115])=_;by_cases h:s=[121,101,115]<;>simp[h]);clear h1 h2;go_enter func244,ntmps244;go_wp2_with fail;go_ret;exact⟨Ec (Cn Hv.o.symm),Ar _ _⟩
 have Hv:=Aa (Xl (s:=s) h1 h2 h3);have q1:(b == [110])=false:=dQ;have q2:(b == [116])=false:=dR;have q3:(b == [102])=false:=by simpa using h3
 clear h1 h2 h3;go_enter func244,ntmps244;go_wp2_with fail;go_ret;exact⟨Ec (Cn Hv.o.symm),Ar _ _⟩
def Cp(o:Option Fd)(w:World)(e:Ending)(w':World):Prop:=
 (match o with
  |some f=>e=.returned (.tuple #[sfV f,.bool true])
  |none=>∃(x:Int) (a b c:ByteArray),e=.returned (.tuple #[.agg #[.int .i64 x,.string a,.string b,.string c],.bool false]))/\Below w w w'
theorem Cp.no{w w':World}{e:Ending}{o:Option Fd}(ho:o=none){x:Int}{a b c:ByteArray}(he:e=.returned (.tuple #[.agg #[.int .i64 x,.string a,.string b,.string c],.bool false]))(hb:Below w w w'):Cp o w e w':=by
 rw[ho];exact⟨⟨x,a,b,c,he⟩,hb⟩
theorem Cp.yes{w w':World}{e:Ending}{o:Option Fd}{f:Fd}(ho:o=some f)(he:e=.returned (.tuple #[sfV f,.bool true]))(hb:Below w w w'):Cp o w e w':=by
 rw[ho];exact⟨he,hb⟩
theorem M4{w:World}{base:Nat}{v:Value}{a b:List UInt8}(h:w.ownsRow base 9 1 v [a,b].length (Bz [a,b])):
  ∃g c,v=.slice (some ⟨g,0,none⟩) 2 c/\base<=g/\g<w.heap.size/\w.cell? ⟨g,0,none⟩=a/\w.cell? ⟨g,1,none⟩=b:=by
 rcases h.2 with⟨_,h0⟩|⟨g,cap,cur,rfl,hb,hh,_⟩
 ·simp at h0
 have hc:=fun j u hu=>h.cells (g:=g) rfl j u hu;have e1:∀j,(⟨g,0,none⟩:Addr).add j=⟨g,j,none⟩:=fun j=>bn;refine⟨g,cap,rfl,hb,(h.lt g rfl).2,?_,?_⟩
 ·have:=hc 0 _ rfl;rwa [e1]at this
 have:=hc 1 _ rfl;rwa [e1]at this
theorem Fu{w:World}{base:Nat}{v:Value}{a b d:List UInt8}(h:w.ownsRow base 9 1 v [a,b,d].length (Bz [a,b,d])):
  ∃g c,v=.slice (some ⟨g,0,none⟩) 3 c/\base<=g/\g<w.heap.size/\w.cell? ⟨g,0,none⟩=a/\w.cell? ⟨g,1,none⟩=b/\w.cell? ⟨g,2,none⟩=d:=by
 rcases h.2 with⟨_,h0⟩|⟨g,cap,cur,rfl,hb,hh,_⟩
 ·simp at h0
 have hc:=fun j u hu=>h.cells (g:=g) rfl j u hu;have e1:∀j,(⟨g,0,none⟩:Addr).add j=⟨g,j,none⟩:=fun j=>bn;refine⟨g,cap,rfl,hb,(h.lt g rfl).2,?_,?_,?_⟩
 ·have:=hc 0 _ rfl;rwa [e1]at this
 ·have:=hc 1 _ rfl;rwa [e1]at this
 have:=hc 2 _ rfl;rwa [e1]at this
theorem Rp(st:UInt8)(s:List UInt8)(w:World)(hs:s.length<=1000)(hp:(Ai 58 s).length≠(if st=69 then 2 else 3)):
  Calls prog 218 #[s,.int .u8 (st.toNat:Int)] w (Cp (Bt st s) w):=by
 have hno:Bt st s=none:=by
  unfold Bt;by_cases h:st=69
  ·rw[if_pos h]at hp ⊢;have:Jw (Ai 58 s)=none:=by
    cases hh:Jw (Ai 58 s)with
    |none=>rfl
    |some x=>rw[(H4 (n:=x.1) (b:=x.2)).1 hh |>.1]at hp;simp at hp
   rw[this]
  rw[if_neg h]at hp ⊢;have:Kr (Ai 58 s)=none:=by
   cases hh:Kr (Ai 58 s)with
   |none=>rfl
   |some x=>rw[(Fr (n:=x.1) (b:=x.2.1) (c:=x.2.2)).1 hh |>.1]at hp;simp at hp
  rw[this]
 have Hno:=Aa hno;have Hl:=Aa (Gi 58 s);have hst:=st.toNat_lt;clear hno;have Hcut:=Aa (fun W=>Cl s 58 58 rfl W aF);generalize Ai 58 s=ps at hp Hl Hcut;by_cases h69:st=69
 ·rw[if_pos h69]at hp;have t1:((st.toNat:Int) != 69)=false:=by have:=Ba h69;simpa using this
  have t2:((st.toNat:Int) == 69)=true:=Ba h69;have t3:((ps.length:Int) != 2)=true:=dM;clear h69 hp;go_enter func218,ntmps218;go_wp2_with fail;refine(Hcut.o _).mono ?_;rintro e w1 ⟨v,rfl,ho,hb⟩;obtain⟨A,c,rfl,_⟩:=Cd.own ho;obtain⟨hc,hfz,hz⟩:=Bx hb;have Hb:=Aa (((Ar w.heap.size w).alloc (Am _) _).trans (hb.mono aH));clear hb ho;go_wp2_with fail;all_goals
   refine aD (v:=.tuple #[sf0,.bool false]) (by simp[results,results218,go_sem,sf0,hc]) rfl ?_;exact ib
 rw[if_neg h69]at hp;have t1:((st.toNat:Int) != 69)=true:=by have:=Ao h69;simpa using this
 have t2:((st.toNat:Int) == 69)=false:=Ao h69;have t3:((ps.length:Int) != 3)=true:=dM;clear h69 hp;go_enter func218,ntmps218;go_wp2_with fail;refine(Hcut.o _).mono ?_;rintro e w1 ⟨v,rfl,ho,hb⟩;obtain⟨A,c,rfl,_⟩:=Cd.own ho;obtain⟨hc,hfz,hz⟩:=Bx hb;have Hb:=Aa (((Ar w.heap.size w).alloc (Am _) _).trans (hb.mono aH));clear hb ho;go_wp2_with fail;all_goals
  refine aD (v:=.tuple #[sf0,.bool false]) (by simp[results,results218,go_sem,sf0,hc]) rfl ?_;exact ib
theorem Sf(a b:List UInt8):Do a 200=false\/(Do a 200=true/\Cg a=some 0)\/(∃n,Do a 200=true/\Cg a=some n/\1<=n/\n<=200/\At b=false)\/(∃n,Do a 200=true/\Cg a=some n/\1<=n/\n<=200/\At b=true):=by
 cases hd:Cg a with
 |none=>exact .inl (Ml hd)
 |some n=>
  rw[Mo hd];by_cases h:n<=200
  ·have e:decide (n<=200)=true:=aV;rw[e];by_cases h0:n=0
   ·subst h0;exact .inr (.inl ⟨rfl,rfl⟩)
   rcases Bool.eq_false_or_eq_true (At b)with hb|hb
   ·exact .inr (.inr (.inr ⟨n,rfl,rfl,by omega,h,hb⟩))
   exact .inr (.inr (.inl ⟨n,rfl,rfl,by omega,h,hb⟩))
  left;simpa using h
theorem To{a b:List UInt8}(h:Do a 200=false\/Cg a=some 0\/At b=false):Jw [a,b]=none:=by
 cases hh:Jw [a,b]with
 |none=>rfl
 |some x=>
  obtain⟨n,c⟩:=x;obtain⟨e,h1,h2,h3⟩:=H4.1 hh;simp at e;obtain⟨rfl,rfl⟩:=e;have hd:Cg (Au n)=some n:=Br.2 ⟨by omega,rfl⟩;rcases h with h|h|h
  ·rw[Mo hd]at h;simp at h;omega
  ·rw[hd]at h;injection h with h;omega
  rw[h3]at h;cases h
theorem Tx{a b c:List UInt8}(h:Do a 200=false\/Cg a=some 0\/At b=false):Kr [a,b,c]=none:=by
 cases hh:Kr [a,b,c]with
 |none=>rfl
 |some x=>
  obtain⟨n,d,f⟩:=x;obtain⟨e,h1,h2,h3⟩:=Fr.1 hh;simp at e;obtain⟨rfl,rfl,rfl⟩:=e;have hd:Cg (Au n)=some n:=Br.2 ⟨by omega,rfl⟩;rcases h with h|h|h
  ·rw[Mo hd]at h;simp at h;omega
  ·rw[hd]at h;injection h with h;omega
  rw[h3]at h;cases h
theorem Qer{a b:List UInt8}{n:Nat}(hd:Cg a=some n)(h1:1<=n)(h2:n<=200)(hb:At b=true):Jw [a,b]=some (n,b):=H4.2 ⟨by rw[(Br.1 hd).2],h1,h2,hb⟩
theorem Jz{a b c:List UInt8}{n:Nat}(hd:Cg a=some n)(h1:1<=n)(h2:n<=200)(hb:At b=true):Kr [a,b,c]=some (n,b,c):=Fr.2 ⟨by rw[(Br.1 hd).2],h1,h2,hb⟩
theorem Qic(s a b:List UInt8)(w:World)(hs:s.length<=1000)(hp:Ai 58 s=[a,b])(ho:Do a 200=false):
  Calls prog 218 #[s,.int .u8 69] w (Cp (Bt 69 s) w):=by
 have hal:=Ak 58 s a bj;have hbl:=Ak 58 s b bj;have hF:Bt 69 s=(match Jw [a,b]with|some (n,b)=>some ⟨n,b,Kd.nil,[]⟩|none=>none):=co;have Hcut:=Aa (fun W=>Cl s 58 58 rfl W aF);rw[hp]at Hcut;have Hnum:=Aa (fun W=>C9 a 200 W aF aF);have Hname:=Aa (fun W=>Ck b W aF);clear hp;rw[To (.inl ho)]at hF;have HF:=Aa hF;have Ho:=Aa ho;clear hF ho;go_enter func218,ntmps218;go_wp2_with fail;refine(Hcut.o _).mono ?_;rintro e w1 ⟨v,rfl,ho,hb⟩;obtain⟨g,c,rfl,hg1,hg2,c0,c1⟩:=M4 ho;simp at hg1;obtain⟨hc,hfz,hz⟩:=Bx hb;have Hb:=Aa (((Ar w.heap.size w).alloc (Am _) _).trans (hb.mono aH));have hzz:=hz w.heap.size aH;clear hb ho;go_wp2_with fail;refine(Hnum.o _).mono ?_;rintro e w2 ⟨n,hn,rfl,hdn,hb2⟩;rw[Ho.o];obtain⟨hc2,hfz2,hz2⟩:=Bx hb2;have Hb2:=Aa (Hb.o.trans (hb2.mono Hb.o.size));have hsz:=Hb2.o.size;have hz3:=hz2 _ hzz;clear hb2;go_wp2_with fail;refine aD (v:=.tuple #[.agg #[.int .i64 n,b,a6,a6],.bool false]) (by simp[results,results218,go_sem,hc,hc2,hzz,hz3]) rfl ?_;exact ic
theorem Qg1(s a b:List UInt8)(w:World)(hs:s.length<=1000)(hp:Ai 58 s=[a,b])(ho:Do a 200=true)(hd:Cg a=some 0):
  Calls prog 218 #[s,.int .u8 69] w (Cp (Bt 69 s) w):=by
 have hal:=Ak 58 s a bj;have hbl:=Ak 58 s b bj;have hF:Bt 69 s=(match Jw [a,b]with|some (n,b)=>some ⟨n,b,Kd.nil,[]⟩|none=>none):=co;have Hcut:=Aa (fun W=>Cl s 58 58 rfl W aF);rw[hp]at Hcut;have Hnum:=Aa (fun W=>C9 a 200 W aF aF);have Hname:=Aa (fun W=>Ck b W aF);clear hp;rw[To (.inr (.inl hd))]at hF;have HF:=Aa hF;have Ho:=Aa ho;have Hd:=Aa hd;clear hF ho hd;go_enter func218,ntmps218;go_wp2_with fail;refine(Hcut.o _).mono ?_;rintro e w1 ⟨v,rfl,ho,hb⟩;obtain⟨g,c,rfl,hg1,hg2,c0,c1⟩:=M4 ho;simp at hg1;obtain⟨hc,hfz,hz⟩:=Bx hb;have Hb:=Aa (((Ar w.heap.size w).alloc (Am _) _).trans (hb.mono aH));have hzz:=hz w.heap.size aH;clear hb ho;go_wp2_with fail;refine(Hnum.o _).mono ?_;rintro e w2 ⟨n,hn,rfl,hdn,hb2⟩;rw[Ho.o];obtain⟨hc2,hfz2,hz2⟩:=Bx hb2;have Hb2:=Aa (Hb.o.trans (hb2.mono Hb.o.size));have hsz:=Hb2.o.size;have hz3:=hz2 _ hzz;clear hb2;obtain rfl:=hdn 0 Hd.o;clear hdn;go_wp2_with fail;refine aD (v:=.tuple #[.agg #[.int .i64 0,b,a6,a6],.bool false]) (by simp[results,results218,go_sem,hc,hc2,hzz,hz3]) rfl ?_;exact ic
theorem Qh1(s a b:List UInt8)(w:World)(hs:s.length<=1000)(hp:Ai 58 s=[a,b])(n0:Nat)(ho:Do a 200=true)(hd:Cg a=some n0)(h1:1<=n0)(h2:n0<=200)(hnm:At b=false):
  Calls prog 218 #[s,.int .u8 69] w (Cp (Bt 69 s) w):=by
 have hal:=Ak 58 s a bj;have hbl:=Ak 58 s b bj;have hF:Bt 69 s=(match Jw [a,b]with|some (n,b)=>some ⟨n,b,Kd.nil,[]⟩|none=>none):=co;have Hcut:=Aa (fun W=>Cl s 58 58 rfl W aF);rw[hp]at Hcut;have Hnum:=Aa (fun W=>C9 a 200 W aF aF);have Hname:=Aa (fun W=>Ck b W aF);clear hp;rw[To (.inr (.inr hnm))]at hF;have HF:=Aa hF;have Ho:=Aa ho;have Hd:=Aa hd;have Hnm:=Aa hnm;clear hF ho hd hnm;go_enter func218,ntmps218;go_wp2_with fail;refine(Hcut.o _).mono ?_;rintro e w1 ⟨v,rfl,ho,hb⟩;obtain⟨g,c,rfl,hg1,hg2,c0,c1⟩:=M4 ho;simp at hg1;obtain⟨hc,hfz,hz⟩:=Bx hb;have Hb:=Aa (((Ar w.heap.size w).alloc (Am _) _).trans (hb.mono aH));have hzz:=hz w.heap.size aH;clear hb ho;go_wp2_with fail;refine(Hnum.o _).mono ?_;rintro e w2 ⟨n,hn,rfl,hdn,hb2⟩;rw[Ho.o];obtain⟨hc2,hfz2,hz2⟩:=Bx hb2;have Hb2:=Aa (Hb.o.trans (hb2.mono Hb.o.size));have hsz:=Hb2.o.size;have hz3:=hz2 _ hzz;clear hb2;obtain rfl:=hdn n0 Hd.o;clear hdn;go_wp2_with fail;refine(Hname.o _).mono ?_;rintro e w3 ⟨rfl,rfl⟩;rw[Hnm.o];go_wp2_with fail;refine aD (v:=.tuple #[.agg #[.int .i64 n0,b,a6,a6],.bool false]) (by simp[results,results218,go_sem,hc,hc2,hzz,hz3]) rfl ?_;exact ic
theorem Qhh(s a b:List UInt8)(w:World)(hs:s.length<=1000)(hp:Ai 58 s=[a,b])(n0:Nat)(ho:Do a 200=true)(hd:Cg a=some n0)(h1:1<=n0)(h2:n0<=200)(hnm:At b=true):
  Calls prog 218 #[s,.int .u8 69] w (Cp (Bt 69 s) w):=by
 have hal:=Ak 58 s a bj;have hbl:=Ak 58 s b bj;have hF:Bt 69 s=(match Jw [a,b]with|some (n,b)=>some ⟨n,b,Kd.nil,[]⟩|none=>none):=co;have Hcut:=Aa (fun W=>Cl s 58 58 rfl W aF);rw[hp]at Hcut;have Hnum:=Aa (fun W=>C9 a 200 W aF aF);have Hname:=Aa (fun W=>Ck b W aF);clear hp;rw[Qer hd h1 h2 hnm]at hF;have HF:=Aa hF;have Ho:=Aa ho;have Hd:=Aa hd;have Hnm:=Aa hnm;clear hF ho hd hnm;go_enter func218,ntmps218;go_wp2_with fail;refine(Hcut.o _).mono ?_;rintro e w1 ⟨v,rfl,ho,hb⟩;obtain⟨g,c,rfl,hg1,hg2,c0,c1⟩:=M4 ho;simp at hg1;obtain⟨hc,hfz,hz⟩:=Bx hb;have Hb:=Aa (((Ar w.heap.size w).alloc (Am _) _).trans (hb.mono aH));have hzz:=hz w.heap.size aH;clear hb ho;go_wp2_with fail;refine(Hnum.o _).mono ?_;rintro e w2 ⟨n,hn,rfl,hdn,hb2⟩;rw[Ho.o];obtain⟨hc2,hfz2,hz2⟩:=Bx hb2;have Hb2:=Aa (Hb.o.trans (hb2.mono Hb.o.size));have hsz:=Hb2.o.size;have hz3:=hz2 _ hzz;clear hb2;obtain rfl:=hdn n0 Hd.o;clear hdn;go_wp2_with fail;refine(Hname.o _).mono ?_;rintro e w3 ⟨rfl,rfl⟩;rw[Hnm.o];go_wp2_with fail;refine aD (v:=.tuple #[sfV ⟨n0,b,Kd.nil,[]⟩,.bool true]) (by simp[results,results218,go_sem,sfV,Kd.nil,Be,Bk,hc,hc2,hzz,hz3]) rfl ?_;exact Cp.yes HF.o rfl aP
theorem S7(s a b:List UInt8)(w:World)(hs:s.length<=1000)(hp:Ai 58 s=[a,b]):
  Calls prog 218 #[s,.int .u8 69] w (Cp (Bt 69 s) w):=by
 rcases Sf a b with ho|⟨ho,hd⟩|⟨n0,ho,hd,h1,h2,hnm⟩|⟨n0,ho,hd,h1,h2,hnm⟩
 ·exact Qic s a b w hs hp ho
 ·exact Qg1 s a b w hs hp ho hd
 ·exact Qh1 s a b w hs hp n0 ho hd h1 h2 hnm
 exact Qhh s a b w hs hp n0 ho hd h1 h2 hnm
end
end Go.Proofs.YtgfmljfjgohdcaaGreatDoor
