/- Texts joined. Conditions: as each theorem names them. -/
import Derived.BigRegion
import Derived.BigQuiet
import Derived.Deep.QuietTactic
import Derived.Test.YtkigmebejmmikaaGreatDoorQ03
import Derived.Test.YtkigmebejmmikaaGreatDoorQ04
import Derived.Test.YtkigmebejmmikaaGreatDoorQ07
import Derived.Test.YtkigmebejmmikaaGreatDoorQ21
set_option maxRecDepth 100000
set_option maxHeartbeats 32000000
set_option linter.unusedVariables false
set_option linter.unusedSimpArgs false
namespace Go.Proofs.YtkigmebejmmikaaGreatDoor
open Go.RowKit Go.Proofs.Tryz
section
attribute [local go_sem] Qja Qit Qib Qgw ByteArray.mk_append_mk
theorem J1(c:UInt8)(s:List UInt8):(Cs c s).1.length<=s.length/\(Cs c s).2.1.length<=s.length:=by
 rcases Eo c s with⟨_,h⟩|⟨p,t,rfl,_,h⟩
 ·rw[h];simp
 rw[h];simp;omega
def Kw(st:UInt8)(ps:List (List UInt8))(vl:List UInt8)(td:Bool):Option Fd:=
 if st=69 then
  match Js ps with
  |some (n,b)=>if td=true then none else some ⟨n,b,Kd.nil,vl⟩
  |none=>none
 else
  match Kg ps with
  |some (n,b,c)=>(match Cg c with
   |some k=>if td=true/\¬(st=82/\k.signs=[]/\Bv k.base vl=true)then none else some ⟨n,b,k,vl⟩
   |none=>none)
  |none=>none
theorem Vu(st:UInt8)(s:List UInt8):Gk st s=Kw st (Af 58 (Cs 61 s).1) (Cs 61 s).2.1 (Cs 61 s).2.2:=rfl
theorem S4{st:UInt8}{ps:List (List UInt8)}{vl:List UInt8}{td:Bool}(h:ps.length≠if st=69 then 2 else 3):Kw st ps vl td=none:=by
 unfold Kw
 by_cases e:st=69
 ·rw[if_pos e]at h ⊢
  match ps,h with
  |[],_=>rfl
  |[_],_=>rfl
  |[_,_],h=>exact absurd rfl h
  |_::_::_::_,_=>rfl
 rw[if_neg e]at h ⊢
 match ps,h with
 |[],_=>rfl
 |[_],_=>rfl
 |[_,_],_=>rfl
 |[_,_,_],h=>exact absurd rfl h
 |_::_::_::_::_,_=>rfl
def My(a b:List UInt8)(n:Nat):Prop:=Cf a=some n/\1<=n/\n<=200/\Au b=true
theorem Ru{st:UInt8}{a b:List UInt8}{r:List (List UInt8)}{vl:List UInt8}{td:Bool}(h:∀n,¬My a b n):Kw st (a::b::r) vl td=none:=by
 have h2:∀c,Js (a::b::c)=none:=by
  intro c
  match c with
  |[]=>
   cases hd:Cf a with
   |none=>simp only[Js,hd]
   |some n=>simp only[Js,hd];exact if_neg fun(e:1<=n/\n<=200/\Au b=true)=>h n ⟨hd,e.1,e.2.1,e.2.2⟩
  |_::_=>rfl
 have h3:∀c,Kg (a::b::c)=none:=by
  intro c
  match c with
  |[]=>rfl
  |[x]=>
   cases hd:Cf a with
   |none=>simp only[Kg,hd]
   |some n=>simp only[Kg,hd];exact if_neg fun(e:1<=n/\n<=200/\Au b=true)=>h n ⟨hd,e.1,e.2.1,e.2.2⟩
  |_::_::_=>rfl
 unfold Kw
 rw[h2,h3]
 split<;>rfl
theorem Qgh{a b:List UInt8}{vl:List UInt8}{td:Bool}{n:Nat}(h:My a b n):Kw 69 [a,b] vl td=if td=true then none else some ⟨n,b,Kd.nil,vl⟩:=by
 obtain⟨h1,h2,h3,h4⟩:=h
 unfold Kw Js
 simp[h1,h2,h3,h4]
theorem Qfh{st:UInt8}{a b c:List UInt8}{vl:List UInt8}{td:Bool}{n:Nat}(hst:st≠69)(h:My a b n):Kw st [a,b,c] vl td=(match Cg c with
   |some k=>if td=true/\¬(st=82/\k.signs=[]/\Bv k.base vl=true)then none else some ⟨n,b,k,vl⟩
   |none=>none):=by
 obtain⟨h1,h2,h3,h4⟩:=h
 unfold Kw Kg
 simp[h1,h2,h3,h4,hst]
theorem Qce{k:Kd}(h:Yz k):Qia k.base:=by
 rcases h with⟨h,_⟩|⟨h|h|h,_⟩
 ·exact .inr (.inr (.inr h))
 ·exact .inl h
 ·exact .inr (.inl h)
 exact .inr (.inr (.inl h))
theorem Qif{ps:List (List UInt8)}(h:ps.length=2):∃a b,ps=[a,b]:=by
 match ps,h with
 |[a,b],_=>exact⟨a,b,rfl⟩
theorem Qip{ps:List (List UInt8)}(h:ps.length=3):∃a b c,ps=[a,b,c]:=by
 match ps,h with
 |[a,b,c],_=>exact⟨a,b,c,rfl⟩
theorem Rj{w:World}{b o n:Nat}(h:w.there b o n)(k:Nat):(w.drewN k).there b o n:=by
 induction k generalizing w with
 |zero=>exact h
 |succ k ih=>exact ih (by simpa using h)
theorem Qgv(st:UInt8)(hst:st=69)(s:List UInt8)(w:World)(hs:s.length<=4000000):
  Calls prog 121 #[.string ⟨s.toArray⟩,.int .u8 (st.toNat:Int)] w (Do (Gk st s) w):=by
 have HF:=Aa (Vu st s)
 have Hcut:=Aa (fun W=>Qh s 61 W (by omega))
 have hcl:=(J1 61 s).1
 have hvl:=(J1 61 s).2
 generalize Cs 61 s=r at HF Hcut hcl hvl
 obtain⟨hd,vl,td⟩:=r
 simp only at hcl hvl HF
 have Hsp:=Aa (fun W=>Q9 hd 58 W (by omega))
 have hne:=Dy 58 hd
 have Hpl:=Aa (Aj 58 hd)
 generalize Af 58 hd=ps at HF Hsp hne Hpl
 have e69:((st.toNat:Int) == 69)=true:=Bl hst
 have n69:((st.toNat:Int) != 69)=false:=Kn hst
 have Hst0:=Aa hst
 clear hst
 go_enter func121,ntmps121
 go_wp2_with fail
 refine(Hcut.o _).mono ?_
 rintro e w1 ⟨rfl,k1,rfl⟩
 unfold Zo
 go_wp2_with fail
 refine(Hsp.o _).mono ?_
 rintro e w2 ⟨v,rfl,ho,hb⟩
 obtain⟨g,c,rfl,hg1,hg2,hcells⟩:=Ma ho hne
 have hzz:w.heap.size<w2.heap.size:=by have:=hb.size;simp at this;omega
 have HT:=Aa (show w2.there w.heap.size 0 6 from At (Rj (Cw w [.int .i64 0,.string ⟨#[]⟩,.string ⟨#[]⟩,.string ⟨#[]⟩,.string ⟨#[]⟩,.string ⟨#[]⟩] 85) k1) (by simp) hb)
 have Hb:=Aa (show Below w.heap.size w w2 from(below_drewN ((As w.heap.size w).alloc (Ap _) _) k1).trans (hb.mono (by simp)))
 have Hcells:=Aa hcells
 clear hb ho hcells hne
 by_cases hlen:ps.length=2
 ·obtain⟨a,b,rfl⟩:=Qif hlen
  have c0:=Hcells.o 0 (by simp)
  have c1:=Hcells.o 1 (by simp)
  simp at c0 c1
  have la:a.length<=4000000:=by have:=Hpl.o a (by simp);omega
  have lb:b.length<=4000000:=by have:=Hpl.o b (by simp);omega
  clear Hpl Hcells hlen
  have hpn:=fun W=>(show Calls prog 130 #[.string ⟨a.toArray⟩,.int .i64 200] W fun e w'=>e=.returned (pnV a 200)/\W=w' from Gh a 200 W (by omega) (by decide))
  have Hhead:=Aa (show ∀n,My a b n↔Cf a=some n/\1<=n/\n<=200/\Au b=true from fun n=>Iff.rfl)
  have Hno:=Aa (fun(h:∀n,¬My a b n)=>HF.o.trans (Ru h))
  generalize hda:Cf a=od at *
  have Hda:=Aa hda
  clear hda
  cases od with
  |none=>
   have Hpn:=Aa (fun W=>(Po (m:=200) Hda.o) ▸ hpn W)
   clear hpn
   go_wp2_with fail
   refine(Hpn.o _).mono ?_
   rintro e w3 ⟨rfl,rfl⟩
   go_wp2_with ((with_reducible refine Ad (op:=⟨none,.store 85 _ _,_,_,_,none⟩) rfl 85 _ _ rfl w.heap.size 0 [.int .i64 0,.string ⟨#[]⟩,.string ⟨#[]⟩,.string ⟨#[]⟩,.string ⟨#[]⟩,.string ⟨#[]⟩] ?_ ?_ ?_ ?_ ?_ ?_);rfl;rfl;(first|exact World.there_alloc HT.o _|exact HT.o);kernel_rfl;(simp[Value.oneCell']);intro w9 HS9)
   have HZ:=Aa (show w9.rangeAt w.heap.size 0 [.int .i64 0,.string ⟨#[]⟩,.string ⟨#[]⟩,.string ⟨#[]⟩,.string ⟨#[]⟩,.string ⟨#[]⟩]from by rw[HS9.o];exact World.rangeAt_setCells_same _ _ _ _ (by first|exact World.there_alloc HT.o _|exact HT.o))
   refine bodyPost_ret (v:=.tuple #[.agg ([.int .i64 0,.string ⟨#[]⟩,.string ⟨#[]⟩,.string ⟨#[]⟩,.string ⟨#[]⟩,.string ⟨#[]⟩]:List Value).toArray,.bool false]) ?_ rfl ?_
   ·exact Ao results121 _ _ w.heap.size [.int .i64 0,.string ⟨#[]⟩,.string ⟨#[]⟩,.string ⟨#[]⟩,.string ⟨#[]⟩,.string ⟨#[]⟩] _ _ rfl rfl HZ.o underlying85 rfl (by kernel_rfl)
   exact Do.no (Hno.o (fun n h=>by have:=((Hhead.o n).1 h).1;cases this)) rfl (by rw[HS9.o];refine Ah _ (Ap _) _ _ _ ?_;first|with_reducible exact Hb.o|exact Hb.o.alloc Hb.o.size _)
  |some n=>
   have Hpn:=Aa (fun W=>(Sn (m:=200) Hda.o) ▸ hpn W)
   clear hpn
   have hn9:n<=999999:=(Bx.1 Hda.o).1
   rcases Nat.lt_or_ge 200 n with h200|h200
   ·have Hdec:=Aa (show decide (n<=200)=false by simp;omega)
    rw[Hdec.o]at Hpn
    go_wp2_with fail
    refine(Hpn.o _).mono ?_
    rintro e w3 ⟨rfl,rfl⟩
    go_wp2_with ((with_reducible refine Ad (op:=⟨none,.store 85 _ _,_,_,_,none⟩) rfl 85 _ _ rfl w.heap.size 0 [.int .i64 0,.string ⟨#[]⟩,.string ⟨#[]⟩,.string ⟨#[]⟩,.string ⟨#[]⟩,.string ⟨#[]⟩] ?_ ?_ ?_ ?_ ?_ ?_);rfl;rfl;(first|exact World.there_alloc HT.o _|exact HT.o);kernel_rfl;(simp[Value.oneCell']);intro w9 HS9)
    have HZ:=Aa (show w9.rangeAt w.heap.size 0 [.int .i64 0,.string ⟨#[]⟩,.string ⟨#[]⟩,.string ⟨#[]⟩,.string ⟨#[]⟩,.string ⟨#[]⟩]from by rw[HS9.o];exact World.rangeAt_setCells_same _ _ _ _ (by first|exact World.there_alloc HT.o _|exact HT.o))
    refine bodyPost_ret (v:=.tuple #[.agg ([.int .i64 0,.string ⟨#[]⟩,.string ⟨#[]⟩,.string ⟨#[]⟩,.string ⟨#[]⟩,.string ⟨#[]⟩]:List Value).toArray,.bool false]) ?_ rfl ?_
    ·exact Ao results121 _ _ w.heap.size [.int .i64 0,.string ⟨#[]⟩,.string ⟨#[]⟩,.string ⟨#[]⟩,.string ⟨#[]⟩,.string ⟨#[]⟩] _ _ rfl rfl HZ.o underlying85 rfl (by kernel_rfl)
    exact Do.no (Hno.o (fun m h=>by have h':=(Hhead.o m).1 h;have:=h'.1;cases this;omega)) rfl (by rw[HS9.o];refine Ah _ (Ap _) _ _ _ ?_;first|with_reducible exact Hb.o|exact Hb.o.alloc Hb.o.size _)
   have Hdec:=Aa (show decide (n<=200)=true by simp;omega)
   rw[Hdec.o]at Hpn
   rcases Nat.eq_zero_or_pos n with h0|h0
   ·subst h0
    go_wp2_with fail
    refine(Hpn.o _).mono ?_
    rintro e w3 ⟨rfl,rfl⟩
    go_wp2_with ((with_reducible refine Ad (op:=⟨none,.store 85 _ _,_,_,_,none⟩) rfl 85 _ _ rfl w.heap.size 0 [.int .i64 0,.string ⟨#[]⟩,.string ⟨#[]⟩,.string ⟨#[]⟩,.string ⟨#[]⟩,.string ⟨#[]⟩] ?_ ?_ ?_ ?_ ?_ ?_);rfl;rfl;(first|exact World.there_alloc HT.o _|exact HT.o);kernel_rfl;(simp[Value.oneCell']);intro w9 HS9)
    have HZ:=Aa (show w9.rangeAt w.heap.size 0 [.int .i64 0,.string ⟨#[]⟩,.string ⟨#[]⟩,.string ⟨#[]⟩,.string ⟨#[]⟩,.string ⟨#[]⟩]from by rw[HS9.o];exact World.rangeAt_setCells_same _ _ _ _ (by first|exact World.there_alloc HT.o _|exact HT.o))
    refine bodyPost_ret (v:=.tuple #[.agg ([.int .i64 0,.string ⟨#[]⟩,.string ⟨#[]⟩,.string ⟨#[]⟩,.string ⟨#[]⟩,.string ⟨#[]⟩]:List Value).toArray,.bool false]) ?_ rfl ?_
    ·exact Ao results121 _ _ w.heap.size [.int .i64 0,.string ⟨#[]⟩,.string ⟨#[]⟩,.string ⟨#[]⟩,.string ⟨#[]⟩,.string ⟨#[]⟩] _ _ rfl rfl HZ.o underlying85 rfl (by kernel_rfl)
    exact Do.no (Hno.o (fun m h=>by have h':=(Hhead.o m).1 h;have:=h'.1;cases this;omega)) rfl (by rw[HS9.o];refine Ah _ (Ap _) _ _ _ ?_;first|with_reducible exact Hb.o|exact Hb.o.alloc Hb.o.size _)
   have hlt1:decide ((n:Int)<1)=false:=by rw[decide_eq_false_iff_not];omega
   have Hname:=Aa (fun W=>Jz b W (by omega))
   generalize hnb:Au b=nb at *
   have Hnb:=Aa hnb
   clear hnb
   go_wp2_with fail
   refine(Hpn.o _).mono ?_
   rintro e w3 ⟨rfl,rfl⟩
   go_wp2_with fail
   refine(Hname.o _).mono ?_
   rintro e w4 ⟨rfl,hb4⟩
   have hz4:w2.heap.size<w4.heap.size:=by have:=hb4.size;simp at this;omega
   have HT4:=Aa (show w4.there w.heap.size 0 6 from At (World.there_alloc HT.o _) (by simp;omega) hb4)
   have HR4:=Aa (show w4.rangeAt w2.heap.size 0 [.int .i64 (n:Int),.string ⟨b.toArray⟩,.string ⟨#[]⟩,.string ⟨#[]⟩,.string ⟨#[]⟩,.string ⟨vl.toArray⟩]from Ar (Ck w2 _ _) (by simp) hb4)
   have HK4:=Aa (show w4.there w2.heap.size 0 6 from At (Cw w2 [.int .i64 (n:Int),.string ⟨b.toArray⟩,.string ⟨#[]⟩,.string ⟨#[]⟩,.string ⟨#[]⟩,.string ⟨vl.toArray⟩] _) (by simp) hb4)
   have Hb4:=Aa (show Below w.heap.size w w4 from(Hb.o.alloc Hb.o.size _).trans (hb4.mono (by simp;omega)))
   clear hb4
   cases nb with
   |false=>
    go_wp2_with ((with_reducible refine Ad (op:=⟨none,.store 85 _ _,_,_,_,none⟩) rfl 85 _ _ rfl w.heap.size 0 [.int .i64 0,.string ⟨#[]⟩,.string ⟨#[]⟩,.string ⟨#[]⟩,.string ⟨#[]⟩,.string ⟨#[]⟩] ?_ ?_ ?_ ?_ ?_ ?_);rfl;rfl;(first|exact World.there_alloc HT4.o _|exact HT4.o);kernel_rfl;(simp[Value.oneCell']);intro w9 HS9)
    have HZ:=Aa (show w9.rangeAt w.heap.size 0 [.int .i64 0,.string ⟨#[]⟩,.string ⟨#[]⟩,.string ⟨#[]⟩,.string ⟨#[]⟩,.string ⟨#[]⟩]from by rw[HS9.o];exact World.rangeAt_setCells_same _ _ _ _ (by first|exact World.there_alloc HT4.o _|exact HT4.o))
    refine bodyPost_ret (v:=.tuple #[.agg ([.int .i64 0,.string ⟨#[]⟩,.string ⟨#[]⟩,.string ⟨#[]⟩,.string ⟨#[]⟩,.string ⟨#[]⟩]:List Value).toArray,.bool false]) ?_ rfl ?_
    ·exact Ao results121 _ _ w.heap.size [.int .i64 0,.string ⟨#[]⟩,.string ⟨#[]⟩,.string ⟨#[]⟩,.string ⟨#[]⟩,.string ⟨#[]⟩] _ _ rfl rfl HZ.o underlying85 rfl (by kernel_rfl)
    exact Do.no (Hno.o (fun m h=>by have:=((Hhead.o m).1 h).2.2.2;cases this)) rfl (by rw[HS9.o];refine Ah _ (Ap _) _ _ _ ?_;first|with_reducible exact Hb4.o|exact Hb4.o.alloc Hb4.o.size _)
   |true=>
    have Hok:=Aa (show My a b n from(Hhead.o n).2 ⟨rfl,h0,h200,rfl⟩)
    have HF2:=Aa (HF.o.trans (show Kw st [a,b] vl td=if td=true then none else some ⟨n,b,Kd.nil,vl⟩from by rw[Hst0.o];exact Qgh Hok.o))
    clear Hno Hhead HF
    have n82:((st.toNat:Int) != 82)=true:=Ng (c:=st) (d:=82) (by rw[Hst0.o];decide)
    cases td with
    |true=>
     go_wp2_with ((with_reducible refine Ad (op:=⟨none,.store 85 _ _,_,_,_,none⟩) rfl 85 _ _ rfl w.heap.size 0 [.int .i64 0,.string ⟨#[]⟩,.string ⟨#[]⟩,.string ⟨#[]⟩,.string ⟨#[]⟩,.string ⟨#[]⟩] ?_ ?_ ?_ ?_ ?_ ?_);rfl;rfl;(first|exact World.there_alloc HT4.o _|exact HT4.o);kernel_rfl;(simp[Value.oneCell']);intro w9 HS9)
     have HZ:=Aa (show w9.rangeAt w.heap.size 0 [.int .i64 0,.string ⟨#[]⟩,.string ⟨#[]⟩,.string ⟨#[]⟩,.string ⟨#[]⟩,.string ⟨#[]⟩]from by rw[HS9.o];exact World.rangeAt_setCells_same _ _ _ _ (by first|exact World.there_alloc HT4.o _|exact HT4.o))
     refine bodyPost_ret (v:=.tuple #[.agg ([.int .i64 0,.string ⟨#[]⟩,.string ⟨#[]⟩,.string ⟨#[]⟩,.string ⟨#[]⟩,.string ⟨#[]⟩]:List Value).toArray,.bool false]) ?_ rfl ?_
     ·exact Ao results121 _ _ w.heap.size [.int .i64 0,.string ⟨#[]⟩,.string ⟨#[]⟩,.string ⟨#[]⟩,.string ⟨#[]⟩,.string ⟨#[]⟩] _ _ rfl rfl HZ.o underlying85 rfl (by kernel_rfl)
     exact Do.no (HF2.o.trans (by simp)) rfl (by rw[HS9.o];refine Ah _ (Ap _) _ _ _ ?_;first|with_reducible exact Hb4.o|exact Hb4.o.alloc Hb4.o.size _)
    |false=>
     go_wp2_with (first|((with_reducible refine Ad (op:=⟨none,.store 85 _ _,_,_,_,none⟩) rfl 85 _ _ rfl w.heap.size 0 [.int .i64 (n:Int),.string ⟨b.toArray⟩,.string ⟨#[]⟩,.string ⟨#[]⟩,.string ⟨#[]⟩,.string ⟨vl.toArray⟩] ?_ ?_ ?_ ?_ ?_ ?_);rfl;rfl;(first|exact World.there_alloc HT4.o _|exact HT4.o);kernel_rfl;(simp[Value.oneCell']);intro w9 HS9)|((with_reducible refine wpList_load_mid (op:=⟨_,.load 85 _,_,_,_,none⟩) rfl 85 _ rfl w2.heap.size 0 ?_ [.int .i64 (n:Int),.string ⟨b.toArray⟩,.string ⟨#[]⟩,.string ⟨#[]⟩,.string ⟨#[]⟩,.string ⟨vl.toArray⟩] _ HR4.o underlying85 ?_ ?_ ?_);rfl;rfl;kernel_rfl))
     have HZ:=Aa (show w9.rangeAt w.heap.size 0 [.int .i64 (n:Int),.string ⟨b.toArray⟩,.string ⟨#[]⟩,.string ⟨#[]⟩,.string ⟨#[]⟩,.string ⟨vl.toArray⟩]from by rw[HS9.o];exact World.rangeAt_setCells_same _ _ _ _ (by first|exact World.there_alloc HT4.o _|exact HT4.o))
     refine bodyPost_ret (v:=.tuple #[.agg ([.int .i64 (n:Int),.string ⟨b.toArray⟩,.string ⟨#[]⟩,.string ⟨#[]⟩,.string ⟨#[]⟩,.string ⟨vl.toArray⟩]:List Value).toArray,.bool true]) ?_ rfl ?_
     ·exact Ao results121 _ _ w.heap.size [.int .i64 (n:Int),.string ⟨b.toArray⟩,.string ⟨#[]⟩,.string ⟨#[]⟩,.string ⟨#[]⟩,.string ⟨vl.toArray⟩] _ _ rfl rfl HZ.o underlying85 rfl (by kernel_rfl)
     exact Do.yes (HF2.o.trans (if_neg (fun h=>by cases h))) rfl (by rw[HS9.o];refine Ah _ (Ap _) _ _ _ ?_;first|with_reducible exact Hb4.o|exact Hb4.o.alloc Hb4.o.size _)
 have Hno:=Aa (HF.o.trans (S4 (vl:=vl) (td:=td) (st:=st) (ps:=ps) (by rw[if_pos Hst0.o];exact hlen)))
 have hl1:¬(ps.length:Int)=2:=by omega
 have hl2:((ps.length:Int) != 2)=true:=by rw[bne_iff_ne];exact hl1
 clear HF Hpl Hcells
 go_wp2_with ((with_reducible refine Ad (op:=⟨none,.store 85 _ _,_,_,_,none⟩) rfl 85 _ _ rfl w.heap.size 0 [.int .i64 0,.string ⟨#[]⟩,.string ⟨#[]⟩,.string ⟨#[]⟩,.string ⟨#[]⟩,.string ⟨#[]⟩] ?_ ?_ ?_ ?_ ?_ ?_);rfl;rfl;(first|exact World.there_alloc HT.o _|exact HT.o);kernel_rfl;(simp[Value.oneCell']);intro w9 HS9)
 have HZ:=Aa (show w9.rangeAt w.heap.size 0 [.int .i64 0,.string ⟨#[]⟩,.string ⟨#[]⟩,.string ⟨#[]⟩,.string ⟨#[]⟩,.string ⟨#[]⟩]from by rw[HS9.o];exact World.rangeAt_setCells_same _ _ _ _ (by first|exact World.there_alloc HT.o _|exact HT.o))
 refine bodyPost_ret (v:=.tuple #[.agg ([.int .i64 0,.string ⟨#[]⟩,.string ⟨#[]⟩,.string ⟨#[]⟩,.string ⟨#[]⟩,.string ⟨#[]⟩]:List Value).toArray,.bool false]) ?_ rfl ?_
 ·exact Ao results121 _ _ w.heap.size [.int .i64 0,.string ⟨#[]⟩,.string ⟨#[]⟩,.string ⟨#[]⟩,.string ⟨#[]⟩,.string ⟨#[]⟩] _ _ rfl rfl HZ.o underlying85 rfl (by kernel_rfl)
 exact Do.no Hno.o rfl (by rw[HS9.o];refine Ah _ (Ap _) _ _ _ ?_;first|with_reducible exact Hb.o|exact Hb.o.alloc Hb.o.size _)
theorem Qfb(st:UInt8)(hst:st≠69)(s:List UInt8)(w:World)(hs:s.length<=4000000):
  Calls prog 121 #[.string ⟨s.toArray⟩,.int .u8 (st.toNat:Int)] w (Do (Gk st s) w):=by
 have HF:=Aa (Vu st s)
 have Hcut:=Aa (fun W=>Qh s 61 W (by omega))
 have hcl:=(J1 61 s).1
 have hvl:=(J1 61 s).2
 generalize Cs 61 s=r at HF Hcut hcl hvl
 obtain⟨hd,vl,td⟩:=r
 simp only at hcl hvl HF
 have Hsp:=Aa (fun W=>Q9 hd 58 W (by omega))
 have hne:=Dy 58 hd
 have Hpl:=Aa (Aj 58 hd)
 generalize Af 58 hd=ps at HF Hsp hne Hpl
 have e69:((st.toNat:Int) == 69)=false:=An hst
 have n69:((st.toNat:Int) != 69)=true:=Ng hst
 have Hst0:=Aa hst
 clear hst
 go_enter func121,ntmps121
 go_wp2_with fail
 refine(Hcut.o _).mono ?_
 rintro e w1 ⟨rfl,k1,rfl⟩
 unfold Zo
 go_wp2_with fail
 refine(Hsp.o _).mono ?_
 rintro e w2 ⟨v,rfl,ho,hb⟩
 obtain⟨g,c,rfl,hg1,hg2,hcells⟩:=Ma ho hne
 have hzz:w.heap.size<w2.heap.size:=by have:=hb.size;simp at this;omega
 have HT:=Aa (show w2.there w.heap.size 0 6 from At (Rj (Cw w [.int .i64 0,.string ⟨#[]⟩,.string ⟨#[]⟩,.string ⟨#[]⟩,.string ⟨#[]⟩,.string ⟨#[]⟩] 85) k1) (by simp) hb)
 have Hb:=Aa (show Below w.heap.size w w2 from(below_drewN ((As w.heap.size w).alloc (Ap _) _) k1).trans (hb.mono (by simp)))
 have Hcells:=Aa hcells
 clear hb ho hcells hne
 by_cases hlen:ps.length=3
 ·obtain⟨a,b,d,rfl⟩:=Qip hlen
  have c0:=Hcells.o 0 (by simp)
  have c1:=Hcells.o 1 (by simp)
  have c2:=Hcells.o 2 (by simp)
  simp at c0 c1 c2
  have la:a.length<=4000000:=by have:=Hpl.o a (by simp);omega
  have lb:b.length<=4000000:=by have:=Hpl.o b (by simp);omega
  have ld:d.length<=4000000:=by have:=Hpl.o d (by simp);omega
  clear Hpl Hcells hlen
  have hpn:=fun W=>(show Calls prog 130 #[.string ⟨a.toArray⟩,.int .i64 200] W fun e w'=>e=.returned (pnV a 200)/\W=w' from Gh a 200 W (by omega) (by decide))
  have Hhead:=Aa (show ∀n,My a b n↔Cf a=some n/\1<=n/\n<=200/\Au b=true from fun n=>Iff.rfl)
  have Hno:=Aa (fun(h:∀n,¬My a b n)=>HF.o.trans (Ru h))
  generalize hda:Cf a=od at *
  have Hda:=Aa hda
  clear hda
  cases od with
  |none=>
   have Hpn:=Aa (fun W=>(Po (m:=200) Hda.o) ▸ hpn W)
   clear hpn
   go_wp2_with fail
   refine(Hpn.o _).mono ?_
   rintro e w3 ⟨rfl,rfl⟩
   go_wp2_with ((with_reducible refine Ad (op:=⟨none,.store 85 _ _,_,_,_,none⟩) rfl 85 _ _ rfl w.heap.size 0 [.int .i64 0,.string ⟨#[]⟩,.string ⟨#[]⟩,.string ⟨#[]⟩,.string ⟨#[]⟩,.string ⟨#[]⟩] ?_ ?_ ?_ ?_ ?_ ?_);rfl;rfl;(first|exact World.there_alloc HT.o _|exact HT.o);kernel_rfl;(simp[Value.oneCell']);intro w9 HS9)
   have HZ:=Aa (show w9.rangeAt w.heap.size 0 [.int .i64 0,.string ⟨#[]⟩,.string ⟨#[]⟩,.string ⟨#[]⟩,.string ⟨#[]⟩,.string ⟨#[]⟩]from by rw[HS9.o];exact World.rangeAt_setCells_same _ _ _ _ (by first|exact World.there_alloc HT.o _|exact HT.o))
   refine bodyPost_ret (v:=.tuple #[.agg ([.int .i64 0,.string ⟨#[]⟩,.string ⟨#[]⟩,.string ⟨#[]⟩,.string ⟨#[]⟩,.string ⟨#[]⟩]:List Value).toArray,.bool false]) ?_ rfl ?_
   ·exact Ao results121 _ _ w.heap.size [.int .i64 0,.string ⟨#[]⟩,.string ⟨#[]⟩,.string ⟨#[]⟩,.string ⟨#[]⟩,.string ⟨#[]⟩] _ _ rfl rfl HZ.o underlying85 rfl (by kernel_rfl)
   exact Do.no (Hno.o (fun n h=>by have:=((Hhead.o n).1 h).1;cases this)) rfl (by rw[HS9.o];refine Ah _ (Ap _) _ _ _ ?_;first|with_reducible exact Hb.o|exact Hb.o.alloc Hb.o.size _)
  |some n=>
   have Hpn:=Aa (fun W=>(Sn (m:=200) Hda.o) ▸ hpn W)
   clear hpn
   have hn9:n<=999999:=(Bx.1 Hda.o).1
   rcases Nat.lt_or_ge 200 n with h200|h200
   ·have Hdec:=Aa (show decide (n<=200)=false by simp;omega)
    rw[Hdec.o]at Hpn
    go_wp2_with fail
    refine(Hpn.o _).mono ?_
    rintro e w3 ⟨rfl,rfl⟩
    go_wp2_with ((with_reducible refine Ad (op:=⟨none,.store 85 _ _,_,_,_,none⟩) rfl 85 _ _ rfl w.heap.size 0 [.int .i64 0,.string ⟨#[]⟩,.string ⟨#[]⟩,.string ⟨#[]⟩,.string ⟨#[]⟩,.string ⟨#[]⟩] ?_ ?_ ?_ ?_ ?_ ?_);rfl;rfl;(first|exact World.there_alloc HT.o _|exact HT.o);kernel_rfl;(simp[Value.oneCell']);intro w9 HS9)
    have HZ:=Aa (show w9.rangeAt w.heap.size 0 [.int .i64 0,.string ⟨#[]⟩,.string ⟨#[]⟩,.string ⟨#[]⟩,.string ⟨#[]⟩,.string ⟨#[]⟩]from by rw[HS9.o];exact World.rangeAt_setCells_same _ _ _ _ (by first|exact World.there_alloc HT.o _|exact HT.o))
    refine bodyPost_ret (v:=.tuple #[.agg ([.int .i64 0,.string ⟨#[]⟩,.string ⟨#[]⟩,.string ⟨#[]⟩,.string ⟨#[]⟩,.string ⟨#[]⟩]:List Value).toArray,.bool false]) ?_ rfl ?_
    ·exact Ao results121 _ _ w.heap.size [.int .i64 0,.string ⟨#[]⟩,.string ⟨#[]⟩,.string ⟨#[]⟩,.string ⟨#[]⟩,.string ⟨#[]⟩] _ _ rfl rfl HZ.o underlying85 rfl (by kernel_rfl)
    exact Do.no (Hno.o (fun m h=>by have h':=(Hhead.o m).1 h;have:=h'.1;cases this;omega)) rfl (by rw[HS9.o];refine Ah _ (Ap _) _ _ _ ?_;first|with_reducible exact Hb.o|exact Hb.o.alloc Hb.o.size _)
   have Hdec:=Aa (show decide (n<=200)=true by simp;omega)
   rw[Hdec.o]at Hpn
   rcases Nat.eq_zero_or_pos n with h0|h0
   ·subst h0
    go_wp2_with fail
    refine(Hpn.o _).mono ?_
    rintro e w3 ⟨rfl,rfl⟩
    go_wp2_with ((with_reducible refine Ad (op:=⟨none,.store 85 _ _,_,_,_,none⟩) rfl 85 _ _ rfl w.heap.size 0 [.int .i64 0,.string ⟨#[]⟩,.string ⟨#[]⟩,.string ⟨#[]⟩,.string ⟨#[]⟩,.string ⟨#[]⟩] ?_ ?_ ?_ ?_ ?_ ?_);rfl;rfl;(first|exact World.there_alloc HT.o _|exact HT.o);kernel_rfl;(simp[Value.oneCell']);intro w9 HS9)
    have HZ:=Aa (show w9.rangeAt w.heap.size 0 [.int .i64 0,.string ⟨#[]⟩,.string ⟨#[]⟩,.string ⟨#[]⟩,.string ⟨#[]⟩,.string ⟨#[]⟩]from by rw[HS9.o];exact World.rangeAt_setCells_same _ _ _ _ (by first|exact World.there_alloc HT.o _|exact HT.o))
    refine bodyPost_ret (v:=.tuple #[.agg ([.int .i64 0,.string ⟨#[]⟩,.string ⟨#[]⟩,.string ⟨#[]⟩,.string ⟨#[]⟩,.string ⟨#[]⟩]:List Value).toArray,.bool false]) ?_ rfl ?_
    ·exact Ao results121 _ _ w.heap.size [.int .i64 0,.string ⟨#[]⟩,.string ⟨#[]⟩,.string ⟨#[]⟩,.string ⟨#[]⟩,.string ⟨#[]⟩] _ _ rfl rfl HZ.o underlying85 rfl (by kernel_rfl)
    exact Do.no (Hno.o (fun m h=>by have h':=(Hhead.o m).1 h;have:=h'.1;cases this;omega)) rfl (by rw[HS9.o];refine Ah _ (Ap _) _ _ _ ?_;first|with_reducible exact Hb.o|exact Hb.o.alloc Hb.o.size _)
   have hlt1:decide ((n:Int)<1)=false:=by rw[decide_eq_false_iff_not];omega
   have Hname:=Aa (fun W=>Jz b W (by omega))
   generalize hnb:Au b=nb at *
   have Hnb:=Aa hnb
   clear hnb
   go_wp2_with fail
   refine(Hpn.o _).mono ?_
   rintro e w3 ⟨rfl,rfl⟩
   go_wp2_with fail
   refine(Hname.o _).mono ?_
   rintro e w4 ⟨rfl,hb4⟩
   have hz4:w2.heap.size<w4.heap.size:=by have:=hb4.size;simp at this;omega
   have HT4:=Aa (show w4.there w.heap.size 0 6 from At (World.there_alloc HT.o _) (by simp;omega) hb4)
   have HR4:=Aa (show w4.rangeAt w2.heap.size 0 [.int .i64 (n:Int),.string ⟨b.toArray⟩,.string ⟨#[]⟩,.string ⟨#[]⟩,.string ⟨#[]⟩,.string ⟨vl.toArray⟩]from Ar (Ck w2 _ _) (by simp) hb4)
   have HK4:=Aa (show w4.there w2.heap.size 0 6 from At (Cw w2 [.int .i64 (n:Int),.string ⟨b.toArray⟩,.string ⟨#[]⟩,.string ⟨#[]⟩,.string ⟨#[]⟩,.string ⟨vl.toArray⟩] _) (by simp) hb4)
   have Hb4:=Aa (show Below w.heap.size w w4 from(Hb.o.alloc Hb.o.size _).trans (hb4.mono (by simp;omega)))
   have c2x:w4.cell? ⟨g,2,none⟩=some (.string ⟨d.toArray⟩):=(hb4.cell (p:=⟨g,2,none⟩) (by simp;omega)).trans (by rw[World.cell?_alloc_old _ _ _ (by simp;omega)];exact c2)
   clear hb4
   cases nb with
   |false=>
    go_wp2_with ((with_reducible refine Ad (op:=⟨none,.store 85 _ _,_,_,_,none⟩) rfl 85 _ _ rfl w.heap.size 0 [.int .i64 0,.string ⟨#[]⟩,.string ⟨#[]⟩,.string ⟨#[]⟩,.string ⟨#[]⟩,.string ⟨#[]⟩] ?_ ?_ ?_ ?_ ?_ ?_);rfl;rfl;(first|exact World.there_alloc HT4.o _|exact HT4.o);kernel_rfl;(simp[Value.oneCell']);intro w9 HS9)
    have HZ:=Aa (show w9.rangeAt w.heap.size 0 [.int .i64 0,.string ⟨#[]⟩,.string ⟨#[]⟩,.string ⟨#[]⟩,.string ⟨#[]⟩,.string ⟨#[]⟩]from by rw[HS9.o];exact World.rangeAt_setCells_same _ _ _ _ (by first|exact World.there_alloc HT4.o _|exact HT4.o))
    refine bodyPost_ret (v:=.tuple #[.agg ([.int .i64 0,.string ⟨#[]⟩,.string ⟨#[]⟩,.string ⟨#[]⟩,.string ⟨#[]⟩,.string ⟨#[]⟩]:List Value).toArray,.bool false]) ?_ rfl ?_
    ·exact Ao results121 _ _ w.heap.size [.int .i64 0,.string ⟨#[]⟩,.string ⟨#[]⟩,.string ⟨#[]⟩,.string ⟨#[]⟩,.string ⟨#[]⟩] _ _ rfl rfl HZ.o underlying85 rfl (by kernel_rfl)
    exact Do.no (Hno.o (fun m h=>by have:=((Hhead.o m).1 h).2.2.2;cases this)) rfl (by rw[HS9.o];refine Ah _ (Ap _) _ _ _ ?_;first|with_reducible exact Hb4.o|exact Hb4.o.alloc Hb4.o.size _)
   |true=>
    have Hok:=Aa (show My a b n from(Hhead.o n).2 ⟨rfl,h0,h200,rfl⟩)
    have HF2:=Aa (HF.o.trans (Qfh (c:=d) (vl:=vl) (td:=td) Hst0.o Hok.o))
    clear Hno Hhead HF
    have Hkd:=Aa (fun W=>Qd d W ld)
    have Hkok:=Aa (fun k (h:Cg d=some k)=>(Ee.1 h).1)
    generalize Cg d=ok at HF2 Hkd Hkok
    go_wp2_with fail
    refine(Hkd.o _).mono ?_
    rintro e w5 ⟨hcase,hb5⟩
    have HT5:=Aa (show w5.there w.heap.size 0 6 from At HT4.o (by omega) hb5)
    have HR5:=Aa (show w5.rangeAt w2.heap.size 0 _ from Ar HR4.o hz4 hb5)
    have HK5:=Aa (show w5.there w2.heap.size 0 6 from At HK4.o hz4 hb5)
    have Hb5:=Aa (Hb4.o.trans (hb5.mono Hb4.o.size))
    have hz5:w2.heap.size<w5.heap.size:=Nat.lt_of_lt_of_le hz4 hb5.size
    clear hb5
    cases ok with
    |none=>
     obtain⟨a1,a2,a3,rfl⟩:=hcase
     go_wp2_with (first|((with_reducible refine Ad (op:=⟨none,.store 39 _ _,_,_,_,none⟩) rfl 39 _ _ rfl w2.heap.size 2 [.string a1,.string a2,.string a3] ?_ ?_ ?_ ?_ ?_ ?_);rfl;rfl;(exact Mj HK5.o 2 3 (by decide) (by decide));kernel_rfl;(simp[Value.oneCell']);intro w6 HS6;have HT6:=Aa (show w6.there w.heap.size 0 6 from HS6.o ▸ World.there_setCells HT5.o _ _ _);have HR6:=Aa (show w6.rangeAt w2.heap.size 0 [.int .i64 (n:Int),.string ⟨b.toArray⟩,.string a1,.string a2,.string a3,.string ⟨vl.toArray⟩]from HS6.o ▸ Ct [.int .i64 (n:Int),.string ⟨b.toArray⟩] [.string ⟨#[]⟩,.string ⟨#[]⟩,.string ⟨#[]⟩] [.string ⟨vl.toArray⟩] [.string a1,.string a2,.string a3] HR5.o rfl);have Hb6:=Aa (show Below w.heap.size w w6 from HS6.o ▸ Ah _ (Nat.le_of_lt hzz) _ _ _ Hb5.o);have hz6:w2.heap.size<w6.heap.size:=(by rw[HS6.o,Cy];exact hz5);have z2:w6.cell? ⟨w2.heap.size,2,none⟩=some (.string a1):=(by simpa using Ac HR6.o 2 rfl);have z3:w6.cell? ⟨w2.heap.size,3,none⟩=some (.string a2):=(by simpa using Ac HR6.o 3 rfl);clear HT5 HR5 HK5 HS6)|((with_reducible refine Ad (op:=⟨none,.store 85 _ _,_,_,_,none⟩) rfl 85 _ _ rfl w.heap.size 0 [.int .i64 0,.string ⟨#[]⟩,.string ⟨#[]⟩,.string ⟨#[]⟩,.string ⟨#[]⟩,.string ⟨#[]⟩] ?_ ?_ ?_ ?_ ?_ ?_);rfl;rfl;(first|exact World.there_alloc HT6.o _|exact HT6.o);kernel_rfl;(simp[Value.oneCell']);intro w9 HS9))
     have HZ:=Aa (show w9.rangeAt w.heap.size 0 [.int .i64 0,.string ⟨#[]⟩,.string ⟨#[]⟩,.string ⟨#[]⟩,.string ⟨#[]⟩,.string ⟨#[]⟩]from by rw[HS9.o];exact World.rangeAt_setCells_same _ _ _ _ (by first|exact World.there_alloc HT6.o _|exact HT6.o))
     refine bodyPost_ret (v:=.tuple #[.agg ([.int .i64 0,.string ⟨#[]⟩,.string ⟨#[]⟩,.string ⟨#[]⟩,.string ⟨#[]⟩,.string ⟨#[]⟩]:List Value).toArray,.bool false]) ?_ rfl ?_
     ·exact Ao results121 _ _ w.heap.size [.int .i64 0,.string ⟨#[]⟩,.string ⟨#[]⟩,.string ⟨#[]⟩,.string ⟨#[]⟩,.string ⟨#[]⟩] _ _ rfl rfl HZ.o underlying85 rfl (by kernel_rfl)
     exact Do.no HF2.o rfl (by rw[HS9.o];refine Ah _ (Ap _) _ _ _ ?_;first|with_reducible exact Hb6.o|exact Hb6.o.alloc Hb6.o.size _)
    |some k=>
     have hcase':e=.returned (.tuple #[.agg #[.string ⟨k.signs.toArray⟩,.string ⟨k.base.toArray⟩,.string ⟨k.name.toArray⟩],.bool true]):=hcase
     subst hcase'
     clear hcase
     have Hkk:=Aa (Hkok.o k rfl)
     have HF3:=Aa (show Gk st s=if td=true/\¬(st=82/\k.signs=[]/\Bv k.base vl=true)then none else some ⟨n,b,k,vl⟩from HF2.o)
     clear HF2 Hkok
     cases td with
     |false=>
      go_wp2_with (first|((with_reducible refine Ad (op:=⟨none,.store 39 _ _,_,_,_,none⟩) rfl 39 _ _ rfl w2.heap.size 2 [.string ⟨k.signs.toArray⟩,.string ⟨k.base.toArray⟩,.string ⟨k.name.toArray⟩] ?_ ?_ ?_ ?_ ?_ ?_);rfl;rfl;(exact Mj HK5.o 2 3 (by decide) (by decide));kernel_rfl;(simp[Value.oneCell']);intro w6 HS6;have HT6:=Aa (show w6.there w.heap.size 0 6 from HS6.o ▸ World.there_setCells HT5.o _ _ _);have HR6:=Aa (show w6.rangeAt w2.heap.size 0 [.int .i64 (n:Int),.string ⟨b.toArray⟩,.string ⟨k.signs.toArray⟩,.string ⟨k.base.toArray⟩,.string ⟨k.name.toArray⟩,.string ⟨vl.toArray⟩]from HS6.o ▸ Ct [.int .i64 (n:Int),.string ⟨b.toArray⟩] [.string ⟨#[]⟩,.string ⟨#[]⟩,.string ⟨#[]⟩] [.string ⟨vl.toArray⟩] [.string ⟨k.signs.toArray⟩,.string ⟨k.base.toArray⟩,.string ⟨k.name.toArray⟩] HR5.o rfl);have Hb6:=Aa (show Below w.heap.size w w6 from HS6.o ▸ Ah _ (Nat.le_of_lt hzz) _ _ _ Hb5.o);have hz6:w2.heap.size<w6.heap.size:=(by rw[HS6.o,Cy];exact hz5);have z2:w6.cell? ⟨w2.heap.size,2,none⟩=some (.string ⟨k.signs.toArray⟩):=(by simpa using Ac HR6.o 2 rfl);have z3:w6.cell? ⟨w2.heap.size,3,none⟩=some (.string ⟨k.base.toArray⟩):=(by simpa using Ac HR6.o 3 rfl);clear HT5 HR5 HK5 HS6)|((with_reducible refine Ad (op:=⟨none,.store 85 _ _,_,_,_,none⟩) rfl 85 _ _ rfl w.heap.size 0 [.int .i64 (n:Int),.string ⟨b.toArray⟩,.string ⟨k.signs.toArray⟩,.string ⟨k.base.toArray⟩,.string ⟨k.name.toArray⟩,.string ⟨vl.toArray⟩] ?_ ?_ ?_ ?_ ?_ ?_);rfl;rfl;(first|exact World.there_alloc HT6.o _|exact HT6.o);kernel_rfl;(simp[Value.oneCell']);intro w9 HS9)|((with_reducible refine wpList_load_mid (op:=⟨_,.load 85 _,_,_,_,none⟩) rfl 85 _ rfl w2.heap.size 0 ?_ [.int .i64 (n:Int),.string ⟨b.toArray⟩,.string ⟨k.signs.toArray⟩,.string ⟨k.base.toArray⟩,.string ⟨k.name.toArray⟩,.string ⟨vl.toArray⟩] _ HR6.o underlying85 ?_ ?_ ?_);rfl;rfl;kernel_rfl))
      have HZ:=Aa (show w9.rangeAt w.heap.size 0 [.int .i64 (n:Int),.string ⟨b.toArray⟩,.string ⟨k.signs.toArray⟩,.string ⟨k.base.toArray⟩,.string ⟨k.name.toArray⟩,.string ⟨vl.toArray⟩]from by rw[HS9.o];exact World.rangeAt_setCells_same _ _ _ _ (by first|exact World.there_alloc HT6.o _|exact HT6.o))
      refine bodyPost_ret (v:=.tuple #[.agg ([.int .i64 (n:Int),.string ⟨b.toArray⟩,.string ⟨k.signs.toArray⟩,.string ⟨k.base.toArray⟩,.string ⟨k.name.toArray⟩,.string ⟨vl.toArray⟩]:List Value).toArray,.bool true]) ?_ rfl ?_
      ·exact Ao results121 _ _ w.heap.size [.int .i64 (n:Int),.string ⟨b.toArray⟩,.string ⟨k.signs.toArray⟩,.string ⟨k.base.toArray⟩,.string ⟨k.name.toArray⟩,.string ⟨vl.toArray⟩] _ _ rfl rfl HZ.o underlying85 rfl (by kernel_rfl)
      exact Do.yes (HF3.o.trans (if_neg (by simp))) rfl (by rw[HS9.o];refine Ah _ (Ap _) _ _ _ ?_;first|with_reducible exact Hb6.o|exact Hb6.o.alloc Hb6.o.size _)
     |true=>
      rcases Decidable.em (st=82)with h82|h82
      ·have n82:((st.toNat:Int) != 82)=false:=Kn (c:=st) (d:=82) h82
       rcases Decidable.em (k.signs=[])with hsg|hsg
       ·have hsg1:(k.signs != [])=false:=by simp[hsg]
        have hsg2:k.signs.isEmpty=true:=by simp[hsg]
        have hsg3:(!k.signs.isEmpty)=false:=by simp[hsg]
        have hbl:=Qce Hkk.o.2.1
        have Hst:=Aa (fun W=>Xz k.base vl W hbl (by omega))
        have Hst2:=Aa (show Gk st s=if Bv k.base vl=true then some ⟨n,b,k,vl⟩else none from by
         rw[HF3.o]
         by_cases hh:Bv k.base vl=true
         ·rw[if_neg (by simp[h82,hsg,hh]),if_pos hh]
         rw[if_pos (by simp[hh]),if_neg hh])
        generalize Bv k.base vl=sb at Hst Hst2
        clear hsg h82 hbl
        go_wp2_with ((with_reducible refine Ad (op:=⟨none,.store 39 _ _,_,_,_,none⟩) rfl 39 _ _ rfl w2.heap.size 2 [.string ⟨k.signs.toArray⟩,.string ⟨k.base.toArray⟩,.string ⟨k.name.toArray⟩] ?_ ?_ ?_ ?_ ?_ ?_);rfl;rfl;(exact Mj HK5.o 2 3 (by decide) (by decide));kernel_rfl;(simp[Value.oneCell']);intro w6 HS6;have HT6:=Aa (show w6.there w.heap.size 0 6 from HS6.o ▸ World.there_setCells HT5.o _ _ _);have HR6:=Aa (show w6.rangeAt w2.heap.size 0 [.int .i64 (n:Int),.string ⟨b.toArray⟩,.string ⟨k.signs.toArray⟩,.string ⟨k.base.toArray⟩,.string ⟨k.name.toArray⟩,.string ⟨vl.toArray⟩]from HS6.o ▸ Ct [.int .i64 (n:Int),.string ⟨b.toArray⟩] [.string ⟨#[]⟩,.string ⟨#[]⟩,.string ⟨#[]⟩] [.string ⟨vl.toArray⟩] [.string ⟨k.signs.toArray⟩,.string ⟨k.base.toArray⟩,.string ⟨k.name.toArray⟩] HR5.o rfl);have Hb6:=Aa (show Below w.heap.size w w6 from HS6.o ▸ Ah _ (Nat.le_of_lt hzz) _ _ _ Hb5.o);have hz6:w2.heap.size<w6.heap.size:=(by rw[HS6.o,Cy];exact hz5);have z2:w6.cell? ⟨w2.heap.size,2,none⟩=some (.string ⟨k.signs.toArray⟩):=(by simpa using Ac HR6.o 2 rfl);have z3:w6.cell? ⟨w2.heap.size,3,none⟩=some (.string ⟨k.base.toArray⟩):=(by simpa using Ac HR6.o 3 rfl);clear HT5 HR5 HK5 HS6)
        refine(Hst.o _).mono ?_
        rintro e w7 ⟨rfl,hb7⟩
        have HT7:=Aa (show w7.there w.heap.size 0 6 from At HT6.o (by omega) hb7)
        have HR7:=Aa (show w7.rangeAt w2.heap.size 0 _ from Ar HR6.o hz6 hb7)
        have Hb7:=Aa (Hb6.o.trans (hb7.mono Hb6.o.size))
        clear hb7 z2 z3
        cases sb with
        |true=>
         go_wp2_with (first|((with_reducible refine Ad (op:=⟨none,.store 85 _ _,_,_,_,none⟩) rfl 85 _ _ rfl w.heap.size 0 [.int .i64 (n:Int),.string ⟨b.toArray⟩,.string ⟨k.signs.toArray⟩,.string ⟨k.base.toArray⟩,.string ⟨k.name.toArray⟩,.string ⟨vl.toArray⟩] ?_ ?_ ?_ ?_ ?_ ?_);rfl;rfl;(first|exact World.there_alloc HT7.o _|exact HT7.o);kernel_rfl;(simp[Value.oneCell']);intro w9 HS9)|((with_reducible refine wpList_load_mid (op:=⟨_,.load 85 _,_,_,_,none⟩) rfl 85 _ rfl w2.heap.size 0 ?_ [.int .i64 (n:Int),.string ⟨b.toArray⟩,.string ⟨k.signs.toArray⟩,.string ⟨k.base.toArray⟩,.string ⟨k.name.toArray⟩,.string ⟨vl.toArray⟩] _ HR7.o underlying85 ?_ ?_ ?_);rfl;rfl;kernel_rfl))
         have HZ:=Aa (show w9.rangeAt w.heap.size 0 [.int .i64 (n:Int),.string ⟨b.toArray⟩,.string ⟨k.signs.toArray⟩,.string ⟨k.base.toArray⟩,.string ⟨k.name.toArray⟩,.string ⟨vl.toArray⟩]from by rw[HS9.o];exact World.rangeAt_setCells_same _ _ _ _ (by first|exact World.there_alloc HT7.o _|exact HT7.o))
         refine bodyPost_ret (v:=.tuple #[.agg ([.int .i64 (n:Int),.string ⟨b.toArray⟩,.string ⟨k.signs.toArray⟩,.string ⟨k.base.toArray⟩,.string ⟨k.name.toArray⟩,.string ⟨vl.toArray⟩]:List Value).toArray,.bool true]) ?_ rfl ?_
         ·exact Ao results121 _ _ w.heap.size [.int .i64 (n:Int),.string ⟨b.toArray⟩,.string ⟨k.signs.toArray⟩,.string ⟨k.base.toArray⟩,.string ⟨k.name.toArray⟩,.string ⟨vl.toArray⟩] _ _ rfl rfl HZ.o underlying85 rfl (by kernel_rfl)
         exact Do.yes (Hst2.o.trans (if_pos (by simp))) rfl (by rw[HS9.o];refine Ah _ (Ap _) _ _ _ ?_;first|with_reducible exact Hb7.o|exact Hb7.o.alloc Hb7.o.size _)
        |false=>
         go_wp2_with ((with_reducible refine Ad (op:=⟨none,.store 85 _ _,_,_,_,none⟩) rfl 85 _ _ rfl w.heap.size 0 [.int .i64 0,.string ⟨#[]⟩,.string ⟨#[]⟩,.string ⟨#[]⟩,.string ⟨#[]⟩,.string ⟨#[]⟩] ?_ ?_ ?_ ?_ ?_ ?_);rfl;rfl;(first|exact World.there_alloc HT7.o _|exact HT7.o);kernel_rfl;(simp[Value.oneCell']);intro w9 HS9)
         have HZ:=Aa (show w9.rangeAt w.heap.size 0 [.int .i64 0,.string ⟨#[]⟩,.string ⟨#[]⟩,.string ⟨#[]⟩,.string ⟨#[]⟩,.string ⟨#[]⟩]from by rw[HS9.o];exact World.rangeAt_setCells_same _ _ _ _ (by first|exact World.there_alloc HT7.o _|exact HT7.o))
         refine bodyPost_ret (v:=.tuple #[.agg ([.int .i64 0,.string ⟨#[]⟩,.string ⟨#[]⟩,.string ⟨#[]⟩,.string ⟨#[]⟩,.string ⟨#[]⟩]:List Value).toArray,.bool false]) ?_ rfl ?_
         ·exact Ao results121 _ _ w.heap.size [.int .i64 0,.string ⟨#[]⟩,.string ⟨#[]⟩,.string ⟨#[]⟩,.string ⟨#[]⟩,.string ⟨#[]⟩] _ _ rfl rfl HZ.o underlying85 rfl (by kernel_rfl)
         exact Do.no (Hst2.o.trans (if_neg (by decide))) rfl (by rw[HS9.o];refine Ah _ (Ap _) _ _ _ ?_;first|with_reducible exact Hb7.o|exact Hb7.o.alloc Hb7.o.size _)
       have hsg1:(k.signs != [])=true:=by simp[hsg]
       have hsg2:k.signs.isEmpty=false:=by simp[hsg]
       have hsg3:(!k.signs.isEmpty)=true:=by simp[hsg]
       have Hw:=Aa (HF3.o.trans (if_pos ⟨rfl,fun h=>hsg h.2.1⟩))
       clear hsg h82
       go_wp2_with (first|((with_reducible refine Ad (op:=⟨none,.store 39 _ _,_,_,_,none⟩) rfl 39 _ _ rfl w2.heap.size 2 [.string ⟨k.signs.toArray⟩,.string ⟨k.base.toArray⟩,.string ⟨k.name.toArray⟩] ?_ ?_ ?_ ?_ ?_ ?_);rfl;rfl;(exact Mj HK5.o 2 3 (by decide) (by decide));kernel_rfl;(simp[Value.oneCell']);intro w6 HS6;have HT6:=Aa (show w6.there w.heap.size 0 6 from HS6.o ▸ World.there_setCells HT5.o _ _ _);have HR6:=Aa (show w6.rangeAt w2.heap.size 0 [.int .i64 (n:Int),.string ⟨b.toArray⟩,.string ⟨k.signs.toArray⟩,.string ⟨k.base.toArray⟩,.string ⟨k.name.toArray⟩,.string ⟨vl.toArray⟩]from HS6.o ▸ Ct [.int .i64 (n:Int),.string ⟨b.toArray⟩] [.string ⟨#[]⟩,.string ⟨#[]⟩,.string ⟨#[]⟩] [.string ⟨vl.toArray⟩] [.string ⟨k.signs.toArray⟩,.string ⟨k.base.toArray⟩,.string ⟨k.name.toArray⟩] HR5.o rfl);have Hb6:=Aa (show Below w.heap.size w w6 from HS6.o ▸ Ah _ (Nat.le_of_lt hzz) _ _ _ Hb5.o);have hz6:w2.heap.size<w6.heap.size:=(by rw[HS6.o,Cy];exact hz5);have z2:w6.cell? ⟨w2.heap.size,2,none⟩=some (.string ⟨k.signs.toArray⟩):=(by simpa using Ac HR6.o 2 rfl);have z3:w6.cell? ⟨w2.heap.size,3,none⟩=some (.string ⟨k.base.toArray⟩):=(by simpa using Ac HR6.o 3 rfl);clear HT5 HR5 HK5 HS6)|((with_reducible refine Ad (op:=⟨none,.store 85 _ _,_,_,_,none⟩) rfl 85 _ _ rfl w.heap.size 0 [.int .i64 0,.string ⟨#[]⟩,.string ⟨#[]⟩,.string ⟨#[]⟩,.string ⟨#[]⟩,.string ⟨#[]⟩] ?_ ?_ ?_ ?_ ?_ ?_);rfl;rfl;(first|exact World.there_alloc HT6.o _|exact HT6.o);kernel_rfl;(simp[Value.oneCell']);intro w9 HS9))
       have HZ:=Aa (show w9.rangeAt w.heap.size 0 [.int .i64 0,.string ⟨#[]⟩,.string ⟨#[]⟩,.string ⟨#[]⟩,.string ⟨#[]⟩,.string ⟨#[]⟩]from by rw[HS9.o];exact World.rangeAt_setCells_same _ _ _ _ (by first|exact World.there_alloc HT6.o _|exact HT6.o))
       refine bodyPost_ret (v:=.tuple #[.agg ([.int .i64 0,.string ⟨#[]⟩,.string ⟨#[]⟩,.string ⟨#[]⟩,.string ⟨#[]⟩,.string ⟨#[]⟩]:List Value).toArray,.bool false]) ?_ rfl ?_
       ·exact Ao results121 _ _ w.heap.size [.int .i64 0,.string ⟨#[]⟩,.string ⟨#[]⟩,.string ⟨#[]⟩,.string ⟨#[]⟩,.string ⟨#[]⟩] _ _ rfl rfl HZ.o underlying85 rfl (by kernel_rfl)
       exact Do.no Hw.o rfl (by rw[HS9.o];refine Ah _ (Ap _) _ _ _ ?_;first|with_reducible exact Hb6.o|exact Hb6.o.alloc Hb6.o.size _)
      have n82:((st.toNat:Int) != 82)=true:=Ng (c:=st) (d:=82) h82
      have Hw:=Aa (HF3.o.trans (if_pos ⟨rfl,fun h=>h82 h.1⟩))
      clear h82
      go_wp2_with (first|((with_reducible refine Ad (op:=⟨none,.store 39 _ _,_,_,_,none⟩) rfl 39 _ _ rfl w2.heap.size 2 [.string ⟨k.signs.toArray⟩,.string ⟨k.base.toArray⟩,.string ⟨k.name.toArray⟩] ?_ ?_ ?_ ?_ ?_ ?_);rfl;rfl;(exact Mj HK5.o 2 3 (by decide) (by decide));kernel_rfl;(simp[Value.oneCell']);intro w6 HS6;have HT6:=Aa (show w6.there w.heap.size 0 6 from HS6.o ▸ World.there_setCells HT5.o _ _ _);have HR6:=Aa (show w6.rangeAt w2.heap.size 0 [.int .i64 (n:Int),.string ⟨b.toArray⟩,.string ⟨k.signs.toArray⟩,.string ⟨k.base.toArray⟩,.string ⟨k.name.toArray⟩,.string ⟨vl.toArray⟩]from HS6.o ▸ Ct [.int .i64 (n:Int),.string ⟨b.toArray⟩] [.string ⟨#[]⟩,.string ⟨#[]⟩,.string ⟨#[]⟩] [.string ⟨vl.toArray⟩] [.string ⟨k.signs.toArray⟩,.string ⟨k.base.toArray⟩,.string ⟨k.name.toArray⟩] HR5.o rfl);have Hb6:=Aa (show Below w.heap.size w w6 from HS6.o ▸ Ah _ (Nat.le_of_lt hzz) _ _ _ Hb5.o);have hz6:w2.heap.size<w6.heap.size:=(by rw[HS6.o,Cy];exact hz5);have z2:w6.cell? ⟨w2.heap.size,2,none⟩=some (.string ⟨k.signs.toArray⟩):=(by simpa using Ac HR6.o 2 rfl);have z3:w6.cell? ⟨w2.heap.size,3,none⟩=some (.string ⟨k.base.toArray⟩):=(by simpa using Ac HR6.o 3 rfl);clear HT5 HR5 HK5 HS6)|((with_reducible refine Ad (op:=⟨none,.store 85 _ _,_,_,_,none⟩) rfl 85 _ _ rfl w.heap.size 0 [.int .i64 0,.string ⟨#[]⟩,.string ⟨#[]⟩,.string ⟨#[]⟩,.string ⟨#[]⟩,.string ⟨#[]⟩] ?_ ?_ ?_ ?_ ?_ ?_);rfl;rfl;(first|exact World.there_alloc HT6.o _|exact HT6.o);kernel_rfl;(simp[Value.oneCell']);intro w9 HS9))
      have HZ:=Aa (show w9.rangeAt w.heap.size 0 [.int .i64 0,.string ⟨#[]⟩,.string ⟨#[]⟩,.string ⟨#[]⟩,.string ⟨#[]⟩,.string ⟨#[]⟩]from by rw[HS9.o];exact World.rangeAt_setCells_same _ _ _ _ (by first|exact World.there_alloc HT6.o _|exact HT6.o))
      refine bodyPost_ret (v:=.tuple #[.agg ([.int .i64 0,.string ⟨#[]⟩,.string ⟨#[]⟩,.string ⟨#[]⟩,.string ⟨#[]⟩,.string ⟨#[]⟩]:List Value).toArray,.bool false]) ?_ rfl ?_
      ·exact Ao results121 _ _ w.heap.size [.int .i64 0,.string ⟨#[]⟩,.string ⟨#[]⟩,.string ⟨#[]⟩,.string ⟨#[]⟩,.string ⟨#[]⟩] _ _ rfl rfl HZ.o underlying85 rfl (by kernel_rfl)
      exact Do.no Hw.o rfl (by rw[HS9.o];refine Ah _ (Ap _) _ _ _ ?_;first|with_reducible exact Hb6.o|exact Hb6.o.alloc Hb6.o.size _)
 have Hno:=Aa (HF.o.trans (S4 (vl:=vl) (td:=td) (st:=st) (ps:=ps) (by rw[if_neg Hst0.o];exact hlen)))
 have hl1:¬(ps.length:Int)=3:=by omega
 have hl2:((ps.length:Int) != 3)=true:=by rw[bne_iff_ne];exact hl1
 clear HF Hpl Hcells
 go_wp2_with ((with_reducible refine Ad (op:=⟨none,.store 85 _ _,_,_,_,none⟩) rfl 85 _ _ rfl w.heap.size 0 [.int .i64 0,.string ⟨#[]⟩,.string ⟨#[]⟩,.string ⟨#[]⟩,.string ⟨#[]⟩,.string ⟨#[]⟩] ?_ ?_ ?_ ?_ ?_ ?_);rfl;rfl;(first|exact World.there_alloc HT.o _|exact HT.o);kernel_rfl;(simp[Value.oneCell']);intro w9 HS9)
 have HZ:=Aa (show w9.rangeAt w.heap.size 0 [.int .i64 0,.string ⟨#[]⟩,.string ⟨#[]⟩,.string ⟨#[]⟩,.string ⟨#[]⟩,.string ⟨#[]⟩]from by rw[HS9.o];exact World.rangeAt_setCells_same _ _ _ _ (by first|exact World.there_alloc HT.o _|exact HT.o))
 refine bodyPost_ret (v:=.tuple #[.agg ([.int .i64 0,.string ⟨#[]⟩,.string ⟨#[]⟩,.string ⟨#[]⟩,.string ⟨#[]⟩,.string ⟨#[]⟩]:List Value).toArray,.bool false]) ?_ rfl ?_
 ·exact Ao results121 _ _ w.heap.size [.int .i64 0,.string ⟨#[]⟩,.string ⟨#[]⟩,.string ⟨#[]⟩,.string ⟨#[]⟩,.string ⟨#[]⟩] _ _ rfl rfl HZ.o underlying85 rfl (by kernel_rfl)
 exact Do.no Hno.o rfl (by rw[HS9.o];refine Ah _ (Ap _) _ _ _ ?_;first|with_reducible exact Hb.o|exact Hb.o.alloc Hb.o.size _)
theorem Ve(st:UInt8)(hst:Dp st)(s:List UInt8)(w:World)(hs:s.length<=4000000):
  Calls prog 121 #[.string ⟨s.toArray⟩,.int .u8 (st.toNat:Int)] w (Do (Gk st s) w):=by
 by_cases h:st=69
 ·exact Qgv st h s w hs
 exact Qfb st h s w hs
def Em(o:Option Ty)(w:World)(e:Ending)(w':World):Prop:=
 (match o with
  |some t=>∃x:PT,x.ty=t/\e=.returned (.tuple #[x.ptr,.bool true])/\w.heap.size<=x.blk/\Qv w' x/\∀k,x.fv.ownBlock=some k->w.heap.size<=k
  |none=>∃p:Option Addr,e=.returned (.tuple #[.pointer p,.bool false]))/\Below w.heap.size w w'
theorem Em.no{w w':World}{e:Ending}{o:Option Ty}(ho:o=none){p:Option Addr}(he:e=.returned (.tuple #[.pointer p,.bool false]))(hb:Below w.heap.size w w'):Em o w e w':=by
 rw[ho];exact⟨⟨p,he⟩,hb⟩
theorem Em.yes{w w':World}{e:Ending}{o:Option Ty}{t:Ty}(ho:o=some t){b:Nat}{fv:Value}(he:e=.returned (.tuple #[.pointer (some ⟨b,0,none⟩),.bool true]))(hwb:w.heap.size<=b)(ht:Qv w' ⟨t,b,fv⟩)(hf:∀k,fv.ownBlock=some k->w.heap.size<=k)(hb:Below w.heap.size w w'):Em o w e w':=by
 rw[ho];exact⟨⟨⟨t,b,fv⟩,rfl,he,hwb,ht,hf⟩,hb⟩
theorem Tg(c:UInt8):decide (c∈([82,85,69]:List UInt8))=decide (Dp c):=by
 rw[decide_eq_decide];unfold Dp;simp
theorem Qen(w:World):Calls prog 90 #[.string ⟨#[]⟩] w (Em (D7 []) w):=by
 go_enter func90,ntmps90
 go_wp2_with fail
 go_ret2
 exact Em.no rfl rfl (As _ _)
theorem Qb9(c:UInt8)(r:List UInt8)(w:World)(hs:r.length<=3999999)(hc:¬Dp c):Calls prog 90 #[.string ⟨(c::r).toArray⟩] w (Em (D7 (c::r)) w):=by
 have HF:=Aa (show D7 (c::r)=none by unfold D7;simp only;rw[if_pos (.inl hc)])
 have Hc:=Aa (fun W=>(show Calls prog 119 #[.string ⟨#[82,85,69]⟩,.string ⟨#[c]⟩] W fun e w'=>e=.returned (.bool false)/\W=w' from by
  have:=Mx [82,85,69] c W
  rw[Tg,decide_eq_false hc]at this
  exact this))
 clear hc
 go_enter func90,ntmps90
 go_wp2_with fail
 refine(Hc.o _).mono ?_
 rintro e w' ⟨rfl,rfl⟩
 go_wp2_with fail
 go_ret2
 exact Em.no HF.o rfl (As _ _)
theorem Qbi(c:UInt8)(r:List UInt8)(w:World)(hs:r.length<=3999999)(hc:Dp c)(h:(Cs 61 r).2.2=false\/Au (Cs 61 r).1=false\/(Cs 61 r).2.1=[]):Calls prog 90 #[.string ⟨(c::r).toArray⟩] w (Em (D7 (c::r)) w):=by
 have HF:=Aa (show D7 (c::r)=if (Cs 61 r).2.2=false\/Au (Cs 61 r).1=false then none else(if c=82 then some ⟨c,(Cs 61 r).1,[]⟩else none)by
  unfold D7
  simp only
  by_cases h1:(Cs 61 r).2.2=false\/Au (Cs 61 r).1=false
  ·rw[if_pos (.inr h1),if_pos h1]
  have h2:(Cs 61 r).2.1=[]:=by
   rcases h with h|h|h
   ·exact absurd (.inl h) h1
   ·exact absurd (.inr h) h1
   exact h
  rw[if_neg (fun h3=>h3.elim (fun h3=>h3 hc) h1),if_neg h1,if_pos h2])
 have Hc:=Aa (fun W=>(show Calls prog 119 #[.string ⟨#[82,85,69]⟩,.string ⟨#[c]⟩] W fun e w'=>e=.returned (.bool true)/\W=w' from by
  have:=Mx [82,85,69] c W
  rw[Tg,decide_eq_true hc]at this
  exact this))
 have Hl:=Aa (fun(f:(Cs 61 r).2.2=true/\(Cs 61 r).2.1=[])=>show Xm ⟨c,(Cs 61 r).1,[]⟩=c::r from by
  rcases Eo 61 r with⟨_,e⟩|⟨p,t,e1,_,e⟩
  ·rw[e]at f;cases f.1
  rw[e]at f ⊢
  simp only at f
  have:=f.2
  subst this
  rw[e1];rfl)
 have Hcut:=Aa (fun W=>Qh r 61 W (by omega))
 have hcl:=(J1 61 r).1
 generalize Cs 61 r=q at *
 obtain⟨nm,rest,told⟩:=q
 simp only at hcl HF h Hl
 have Hh:=Aa h
 have Hc82:=Aa hc
 clear hc h
 go_enter func90,ntmps90
 go_wp2_with fail
 refine(Hc.o _).mono ?_
 rintro e w' ⟨rfl,rfl⟩
 go_wp2_with fail
 refine(Hcut.o _).mono ?_
 rintro e w1 ⟨rfl,k1,rfl⟩
 unfold Zo
 cases told with
 |false=>
  go_wp2_with fail
  go_ret2
  exact Em.no (HF.o.trans (if_pos (by simp))) rfl (below_drewN (As _ _) _)
 |true=>
  have Hname:=Aa (fun W=>Jz nm W (by omega))
  generalize hnb:Au nm=nb at *
  have Hnb:=Aa hnb
  clear hnb
  go_wp2_with fail
  refine(Hname.o _).mono ?_
  rintro e w2 ⟨rfl,hb2⟩
  have Hb2:=Aa (show Below w.heap.size w w2 from(below_drewN (As _ _) k1).trans (by simpa using hb2))
  clear hb2
  cases nb with
  |false=>
   go_wp2_with fail
   go_ret2
   exact Em.no (HF.o.trans (if_pos (by simp))) rfl Hb2.o
  |true=>
   obtain rfl:rest=[]:=by
    rcases Hh.o with h|h|h
    ·cases h
    ·cases h
    exact h
   have HF2:=Aa (HF.o.trans (if_neg (by simp)))
   have Hl2:=Aa (Hl.o (by simp))
   have hz:=Hb2.o.size
   rcases Decidable.em (c=82)with h82|h82
   ·have t1:((c.toNat:Int) == 82)=true:=Bl (d:=82) h82
    have HF3:=Aa (HF2.o.trans (if_pos h82))
    clear h82
    go_wp2_with fail
    go_quiet (fail)
    go_wp2_with fail
    go_ret2
    refine Em.yes HF3.o (b:=w2.heap.size) (fv:=.slice none 0 0) rfl Hb2.o.size ?_ (fun k hk=>by simp[Value.ownBlock]at hk) (by repeat (first|exact Hb2.o.alloc Hb2.o.size _|refine Below.drew ?_|refine below_drewN ?_ _))
    refine⟨by simp,by first|exact Py.new _ _ _|exact Py.belowAt (Py.new w2 _ _) (by simp) (by first|exact below_drewN (As _ _) _|exact(As _ _).drew),by simp,by simp,by simp,?_,none,0,rfl,by simp,rfl,Nat.zero_le _,fun h=>absurd h (by simp)⟩
    rw[Hl2.o];simp
   have t1:((c.toNat:Int) == 82)=false:=An (d:=82) h82
   have HF3:=Aa (HF2.o.trans (if_neg h82))
   clear h82
   go_wp2_with fail
   go_quiet (fail)
   go_wp2_with fail
   go_ret2
   exact Em.no HF3.o rfl (by repeat (first|exact Hb2.o.alloc Hb2.o.size _|refine Below.drew ?_|refine below_drewN ?_ _))
def Qg6(c:UInt8)(nm:List UInt8):Option (List Fd)->Option Ty
 |some r=>some ⟨c,nm,r⟩
 |none=>none
theorem Ye{c:UInt8}{r nm rest:List UInt8}(hc:Dp c)(h:Cs 61 r=(nm,rest,true))(hn:Au nm=true)(hr:rest≠[]):D7 (c::r)=Qg6 c nm (Es c (Af 44 rest) []):=by
 unfold D7
 simp only[h]
 rw[if_neg (by simp[hc,hn]),if_neg hr]
 cases Es c (Af 44 rest) []<;>rfl
theorem Xp{c:UInt8}{ps:List (List UInt8)}{acc:List Fd}{k:Nat}(hk:k<ps.length):Es c (ps.drop k) acc=(match Gk c ps[k]with|none=>none|some f=>if acc.length=8\/E9 acc f=false then none else Es c (ps.drop (k+1)) (acc++[f])):=by
 rw[List.drop_eq_getElem_cons hk,Es]
 cases Gk c ps[k]<;>rfl
theorem Qb8{acc:List Fd}{f:Fd}(h:∀g∈acc,g.name≠f.name/\g.tag<f.tag):E9 acc f=true:=Kc.2 h
theorem Zw{acc:List Fd}{f x:Fd}(hx:x∈acc)(h:f.tag<=x.tag\/x.name=f.name):E9 acc f=false:=by
 cases hh:E9 acc f with
 |false=>rfl
 |true=>
  obtain⟨h1,h2⟩:=Kc.1 hh x hx
  rcases h with h|h
  ·omega
  exact absurd h h1
theorem Qq(w:World)(a:Addr)(v:Value):w.grownBy (w.setCell a v) (some a.block):=
 ⟨rfl,rfl,rfl,by simp,fun k _ hk=>Go.heap_setCell_other _ _ _ _ (fun e=>hk (by rw[e]))⟩
theorem Vs{w:World}{base k n:Nat}{e:TypeId}{v:Value}{xs:List Value}(h:w.ownsRow base e k v n xs):∃A m c,v=.slice A m c:=by
 rcases h.2 with⟨rfl,_⟩|⟨g,cap,cur,rfl,_⟩
 ·exact⟨_,_,_,rfl⟩
 exact⟨_,_,_,rfl⟩
theorem Tryz.infoIf:(prog.info? 85).map (fun i=>(i.zero,i.size,i.bytes))=some (some (.agg #[.int .i64 0,.string ⟨#[]⟩,.string ⟨#[]⟩,.string ⟨#[]⟩,.string ⟨#[]⟩,.string ⟨#[]⟩]),6,88):=by kernel_rfl
theorem Qg5(fs:List Fd):∀y∈fs.flatMap Qs,y.oneCell'=true:=by
 intro y hy
 obtain⟨f,_,hf⟩:=List.mem_flatMap.1 hy
 simp[Qs]at hf
 rcases hf with rfl|rfl|rfl|rfl|rfl|rfl<;>rfl
theorem Qbj(c:UInt8)(r nm rest:List UInt8)(w:World)(hs:r.length<=3999999)(hc:Dp c)(h:Cs 61 r=(nm,rest,true))(hn:Au nm=true)(hr:rest≠[]):
  Calls prog 90 #[.string ⟨(c::r).toArray⟩] w (Em (D7 (c::r)) w):=by
 have HF:=Aa (Ye hc h hn hr)
 have Hc:=Aa (fun W=>(show Calls prog 119 #[.string ⟨#[82,85,69]⟩,.string ⟨#[c]⟩] W fun e w'=>e=.returned (.bool true)/\W=w' from by
  have:=Mx [82,85,69] c W
  rw[Tg,decide_eq_true hc]at this
  exact this))
 have Hcut:=Aa (fun W=>Qh r 61 W (by omega))
 have hcl:=J1 61 r
 have Hcut2:=Aa h
 rw[h]at Hcut hcl
 simp only at hcl
 have hcl1:=hcl.1
 have hcl2:=hcl.2
 have Hname:=Aa (fun W=>Jz nm W (by omega))
 rw[hn]at Hname
 have Hsp:=Aa (fun W=>Q9 rest 44 W (by omega))
 have hne:=Dy 44 rest
 have Hpl:=Aa (Aj 44 rest)
 have Hln:=Aa (Gm 44 rest)
 generalize Af 44 rest=ps at HF Hsp hne Hpl Hln
 have Hcs:=Aa hc
 have hpsl:ps.length<=4000000:=by have:=Hln.o;omega
 have hr1:rest.isEmpty=false:=by simpa using hr
 have hr2:(rest == [])=false:=by simpa using hr
 clear h hn hr hc hcl
 go_enter func90,ntmps90
 go_wp2_with fail
 refine(Hc.o _).mono ?_
 rintro e w' ⟨rfl,rfl⟩
 go_wp2_with fail
 refine(Hcut.o _).mono ?_
 rintro e w1 ⟨rfl,k1,rfl⟩
 unfold Zo
 go_wp2_with fail
 refine(Hname.o _).mono ?_
 rintro e w2 ⟨rfl,hb2⟩
 have Hb2:=Aa (show Below w.heap.size w w2 from(below_drewN (As _ _) k1).trans (by simpa using hb2))
 have hz2:=Hb2.o.size
 clear hb2
 go_wp2_with fail
 refine(Hsp.o _).mono ?_
 rintro e w3 ⟨v,rfl,ho,hb3⟩
 obtain⟨g,cg,rfl,hg1,hg2,hcells⟩:=Ma ho hne
 have hg1':w2.heap.size+1<=g:=by simpa using hg1
 have hz3:w2.heap.size<w3.heap.size:=by omega
 have HT0:=Aa (show w3.rangeAt w2.heap.size 0 [.int .u8 (c.toNat:Int),.string ⟨nm.toArray⟩,.slice none 0 0,.string ⟨(c::r).toArray⟩]from Ar (Ck w2 _ _) (by simp) hb3)
 have HK0:=Aa (show w3.there w2.heap.size 0 4 from At (Cw w2 [.int .u8 (c.toNat:Int),.string ⟨nm.toArray⟩,.slice none 0 0,.string ⟨(c::r).toArray⟩] _) (by simp) hb3)
 have HB0:=Aa (show Py w3 w2.heap.size from(Py.new w2 _ _).belowAt (by simp) hb3)
 have Hb3:=Aa (show Below w.heap.size w w3 from(Hb2.o.alloc Hb2.o.size _).trans (hb3.mono (by simp;omega)))
 have Hcells:=Aa (show ∀j (hj:j<ps.length),w3.cell? ⟨g,j,none⟩=some (.string ⟨ps[j].toArray⟩)from hcells)
 have Hown0:=Aa (World.ownsRow_nil w3 w3.heap.size 85 6)
 clear ho hb3 hcells hg1 hne
 go_wp2_with fail
 go_loopw [53] (fun i wr=>∃(k:Nat) (acc:List Fd) (fv:Value),i=.int .i64 k/\k<=ps.length/\acc.length<=8/\Hid (D7 (c::r)=Qg6 c nm (Es c (ps.drop k) acc)) /\
   Hid (wr.ownsRow w3.heap.size 85 6 fv acc.length (acc.flatMap Qs))/\Hid (Below w.heap.size w wr)/\w3.heap.size<=wr.heap.size /\
   Hid (∀j (hj:j<ps.length),wr.cell? ⟨g,j,none⟩=some (.string ⟨ps[j].toArray⟩)) /\
   Hid (wr.rangeAt w2.heap.size 0 [.int .u8 (c.toNat:Int),.string ⟨nm.toArray⟩,fv,.string ⟨(c::r).toArray⟩])/\Hid (wr.there w2.heap.size 0 4)/\Hid (Py wr w2.heap.size)) (fun i _=>ps.length - (intOf i).toNat)
 case atStart=>exact⟨0,[],.slice none 0 0,rfl,Nat.zero_le _,by simp,HF.o,Hown0.o,Hb3.o,Ap _,Hcells.o,HT0.o,HK0.o,HB0.o⟩
 case round=>
  obtain⟨wo,rfl⟩:∃wo:World,wo=wr:=⟨_,rfl⟩
  obtain⟨k,acc,fv,rfl,hk,ha8,hft,hown,hbr,hzr,hpr,hT,hK,hB⟩:=hrel
  have i1:(0:Int)<=(k:Int):=by omega
  obtain⟨A,cA,rfl,hrow⟩:=Bh.ownK hown.o (by unfold maxLen;omega)
  have Hrow:=Aa hrow
  have t0:wo.cell? ⟨w2.heap.size,0,none⟩=some (.int .u8 (c.toNat:Int)):=by simpa using Ac hT.o 0 rfl
  have t2:wo.cell? ⟨w2.heap.size,2,none⟩=some (.slice A acc.length cA):=by simpa using Ac hT.o 2 rfl
  clear hrow
  by_cases hlt:k<ps.length
  ·have i2:(k:Int)<(ps.length:Int):=by omega
   have cell:=hpr.o k hlt
   have hft2:=Aa ((Xp (c:=c) (acc:=acc) hlt) ▸ hft.o)
   have hplk:=Hpl.o _ (List.getElem_mem hlt)
   generalize ps[k]=p at cell hft2 hplk
   have Hread:=Aa (fun W=>Ve c Hcs.o p W (by omega))
   generalize Gk c p=o at hft2 Hread
   go_wp2_with fail
   refine(Hread.o _).mono ?_
   rintro e w4 ⟨hcase,hb4⟩
   have Hb4:=Aa (hbr.o.trans (hb4.mono hbr.o.size))
   cases o with
   |none=>
    obtain⟨n,a1,a2,a3,a4,a5,rfl⟩:=hcase
    have Hend:=Aa (show D7 (c::r)=none from hft2.o)
    go_wp2_with fail
    go_ret2
    exact Em.no Hend.o rfl (Hb4.o.alloc Hb4.o.size _)
   |some f=>
    have hcase':e=.returned (.tuple #[.agg #[.int .i64 (f.tag:Int),.string ⟨f.name.toArray⟩,.string ⟨f.kind.signs.toArray⟩,.string ⟨f.kind.base.toArray⟩,.string ⟨f.kind.name.toArray⟩,.string ⟨f.given.toArray⟩],.bool true]):=hcase
    subst hcase'
    clear hcase
    have s0:=(hb4.cell (p:=⟨w2.heap.size,0,none⟩) (show w2.heap.size<wo.heap.size by omega)).trans t0
    have s2:=(hb4.cell (p:=⟨w2.heap.size,2,none⟩) (show w2.heap.size<wo.heap.size by omega)).trans t2
    have hz4:wo.heap.size<=w4.heap.size:=hb4.size
    have hn4:¬(w2.heap.size=w4.heap.size):=by omega
    have hn5:w2.heap.size<w4.heap.size:=by omega
    have Hb4r:=Aa hb4
    clear t0 t2 hb4
    have hft3:=Aa (show D7 (c::r)=Qg6 c nm (if acc.length=8\/E9 acc f=false then none else Es c (ps.drop (k+1)) (acc++[f]))from hft2.o)
    clear hft2
    rcases Nat.eq_or_lt_of_le ha8 with h8|h8
    ·have q1:((acc.length:Int) == 8)=true:=by simp[h8]
     have Hend:=Aa (hft3.o.trans (by rw[if_pos (.inl h8)]))
     clear h8
     go_wp2_with fail
     go_ret2
     exact Em.no Hend.o rfl (Hb4.o.alloc Hb4.o.size _)
    have q1:((acc.length:Int) == 8)=false:=by rw[beq_eq_false_iff_ne];omega
    go_wp2_with fail
    have f0:(w4.alloc (.cells #[.int .i64 (f.tag:Int),.string ⟨f.name.toArray⟩,.string ⟨f.kind.signs.toArray⟩,.string ⟨f.kind.base.toArray⟩,.string ⟨f.kind.name.toArray⟩,.string ⟨f.given.toArray⟩] 85)).cell? ⟨w4.heap.size,0,none⟩=some (.int .i64 (f.tag:Int)):=by simp
    have f1:(w4.alloc (.cells #[.int .i64 (f.tag:Int),.string ⟨f.name.toArray⟩,.string ⟨f.kind.signs.toArray⟩,.string ⟨f.kind.base.toArray⟩,.string ⟨f.kind.name.toArray⟩,.string ⟨f.given.toArray⟩] 85)).cell? ⟨w4.heap.size,1,none⟩=some (.string ⟨f.name.toArray⟩):=by simp
    have HR0:=Aa (Ck w4 [.int .i64 (f.tag:Int),.string ⟨f.name.toArray⟩,.string ⟨f.kind.signs.toArray⟩,.string ⟨f.kind.base.toArray⟩,.string ⟨f.kind.name.toArray⟩,.string ⟨f.given.toArray⟩] 85)
    go_loopw [81] (fun jj wq=>∃j:Nat,jj=.int .i64 j/\j<=acc.length/\Hid (∀x∈acc.take j,x.name≠f.name/\x.tag<f.tag)/\Hid (Below w4.heap.size w4 wq)/\w4.heap.size<wq.heap.size/\Hid (wq.rangeAt w4.heap.size 0 [.int .i64 (f.tag:Int),.string ⟨f.name.toArray⟩,.string ⟨f.kind.signs.toArray⟩,.string ⟨f.kind.base.toArray⟩,.string ⟨f.kind.name.toArray⟩,.string ⟨f.given.toArray⟩])) (fun jj _=>acc.length - (intOf jj).toNat)
    case atStart=>exact⟨0,rfl,Nat.zero_le _,by intro x hx;simp at hx,(As _ _).alloc (Ap _) _,by simp,HR0.o⟩
    case round=>
     clear f0 f1
     obtain⟨j,rfl,hj,hin,hbq,hzq,hfr⟩:=hrel
     have j1:(0:Int)<=(j:Int):=by omega
     have f0:wr.cell? ⟨w4.heap.size,0,none⟩=some (.int .i64 (f.tag:Int)):=by simpa using Ac hfr.o 0 rfl
     have f1:wr.cell? ⟨w4.heap.size,1,none⟩=some (.string ⟨f.name.toArray⟩):=by simpa using Ac hfr.o 1 rfl
     have hnq:¬(w4.heap.size=wr.heap.size):=by omega
     have Hbq:=Aa (Hb4.o.trans (hbq.o.mono Hb4.o.size))
     by_cases hjl:j<acc.length
     ·have j2:(j:Int)<(acc.length:Int):=by omega
      obtain⟨bA,oA,rfl,hbA,hrg⟩:=Q7.range ((Hrow.o.below Hb4r.o).below hbq.o) hjl
      have Hts:=Aa (Bn acc j hjl)
      have Hmem:=Aa (List.getElem_mem hjl)
      have Hrg:=Aa (show wr.rangeAt bA (oA+j*6) [.int .i64 (acc[j].tag:Int),.string ⟨acc[j].name.toArray⟩,.string ⟨acc[j].kind.signs.toArray⟩,.string ⟨acc[j].kind.base.toArray⟩,.string ⟨acc[j].kind.name.toArray⟩,.string ⟨acc[j].given.toArray⟩]from hrg)
      clear hrg
      generalize acc[j]=x at Hts Hmem Hrg
      rcases Decidable.em (x.name=f.name)with hnm|hnm
      ·have q2:(x.name == f.name)=true:=by simp[hnm]
       have Hend:=Aa (hft3.o.trans (by rw[if_pos (.inr (Zw Hmem.o (.inr hnm)))]))
       clear hnm
       go_wp2_with ((with_reducible refine wpList_load_mid (op:=⟨_,.load 85 _,_,_,_,none⟩) rfl 85 _ rfl bA (oA+j*6) ?_ _ _ Hrg.o underlying85 ?_ ?_ ?_);rfl;rfl;kernel_rfl)
       go_ret2
       exact Em.no Hend.o rfl (Hbq.o.alloc Hbq.o.size _)
      have q2:(x.name == f.name)=false:=by simp[hnm]
      rcases Nat.lt_or_ge x.tag f.tag with ht|ht
      ·have q3:decide ((f.tag:Int)<=(x.tag:Int))=false:=by rw[decide_eq_false_iff_not];omega
       have Hin:=Aa (show ∀y∈acc.take (j+1),y.name≠f.name/\y.tag<f.tag from by
        intro y hy
        rw[Hts.o]at hy
        rcases List.mem_append.1 hy with hy|hy
        ·exact hin.o y hy
        simp at hy;subst hy;exact⟨hnm,ht⟩)
       clear hnm
       go_wp2_with ((with_reducible refine wpList_load_mid (op:=⟨_,.load 85 _,_,_,_,none⟩) rfl 85 _ rfl bA (oA+j*6) ?_ _ _ Hrg.o underlying85 ?_ ?_ ?_);rfl;rfl;kernel_rfl)
       go_roundw
       case rel=>exact⟨j+1,by go_num,by omega,Hin.o,hbq.o.alloc (Nat.le_of_lt hzq) _,by simp;omega,Ar hfr.o hzq ((As wr.heap.size wr).alloc (Ap _) _)⟩
       case measure=>simp[intOf];omega
      have q3:decide ((f.tag:Int)<=(x.tag:Int))=true:=by rw[decide_eq_true_iff];omega
      have Hend:=Aa (hft3.o.trans (by rw[if_pos (.inr (Zw Hmem.o (.inl ht)))]))
      clear hnm
      go_wp2_with ((with_reducible refine wpList_load_mid (op:=⟨_,.load 85 _,_,_,_,none⟩) rfl 85 _ rfl bA (oA+j*6) ?_ _ _ Hrg.o underlying85 ?_ ?_ ?_);rfl;rfl;kernel_rfl)
      go_ret2
      exact Em.no Hend.o rfl (Hbq.o.alloc Hbq.o.size _)
     ·have j2:¬(j:Int)<(acc.length:Int):=by omega
      have Hft4:=Aa (show D7 (c::r)=Qg6 c nm (Es c (ps.drop (k+1)) (acc++[f]))from by
       rw[hft3.o,if_neg]
       rintro(h|h)
       ·omega
       rw[Qb8 (fun y hy=>hin.o y (by rw[List.take_of_length_le (by omega)];exact hy))]at h;cases h)
      have hb1:Below wo.heap.size wo wr:=Hb4r.o.trans (hbq.o.mono hz4)
      have Hown:=Aa (Bf hown.o hb1)
      have Hpr:=Aa (show ∀j (hj:j<ps.length),wr.cell? ⟨g,j,none⟩=some (.string ⟨ps[j].toArray⟩)from fun j hj=>(hb1.cell (p:=⟨g,j,none⟩) (show g<wo.heap.size by omega)).trans (hpr.o j hj))
      have HT1:=Aa (Ar hT.o (show w2.heap.size<wo.heap.size by omega) hb1)
      have HB1:=Aa (hB.o.belowAt (show w2.heap.size<wo.heap.size by omega) hb1)
      have HK1:=Aa (At hK.o (show w2.heap.size<wo.heap.size by omega) hb1)
      have hz5:w3.heap.size<=wr.heap.size:=by omega
      have hz6:w.heap.size<=w3.heap.size:=by omega
      clear hb1 f0 f1
      go_wp2_with fail
      refine Be [98,99,100,101,102,103,104,105,106,107,999] (by kernel_rfl) (by kernel_rfl) (by kernel_rfl) (fun u=>by dsimp only[Br,Bi,List.set,Nat.zero_add,Nat.reduceAdd])
       (fun i v W=>match i with|0=>v=.pointer (some ⟨w2.heap.size,0,none⟩)|1=>v=.pointer (some ⟨w2.heap.size,0,none⟩)|2=>v=.pointer (some ⟨w2.heap.size,0,none⟩)|3=>v=.pointer (some ⟨w2.heap.size,2,none⟩)|4=>v=.slice A acc.length cA|5=>v=.agg #[.int .i64 (f.tag:Int),.string ⟨f.name.toArray⟩,.string ⟨f.kind.signs.toArray⟩,.string ⟨f.kind.base.toArray⟩,.string ⟨f.kind.name.toArray⟩,.string ⟨f.given.toArray⟩]|8=>v=.pointer (some ⟨w2.heap.size,0,none⟩)|9=>v=.pointer (some ⟨w2.heap.size,2,none⟩)|_=>True)
       (fun L U W=>Below w.heap.size w W/\w3.heap.size<=W.heap.size/\(∀j (hj:j<ps.length),W.cell? ⟨g,j,none⟩=some (.string ⟨ps[j].toArray⟩))/\(W.there w2.heap.size 0 4/\Py W w2.heap.size) /\
        (L 10=false->W.rangeAt w2.heap.size 0 [.int .u8 (c.toNat:Int),.string ⟨nm.toArray⟩,.slice A acc.length cA,.string ⟨(c::r).toArray⟩])/\(L 10=true->W.rangeAt w2.heap.size 0 [.int .u8 (c.toNat:Int),.string ⟨nm.toArray⟩,U 7,.string ⟨(c::r).toArray⟩]) /\
        (L 5=false->W.rangeAt w4.heap.size 0 [.int .i64 (f.tag:Int),.string ⟨f.name.toArray⟩,.string ⟨f.kind.signs.toArray⟩,.string ⟨f.kind.base.toArray⟩,.string ⟨f.kind.name.toArray⟩,.string ⟨f.given.toArray⟩])/\(L 7=false->W.ownsRow w3.heap.size 85 6 (.slice A acc.length cA) acc.length (acc.flatMap Qs))/\(L 7=true->W.ownsRow w3.heap.size 85 6 (U 7) (acc.length+1) (acc.flatMap Qs++Qs f)) /\
        (L 6=true->L 7=false->∃q,U 6=.slice (some ⟨q,0,none⟩) 1 1/\W.rangeAt q 0 [.int .i64 (f.tag:Int),.string ⟨f.name.toArray⟩,.string ⟨f.kind.signs.toArray⟩,.string ⟨f.kind.base.toArray⟩,.string ⟨f.kind.name.toArray⟩,.string ⟨f.given.toArray⟩]))
       (fun _ _=>True) (fun w w' _ i v h=>by revert h;exact fun h=>h) ⟨Hbq.o.drew,hz5,Hpr.o,⟨HK1.o,HB1.o⟩,fun _=>HT1.o,by simp,fun _=>hfr.o,fun _=>Hown.o,by simp,by simp⟩ ?_ ?_
      ·repeat (first|exact Aq.nil|(refine Aq.cons ?_ ?_;rotate_left))
       all_goals
        rintro L U W hL hpre hR hun hdep K hK
        have Hdep:=Aa hdep
        have HR:=Aa hR
        clear hun hdep hR
        first|(simp[Region.binds]at hpre;done)|simp[Region.binds]at hpre|clear hpre
       ·go_simp
        exact hK _ _ _ rfl Ab HR.o rfl
       ·go_simp
        exact hK _ _ _ rfl Ab HR.o rfl
       ·have u1:=hpre.2
        go_simp
        exact hK (.pointer (some ⟨w2.heap.size,0,none⟩)) _ _ rfl Ab HR.o (by simp[Act.put,u1])
       ·have u2:=hpre.2
        go_simp
        exact hK (.pointer (some ⟨w2.heap.size,2,none⟩)) _ _ rfl Ab HR.o (by simp[Act.put,u2])
       ·have h10:=(Bz Hdep.o 10 7 rfl (Bz Hdep.o 7 4 rfl hL))
        obtain⟨r1,r2,r3,r4,r5,r6,r7,r8,r9,r0⟩:=HR.o
        have u3:=hpre.2
        have c2:W.cell? ⟨w2.heap.size,2,none⟩=some (.slice A acc.length cA):=by simpa using Ac (r5 h10) 2 rfl
        clear r1 r2 r3 r4 r5 r6 r7 r8 r9 r0
        go_simp
        exact hK (.slice A acc.length cA) _ _ rfl Ab HR.o (by simp[Act.put,u3])
       ·obtain⟨r1,r2,r3,r4,r5,r6,r7,r8,r9,r0⟩:=HR.o
        rw[if_pos (by rfl)]
        refine wp_load_mid 85 _ rfl w4.heap.size 0 rfl [.int .i64 (f.tag:Int),.string ⟨f.name.toArray⟩,.string ⟨f.kind.signs.toArray⟩,.string ⟨f.kind.base.toArray⟩,.string ⟨f.kind.name.toArray⟩,.string ⟨f.given.toArray⟩] _ (r7 hL) underlying85 rfl (by kernel_rfl) ?_
        exact hK (.agg ([.int .i64 (f.tag:Int),.string ⟨f.name.toArray⟩,.string ⟨f.kind.signs.toArray⟩,.string ⟨f.kind.base.toArray⟩,.string ⟨f.kind.name.toArray⟩,.string ⟨f.given.toArray⟩]:List Value).toArray) _ _ rfl Ab ⟨r1,r2,r3,r4,r5,r6,fun h=>by simp at h,r8,r9,r0⟩ rfl
       ·obtain⟨r1,r2,r3,r4,r5,r6,r7,r8,r9,r0⟩:=HR.o
        have R1:=Aa r1
        have u5:=hpre.2
        have HF5:=Aa (Ck W [.int .i64 (f.tag:Int),.string ⟨f.name.toArray⟩,.string ⟨f.kind.signs.toArray⟩,.string ⟨f.kind.base.toArray⟩,.string ⟨f.kind.name.toArray⟩,.string ⟨f.given.toArray⟩] 85)
        have HRR:=Aa (show (∀j (hj:j<ps.length),(W.alloc (.cells #[.int .i64 (f.tag:Int),.string ⟨f.name.toArray⟩,.string ⟨f.kind.signs.toArray⟩,.string ⟨f.kind.base.toArray⟩,.string ⟨f.kind.name.toArray⟩,.string ⟨f.given.toArray⟩] 85)).cell? ⟨g,j,none⟩=some (.string ⟨ps[j].toArray⟩))/\((W.alloc (.cells #[.int .i64 (f.tag:Int),.string ⟨f.name.toArray⟩,.string ⟨f.kind.signs.toArray⟩,.string ⟨f.kind.base.toArray⟩,.string ⟨f.kind.name.toArray⟩,.string ⟨f.given.toArray⟩] 85)).there w2.heap.size 0 4/\Py (W.alloc (.cells #[.int .i64 (f.tag:Int),.string ⟨f.name.toArray⟩,.string ⟨f.kind.signs.toArray⟩,.string ⟨f.kind.base.toArray⟩,.string ⟨f.kind.name.toArray⟩,.string ⟨f.given.toArray⟩] 85)) w2.heap.size) /\
         (L 10=false->(W.alloc (.cells #[.int .i64 (f.tag:Int),.string ⟨f.name.toArray⟩,.string ⟨f.kind.signs.toArray⟩,.string ⟨f.kind.base.toArray⟩,.string ⟨f.kind.name.toArray⟩,.string ⟨f.given.toArray⟩] 85)).rangeAt w2.heap.size 0 [.int .u8 (c.toNat:Int),.string ⟨nm.toArray⟩,.slice A acc.length cA,.string ⟨(c::r).toArray⟩])/\(L 10=true->(W.alloc (.cells #[.int .i64 (f.tag:Int),.string ⟨f.name.toArray⟩,.string ⟨f.kind.signs.toArray⟩,.string ⟨f.kind.base.toArray⟩,.string ⟨f.kind.name.toArray⟩,.string ⟨f.given.toArray⟩] 85)).rangeAt w2.heap.size 0 [.int .u8 (c.toNat:Int),.string ⟨nm.toArray⟩,U 7,.string ⟨(c::r).toArray⟩]) /\
         (L 5=false->(W.alloc (.cells #[.int .i64 (f.tag:Int),.string ⟨f.name.toArray⟩,.string ⟨f.kind.signs.toArray⟩,.string ⟨f.kind.base.toArray⟩,.string ⟨f.kind.name.toArray⟩,.string ⟨f.given.toArray⟩] 85)).rangeAt w4.heap.size 0 [.int .i64 (f.tag:Int),.string ⟨f.name.toArray⟩,.string ⟨f.kind.signs.toArray⟩,.string ⟨f.kind.base.toArray⟩,.string ⟨f.kind.name.toArray⟩,.string ⟨f.given.toArray⟩])/\(L 7=false->(W.alloc (.cells #[.int .i64 (f.tag:Int),.string ⟨f.name.toArray⟩,.string ⟨f.kind.signs.toArray⟩,.string ⟨f.kind.base.toArray⟩,.string ⟨f.kind.name.toArray⟩,.string ⟨f.given.toArray⟩] 85)).ownsRow w3.heap.size 85 6 (.slice A acc.length cA) acc.length (acc.flatMap Qs))/\(L 7=true->(W.alloc (.cells #[.int .i64 (f.tag:Int),.string ⟨f.name.toArray⟩,.string ⟨f.kind.signs.toArray⟩,.string ⟨f.kind.base.toArray⟩,.string ⟨f.kind.name.toArray⟩,.string ⟨f.given.toArray⟩] 85)).ownsRow w3.heap.size 85 6 (U 7) (acc.length+1) (acc.flatMap Qs++Qs f))
         from⟨fun j hj=>by rw[World.cell?_alloc_old _ _ _ (show g≠W.heap.size by omega)];exact r3 j hj,⟨World.there_alloc r4.1 _,r4.2.belowAt (show w2.heap.size<W.heap.size by omega) ((As _ _).alloc (Ap _) _)⟩,fun h=>World.rangeAt_alloc (r5 h) _,fun h=>World.rangeAt_alloc (r6 h) _,fun h=>World.rangeAt_alloc (r7 h) _,fun h=>(r8 h).alloc _,fun h=>(r9 h).alloc _⟩)
        clear r1 r3 r4 r5 r6 r7 r8 r9 r0
        go_simp
        refine hK (.slice (some ⟨W.heap.size,0,none⟩) 1 1) _ _ Ab Ab ⟨R1.o.alloc R1.o.size _,by simp;omega,HRR.o.1,HRR.o.2.1,HRR.o.2.2.1,HRR.o.2.2.2.1,HRR.o.2.2.2.2.1,HRR.o.2.2.2.2.2.1,HRR.o.2.2.2.2.2.2,fun _ _=>⟨W.heap.size,rfl,HF5.o⟩⟩ (by simp[Act.put,u5])
       ·obtain⟨r1,r2,r3,r4,r5,r6,r7,r8,r9,r0⟩:=HR.o
        have h10:=(Bz Hdep.o 10 7 rfl hL)
        have h7:=r8 hL
        obtain⟨q,e1,e2⟩:=r0 hpre.2 hL
        obtain⟨i0,hi,hz0,hz1,hz2'⟩:=info_parts Tryz.infoIf
        rw[if_pos (by rfl)]
        refine wp_append_own W (.tmp 102) (.tmp 104) 81 rfl w3.heap.size 85 i0 (.agg #[.int .i64 0,.string ⟨#[]⟩,.string ⟨#[]⟩,.string ⟨#[]⟩,.string ⟨#[]⟩,.string ⟨#[]⟩]) 6 88 underlying81 hi hz0 hz1 hz2' rfl (by decide) (.slice A acc.length cA) acc.length (acc.flatMap Qs) hpre.1.2 h7 ⟨q,0,none⟩ 1 1 (Qs f) e1 (by simp[Qs]) ?_ (fun y hy=>Qg5 [f] y (by simpa using hy)) (by unfold maxLen;omega) (by omega) r2 ?_
        ·intro i x hx
         rw[Qcj]
         have:=e2 i x hx
         simpa using this
        intro v' w' hown' hgr _
        have hbw:Below w3.heap.size W w':=(As _ _).grown hgr r2 (fun k hk=>(h7.lt k hk).1)
        refine hK v' w' _ Ab Ab ⟨r1.trans (hbw.mono hz6),Nat.le_trans r2 hbw.size,fun j hj=>(hbw.cell (p:=⟨g,j,none⟩) (show g<w3.heap.size by omega)).trans (r3 j hj),⟨At r4.1 hz3 hbw,r4.2.belowAt hz3 hbw⟩,fun h=>Ar (r5 h) hz3 hbw,fun h=>absurd h10 (by rw[show L 10=true from h];decide),fun h=>absurd hpre.2 (by rw[Bz Hdep.o 6 5 rfl h];decide),fun h=>by simp at h,fun _=>hown',fun _ h=>by simp at h⟩ rfl
       ·have u0:=hpre.1.2
        go_simp
        exact hK (.pointer (some ⟨w2.heap.size,0,none⟩)) _ _ rfl Ab HR.o (by simp[Act.put,hpre])
       ·have u8:=hpre.2
        go_simp
        exact hK (.pointer (some ⟨w2.heap.size,2,none⟩)) _ _ rfl Ab HR.o (by simp[Act.put,hpre])
       ·obtain⟨r1,r2,r3,r4,r5,r6,r7,r8,r9,r0⟩:=HR.o
        have R1:=Aa r1
        have l7:L 7=true:=by first|exact hpre.2.1|exact hpre.2.1.1
        have h5:=r5 hL
        have h9:=r9 l7
        obtain⟨A7,n7,c7,e7⟩:=Vs h9
        rw[e7]at h9
        obtain⟨y2,c2⟩:=Option.isSome_iff_exists.1 (r4.1 2 (by decide)).1
        rw[Nat.zero_add]at c2
        have z2:W.frozen? ⟨w2.heap.size,2,none⟩=false:=by simpa using(r4.1 2 (by decide)).2
        have hT10:=Aa (show (W.setCell ⟨w2.heap.size,2,none⟩ (.slice A7 n7 c7)).rangeAt w2.heap.size 0 [.int .u8 (c.toNat:Int),.string ⟨nm.toArray⟩,(.slice A7 n7 c7),.string ⟨(c::r).toArray⟩]from Ct [.int .u8 (c.toNat:Int),.string ⟨nm.toArray⟩] [.slice A acc.length cA] [.string ⟨(c::r).toArray⟩] [.slice A7 n7 c7] h5 rfl)
        have hK10:=Aa (show (W.setCell ⟨w2.heap.size,2,none⟩ (.slice A7 n7 c7)).there w2.heap.size 0 4 from World.there_setCells r4.1 w2.heap.size 2 [.slice A7 n7 c7])
        have hBk10:=Aa (r4.2.set (o:=2) (.slice A7 n7 c7))
        have hP10:=Aa (show ∀j (hj:j<ps.length),(W.setCell ⟨w2.heap.size,2,none⟩ (.slice A7 n7 c7)).cell? ⟨g,j,none⟩=some (.string ⟨ps[j].toArray⟩)from fun j hj=>by
         rw[World.cell?_setCell_other _ _ _ _ (by intro e;injection e with e;omega)];exact r3 j hj)
        have hO10:=Aa (show (W.setCell ⟨w2.heap.size,2,none⟩ (.slice A7 n7 c7)).ownsRow w3.heap.size 85 6 (.slice A7 n7 c7) (acc.length+1) (acc.flatMap Qs++Qs f)from h9.kept (Qq W _ (.slice A7 n7 c7)) (.inr (fun e=>by have:=(h9.lt _ e).1;simp at this;omega)))
        have hz10:w3.heap.size<=(W.setCell ⟨w2.heap.size,2,none⟩ (.slice A7 n7 c7)).heap.size:=by simpa using r2
        have hB10:=Aa (show Below w.heap.size w (W.setCell ⟨w2.heap.size,2,none⟩ (.slice A7 n7 c7))from r1.setCell hz2 _)
        clear r1 r3 r4 r5 r6 r7 r8 r9 r0 h5 h9
        go_simp
        exact hK undef _ _ Ab Ab ⟨hB10.o,hz10,hP10.o,⟨hK10.o,hBk10.o⟩,fun h=>by simp at h,fun _=>by show World.rangeAt _ _ _ [_,_,U 7,_];rw[e7];exact hT10.o,fun h=>absurd l7 (by rw[(Bz Hdep.o 7 6 rfl (Bz Hdep.o 6 5 rfl h))];decide),fun h=>absurd l7 (by rw[show L 7=false from h];decide),fun _=>by show World.ownsRow _ _ _ _ (U 7) _ _;rw[e7];exact hO10.o,fun _ h=>absurd l7 (by rw[show L 7=false from h];decide)⟩ (by simp[Act.put,hpre,e7])
      rintro L U W hL hφ hR
      obtain⟨hbW,hzW,hprW,hKW,_,hTW,_,_,hoW,_⟩:=hR
      have hTW':=hTW (hL 10 (by decide))
      have hoW':=hoW (hL 7 (by decide))
      generalize U 7=V at hTW' hoW'
      have HbW:=Aa hbW
      have HprW:=Aa hprW
      have HKW:=Aa hKW.1
      have HBW:=Aa hKW.2
      have HTW:=Aa hTW'
      have HoW:=Aa hoW'
      clear hL hφ hbW hprW hKW hTW hoW hTW' hoW'
      go_wp2_with fail
      go_roundw
      case rel=>exact⟨k+1,acc++[f],V,by go_num,by omega,by simp;omega,Hft4.o,by rw[List.length_append,List.flatMap_append,show [f].flatMap Qs=Qs f from by simp];exact HoW.o,HbW.o,hzW,HprW.o,HTW.o,HKW.o,HBW.o⟩
      case measure=>simp[intOf];omega
  ·have i2:¬(k:Int)<(ps.length:Int):=by omega
   have Hfin:=Aa (show D7 (c::r)=some ⟨c,nm,acc⟩by rw[hft.o,List.drop_of_length_le (by omega)];rfl)
   go_wp2_with fail
   go_ret2
   refine Em.yes Hfin.o (b:=w2.heap.size) (fv:=.slice A acc.length cA) rfl hz2 ?_ (fun k hk=>by have:=(hown.o.lt k hk).1;omega) hbr.o
   refine⟨show w2.heap.size<wo.heap.size by omega,hB.o,by simpa using Ac hT.o 0 rfl,by simpa using Ac hT.o 1 rfl,by simpa using Ac hT.o 2 rfl,?_,A,cA,rfl,ha8,Hrow.o⟩
   have hB:=(Et.1 Hfin.o).2
   show _=some (Value.string ⟨(Xm ⟨c,nm,acc⟩).toArray⟩)
   rw[hB]
   simpa using Ac hT.o 3 rfl
theorem Yu(s:List UInt8)(w:World)(hs:s.length<=4000000):
  Calls prog 90 #[.string ⟨s.toArray⟩] w (Em (D7 s) w):=by
 cases s with
 |nil=>exact Qen w
 |cons c r=>
  simp at hs
  by_cases hc:Dp c
  ·by_cases h:(Cs 61 r).2.2=false\/Au (Cs 61 r).1=false\/(Cs 61 r).2.1=[]
   ·exact Qbi c r w (by omega) hc h
   simp only[not_or]at h
   exact Qbj c r (Cs 61 r).1 (Cs 61 r).2.1 w (by omega) hc (Prod.ext rfl (Prod.ext rfl (by simpa using h.1))) (by simpa using h.2.1) h.2.2
  exact Qb9 c r w (by omega) hc
end
end Go.Proofs.YtkigmebejmmikaaGreatDoor
