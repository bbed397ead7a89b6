/- Texts joined. Conditions: as each theorem names them. -/
import Derived.Maps.AppendAt
import Derived.Test.YtpjijpcemejlnaaGreatDoorR25
set_option maxRecDepth 100000
set_option maxHeartbeats 32000000
set_option linter.unusedVariables false
set_option linter.unusedSimpArgs false
namespace Go.Proofs.YtpjijpcemejlnaaGreatDoor
open Go.RowKit Go.Proofs.Tryz
section
attribute [local go_sem] Qm0 Ql8 Qlz Qj6 ByteArray.mk_append_mk
theorem Fm(b:Nat):∀(vs:List Value) (o:Nat) (w:World),w.grownBy (w.setCells b o vs) (some b)
 |[],_,w=>World.grownBy.refl _ _
 |v::r,o,w=>(Md w ⟨b,o,none⟩ v).trans (Fm b r (o+1) _)
def Pf(o:Option (List Ty × Kd))(w:World)(e:Ending)(w':World):Prop:=
 (match o with
  |some x=>∃p xs,Ag xs=x.1/\e=.returned (.tuple #[p,Eh x.2,.bool true])/\Su w.heap.size w' p xs
  |none=>∃(p:Option Addr) (a b c:ByteArray),e=.returned (.tuple #[.pointer p,.agg #[.string a,.string b,.string c],.bool false]))/\Below w w w'
theorem Pf.no{w w':World}{e:Ending}{o:Option (List Ty × Kd)}(ho:o=none){p:Option Addr}{a b c:ByteArray}(he:e=.returned (.tuple #[.pointer p,.agg #[.string a,.string b,.string c],.bool false]))(hb:Below w w w'):Pf o w e w':=by
 rw[ho];exact⟨⟨p,a,b,c,he⟩,hb⟩
theorem Qap(s d:List UInt8)(w:World)(hs:s.length<=4000000)(hd:d.length<=4000000):
  Calls prog 51 #[s,d] w (Pf (Az s d) w):=by
 have Hrs:=Aa (fun W=>Yd s W hs);have Hrk:=Aa (fun W=>Tc d W hd);have HF:=@Aa (Az s d=(match Cb s with|none=>none|some S=>match Cx d with|none=>none|some k=>if B0 S k then some (S,k)else none)) rfl;have Hkok:=Aa (fun k (h:Cx d=some k)=>(Fe.1 h).1);generalize Cb s=oS at HF Hrs;generalize Cx d=oK at HF Hrk Hkok;go_enter func51,ntmps51;go_wp2_with fail;refine(Hrs.o _).mono ?_;rintro e w1 ⟨hcase,hb1⟩;have hz1:w.heap.size<w1.heap.size:=eR;have HT1:=@Aa (w1.there w 0 3) (An (B9 w [aa,aa,aa] 62) aN hb1);have Hb1:=@Aa (Below w w w1) (((Am _ _).alloc (Ao _) _).trans (hb1.mono aN));clear hb1;cases oS with
 |none=>
  obtain⟨p,rfl⟩:=hcase;go_wp2_with ((with_reducible refine Af (op:=⟨none,.store 62 _ _,_,_,_,none⟩) rfl 62 _ _ rfl w 0 [aa,aa,aa] ?_ ?_ ?_ ?_ ?_ ?_);rfl;rfl;(exact HT1.o);kernel_rfl;(simp[Value.oneCell']);intro w9 HS9)
  have HZ:=@Aa (w9.rangeAt w 0 [aa,aa,aa]) (by rw[HS9.o];exact ac _ _ _ _ HT1.o);refine aG (v:=.tuple #[.pointer none,.agg ([aa,aa,aa]:List Value).toArray,.bool false]) ?_ rfl ?_
  ·exact Gw results51 _ _ w.heap.size [aa,aa,aa] _ _ _ rfl rfl rfl HZ.o underlying62 rfl aP
  exact Pf.no HF.o rfl (by rw[HS9.o];exact Aj _ (Ao _) _ _ _ Hb1.o)
 |some S=>
  obtain⟨p,xs,hxs,rfl,hsl⟩:=hcase;subst hxs;have Hsl:=@Aa (Su (w.heap.size+1) w1 p xs) (by simpa using hsl);obtain⟨pb,_,_,_,hp,_⟩:=hsl;subst hp;go_wp2_with fail;refine(Hrk.o _).mono ?_;rintro e w2 ⟨hcase,hb2⟩;cases oK with
  |none=>
   obtain⟨a1,a2,a3,rfl⟩:=hcase;have hz4:w2.heap.size<(w2.alloc (.cells #[.string a1,.string a2,.string a3] 62)).heap.size:=aN;have hz2:w.heap.size<w2.heap.size:=by have:=hb2.size;omega
   have HT4:=@Aa ((w2.alloc (.cells #[.string a1,.string a2,.string a3] 62)).there w 0 3) (au (An HT1.o hz1 hb2) _);have HX4:=@Aa ((w2.alloc (.cells #[.string a1,.string a2,.string a3] 62)).rangeAt w2 0 [.string a1,.string a2,.string a3]) (Br w2 [.string a1,.string a2,.string a3] _);have Hsl4:=@Aa (Su (w.heap.size+1) (w2.alloc (.cells #[.string a1,.string a2,.string a3] 62)) pb xs) ((Hsl.o.below hb2).below ((Am _ _).alloc (Ao _) _));have Hb4:=@Aa (Below w w (w2.alloc (.cells #[.string a1,.string a2,.string a3] 62))) ((Hb1.o.trans (hb2.mono Hb1.o.size)).alloc aI _);clear hb2;go_wp2_with fail;refine Bo [23,24,25,26,27,28,29,30,4,999,6] aP aP aP (fun u=>by dsimp only[Cd,Bu,List.set,ao,Nat.reduceAdd])
    (fun i v W=>match i with|0=>v=pb|1=>v=.agg ([.string a1,.string a2,.string a3]:List Value).toArray|2=>v=.bool false|3=>v=.bool false|7=>v=.bool false|8=>v=pb|10=>v=.bool false|_=>True) (fun L U W=>Below w w W/\w2.heap.size<W.heap.size/\W.there w 0 3/\W.rangeAt w2 0 [.string a1,.string a2,.string a3]/\Su (w.heap.size+1) W pb xs/\(L 9=true->W.rangeAt w 0 [.string a1,.string a2,.string a3])) (fun _ _=>True) (fun _ _ _ _ _ h=>h) ⟨Hb4.o.drew,by simp,by simpa using HT4.o,by simpa using HX4.o,Hsl4.o.below ((Am _ _).drew),by simp⟩ ?_ ?_
   ·repeat (first|exact Ai.nil|(refine Ai.cons ?_ ?_;rotate_left))
    all_goals
     rintro L U W hL hpre hR hun hdep K hK;have HR:=Aa hR;obtain⟨_,_,_,hxr,_,_⟩:=hR;have c0:W.cell? (w2,0)=some (.string a1):=by simpa using Ac hxr 0 rfl
     have c1:W.cell? (w2,1)=some (.string a2):=by simpa using Ac hxr 1 rfl
     have c2:W.cell? (w2,2)=some (.string a3):=by simpa using Ac hxr 2 rfl
     clear hun hdep hxr;first|(simp[Region.binds]at hpre;done)|simp[Region.binds]at hpre|clear hpre
    iterate 9 exact iz
    ·obtain⟨r1,r2,r3,r4,r5,r6⟩:=HR.o;rw[if_pos cC];refine wp_store_mid 62 _ _ rfl w 0 ([.string a1,.string a2,.string a3]:List Value).toArray rfl hpre.1.2 r3 aP bu ?_;exact mt
    ·exact iz
   rintro L U W hL hφ ⟨r1,r2,r3,r4,r5,r6⟩;have e8:U 8=pb:=hφ 8 aL;have e10:U 10=.bool false:=hφ 10 aL;have hr0:=r6 (hL 9 aL);simp only[e8,e10];have R1:=Aa r1;have R5:=Aa r5;have R0:=Aa hr0;clear hL hφ r1 r2 r3 r4 r5 r6 hr0;go_wp2_with fail;refine aG (v:=.tuple #[pb,.agg ([.string a1,.string a2,.string a3]:List Value).toArray,.bool false]) ?_ rfl ?_
   ·exact Gw results51 _ _ w.heap.size [.string a1,.string a2,.string a3] _ _ _ rfl rfl rfl R0.o underlying62 rfl aP
   exact Pf.no HF.o rfl R1.o
  |some k=>
   have hcase':e=.returned (.tuple #[.agg #[k.signs,k.base,k.name],.bool true]):=hcase;subst hcase';clear hcase;have hkn:k.name.length<=100:=ae (Ki (Hkok.o k rfl)) aL;have hz4:w2.heap.size<(w2.alloc (.cells #[k.signs,k.base,k.name] 62)).heap.size:=aN;have hz2:w.heap.size<w2.heap.size:=by have:=hb2.size;omega
   have HT4:=@Aa ((w2.alloc (.cells #[k.signs,k.base,k.name] 62)).there w 0 3) (au (An HT1.o hz1 hb2) _);have HX4:=@Aa ((w2.alloc (.cells #[k.signs,k.base,k.name] 62)).rangeAt w2 0 [k.signs,k.base,k.name]) (Br w2 [k.signs,k.base,k.name] _);have Hsl4:=@Aa (Su (w.heap.size+1) (w2.alloc (.cells #[k.signs,k.base,k.name] 62)) pb xs) ((Hsl.o.below hb2).below ((Am _ _).alloc (Ao _) _));have Hb4:=@Aa (Below w w (w2.alloc (.cells #[k.signs,k.base,k.name] 62))) ((Hb1.o.trans (hb2.mono Hb1.o.size)).alloc aI _);clear hb2;go_wp2_with fail;have HF3:=@Aa (Az s d=if B0 (Ag xs) k then some (Ag xs,k)else none) HF.o;refine Bo [23,24,25,26,27,28,29,30,4,999,6] aP aP aP (fun u=>by dsimp only[Cd,Bu,List.set,ao,Nat.reduceAdd])
    (fun i v W=>match i with|0=>v=pb|1=>v=.agg ([k.signs,k.base,k.name]:List Value).toArray|2=>v=.bool true|3=>v=.bool true|4=>v=pb|5=>v=.agg ([k.signs,k.base,k.name]:List Value).toArray|6=>v=.bool (decide (B0 (Ag xs) k))|7=>v=.bool (decide (B0 (Ag xs) k))|8=>v=pb|10=>v=.bool (decide (B0 (Ag xs) k))|_=>True) (fun L U W=>Below w w W/\w2.heap.size<W.heap.size/\W.there w 0 3/\W.rangeAt w2 0 [k.signs,k.base,k.name]/\Su (w.heap.size+1) W pb xs/\(L 9=true->W.rangeAt w 0 [k.signs,k.base,k.name])) (fun _ _=>True) (fun _ _ _ _ _ h=>h) ⟨Hb4.o.drew,by simp,by simpa using HT4.o,by simpa using HX4.o,Hsl4.o.below ((Am _ _).drew),by simp⟩ ?_ ?_
   ·repeat (first|exact Ai.nil|(refine Ai.cons ?_ ?_;rotate_left))
    all_goals
     rintro L U W hL hpre hR hun hdep K hK;have HR:=Aa hR;obtain⟨_,_,_,hxr,_,_⟩:=hR;have c0:W.cell? (w2,0)=k.signs:=by simpa using Ac hxr 0 rfl
     have c1:W.cell? (w2,1)=k.base:=by simpa using Ac hxr 1 rfl
     have c2:W.cell? (w2,2)=k.name:=by simpa using Ac hxr 2 rfl
     clear hun hdep hxr;first|(simp[Region.binds]at hpre;done)|simp[Region.binds]at hpre|clear hpre
    iterate 6 exact iz
    ·go_simp;obtain⟨r1,r2,r3,r4,r5,r6⟩:=HR.o;refine(Qcq _ xs k W r5.isc.map hkn).mono ?_;rintro e w5 ⟨rfl,hb5⟩;exact hK (.bool (decide (B0 (Ag xs) k))) _ _ rfl Ab ⟨r1.trans (hb5.mono r1.size),ad r2 hb5.size,An r3 (show w.heap.size<W.heap.size by omega) hb5,Ah r4 r2 hb5,r5.below hb5,fun h=>Ah (r6 h) (show w.heap.size<W.heap.size by omega) hb5⟩ aK
    ·exact iz
    ·exact iz
    ·obtain⟨r1,r2,r3,r4,r5,r6⟩:=HR.o;rw[if_pos cC];refine wp_store_mid 62 _ _ rfl w 0 ([k.signs,k.base,k.name]:List Value).toArray rfl hpre.1.2 r3 aP bu ?_;exact mt
    ·exact iz
   rintro L U W hL hφ ⟨r1,r2,r3,r4,r5,r6⟩;have e8:U 8=pb:=hφ 8 aL;have e10:U 10=.bool (decide (B0 (Ag xs) k)):=hφ 10 aL;have hr0:=r6 (hL 9 aL);simp only[e8,e10];have R1:=Aa r1;have R5:=Aa r5;have R0:=Aa hr0;clear hL hφ r1 r2 r3 r4 r5 r6 hr0;go_wp2_with fail;refine aG (v:=.tuple #[pb,.agg ([k.signs,k.base,k.name]:List Value).toArray,.bool (decide (B0 (Ag xs) k))]) ?_ rfl ?_
   ·exact Gw results51 _ _ w.heap.size [k.signs,k.base,k.name] _ _ _ rfl rfl rfl R0.o underlying62 rfl aP
   by_cases hr:B0 (Ag xs) k
   ·rw[aE hr];unfold Pf;rw[HF3.o,if_pos hr]
    exact⟨⟨_,xs,rfl,rfl,by
     obtain⟨b,A,c,mb,q0,q1,q2,q3,q4,q5,q6,q7,l1,l2,l3,l4⟩:=R5.o;exact⟨b,A,c,mb,q0,q1,q2,q3,q4,q5,q6,q7,by omega,by omega,fun g o h1 h2=>by have:=l3 g o h1 h2;omega,fun x hx=>⟨by have:=(l4 x hx).1;omega,fun k h1 h2=>by have:=(l4 x hx).2 k h1 h2;omega⟩⟩⟩,R1.o⟩
   rw[aD hr];exact Pf.no (HF3.o.trans (if_neg hr)) rfl R1.o
def Ka(B:Nat)(w:World)(v:Value):Option Fd->Prop
 |none=>v=.pointer none
 |some f=>∃b o,v=.pointer (some ⟨b,o,none⟩)/\b<B/\w.rangeAt b o (Tf f)
theorem Ka.below{B:Nat}{w w':World}{v:Value}{o:Option Fd}(h:Ka B w v o)(hb:Below B w w'):Ka B w' v o:=by
 cases o with
 |none=>exact h
 |some f=>obtain⟨b,o,e,h1,h2⟩:=h;exact⟨b,o,e,h1,Ah h2 h1 hb⟩
def Qk1(B:Nat)(o:Option Fd)(w:World)(e:Ending)(w':World):Prop:=∃v,e=.returned v/\Ka B w v o/\w=w'
theorem Pm(w0:World)(x:PT)(hx:Rl w0 x)(n:Nat)(w:World)(hb:Below w0 w0 w)(hn:n<=1000000000):
  Calls prog 62 #[x.blk,.int .i64 n] w (Qk1 w0.heap.size (Au x.ty.fields n) w):=by
 obtain⟨z0,_,_,_,z3,_,A,c,hfv,hl,hr⟩:=hx;rw[hfv]at z3;have c2:w.cell? (x.blk,2)=some (.slice A x.ty.fields.length c):=(hb.cell (p:=⟨x.blk,2,none⟩) z0).trans z3;have Hr:=Aa hr;have Hb:=Aa hb;clear hr hfv z3 hb;go_enter func62,ntmps62;go_wp2_with fail;go_loop [11] (fun i=>∃k:Nat,i=.int .i64 k/\k<=x.ty.fields.length/\Hid (∀f∈x.ty.fields.take k,decide (f.tag=n)=false)) (fun i=>x.ty.fields.length - (intOf i).toNat)
 case atStart=>exact⟨0,rfl,ah _,by intro f hf;simp at hf⟩
 case round=>
  obtain⟨k,rfl,hk,hin⟩:=hrel;by_cases hlt:k<x.ty.fields.length
  ·obtain⟨b,off,rfl,hbl,hrg⟩:=Rk.range Hr.o hlt;have hrw:=Ah hrg hbl Hb.o;have Hts:=Aa (Ch x.ty.fields k hlt);have Hft:=Aa (Va (p:=fun f=>decide (f.tag=n)) hlt hin.o);generalize x.ty.fields[k]=f at hrg hrw Hts Hft;have c0:w.cell? ⟨b,off+k*6,none⟩=(f.tag:Int):=by simpa using Ac hrw 0 rfl
   have Hrw:=Aa hrw;clear hrw hrg;have k1:(0:Int)<=(k:Int):=aI;have k2:(k:Int)<(x.ty.fields.length:Int):=aI;by_cases he:f.tag=n
   ·have t1:((f.tag:Int) == (n:Int))=true:=by simp[he]
    have Hfin:=Aa (show Au x.ty.fields n=some f by unfold Au;rw[Hft.o,if_pos dp]);clear he;go_wp2_with fail;go_ret;exact⟨_,rfl,by rw[Hfin.o];exact⟨b,off+k*6,rfl,hbl,Hrw.o⟩,rfl⟩
   have t1:((f.tag:Int) == (n:Int))=false:=co
   have Hin:=Aa (show ∀g∈x.ty.fields.take (k+1),decide (g.tag=n)=false by
    intro g hg;rw[Hts.o]at hg;rcases ag.1 hg with hg|hg
    ·exact hin.o g hg
    simp at hg;subst hg;simpa using he)
   clear he;go_wp2_with fail;go_round
   case rel=>exact⟨k+1,by go_num,by omega,Hin.o⟩
   case measure=>simp[intOf];omega
  ·have Hfin:=@Aa (Au x.ty.fields n=none) (Np (fun f hf=>hin.o f dX));go_wp2_with fail;go_ret;exact⟨_,rfl,by rw[Hfin.o];rfl,rfl⟩
theorem J7(b nm:ByteArray)(w:World):Calls prog 98 #[.agg #[aa,.string b,.string nm]] w fun e w'=>e=.returned (.int .u8 0)/\Below w w w':=by
 go_enter func98,ntmps98;go_wp2_with fail;go_ret;exact⟨rfl,(Am _ _).alloc (Ao _) _⟩
theorem Mo(c:UInt8)(t:List UInt8)(hl:t.length<=1000)(b nm:ByteArray)(w:World):Calls prog 98 #[.agg #[.string ⟨(c::t).toArray⟩,.string b,.string nm]] w fun e w'=>e=.returned (.int .u8 (c.toNat:Int))/\Below w w w':=by
 go_enter func98,ntmps98;go_wp2_with fail;go_ret;exact⟨rfl,(Am _ _).alloc (Ao _) _⟩
theorem Qb6(p:Value)(c:UInt8)(t:List UInt8)(b nm:ByteArray)(w:World)(hc:c=91\/c=63)(hl:t.length<=1000):
  Calls prog 155 #[p,.agg #[.string ⟨(c::t).toArray⟩,.string b,.string nm]] w (Jc (Qfv c) w):=by
 rcases hc with rfl|rfl
 ·go_enter func155,ntmps155;go_wp2_with fail;refine(Mo 91 t hl _ _ _).mono ?_;rintro e w1 ⟨rfl,hb1⟩;go_wp2_with fail;exact mu
 go_enter func155,ntmps155;go_wp2_with fail;refine(Mo 63 t hl _ _ _).mono ?_;rintro e w1 ⟨rfl,hb1⟩;go_wp2_with fail;exact mu
theorem Yy(p:Value)(b:List UInt8)(nm:ByteArray)(w:World)(hb:b=[110]\/b=[116]\/b=[102]):
  Calls prog 155 #[p,.agg #[aa,b,.string nm]] w (Jc (Zo b) w):=by
 rcases hb with rfl|rfl|rfl<;>
 ·go_enter func155,ntmps155;go_wp2_with fail;refine(J7 _ _ _).mono ?_;rintro e w1 ⟨rfl,hb1⟩;obtain⟨hc1,_,_⟩:=Ci hb1;have y1:=hc1 w 1 aN;simp at y1;clear hc1;have Hb1:=Aa (((Am w.heap.size w).alloc (Ao _) _).trans (hb1.mono aN));clear hb1;go_wp2_with fail;go_ret;exact mw
def kcs(k:Kd):List Value:=[k.signs,k.base,k.name]
def Jx(v:Vl)(sl:Value):List Value:=[.int .u8 (v.what.toNat:Int),v.text,(v.tag:Int),sl]
def My(w:World)(b:Nat)(p:Value)(k:Kd)(t:List UInt8)(bad:Bool)(W:World):Prop:=
 Dv w b p t bad W/\W.rangeAt w 0 (kcs k)/\W.there (w.heap.size+1) 0 4/\w.heap.size+1<W.heap.size
theorem My.init{w:World}{b:Nat}{p:Value}{k:Kd}{t:List UInt8}{bad:Bool}(h:Ja w b p t bad){T U:TypeId}:My w b p k t bad ((w.alloc (.cells #[k.signs,k.base,k.name] T)).alloc (.cells #[.int .u8 0,aa,.int .i64 0,.slice none 0 0] U)):=by
 have h1:Below w w ((w.alloc (.cells #[k.signs,k.base,k.name] T)).alloc (.cells #[.int .u8 0,aa,.int .i64 0,.slice none 0 0] U)):=((Am _ _).alloc (Ao _) _).alloc aN _;refine⟨⟨h.grow h1,Cf h1 _⟩,?_,?_,by simp⟩
 ·have:=Ah (Br w (kcs k) T) (show w.heap.size<(w.alloc (.cells (kcs k).toArray T)).heap.size by simp) ((Am _ _).alloc (Ao _) (.cells #[.int .u8 0,aa,.int .i64 0,.slice none 0 0] U));exact this
 have:=B9 (w.alloc (.cells #[k.signs,k.base,k.name] T)) [.int .u8 0,aa,.int .i64 0,.slice none 0 0] U;simpa using this
theorem My.post{w W W':World}{b:Nat}{p:Value}{k:Kd}{t:List UInt8}{bad:Bool}(h:My w b p k t bad W)(hb:Below W W W'):My w b p k t bad W':=
 ⟨h.1.post hb,Ah h.2.1 (by have:=h.2.2.2;omega) hb,An h.2.2.1 h.2.2.2 hb,ad h.2.2.2 hb.size⟩
theorem My.step{w W W':World}{b:Nat}{p:Value}{k:Kd}{t t':List UInt8}{bad bad':Bool}(h:My w b p k t bad W)(hb:b<w.heap.size)(hs:Dv W b p t' bad' W'):My w b p k t' bad' W':=
 ⟨h.1.trans hs,C5 h.2.1 hs.2 aO,Eo h.2.2.1 hs.2 h.2.2.2 aO,ad h.2.2.2 hs.2.size⟩
theorem My.fin{w W w9:World}{b N:Nat}{p:Value}{k:Kd}{t t':List UInt8}{bad':Bool}{v:Vl}{sl:Value}{r:Option (Vl × List UInt8)}(F:My w b p k t' bad' W)(hb:b<w.heap.size)(HS:w9=W.setCells (w.heap.size+1) 0 (Jx v sl))
  (hv:Ee (fun c=>w.heap.size+2<=c) W sl v.kids) (hr:bad'=r.isNone) (hx:∀x,r=some x->v=x.1/\t'=x.2) (hB:Bd v) (hl:t'.length<=t.length) (hn:(Ba v).length+t'.length<=t.length+8*N):
  M0 w b p t N r (.returned (.agg (Jx v sl).toArray)) w9/\w9.rangeAt (w.heap.size+1) 0 (Jx v sl):=by
 subst HS hr;exact⟨⟨v,sl,t',rfl,(hv.set (B:=w.heap.size+1) aI _).mono fun c hc _=>by omega,F.1.set aI aI _,hx,hB,hl,hn⟩,ac _ _ _ _ F.2.2.1⟩
theorem Zr(b N:Nat)(p:Value)(t:List UInt8)(k:Kd)(w:World)(h:Ja w b p t true):
  Calls prog 102 #[b,Eh k] w (M0 w b p t N none):=by
 have HS:=Aa h;obtain⟨h0,h1,h2,h3,h4⟩:=h;have hbn:¬(b=w.heap.size):=aI;have hbn2:¬(b=w.heap.size+1):=aI;unfold Eh;clear h1 h2 h3;go_enter func102,ntmps102;go_wp2_with fail;have F:=(My.init (k:=k) HS.o (T:=62) (U:=47)).1;refine aG (v:=.agg (Jx Fk (.slice none 0 0)).toArray) ?_ rfl ⟨Fk,.slice none 0 0,t,rfl,Ee.nil _ _,F,aN,Fp aL aL,Ao _,by simp[Fk,Ba,Dz,H6]⟩;refine Bh results102 _ _ (w.heap.size+1) _ _ rfl ?_ underlying47 rfl aP;have:=Br (w.alloc (.cells #[k.signs,k.base,k.name] 62)) [.int .u8 0,aa,.int .i64 0,.slice none 0 0] 47;simpa [Jx,Fk,Vl.what,Vl.text,Vl.tag]using this
theorem Qc7(t:List UInt8):Sr t=if Jg 999999 t then some (J2 t,t.dropWhile Bm)else none:=by
 unfold Sr Jg J2;cases h:Cw (t.takeWhile Bm)with
 |none=>simp
 |some n=>simp[(Cj.1 h).1]
theorem Qbi(t:List UInt8):J2 t<=999999:=by
 unfold J2;cases h:Cw (t.takeWhile Bm)with
 |none=>simp
 |some n=>exact(Cj.1 h).1
theorem Qb5(p:UInt8->Bool)(t:List UInt8):(t.dropWhile p).length<=t.length:=(Tg p t).2
theorem Qic(b N:Nat)(p:Value)(t:List UInt8)(k:Kd)(w:World)(h:Ja w b p t false)(hl:t.length<=900)(hs:k.signs=[])(hb:k.base=[110])(q:Option (Vl × List UInt8))(hq:q=match Sr t with|some (n,r)=>some (.mk 110 (Bb n) 0 [],r)|none=>none):
  Calls prog 102 #[b,Eh k] w (M0 w b p t (N+1) q):=by
 have HQ:=Aa hq;have HS:=Aa h;have hb0:=h.1;have hbn:¬(b=w.heap.size):=aI;have hbn2:¬(b=w.heap.size+1):=aI;have c2:=h.2.2.2.2;clear hq;obtain⟨sg,bs,nm⟩:=k;simp only at hs hb;have HN:=Aa (Qc7 t);have hnn:=Qbi t;have Hn:=Aa (fun W (h:Ja W b p t false)=>Qi b 999999 p t false W h aI aL);have Hd:=Aa (fun W=>Qr (J2 t) (J2 t) W (Ao _) aI);have hdl:=Db 5 (J2 t) dj;have hdr:=Qb5 Bm t;generalize J2 t=n at *;generalize Jg 999999 t=ok at *;generalize t.dropWhile Bm=r at *;subst hs hb;unfold Eh;simp only;clear h;go_enter func102,ntmps102;go_wp2_with fail;refine(J7 _ _ _).mono ?_;rintro e w2 ⟨rfl,hb2⟩;have F2:=Aa ((My.init (k:=⟨[],[110],nm⟩) HS.o).post hb2);clear hb2 c2;have k0:=Ac F2.o.2.1 0 rfl;have k1:=Ac F2.o.2.1 1 rfl;have k2:=Ac F2.o.2.1 2 rfl;simp only[ao]at k0 k1 k2;have s2:=F2.o.1.1.2.2.2.2;go_wp2_with fail;refine(Hn.o _ F2.o.1.1).mono ?_;rintro e w3 ⟨rfl,hs3⟩;have F3:=Aa (F2.o.step hb0 hs3);clear hs3 k0 k1 k2 s2;go_wp2_with fail;refine(Hd.o _).mono ?_;rintro e w4 ⟨rfl,hb4⟩;have F4:=Aa (F3.o.post hb4);clear hb4;go_wp2_with ((with_reducible refine Af (op:=⟨none,.store 47 _ _,_,_,_,none⟩) rfl 47 _ _ rfl (w.heap.size+1) 0 [.int .u8 110,.string ⟨(Bb n).toArray⟩,.int .i64 0,.slice none 0 0] ?_ ?_ ?_ ?_ ?_ ?_);rfl;rfl;(exact F4.o.2.2.1);kernel_rfl;(simp[Value.oneCell']);intro w9 HS9)
 have HQ:=HQ.o;rw[HN.o]at HQ;have Z:=My.fin (t:=t) (N:=N+1) (v:=.mk 110 (Bb n) 0 []) (sl:=.slice none 0 0) (r:=q) F4.o hb0 HS9.o (Ee.nil _ _) (by rw[HQ];cases ok<;>rfl)
  (by rw[HQ];cases ok<;>simp) (Fp aL aI) hdr gu
 exact aG (v:=.agg (Jx (.mk 110 (Bb n) 0 []) (.slice none 0 0)).toArray) (Bh results102 _ _ (w.heap.size+1) _ _ rfl Z.2 underlying47 rfl aP) rfl Z.1
theorem Qil(b N:Nat)(p:Value)(t:List UInt8)(k:Kd)(w:World)(h:Ja w b p t false)(hl:t.length<=900)(hs:k.signs=[])(hb:k.base=[116])(q:Option (Vl × List UInt8))(hq:q=match N6 t with|some (x,r)=>some (.mk 116 x 0 [],r)|none=>none):
  Calls prog 102 #[b,Eh k] w (M0 w b p t (N+1) q):=by
 have HQ:=Aa hq;have HS:=Aa h;have hb0:=h.1;have hbn:¬(b=w.heap.size):=aI;have hbn2:¬(b=w.heap.size+1):=aI;have c2:=h.2.2.2.2;clear hq;obtain⟨sg,bs,nm⟩:=k;simp only at hs hb;have Hn:=Aa (fun W (h:Ja W b p t false)=>Qfr b p t false W h aI);subst hs hb;unfold Eh;simp only;clear h;go_enter func102,ntmps102;go_wp2_with fail;refine(J7 _ _ _).mono ?_;rintro e w2 ⟨rfl,hb2⟩;have F2:=Aa ((My.init (k:=⟨[],[116],nm⟩) HS.o).post hb2);clear hb2 c2;have k0:=Ac F2.o.2.1 0 rfl;have k1:=Ac F2.o.2.1 1 rfl;have k2:=Ac F2.o.2.1 2 rfl;simp only[ao]at k0 k1 k2;have s2:=F2.o.1.1.2.2.2.2;go_wp2_with fail;refine(Hn.o _ F2.o.1.1).mono ?_;rintro e w3 ⟨x,r,bad,rfl,hs3,hx,hxl⟩;have F3:=Aa (F2.o.step hb0 hs3);have Hx:=Aa hx;clear hs3 hx k0 k1 k2 s2;go_wp2_with ((with_reducible refine Af (op:=⟨none,.store 47 _ _,_,_,_,none⟩) rfl 47 _ _ rfl (w.heap.size+1) 0 [.int .u8 116,x,.int .i64 0,.slice none 0 0] ?_ ?_ ?_ ?_ ?_ ?_);rfl;rfl;(exact F3.o.2.2.1);kernel_rfl;(simp[Value.oneCell']);intro w9 HS9)
 have HQ:=HQ.o;rw[show N6 t=if bad then none else some (x,r)from Hx.o]at HQ;have Z:=My.fin (t:=t) (N:=N+1) (v:=.mk 116 x 0 []) (sl:=.slice none 0 0) (r:=q) F3.o hb0 HS9.o (Ee.nil _ _) (by rw[HQ];cases bad<;>rfl)
  (by rw[HQ];cases bad<;>simp) (Fp aL aI) aI gu
 exact aG (v:=.agg (Jx (.mk 116 x 0 []) (.slice none 0 0)).toArray) (Bh results102 _ _ (w.heap.size+1) _ _ rfl Z.2 underlying47 rfl aP) rfl Z.1
theorem Qjn(b N:Nat)(p:Value)(t:List UInt8)(k:Kd)(w:World)(h:Ja w b p t false)(hl:t.length<=900)(hs:k.signs=[])(hb:k.base=[102])(q:Option (Vl × List UInt8))(hq:q=match Qh t with|some (x,r)=>some (.mk 102 (if x then Es else M5) 0 [],r)|none=>none):
  Calls prog 102 #[b,Eh k] w (M0 w b p t (N+1) q):=by
 have HQ:=Aa hq;have HS:=Aa h;have hb0:=h.1;have hbn:¬(b=w.heap.size):=aI;have hbn2:¬(b=w.heap.size+1):=aI;have c2:=h.2.2.2.2;clear hq;obtain⟨sg,bs,nm⟩:=k;simp only at hs hb;have HFL:=@Aa (Qh t=(match Bk Es t false with|some r=>some (true,r)|none=>match Bk M5 t false with|some r=>some (false,r)|none=>none)) rfl;have Hy:=Aa (fun W (h:Ja W b p t false)=>Kh b p t Es false W h aI);have Hw:=Aa (fun W (h:Ja W b p t false)=>Dp b p t M5 false W h aI);have Hl1:=Aa (fun r (h:Bk Es t false=some r)=>(Gz (p:=Es)).1 h);have Hl2:=Aa (fun r (h:Bk M5 t false=some r)=>(Gz (p:=M5)).1 h);subst hs hb;unfold Eh;simp only;clear h;rcases hy:Bk Es t false with _|r
 ·rw[hy]at Hy HFL;unfold Es at Hy;unfold M5 at Hw
  have HL:=Aa (show ((Bk M5 t false).getD t).length<=t.length from by
   cases h:Bk M5 t false with
   |none=>exact Ao _
   |some r=>rw[Hl2.o r h];simp)
  clear hy;go_enter func102,ntmps102;go_wp2_with fail;refine(J7 _ _ _).mono ?_;rintro e w2 ⟨rfl,hb2⟩;have F2:=Aa ((My.init (k:=⟨[],[102],nm⟩) HS.o).post hb2);clear hb2 c2;have k0:=Ac F2.o.2.1 0 rfl;have k1:=Ac F2.o.2.1 1 rfl;have k2:=Ac F2.o.2.1 2 rfl;simp only[ao]at k0 k1 k2;have s2:=F2.o.1.1.2.2.2.2;go_wp2_with fail;refine(Hy.o _ F2.o.1.1).mono ?_;rintro e w3 ⟨rfl,hs3⟩;simp only[Option.getD_none]at hs3;have F3:=Aa (F2.o.step hb0 hs3);clear hs3 k0 k1 k2 s2;go_wp2_with fail;refine(Hw.o _ F3.o.1.1).mono ?_;rintro e w4 ⟨rfl,hs4⟩;have F4:=Aa (F3.o.step hb0 hs4);clear hs4;go_wp2_with ((with_reducible refine Af (op:=⟨none,.store 47 _ _,_,_,_,none⟩) rfl 47 _ _ rfl (w.heap.size+1) 0 [.int .u8 102,.string ⟨#[110,111]⟩,.int .i64 0,.slice none 0 0] ?_ ?_ ?_ ?_ ?_ ?_);rfl;rfl;(exact F4.o.2.2.1);kernel_rfl;(simp[Value.oneCell']);intro w9 HS9)
  have HQ:=HQ.o;rw[HFL.o]at HQ;have hl2:=HL.o;have Z:=My.fin (t:=t) (N:=N+1) (v:=.mk 102 M5 0 []) (sl:=.slice none 0 0) (r:=q) F4.o hb0 HS9.o (Ee.nil _ _) (by rw[HQ];unfold M5;cases Bk [110,111] t false<;>rfl)
   (by rw[HQ];unfold M5;cases Bk [110,111] t false<;>simp) (Fp aL aL) hl2 (by unfold M5 at hl2 ⊢;simp[Ba,Dz,H6];omega)
  exact aG (v:=.agg (Jx (.mk 102 M5 0 []) (.slice none 0 0)).toArray) (Bh results102 _ _ (w.heap.size+1) _ _ rfl Z.2 underlying47 rfl aP) rfl Z.1
 rw[hy]at Hy HFL;unfold Es at Hy;have hlr:=Hl1.o r hy;have hlr2:t.length=3+r.length:=by rw[hlr];simp[Es];omega
 clear hy hlr;go_enter func102,ntmps102;go_wp2_with fail;refine(J7 _ _ _).mono ?_;rintro e w2 ⟨rfl,hb2⟩;have F2:=Aa ((My.init (k:=⟨[],[102],nm⟩) HS.o).post hb2);clear hb2 c2;have k0:=Ac F2.o.2.1 0 rfl;have k1:=Ac F2.o.2.1 1 rfl;have k2:=Ac F2.o.2.1 2 rfl;simp only[ao]at k0 k1 k2;have s2:=F2.o.1.1.2.2.2.2;go_wp2_with fail;refine(Hy.o _ F2.o.1.1).mono ?_;rintro e w3 ⟨rfl,hs3⟩;simp only[Option.getD_some]at hs3;have F3:=Aa (F2.o.step hb0 hs3);clear hs3 k0 k1 k2 s2;go_wp2_with ((with_reducible refine Af (op:=⟨none,.store 47 _ _,_,_,_,none⟩) rfl 47 _ _ rfl (w.heap.size+1) 0 [.int .u8 102,.string ⟨#[121,101,115]⟩,.int .i64 0,.slice none 0 0] ?_ ?_ ?_ ?_ ?_ ?_);rfl;rfl;(exact F3.o.2.2.1);kernel_rfl;(simp[Value.oneCell']);intro w9 HS9)
 have HQ:=HQ.o;rw[HFL.o]at HQ;have Z:=My.fin (t:=t) (N:=N+1) (v:=.mk 102 Es 0 []) (sl:=.slice none 0 0) (r:=q) F3.o hb0 HS9.o (Ee.nil _ _) (by rw[HQ];rfl)
  (by rw[HQ];simp) (Fp aL aL) aI (by unfold Es;simp[Ba,Dz,H6];omega)
 exact aG (v:=.agg (Jx (.mk 102 Es 0 []) (.slice none 0 0)).toArray) (Bh results102 _ _ (w.heap.size+1) _ _ rfl Z.2 underlying47 rfl aP) rfl Z.1
def IvC(w0:World)(b:Nat)(p:Value)(S:List Ty)(N:Nat)(k:Kd):Prop:=
 ∀(t:List UInt8) (bad:Bool) (w:World),Below w0 w0 w->Ja w b p t bad->t.length<=900->(bad=false->t.length<N) ->
  Calls prog 102 #[b,Eh k] w (M0 w b p t N (if bad then none else Aq S 1000 N k t))
theorem Ee.one{P Q:Nat->Prop}{w:World}{v:Vl}{sl:Value}{T:TypeId}(h:Ee P w sl v.kids)(hQ:∀b,P b->b<w.heap.size->Q b)(hn:Q w.heap.size):
  Ee Q (w.alloc (.cells #[.int .u8 (v.what.toNat:Int),v.text,(v.tag:Int),sl] T)) (.slice (w,0) 1 1) [v]:=by
 have hb:Below w w (w.alloc (.cells #[.int .u8 (v.what.toNat:Int),v.text,(v.tag:Int),sl] T)):=(Am _ _).alloc (Ao _) _;refine .mk (w,0) 1 [(v,sl)] rfl rfl aN ⟨rfl,(show 4<=maxLen by decide),fun _=>⟨w.heap.size,0,rfl,by simp,fun j u hj=>?_⟩⟩ (fun g o _ e=>by injection e with e;injection e with e;subst e;exact hn) (fun x hx=>?_)
 ·rw[World.cell?_alloc_new];simpa [Mf]using hj
 rw[ar]at hx;subst hx;exact(h.mono hQ).after hb
theorem Fc(c:UInt8)(t:List UInt8)(bad:Bool):((Bk [c] t bad).getD t).length<=t.length:=gK
theorem Km{c:UInt8}{t r:List UInt8}{bad:Bool}(h:Bk [c] t bad=some r):r.length+1=t.length:=by
 rw[Co]at h;cases bad with
 |true=>cases h
 |false=>rw[if_neg aL,Cs]at h;subst h;rfl
theorem Qfg(w0:World)(b N:Nat)(p:Value)(S:List Ty)(t:List UInt8)(k:Kd)(w:World)(hw:Below w0 w0 w)(hb:w0.heap.size<=b)(h:Ja w b p t false)(hl:t.length<=900)(hN:t.length<=N)(hN2:N<=2000)(sg:List UInt8)(hs:k.signs=63::sg)(hsl:sg.length<=100)
  (H:IvC w0 b p S N k.part) (q:Option (Vl × List UInt8)) (hq:q=Qdo (Aq S 1000 N k.part) t):
  Calls prog 102 #[b,Eh k] w (M0 w b p t (N+1) q):=by
 have HQ:=Aa hq;have HH:=Aa H;have HP:=Aa (fun W=>Vr k W 63 sg hs aI);have HS:=Aa h;have HW:=Aa hw;have hb0:=h.1;have hbn:¬(b=w.heap.size):=aI;have hbn2:¬(b=w.heap.size+1):=aI;have c2:=h.2.2.2.2;have hm:=Fc 43 t false;have Hlt:=Aa (fun r (h:Bk [43] t false=some r)=>Km h);have Hlt2:=Aa (fun r (h:Bk [45] t false=some r)=>Km h);have Htk:=Aa (fun W (h:Ja W b p t false)=>Kh b p t [45] false W h aI);have Hwt:=Aa (fun W (h:Ja W b p t false)=>Dp b p t [43] false W h aI)
 have HQ2:=Aa (show Qdo (Aq S 1000 N k.part) t=(match Bk [45] t false with|some q=>some (.mk 63 [] 0 [],q)|none=>match Bk [43] t false with|none=>none|some r=>match Aq S 1000 N k.part r with|some (v,q)=>some (.mk 63 [] 0 [v],q)|none=>none)from by
  rw[Co,Co];rfl)
 generalize Qdo (Aq S 1000 N k.part) t=q0 at *;have Hkp:=Aa (rfl:Eh k=Eh k);obtain⟨sg',bs,nm⟩:=k;simp only at hs;subst hs;generalize hkp:(⟨63::sg,bs,nm⟩:Kd).part=kp at *;unfold Eh at HP ⊢;simp only at HP ⊢;clear h hq hw H Hkp hkp;rcases hy:Bk [45] t false with _|r
 ·rw[hy]at Htk HQ2;obtain⟨t1,ht1⟩:∃t1,t1=(Bk [43] t false).getD t:=⟨_,rfl⟩
  obtain⟨b1,hb1⟩:∃b1,b1=(Bk [43] t false).isNone:=⟨_,rfl⟩
  have HQ3:=Aa (show q=if b1 then none else match Aq S 1000 N kp t1 with|some (v,q)=>some (.mk 63 [] 0 [v],q)|none=>none from by
   rw[HQ.o,HQ2.o,ht1,hb1];cases Bk [43] t false<;>rfl)
  have HL1:=Aa (show b1=false->t1.length<N from by
   intro h;rw[hb1]at h;cases hr:Bk [43] t false with
   |none=>rw[hr]at h;cases h
   |some r=>have:=Hlt.o r hr;rw[ht1,hr];simp;omega)
  rw[<-ht1]at hm;rw[<-ht1,<-hb1]at Hwt;clear hy ht1 hb1 HQ2 HQ;go_enter func102,ntmps102;go_wp2_with fail;refine(Mo 63 sg aI _ _ _).mono ?_;rintro e w2 ⟨rfl,hb2⟩;have F2:=Aa ((My.init (k:=⟨63::sg,bs,nm⟩) HS.o).post hb2);clear hb2 c2;go_wp2_with fail;refine(Htk.o _ F2.o.1.1).mono ?_;rintro e w3 ⟨rfl,hs3⟩;simp only[Option.getD_none]at hs3;have F3:=Aa (F2.o.step hb0 hs3);clear hs3;go_wp2_with fail;refine(Hwt.o _ F3.o.1.1).mono ?_;rintro e w4 ⟨rfl,hs4⟩;have F4:=Aa (F3.o.step hb0 hs4);clear hs4;have k0:=Ac F4.o.2.1 0 rfl;have k1:=Ac F4.o.2.1 1 rfl;have k2:=Ac F4.o.2.1 2 rfl;simp only[ao]at k0 k1 k2;go_wp2_with fail;refine(HP.o _).mono ?_;rintro e w5 ⟨rfl,hb5⟩;have F5:=Aa (F4.o.post hb5);clear hb5 k0 k1 k2;go_wp2_with fail;refine(HH.o t1 b1 _ (F5.o.1.env HW.o hb) F5.o.1.1 aI HL1.o).mono ?_;rintro e w6 ⟨v,sl,t',rfl,hk,hs6,hx,hB,hl6,hn6⟩;obtain⟨A7,c7,rfl⟩:=hk.form;have F6:=Aa (F5.o.step hb0 hs6);have hz5:=F5.o.2.2.2;have Hk:=Aa hk;have Hx:=Aa hx;have HB:=Aa hB;clear hs6 hk hx hB;unfold Ev;have F7:=Aa (fun o=>F6.o.post ((Am _ _).alloc (Ao _) o));go_wp2_with ((with_reducible refine Af (op:=⟨none,.store 47 _ _,_,_,_,none⟩) rfl 47 _ _ rfl (w.heap.size+1) 0 [.int .u8 63,aa,.int .i64 0,.slice (w6,0) 1 1] ?_ ?_ ?_ ?_ ?_ ?_);rfl;rfl;(exact(Aa (F7.o _)).o.2.2.1);kernel_rfl;(simp[Value.oneCell']);intro w9 HS9)
  have hz6:=F6.o.2.2.2;have Z:=My.fin (t:=t) (N:=N+1) (v:=.mk 63 [] 0 [v]) (sl:=.slice (w6,0) 1 1) (r:=q) (F7.o _) hb0 HS9.o (Hk.o.one (fun c hc _=>by omega) aI)
   (by rw[HQ3.o];cases b1 with
    |true=>rfl
    |false=>simp only[ap,if_false];cases Aq S 1000 N kp t1 with
     |none=>rfl
     |some y=>rfl)
   (by rw[HQ3.o];cases b1 with
    |true=>simp
    |false=>
     simp only[ap,if_false];have hx2:=Hx.o;simp only[ap,if_false]at hx2;cases hr:Aq S 1000 N kp t1 with
     |none=>simp
     |some y=>obtain⟨e1,e2⟩:=hx2 y hr;rintro x hxx;injection hxx with hxx;subst hxx;exact⟨by rw[e1],e2⟩)
   (.mk aL fi aN (fun x hx=>by rw[ar]at hx;subst hx;exact HB.o)) aI (by simp[Ba,Dz,H6,Aw];omega)
  exact aG (v:=.agg (Jx (.mk 63 [] 0 [v]) (.slice (w6,0) 1 1)).toArray) (Bh results102 _ _ (w.heap.size+1) _ _ rfl Z.2 underlying47 rfl aP) rfl Z.1
 rw[hy]at Htk HQ2;have hlt:=Hlt2.o r hy;clear hy;go_enter func102,ntmps102;go_wp2_with fail;refine(Mo 63 sg aI _ _ _).mono ?_;rintro e w2 ⟨rfl,hb2⟩;have F2:=Aa ((My.init (k:=⟨63::sg,bs,nm⟩) HS.o).post hb2);clear hb2 c2;go_wp2_with fail;refine(Htk.o _ F2.o.1.1).mono ?_;rintro e w3 ⟨rfl,hs3⟩;simp only[Option.getD_some]at hs3;have F3:=Aa (F2.o.step hb0 hs3);clear hs3;go_wp2_with ((with_reducible refine Af (op:=⟨none,.store 47 _ _,_,_,_,none⟩) rfl 47 _ _ rfl (w.heap.size+1) 0 [.int .u8 63,aa,.int .i64 0,.slice none 0 0] ?_ ?_ ?_ ?_ ?_ ?_);rfl;rfl;(exact F3.o.2.2.1);kernel_rfl;(simp[Value.oneCell']);intro w9 HS9)
 have HQ:=HQ.o;rw[HQ2.o]at HQ;have Z:=My.fin (t:=t) (N:=N+1) (v:=.mk 63 [] 0 []) (sl:=.slice none 0 0) (r:=q) F3.o hb0 HS9.o (Ee.nil _ _) (by rw[HQ];rfl)
  (by rw[HQ];simp) (Fp aL aL) aI gu
 exact aG (v:=.agg (Jx (.mk 63 [] 0 []) (.slice none 0 0)).toArray) (Bh results102 _ _ (w.heap.size+1) _ _ rfl Z.2 underlying47 rfl aP) rfl Z.1
end
theorem Xy:(prog.info? 47).map (fun i=>(i.zero,i.size,i.bytes))=some (some (.agg #[.int .u8 0,aa,.int .i64 0,.slice none 0 0]),4,56):=aP
structure Tl(base B:Nat)(W:World)(h0 h1 h2 u rv:Value)(xs:List (Vl × Value)):Prop where
 lt:B<W.heap.size
 bs:base<=W.heap.size
 hB:B<base
 bk:Qa W B
 c0:W.cell? (B,0)=some h0
 c1:W.cell? (B,1)=some h1
 c2:W.cell? (B,2)=some h2
 c3:W.cell? (B,3)=some u
 row:W.ownsRow base 47 4 rv xs.length (xs.flatMap Mf)
 kids:∀x∈xs,Ee (fun c=>base<=c/\rv.ownBlock≠some c) W x.2 x.1.kids
theorem Tl.after{base B:Nat}{W W':World}{h0 h1 h2 u rv:Value}{xs:List (Vl × Value)}(h:Tl base B W h0 h1 h2 u rv xs)(hb:Below W W W'):Tl base B W' h0 h1 h2 u rv xs:=by
 obtain⟨hc,_,hz⟩:=Ci hb;exact⟨hz _ h.lt,ae h.bs hb.size,h.hB,h.bk.belowAt h.lt hb,(hc _ _ h.lt).trans h.c0,(hc _ _ h.lt).trans h.c1,(hc _ _ h.lt).trans h.c2,(hc _ _ h.lt).trans h.c3,Cv h.row hb,fun x hx=>(h.kids x hx).after hb⟩
theorem Tl.step{base B b:Nat}{W W':World}{h0 h1 h2 u rv:Value}{xs:List (Vl × Value)}(h:Tl base B W h0 h1 h2 u rv xs)(hg:W.grownBy W' (some b))(hb:b<base)(hne:b≠B):Tl base B W' h0 h1 h2 u rv xs:=by
 have hn:some B≠some b:=fun e=>fL
 exact⟨ad h.lt hg.size,ae h.bs hg.size,h.hB,h.bk.grown h.lt hg hn,hg.cell h.c0 hn,hg.cell h.c1 hn,hg.cell h.c2 hn,hg.cell h.c3 hn,
  h.row.kept hg (by
   cases hr:rv.ownBlock with
   |none=>cases rv with
    |slice A a b=>cases A with
     |none=>exact .inl rfl
     |some x=>simp[Value.ownBlock]at hr
    |_=>exact .inl rfl
   |some k=>have:=(h.row.lt k hr).1;exact .inr cd),
  fun x hx=>(h.kids x hx).grown hg fun c hc e=>by injection e with e;omega⟩
theorem Tl.store{base B:Nat}{W:World}{h0 h1 h2 u rv:Value}{xs:List (Vl × Value)}(h:Tl base B W h0 h1 h2 u rv xs):Tl base B (W.setCell ⟨B,3,none⟩ rv) h0 h1 h2 rv rv xs:=by
 have hg:=Al W B 3 rv;have hf:=h.bk.live 3;refine⟨by simpa using h.lt,by simpa using h.bs,h.hB,h.bk.set _,by simp[go_sem,h.c0],by simp[go_sem,h.c1],by simp[go_sem,h.c2],by simp[go_sem,h.c3,hf],h.row.kept hg ?_,fun x hx=>(h.kids x hx).grown hg fun c hc e=>by injection e with e;have:=h.hB;omega⟩;cases hr:rv.ownBlock with
 |none=>cases rv with
  |slice A a b=>cases A with
   |none=>exact .inl rfl
   |some x=>simp[Value.ownBlock]at hr
  |_=>exact .inl rfl
 |some k=>have:=(h.row.lt k hr).1;have:=h.hB;exact .inr cd
theorem Tl.app{base B:Nat}{W W':World}{h0 h1 h2 u rv rv':Value}{xs:List (Vl × Value)}{x:Vl × Value}(h:Tl base B W h0 h1 h2 u rv xs)(hx:Ee (fun c=>base<=c/\rv.ownBlock≠some c) W x.2 x.1.kids)
  (hown:W'.ownsRow base 47 4 rv' (xs.length+1) (xs.flatMap Mf++Mf x)) (hg:W.grownBy W' rv.ownBlock) (hwh:rv'.ownBlock=rv.ownBlock\/∃k,rv'.ownBlock=some k/\W.heap.size<=k):Tl base B W' h0 h1 h2 u rv' (xs++[x]):=by
 have hn:some B≠rv.ownBlock:=fun e=>gf;refine⟨ad h.lt hg.size,ae h.bs hg.size,h.hB,h.bk.grown h.lt hg hn,hg.cell h.c0 hn,hg.cell h.c1 hn,hg.cell h.c2 hn,hg.cell h.c3 hn,by simpa using hown,fun y hy=>?_⟩;have hy':Ee (fun c=>base<=c/\rv.ownBlock≠some c) W y.2 y.1.kids:=by
  rcases ag.1 hy with hy|hy
  ·exact h.kids y hy
  rw[ar]at hy;subst hy;exact hx
 refine hy'.kept (fun b o v hb _ hv=>hg.cell hv fun e=>hb.2 e.symm) hg.size fun c hc hl=>⟨hc.1,?_⟩
 rcases hwh with e|⟨k,e,hk⟩
 ·rw[e];exact hc.2
 exact m7
theorem Tl.done{base B:Nat}{W:World}{h0 h1 h2 u rv:Value}{xs:List (Vl × Value)}(h:Tl base B W h0 h1 h2 u rv xs)(hl:xs.length<=1000):Ee (fun c=>base<=c) W rv (Bi xs):=by
 rcases h.row.2 with⟨rfl,h0⟩|⟨g,cap,cur,rfl,hbg,hh,hnc,hcm,hcs,htk⟩
 ·obtain rfl:xs=[]:=List.eq_nil_of_length_eq_zero h0;exact Ee.nil _ _
 refine .mk (g,0) cap xs rfl rfl hl ⟨V7 Qf0 xs,by unfold maxLen;omega,fun hn=>⟨g,0,rfl,(h.row.lt g rfl).2,fun j u hu=>?_⟩⟩ (fun g' o _ e=>by injection e with e;injection e with e;subst e;exact hbg) fun x hx=>(h.kids x hx).mono fun c hc _=>hc.1;have:=h.row.cells (g:=g) rfl j u hu;have e1:(⟨g,0,none⟩:Addr).add j=⟨g,0+j,none⟩:=bI;rwa [e1]at this
theorem Ni{w:World}{base k n m c:Nat}{e:TypeId}{A:Option Addr}{xs:List Value}(h:w.ownsRow base e k (.slice A m c) n xs):m=n:=by
 rcases h.2 with⟨e,h0⟩|⟨g,cap,cur,e,_⟩
 ·injection e with _ e1 e2;omega
 injection e with _ e1 e2
theorem My.app{w W W':World}{b:Nat}{p:Value}{k:Kd}{t:List UInt8}{bad:Bool}{row:Option Nat}(h:My w b p k t bad W)(hb:b<w.heap.size)(hg:W.grownBy W' row)(hr:∀k,row=some k->w.heap.size+2<=k):My w b p k t bad W':=by
 have hn:∀c,c<w.heap.size+2->some c≠row:=fun c hc e=>by have:=hr c e.symm;omega
 obtain⟨⟨⟨h0,h1,h2,h3,h4⟩,hg0⟩,k1,k2,k3⟩:=h
 exact⟨⟨⟨ad h0 hg.size,h1.grown h0 hg (hn b aI),hg.cell h2 (hn b aI),hg.cell h3 (hn b aI),hg.cell h4 (hn b aI)⟩,⟨hg.os.trans hg0.os,hg.tape.trans hg0.tape,hg.output.trans hg0.output,ae hg0.size hg.size,fun k hk hne=>(hg.block k (ad hk hg0.size) (hn k aI)).trans (hg0.block k hk hne)⟩⟩,
  C5 k1 hg (hn _ aI),Eo k2 hg k3 (hn _ aI),ad k3 hg.size⟩
theorem My.put{w W:World}{b B o:Nat}{p:Value}{k:Kd}{t:List UInt8}{bad:Bool}(h:My w b p k t bad W)(hb:b<w.heap.size)(hB:w.heap.size+2<=B)(v:Value):My w b p k t bad (W.setCell ⟨B,o,none⟩ v):=
 h.app hb (Al W B o v) fun k e=>fL
theorem Xx(x:Vl × Value)(h:x.2.oneCell'=true):∀u∈Mf x,u.oneCell'=true:=by
 intro u hu;simp[Mf]at hu;rcases hu with rfl|rfl|rfl|rfl
 ·rfl
 ·rfl
 ·rfl
 exact h
def Si(vs:List Vl):Option (List Vl × List UInt8)->Option (List Vl × List UInt8)
 |some (us,z)=>some (vs++us,z)
 |none=>none
def LI(K:List UInt8->Option (Vl × List UInt8))(t1:List UInt8)(b1:Bool)(vs:List Vl)(tt:List UInt8):Prop:=
 (b1=true->vs=[])/\(b1=false->Dc K 1000 t1=Si vs (Dc K (1000 - vs.length) tt))/\Dh (vs.map Ba)+tt.length<=t1.length/\∀x∈vs,Bd x
def LE(K:List UInt8->Option (Vl × List UInt8))(t1:List UInt8)(b1:Bool)(vs:List Vl)(tt:List UInt8)(bb:Bool)(N:Nat):Prop:=
 (if b1 then none else Dc K 1000 t1)=(if bb then none else match Av 93 tt with|some z=>some (vs,z)|none=>none)/\Dh (vs.map Ba)+tt.length<=t1.length+8*N+1/\∀x∈vs,Bd x
theorem LI.init(K:List UInt8->Option (Vl × List UInt8))(t1:List UInt8)(b1:Bool):LI K t1 b1 [] t1:=
 ⟨fun _=>rfl,fun _=>by cases h:Dc K 1000 t1<;>simp[Si,h],by simp[Dh],by simp⟩
theorem Ng(a b:List (List UInt8)):Dh (a++b)=Dh a+Dh b:=dT
theorem LI.len{K:List UInt8->Option (Vl × List UInt8)}{t1 tt:List UInt8}{b1:Bool}{vs:List Vl}(h:LI K t1 b1 vs tt):vs.length+tt.length<=t1.length:=by
 have h1:=Qfw (vs.map Ba);have h2:=h.2.2.1;simp at h1;omega
theorem LI.step{K:List UInt8->Option (Vl × List UInt8)}{t1 tt t' t'':List UInt8}{vs:List Vl}{v:Vl}(h:LI K t1 false vs tt)(hK:K tt=some (v,t'))(hg:tt.length=(Ba v).length+t'.length)(hc:Av 44 t'=some t'')(hB:Bd v)(hl:t1.length<=900):LI K t1 false (vs++[v]) t'':=by
 have hlen:=h.len;obtain⟨_,h2,h3,h4⟩:=h;have e:t'=44::t'':=Cs.1 hc;refine⟨fun h=>Bool.noConfusion h,fun _=>?_,?_,?_⟩
 ·rw[h2 rfl];obtain⟨m,hm⟩:∃m,1000 - vs.length=m+1:=⟨999 - vs.length,by omega⟩
  rw[hm,show 1000 - (vs++[v]).length=m by simp;omega];conv=>lhs;unfold Dc
  rw[hK];simp only[hc];cases Dc K m t''<;>simp[Si]
 ·rw[aA,Ng];simp[D8,Dh]at h3 ⊢;rw[e]at hg;simp at hg;omega
 intro x hx;rcases ag.1 hx with hx|hx
 ·exact h4 x hx
 rw[ar]at hx;subst hx;exact hB
theorem LI.brk{K:List UInt8->Option (Vl × List UInt8)}{t1 tt t':List UInt8}{vs:List Vl}{v:Vl}{N:Nat}(h:LI K t1 false vs tt)(hx:∀x,K tt=some x->v=x.1/\t'=x.2)(hc:Bk [44] t' (K tt).isNone=none)(hB:Bd v)(hl:t1.length<=900)
  (hn:(Ba v).length+t'.length<=tt.length+8*N):LE K t1 false (vs++[v]) t' (K tt).isNone N:=by
 have hlen:=h.len;obtain⟨_,h2,h3,h4⟩:=h;refine⟨?_,?_,?_⟩
 ·rw[if_neg aL,h2 rfl];obtain⟨m,hm⟩:∃m,1000 - vs.length=m+1:=⟨999 - vs.length,by omega⟩
  rw[hm];unfold Dc;cases hk:K tt with
  |none=>rfl
  |some y=>
   obtain⟨e1,e2⟩:=hx y hk;obtain⟨y1,y2⟩:=y;simp only at e1 e2;subst e1 e2;rw[hk,Co]at hc;simp only[Option.isNone_some,ap,if_false]at hc ⊢;rw[hc];simp only;cases Av 93 t'<;>simp[Si]
 ·rw[aA,Ng];simp[D8,Dh]at h3 ⊢;omega
 intro x hx;rcases ag.1 hx with hx|hx
 ·exact h4 x hx
 rw[ar]at hx;subst hx;exact hB
theorem LI.bad{K:List UInt8->Option (Vl × List UInt8)}{t1 tt:List UInt8}{vs:List Vl}{N:Nat}(h:LI K t1 true vs tt):LE K t1 true vs tt true N:=⟨by simp,by have:=h.2.2.1;omega,h.2.2.2⟩
theorem LE.fin{K:List UInt8->Option (Vl × List UInt8)}{t t1 tt:List UInt8}{b1 bb:Bool}{vs:List Vl}{N:Nat}(h:LE K t1 b1 vs tt bb N)(h1:t1=(Bk [91] t false).getD t)(hb1:b1=(Bk [91] t false).isNone)(h2:Bk [93] t1 b1=none):
  Xl K 1000 t=if (Bk [93] tt bb).isNone || decide (20<vs.length)then none else some (.mk 91 [] 0 vs,(Bk [93] tt bb).getD tt):=by
 obtain⟨h3,_,_⟩:=h;rw[Co]at h1 hb1 h2 ⊢;simp only[ap,if_false]at h1 hb1;unfold Xl;cases hy:Av 91 t with
 |none=>
  rw[hy]at hb1;simp only[Option.isNone_none]at hb1;subst hb1;simp only[if_true]at h3;simp only;cases bb with
  |true=>simp
  |false=>
   simp only[ap,if_false]at h3 ⊢;cases hz:Av 93 tt with
   |none=>simp
   |some z=>rw[hz]at h3;cases h3
 |some r=>
  rw[hy]at h1 hb1;simp only[Option.isNone_some,Option.getD_some]at h1 hb1;subst h1 hb1;simp only[ap,if_false]at h2 h3;simp only;rw[h2];simp only;rw[h3];cases bb with
  |true=>simp
  |false=>
   simp only[ap,if_false];cases Av 93 tt with
   |none=>simp
   |some z=>
    simp only[Option.isNone_some,Bool.false_or,decide_eq_true_eq,Option.getD_some];by_cases h:vs.length<=20
    ·rw[if_pos h,if_neg aI]
    rw[if_neg h,if_pos aI]
section
attribute [local go_sem] Qm0 Ql8 Qlz Qj6 ByteArray.mk_append_mk
theorem Qbg(p:Value)(xs:List PT)(hok:∀y∈xs,Ff y.ty)(n:Nat)(k:Kd)(w:World)(hsc:Sw w p xs)(hk:Cm k)(hs:k.signs=[])(hb:k.base=[64])(x:PT)(hx:Fa xs k.name=some x)
  (hn:n<=9) (ih:x.ty.sort=85->∀f fs,x.ty.fields=f::fs->∀W,Sw W p xs->Calls prog 155 #[p,Eh f.kind] W (Jc (Di (Ag xs) n f.kind) W)):
  Calls prog 155 #[p,Eh k] w (Jc (Di (Ag xs) (n+1) k) w):=by
 have Hlen:=Aa (Sh (Ag xs) (fun t ht=>by obtain⟨y,hy,rfl⟩:=ay.1 ht;exact hok y hy))
 have HF:=Aa (show Di (Ag xs) (n+1) k=if x.ty.sort=82 then[123,125]else match x.ty.fields with|[]=>[]|f::_=>if x.ty.sort=69 then 35::Bb f.tag else 60::(Bb f.tag++61::(Di (Ag xs) n f.kind++[62]))from by
  rw[Di,if_neg eJ,if_neg eJ,if_neg bP,if_neg bP,if_neg bP,Ji,hx];rfl)
 have hxm:=(Gh hx).1;have Hto:=Aa (hok _ hxm);have hnl:=Ki hk;have Hsc:=Aa hsc;obtain⟨pb,A,cc,mb,rfl,q0,q1,q2,q3,q4,htys,_⟩:=hsc;obtain⟨z0,_,z1,z2,z3,z4,A8,c,hz8,hl8',hrow8⟩:=htys x hxm;rw[hz8]at z3;have Hrow:=Aa hrow8;have Ih:=Aa ih
 have Hlk:=Aa (fun W (h:Below w w W)=>show (Instr.lookup 156 (.map (some mb)) k.name false).run prog W=.ok x.blk W from by
  have:=Fy (Dq.below q4 h) k.name aI;rw[hx]at this;exact this)
 have hmb:=q4.lt;unfold Eh;rw[hs,hb];clear hk hs hb hx q1 q3 q4 htys hrow8 ih hok hz8 z2 z4 hxm;go_enter func155,ntmps155;go_wp2_with fail;refine(J7 _ _ _).mono ?_;rintro e w1 ⟨rfl,hb1⟩;obtain⟨hc1,_,hzz⟩:=Ci hb1;have y1:w1.cell? (w,1)=some (.string ⟨#[64]⟩):=(hc1 w 1 aN).trans aN;have y2:w1.cell? (w,2)=k.name:=(hc1 w 2 aN).trans aN;have Hb1:=@Aa (Below w w w1) (((Am w.heap.size w).alloc (Ao _) _).trans (hb1.mono aN));have hz1:w.heap.size<w1.heap.size:=eR;have m1:w1.cell? (pb,1)=some (.map (some mb)):=(Hb1.o.cell (p:=⟨pb,1,none⟩) q0).trans q2;have u0:w1.cell? (x.blk,0)=some (.int .u8 (x.ty.sort.toNat:Int)):=(Hb1.o.cell (p:=⟨x.blk,0,none⟩) z0).trans z1;have u2:w1.cell? (x.blk,2)=some (.slice A8 x.ty.fields.length c):=(Hb1.o.cell (p:=⟨x.blk,2,none⟩) z0).trans z3;have Hlook:=Aa (fun q=>Hlk.o (w1.drewN q) (Hb1.o.trans ((below_drewN (Am _ _) q).mono Hb1.o.size)));clear hc1 hzz hb1 q2 z1 z3;go_wp2_with fail;refine Gd [20,21,22,23,24,25,26,5]
  (fun i v W=>match i with|0=>v=pb|1=>v=pb|2=>v=(pb,1)|3=>v=.map (some mb)|4=>v=(w,2)|5=>v=k.name|6=>v=x.blk|7=>v=x.blk|_=>True)
  (fun L U W=>∃q,W=w1.drewN q) (⟨1,rfl⟩) ?_ ?_
 ·repeat (first|exact Ai.nil|(refine Ai.cons ?_ ?_;rotate_left))
  all_goals
   rintro L U W hL hpre HR Hdep K hK;obtain⟨q,rfl⟩:=HR.o;have hlq:=Hlook.o q;first|(simp[Region.binds]at hpre;done)|simp[Region.binds]at hpre|clear hpre
  iterate 8
   ·exact ii
 rintro L U W hL hφ hR;have e7:U 7=x.blk:=hφ 7 aL;simp only[e7];clear hφ;obtain⟨q,rfl⟩:=hR;have Hbq:=Aa (Hb1.o.trans ((below_drewN (Am w1.heap.size w1) q).mono Hb1.o.size));clear hL y1 y2 m1;by_cases h82:x.ty.sort=82
 ·have t82:((x.ty.sort.toNat:Int) == 82)=true:=Bl (d:=82) h82;have HF2:=Aa (HF.o.trans (if_pos h82));clear h82 HF;go_wp2_with fail;go_ret;exact⟨by rw[HF2.o];rfl,Hbq.o⟩
 have t82:((x.ty.sort.toNat:Int) == 82)=false:=Ap (d:=82) h82;have HF2:=Aa (HF.o.trans (if_neg h82));have hne:x.ty.fields≠[]:=fun h=>h82 (Hto.o.2.2.2.2 h);obtain⟨f,fs,hfs⟩:∃f fs,x.ty.fields=f::fs:=by
  cases h:x.ty.fields with
  |nil=>exact absurd h hne
  |cons f fs=>exact⟨f,fs,rfl⟩
 have hf0:0<x.ty.fields.length:=de;have hge:x.ty.fields[0]=f:=by simp[hfs]
 have hft:=Hto.o.2.2.1.1 f de;have htag:f.tag<=200:=hft.2.1;have hdl:=Db 2 f.tag ca;have Hd:=Aa (fun W=>Qr f.tag f.tag W (Ao _) aI);have hi0:(0:Int)<(x.ty.fields.length:Int):=aI;have HF3:=@Aa (Di (Ag xs) (n+1) k=if x.ty.sort=69 then 35::Bb f.tag else 60::(Bb f.tag++61::(Di (Ag xs) n f.kind++[62]))) (by rw[HF2.o,hfs]);have Hfs:=Aa hfs;obtain⟨b,off,rfl,hbl,hrg⟩:=Rk.range Hrow.o hf0;rw[hge]at hrg;have hrq:=Ah hrg hbl Hbq.o;simp only[Nat.zero_mul,Nat.add_zero]at hrq;have g0:(w1.drewN q).cell? ⟨b,off,none⟩=(f.tag:Int):=by simpa using Ac hrq 0 rfl
 have G2:=Aa (Ac hrq 2 rfl);have G3:=Aa (Ac hrq 3 rfl);have G4:=Aa (Ac hrq 4 rfl);have H82:=Aa h82;clear HF2 HF h82 hne hfs hge hft hrg hrq;by_cases h69:x.ty.sort=69
 ·have t69:((x.ty.sort.toNat:Int) == 69)=true:=Bl (d:=69) h69;have HF4:=Aa (HF3.o.trans (if_pos h69));clear h69 HF3;go_wp2_with fail;refine(Hd.o _).mono ?_;rintro e w2 ⟨rfl,hb2⟩;go_wp2_with fail;go_ret;exact⟨by rw[HF4.o];simp,Hbq.o.trans (hb2.mono Hbq.o.size)⟩
 have t69:((x.ty.sort.toNat:Int) == 69)=false:=Ap (d:=69) h69;have HF4:=Aa (HF3.o.trans (if_neg h69));have h85:x.ty.sort=85:=by
  rcases Hto.o.1 with h|h|h
  ·exact absurd h H82.o
  ·exact h
  exact absurd h h69
 have Ih2:=Aa (Ih.o h85 f fs Hfs.o);unfold Eh at Ih2;have hsl:=Hlen.o n f.kind;generalize Di (Ag xs) n f.kind=sl at *;clear h69 HF3 h85 Ih;go_wp2_with fail;obtain⟨W0,hW0⟩:∃W0,W0=w1.drewN q:=⟨_,rfl⟩
 rw[<-hW0]at Hbq g0 G2 G3 G4 ⊢;have Y2:=@Aa (W0.cell? (x.blk,2)=some (.slice (some ⟨b,off,none⟩) x.ty.fields.length c)) (by rw[hW0];exact u2);have Y0:=Aa g0;have Y3:=@Aa (W0.cell? ⟨b,off+2,none⟩=some (.string ⟨f.kind.signs.toArray⟩)) G2.o;have Y4:=@Aa (W0.cell? ⟨b,off+3,none⟩=some (.string ⟨f.kind.base.toArray⟩)) G3.o;have Y5:=@Aa (W0.cell? ⟨b,off+4,none⟩=some (.string ⟨f.kind.name.toArray⟩)) G4.o;have Hx5:=@Aa (x.blk<W0.heap.size) (ad z0 Hbq.o.size);have Hb5:=@Aa (b<W0.heap.size) (ad hbl Hbq.o.size);have Hsc0:=Aa (Hsc.o.below Hbq.o);clear hW0 g0 u0 u2;refine Gd [44,45,46,47,48,49,50,51,52,53,54,55,56,57,58,59,60,61,62,63,64,4]
  (fun i v W=>match i with|0=>v=x.blk|1=>v=x.blk|2=>v=(x.blk,2)|3=>v=.slice (some ⟨b,off,none⟩) x.ty.fields.length c|4=>v=.pointer (some ⟨b,off,none⟩)|5=>v=.pointer (some ⟨b,off,none⟩)|6=>v=(f.tag:Int)|7=>v=.string ⟨(Bb f.tag).toArray⟩|8=>v=.string ⟨(60::Bb f.tag).toArray⟩|9=>v=.string ⟨(60::(Bb f.tag++[61])).toArray⟩|10=>v=pb|11=>v=x.blk|12=>v=x.blk|13=>v=(x.blk,2)|14=>v=.slice (some ⟨b,off,none⟩) x.ty.fields.length c|15=>v=.pointer (some ⟨b,off,none⟩)|16=>v=.pointer (some ⟨b,off+2,none⟩)|17=>v=.agg #[.string ⟨f.kind.signs.toArray⟩,.string ⟨f.kind.base.toArray⟩,.string ⟨f.kind.name.toArray⟩]|18=>v=.string ⟨(sl).toArray⟩|19=>v=.string ⟨(60::(Bb f.tag++61::sl)).toArray⟩|20=>v=.string ⟨(60::(Bb f.tag++61::(sl++[62]))).toArray⟩|21=>v=.string ⟨(60::(Bb f.tag++61::(sl++[62]))).toArray⟩|_=>True)
  (fun L U W=>Below W0 W0 W) ((Am _ _).drew) ?_ ?_
 ·repeat (first|exact Ai.nil|(refine Ai.cons ?_ ?_;rotate_left))
  all_goals
   rintro L U W hL hpre HR Hdep K hK;have hB:=HR.o;have c2:=(hB.cell (p:=⟨x.blk,2,none⟩) Hx5.o).trans Y2.o;have c0:=(hB.cell (p:=⟨b,off,none⟩) Hb5.o).trans Y0.o;have c3:=(hB.cell (p:=⟨b,off+2,none⟩) Hb5.o).trans Y3.o;have c4:=(hB.cell (p:=⟨b,off+3,none⟩) Hb5.o).trans Y4.o;have c5:=(hB.cell (p:=⟨b,off+4,none⟩) Hb5.o).trans Y5.o;have c4':W.cell? ⟨b,off+2+1,none⟩=_:=c4;have c5':W.cell? ⟨b,off+2+1+1,none⟩=_:=c5;have c5'':W.cell? ⟨b,off+2+2,none⟩=_:=c5;first|(simp[Region.binds]at hpre;done)|simp[Region.binds]at hpre|clear hpre
  iterate 7
   ·exact ii
  ·exact jR
  ·exact ir
  ·exact ir
  iterate 8
   ·exact ii
  ·exact jL
  ·exact ir
  ·exact ir
  ·exact ii
 rintro L U W hL hφ hR;have e21:U 21=.string ⟨(60::(Bb f.tag++61::(sl++[62]))).toArray⟩:=hφ 21 aL;simp only[e21];clear hφ;have Hb9:=Aa (Hbq.o.trans (hR.mono Hbq.o.size));clear hR;go_wp2_with fail;go_ret;exact⟨by rw[HF4.o];rfl,Hb9.o⟩
theorem Sv(p:Value)(S:List Ty)(n:Nat)(k:Kd)(w:World)(hk:Cm k)(h:¬(k.signs=[]/\k.base=[64])):
  Calls prog 155 #[p,Eh k] w (Jc (Di S (n+1) k) w):=by
 unfold Eh;cases hs:k.signs with
 |cons c t=>
  have hc:=Sk hk hs;have hl:=hk.2.2;unfold Bc at hl;rw[hs]at hl;rw[Qo _ _ k c t hs hc];exact Qb6 p c t _ _ w hc (by simp at hl;omega)
 |nil=>
  have hb:k.base≠[64]:=fun hb=>h ⟨hs,hb⟩;rw[No _ _ k hs (N0 hk hs hb).2];exact Yy p k.base _ w (N0 hk hs hb).2
theorem Qdd(p:Value)(xs:List PT)(hok:∀x∈xs,Ff x.ty)(hS:Ha (Ag xs)):∀(n:Nat),n<=9->∀(k:Kd) (w:World),Sw w p xs->Cm k->B0 (Ag xs) k->Vp (Ag xs) n k ->
  Calls prog 155 #[p,Eh k] w (Jc (Di (Ag xs) (n+1) k) w):=by
 intro n;induction n with
 |zero=>
  intro _ k w hsc hk hr he;refine Sv p _ 0 k w hk (fun h=>?_);obtain⟨t,_,h2⟩:=he h.1 h.2;exact absurd h2 (by simp[B8])
 |succ n ih=>
  intro hn k w hsc hk hr he;by_cases hsb:k.signs=[]/\k.base=[64]
  ·obtain⟨hs,hb⟩:=hsb;have h1:=hr hb;rw[Ji]at h1;cases hx:Fa xs k.name with
   |none=>rw[hx]at h1;cases h1
   |some x=>
    have hft:Bp (Ag xs) k.name=some x.ty:=(Gh hx).2.2;have hto:Ff x.ty:=hok _ (Gh hx).1;refine Qbg p xs hok (n+1) k w hsc hk hs hb x hx hn (fun h85 f fs hfs W hW=>?_);have hrf:B0 (Ag xs) f.kind:=hS x.ty (Cq hft).1 ep f de;exact lM
  exact Sv p _ (n+1) k w hk hsb
theorem Qdb(p:Value)(xs:List PT)(h:Je (Ag xs))(k:Kd)(w:World)(hsc:Sw w p xs)(hk:Cm k)(hr:B0 (Ag xs) k):
  Calls prog 155 #[p,Eh k] w (Jc (Vf (Ag xs) k) w):=
 Qdd p xs (fun x hx=>h.1.1 x.ty (aq hx)) h.2.1 9 (Ao _) k w hsc hk hr (Tu h hr)
theorem Xq(p:Value)(xs:List PT)(h:Je (Ag xs))(f:Fd)(b o:Nat)(w:World)(hsc:Sw w p xs)(hf:w.rangeAt b o (Tf f))(hk:Cm f.kind)(hr:B0 (Ag xs) f.kind)(hl:f.given.length<=1000):
  Calls prog 121 #[p,.pointer (some ⟨b,o,none⟩)] w (Jc (Jf (Ag xs) f) w):=by
 have HF:=@Aa (Jf (Ag xs) f=if f.given=[]then Vf (Ag xs) f.kind else f.given) rfl;have Hs:=Aa (fun W (h1:Sw W p xs)=>Qdb p xs h f.kind W h1 hk hr);have Hsc:=Aa hsc;unfold Eh at Hs;have c2:w.cell? ⟨b,o+2,none⟩=f.kind.signs:=Ac hf 2 rfl;have c3:w.cell? ⟨b,o+3,none⟩=f.kind.base:=Ac hf 3 rfl;have c4:w.cell? ⟨b,o+4,none⟩=f.kind.name:=Ac hf 4 rfl;have c5:w.cell? ⟨b,o+5,none⟩=f.given:=Ac hf 5 rfl;have c3':w.cell? ⟨b,o+2+1,none⟩=f.kind.base:=c3;have c4':w.cell? ⟨b,o+2+1+1,none⟩=f.kind.name:=c4;have c4'':w.cell? ⟨b,o+2+2,none⟩=f.kind.name:=c4;clear h hk hr hsc hf;by_cases hg:f.given=[]
 ·have HF2:=Aa (HF.o.trans (if_pos hg));rw[hg]at c5;clear hg HF;go_enter func121,ntmps121;go_wp2_with fail;refine(Hs.o _ Hsc.o).mono ?_;rintro e w1 ⟨rfl,hb1⟩;go_wp2_with fail;go_ret;exact⟨by rw[HF2.o];rfl,hb1⟩
 have HF2:=Aa (HF.o.trans (if_neg hg));have t1:f.given.isEmpty=false:=by simpa using hg
 have t2:(!f.given.isEmpty)=true:=by simp[t1]
 clear hg HF;go_enter func121,ntmps121;go_wp2_with fail;go_ret;exact⟨by rw[HF2.o];rfl,Am _ _⟩
def Q4(w:World)(b:Nat)(p:Value)(R:Nat)(t:List UInt8)(bad:Bool)(W:World):Prop:=Dv w b p t bad W/\W.there R 0 4/\w.heap.size<=R/\R<W.heap.size
theorem Q4.post{w W W':World}{b R:Nat}{p:Value}{t:List UInt8}{bad:Bool}(h:Q4 w b p R t bad W)(hb:Below W W W'):Q4 w b p R t bad W':=
 ⟨h.1.post hb,An h.2.1 h.2.2.2 hb,h.2.2.1,ad h.2.2.2 hb.size⟩
theorem Q4.step{w W W':World}{b R:Nat}{p:Value}{t t':List UInt8}{bad bad':Bool}(h:Q4 w b p R t bad W)(hb:b<w.heap.size)(hs:Dv W b p t' bad' W'):Q4 w b p R t' bad' W':=
 ⟨h.1.trans hs,Eo h.2.1 hs.2 h.2.2.2 (by have:=h.2.2.1;simp;omega),h.2.2.1,ad h.2.2.2 hs.2.size⟩
theorem Dv.app{w W W':World}{b:Nat}{p:Value}{t:List UInt8}{bad:Bool}{row:Option Nat}(h:Dv w b p t bad W)(hb:b<w.heap.size)(hg:W.grownBy W' row)(hr:∀k,row=some k->w.heap.size<=k):Dv w b p t bad W':=by
 have hn:∀c,c<w.heap.size->some c≠row:=fun c hc e=>by have:=hr c e.symm;omega
 obtain⟨⟨h0,h1,h2,h3,h4⟩,hg0⟩:=h;exact⟨⟨ad h0 hg.size,h1.grown h0 hg (hn b hb),hg.cell h2 (hn b hb),hg.cell h3 (hn b hb),hg.cell h4 (hn b hb)⟩,⟨hg.os.trans hg0.os,hg.tape.trans hg0.tape,hg.output.trans hg0.output,ae hg0.size hg.size,fun k hk hne=>(hg.block k (ad hk hg0.size) (hn k hk)).trans (hg0.block k hk hne)⟩⟩
theorem Q4.app{w W W':World}{b R:Nat}{p:Value}{t:List UInt8}{bad:Bool}{row:Option Nat}(h:Q4 w b p R t bad W)(hb:b<w.heap.size)(hg:W.grownBy W' row)(hr:∀k,row=some k->R<k):Q4 w b p R t bad W':=
 ⟨h.1.app hb hg fun k e=>by have:=hr k e;have:=h.2.2.1;omega,Eo h.2.1 hg h.2.2.2 (fun e=>by have:=hr R e.symm;omega),h.2.2.1,ad h.2.2.2 hg.size⟩
theorem Q4.fin{w W w9:World}{b R:Nat}{p:Value}{t:List UInt8}{bad:Bool}{v:Vl}{sl:Value}(F:Q4 w b p R t bad W)(hb:b<w.heap.size)(HS:w9=W.setCells R 0 (Jx v sl))(hv:Ee (fun c=>R<c) W sl v.kids):
  Ee (fun c=>w.heap.size<=c) w9 sl v.kids/\Dv w b p t bad w9/\w9.rangeAt R 0 (Jx v sl):=by
 subst HS;have:=F.2.2.1;exact⟨(hv.set (B:=R) aI _).mono fun c hc _=>by omega,F.1.set aI aI _,ac _ _ _ _ F.2.1⟩
def Ql0(w0 w:World)(b:Nat)(p:Value)(t:List UInt8)(N:Nat)(fs:List Fd)(r:Option ((Fd × Vl) × List UInt8))(e:Ending)(w':World):Prop:=
 ∃(v:Vl) (sl fp:Value) (t':List UInt8),e=.returned (.tuple #[Ev v sl,fp])/\Ee (fun c=>w.heap.size<=c) w' sl v.kids/\Dv w b p t' r.isNone w'/\Bd v/\t'.length<=t.length/\(Ba v).length+t'.length<=t.length+8*N /\
  ((fp=.pointer none/\r=none)\/∃g x,Ka w0.heap.size w' fp (some g)/\v=Df (g,x)/\Au fs g.tag=some g/\Bd x/\∀y,r=some y->y=((g,x),t'))
theorem Ka.via{B:Nat}{w0 W W':World}{v:Value}{o:Option Fd}(h:Ka B W v o)(h1:Below B w0 W)(h2:Below B w0 W'):Ka B W' v o:=by
 cases o with
 |none=>exact h
 |some f=>
  obtain⟨b,o,e,hb,hr⟩:=h;exact⟨b,o,e,hb,fun j u hu=>(h2.cell (p:=⟨b,o+j,none⟩) hb).trans ((h1.cell (p:=⟨b,o+j,none⟩) hb).symm.trans (hr j u hu))⟩
theorem Qdp(fs:List Fd)(t:List UInt8):G0 fs t=if Jg 200 t then(Au fs (J2 t)).map (fun f=>(f,t.dropWhile Bm))else none:=by
 unfold G0;rw[Qc7];unfold Jg J2;cases h:Cw (t.takeWhile Bm)with
 |none=>simp
 |some n=>
  have:=(Cj.1 h).1;simp only[decide_eq_true_eq,this,if_true,Option.getD_some];by_cases h2:n<=200
  ·rw[if_pos h2,if_pos h2];cases Au fs n<;>rfl
  rw[if_neg h2,if_neg h2]
theorem Qg6(K:Kd->List UInt8->Option (Vl × List UInt8))(fs:List Fd)(t:List UInt8):De K fs t=match Au fs (J2 t)with
  |none=>none
  |some f=>match Bk [61] (t.dropWhile Bm) (!Jg 200 t)with
   |none=>none
   |some q=>match K f.kind q with|some (v,z)=>some ((f,v),z)|none=>none:=by
 unfold De;rw[Qdp];simp only[Co];cases Jg 200 t<;>cases Au fs (J2 t)<;>simp
 rfl
theorem Qkt(t:List UInt8)(h:Jg 200 t=true):(Bb (J2 t)).length+(t.dropWhile Bm).length=t.length:=by
 unfold Jg at h;unfold J2;cases hd:Cw (t.takeWhile Bm)with
 |none=>rw[hd]at h;cases h
 |some n=>
  have e:=(Cj.1 hd).2;simp only[Option.getD_some];rw[<-e,<-ai,List.takeWhile_append_dropWhile]
theorem Qcg(w0:World)(b N:Nat)(p:Value)(S:List Ty)(x:PT)(hx:Rl w0 x)(t:List UInt8)(w:World)(hw:Below w0 w0 w)(hb:w0.heap.size<=b)(bad:Bool)(h:Ja w b p t bad)(hl:t.length<=900)(hN:bad=false->t.length<=N)(hN2:N<=2000)
  (htg:∀f∈x.ty.fields,f.tag<=200) (H:∀f∈x.ty.fields,IvC w0 b p S N f.kind) (q:Option ((Fd × Vl) × List UInt8)) (hq:q=if bad then none else De (Aq S 1000 N) x.ty.fields t):
  Calls prog 176 #[b,x.blk] w (Ql0 w0 w b p t N x.ty.fields q):=by
 have HQ:=Aa (hq.trans (by rw[Qg6]));have Hnl:=Aa (Qkt t);have HS:=Aa h;have HW:=Aa hw;have hb0:=h.1;have hbn:¬(b=w.heap.size):=aI;have hnn:=Qbi t;have hdr:=Qb5 Bm t;have Hn:=Aa (fun W (h:Ja W b p t bad)=>Qi b 200 p t bad W h aI aL);have Hf:=Aa (fun W (hW:Below w0 w0 W)=>Pm w0 x hx (J2 t) W hW aI);have hxb:x.blk<w0.heap.size:=hx.1;clear h hw hq;obtain⟨b1,hb1⟩:∃b1,b1=(bad || !Jg 200 t):=⟨_,rfl⟩
 have Hb1:=Aa hb1;rw[<-hb1]at Hn;generalize t.dropWhile Bm=t1 at *;have hm:=Fc 61 t1 b1;have Hwt:=Aa (fun W (h:Ja W b p t1 b1)=>Dp b p t1 [61] b1 W h aI);have Hlt0:=Aa (fun r (h:Bk [61] t1 b1=some r)=>Km h);clear hb1;cases hfo:Au x.ty.fields (J2 t)with
 |none=>
  rw[hfo]at Hf HQ;have hq0:=@Aa (q=none) (by have:=HQ.o;cases bad<;>simpa using this);generalize J2 t=n at *;generalize (Bk [61] t1 b1).getD t1=t2 at *;generalize (Bk [61] t1 b1).isNone=b2 at *;clear hfo HQ Hnl;go_enter func176,ntmps176;go_wp2_with fail;have F0:=@Aa (Q4 w b p w.heap.size t bad (w.alloc (.cells #[.int .u8 0,aa,.int .i64 0,.slice none 0 0] 47))) ⟨⟨HS.o.grow ((Am _ _).alloc (Ao _) _),Cf ((Am _ _).alloc (Ao _) _) _⟩,B9 w [.int .u8 0,aa,.int .i64 0,.slice none 0 0] _,Ao _,by simp⟩;refine(Hn.o _ F0.o.1.1).mono ?_;rintro e w2 ⟨rfl,hs2⟩;have F2:=Aa (F0.o.step hb0 hs2);clear hs2;go_wp2_with fail;refine(Hf.o _ (F2.o.1.env HW.o hb)).mono ?_;rintro e w3 ⟨fp,rfl,hfp,rfl⟩;have hfp':fp=.pointer none:=hfp;subst hfp';go_wp2_with fail;refine(Hwt.o _ F2.o.1.1).mono ?_;rintro e w4 ⟨rfl,hs4⟩;have F4:=Aa (F2.o.step hb0 hs4);clear hs4;have sb:=F4.o.1.1.2.1.live 2;have s0:=F4.o.1.1.1;have s2:=F4.o.1.1.2.2.2.2;have F5:=Aa (F4.o.step hb0 ⟨F4.o.1.1.setBad true,Al _ b 2 (.bool true)⟩);go_wp2_with ((with_reducible refine Af (op:=⟨none,.store 47 _ _,_,_,_,none⟩) rfl 47 _ _ rfl w 0 [.int .u8 0,aa,.int .i64 0,.slice none 0 0] ?_ ?_ ?_ ?_ ?_ ?_);rfl;rfl;(exact F5.o.2.1);kernel_rfl;(simp[Value.oneCell']);intro w9 HS9)
  have Z:=Q4.fin (v:=Fk) (sl:=.slice none 0 0) F5.o hb0 HS9.o (Ee.nil _ _);refine aG (v:=.tuple #[.agg (Jx Fk (.slice none 0 0)).toArray,.pointer none]) (As results176 _ _ w.heap.size _ _ _ rfl rfl Z.2.2 underlying47 rfl aP) rfl ?_;exact⟨Fk,.slice none 0 0,.pointer none,t2,rfl,Z.1,by rw[hq0.o];exact Z.2.1,Fp aL aL,by omega,by simp[Fk,Ba,Dz,H6];omega,.inl ⟨rfl,hq0.o⟩⟩
 |some g=>
  obtain⟨hgt,hgm⟩:=Ax hfo;have hg2:=htg g hgm;have Hfg:=Aa (show Au x.ty.fields g.tag=some g by rw[hgt];exact hfo);rw[hfo]at Hf HQ;simp only at HQ;have HH:=Aa (H g hgm);cases hc:Bk [61] t1 b1 with
  |none=>
   have hq0:=Aa (show q=none from by
    rw[HQ.o];cases bad with
    |true=>rfl
    |false=>rw[if_neg aL];rw[show Bk [61] t1 (!Jg 200 t)=none by have:=Hb1.o;rw[Bool.false_or]at this;rw[<-this];exact hc])
   rw[hc]at Hwt;simp only[Option.isNone_none,Option.getD_none]at Hwt;generalize J2 t=n at *;clear hfo HQ Hnl hc hm;subst hgt;obtain⟨b2,hb2⟩:∃b2,b2=true:=⟨_,rfl⟩
   rw[<-hb2]at Hwt;go_enter func176,ntmps176;go_wp2_with fail;have F0:=@Aa (Q4 w b p w.heap.size t bad (w.alloc (.cells #[.int .u8 0,aa,.int .i64 0,.slice none 0 0] 47))) ⟨⟨HS.o.grow ((Am _ _).alloc (Ao _) _),Cf ((Am _ _).alloc (Ao _) _) _⟩,B9 w [.int .u8 0,aa,.int .i64 0,.slice none 0 0] _,Ao _,by simp⟩;refine(Hn.o _ F0.o.1.1).mono ?_;rintro e w2 ⟨rfl,hs2⟩;have F2:=Aa (F0.o.step hb0 hs2);clear hs2;go_wp2_with fail;refine(Hf.o _ (F2.o.1.env HW.o hb)).mono ?_;rintro e w3 ⟨fp,rfl,hfp,rfl⟩;obtain⟨fb,fo,rfl,hfb,hfr⟩:=hfp;go_wp2_with fail;refine(Hwt.o _ F2.o.1.1).mono ?_;rintro e w4 ⟨rfl,hs4⟩;have F4:=Aa (F2.o.step hb0 hs4);clear hs4;have sb:=F4.o.1.1.2.1.live 2;have s0:=F4.o.1.1.1;have s2:=F4.o.1.1.2.2.2.2;have F5:=Aa (F4.o.step hb0 ⟨F4.o.1.1.setBad true,Al _ b 2 (.bool true)⟩);subst hb2;go_wp2_with ((with_reducible refine Af (op:=⟨none,.store 47 _ _,_,_,_,none⟩) rfl 47 _ _ rfl w 0 [.int .u8 0,aa,.int .i64 0,.slice none 0 0] ?_ ?_ ?_ ?_ ?_ ?_);rfl;rfl;(exact F5.o.2.1);kernel_rfl;(simp[Value.oneCell']);intro w9 HS9)
   have Z:=Q4.fin (v:=Fk) (sl:=.slice none 0 0) F5.o hb0 HS9.o (Ee.nil _ _);refine aG (v:=.tuple #[.agg (Jx Fk (.slice none 0 0)).toArray,.pointer none]) (As results176 _ _ w.heap.size _ _ _ rfl rfl Z.2.2 underlying47 rfl aP) rfl ?_;exact⟨Fk,.slice none 0 0,.pointer none,t1,rfl,Z.1,by rw[hq0.o];exact Z.2.1,Fp aL aL,by omega,by simp[Fk,Ba,Dz,H6];omega,.inl ⟨rfl,hq0.o⟩⟩
  |some t2=>
   have hlt:=Hlt0.o t2 hc;have hbb:bad=false/\b1=false/\Jg 200 t=true:=by
    have h1:b1=false:=by
     cases b1 with
     |false=>rfl
     |true=>rw[Co]at hc;simp at hc
    have h2:=Hb1.o;rw[h1]at h2;cases bad<;>cases hnb:Jg 200 t<;>simp[hnb]at h2 ⊢
    exact h1
   obtain⟨rfl,rfl,hnb⟩:=hbb;have hnl:=Hnl.o hnb;rw[hgt.symm]at hnl
   have hq0:=Aa (show q=(match Aq S 1000 N g.kind t2 with|some (v,z)=>some ((g,v),z)|none=>none)from by
    rw[HQ.o,if_neg aL,hnb];show (match Bk [61] t1 false with|none=>none|some q=>match Aq S 1000 N g.kind q with|some (v,z)=>some ((g,v),z)|none=>none)=_;rw[hc])
   rw[hc]at Hwt;simp only[Option.isNone_some,Option.getD_some]at Hwt;have h2N:t2.length<N:=by have:=hN rfl;omega
   generalize J2 t=n at *;clear hfo HQ Hnl hc hm Hb1 hnb Hlt0;subst hgt;go_enter func176,ntmps176;go_wp2_with fail;have F0:=@Aa (Q4 w b p w.heap.size t false (w.alloc (.cells #[.int .u8 0,aa,.int .i64 0,.slice none 0 0] 47))) ⟨⟨HS.o.grow ((Am _ _).alloc (Ao _) _),Cf ((Am _ _).alloc (Ao _) _) _⟩,B9 w [.int .u8 0,aa,.int .i64 0,.slice none 0 0] _,Ao _,by simp⟩;refine(Hn.o _ F0.o.1.1).mono ?_;rintro e w2 ⟨rfl,hs2⟩;have F2:=Aa (F0.o.step hb0 hs2);clear hs2;go_wp2_with fail;refine(Hf.o _ (F2.o.1.env HW.o hb)).mono ?_;rintro e w3 ⟨fp,rfl,hfp,rfl⟩;obtain⟨fb,fo,rfl,hfb,hfr⟩:=hfp;go_wp2_with fail;refine(Hwt.o _ F2.o.1.1).mono ?_;rintro e w4 ⟨rfl,hs4⟩;have F4:=Aa (F2.o.step hb0 hs4);clear hs4;have HFR:=@Aa (Ka w0.heap.size w4 (.pointer (some ⟨fb,fo,none⟩)) (some g)) (Ka.via ⟨fb,fo,rfl,hfb,hfr⟩ (F2.o.1.env HW.o hb) (F4.o.1.env HW.o hb));have G4:=@Aa (w4.rangeAt fb fo (Tf g)) (by obtain⟨a1,a2,a3,_,a5⟩:=HFR.o;injection a3 with a3;injection a3 with a3;injection a3 with a3 a4;subst a3 a4;exact a5);have s2:=F4.o.1.1.2.2.2.2;have g2:=Ac G4.o 2 rfl;have g3:=Ac G4.o 3 rfl;have g4:=Ac G4.o 4 rfl;have g3':w4.cell? ⟨fb,fo+2+1,none⟩=g.kind.base:=g3;have g4':w4.cell? ⟨fb,fo+2+1+1,none⟩=g.kind.name:=g4;have g4'':w4.cell? ⟨fb,fo+2+2,none⟩=g.kind.name:=g4;clear hfr;have HV:=Aa (fun W (h1:Below w0 w0 W) (h2:Ja W b p t2 false)=>HH.o t2 false W h1 h2 aI (fun _=>h2N));unfold Eh at HV;simp only[ap,if_false]at HV;go_wp2_with fail;refine(HV.o _ (F4.o.1.env HW.o hb) F4.o.1.1).mono ?_;rintro e w5 ⟨v,sl,t',rfl,hk5,hs5,hx5,hB5,hl5,hn5⟩;obtain⟨A7,c7,rfl⟩:=hk5.form;have F5:=Aa (F4.o.step hb0 hs5);have Hk5:=Aa hk5;have Hx5:=Aa hx5;have HB5:=Aa hB5;have hz4:=F4.o.2.2.2;clear hs5 hk5 hx5 hB5 g2 g3 g4 g3' g4' g4'' s2;unfold Ev;go_wp2_with fail;obtain⟨W6,hW6⟩:∃W6,W6=w5.alloc (.cells #[.int .u8 (v.what.toNat:Int),v.text,(v.tag:Int),.slice A7 v.kids.length c7] 47):=⟨_,rfl⟩
   rw[<-hW6];have hb6:Below w5 w5 W6:=eH;have F6:=Aa (F5.o.post hb6);have HP6:=Aa (HFR.o.via (F4.o.1.env HW.o hb) (F6.o.1.env HW.o hb));have X6:=@Aa (W6.rangeAt w5 0 [.int .u8 (v.what.toNat:Int),v.text,(v.tag:Int),.slice A7 v.kids.length c7]) (by rw[hW6];exact Br w5 [.int .u8 (v.what.toNat:Int),v.text,(v.tag:Int),.slice A7 v.kids.length c7] _);have Hk6:=Aa (Hk5.o.after hb6);have hz6:w5.heap.size<W6.heap.size:=by rw[hW6];simp
   have HW6:=Aa (F6.o.1.env HW.o hb);have hz5:=F5.o.2.2.2;generalize w5.heap.size=B7 at *;clear hW6 hb6;have D0:=@Aa (W6.cell? ⟨fb,fo,none⟩=(g.tag:Int)) (by obtain⟨a1,a2,a3,_,a5⟩:=HP6.o;injection a3 with a3;injection a3 with a3;injection a3 with a3 a4;subst a3 a4;simpa using Ac a5 0 rfl);refine Bo [32,33,34,35,36,37,38,39,999,5] aP aP aP (fun u=>by dsimp only[Cd,Bu,List.set,ao,Nat.reduceAdd])
    (fun ix u W=>match ix with|0=>u=.pointer (some ⟨fb,fo,none⟩)|1=>u=.pointer (some ⟨fb,fo,none⟩)|2=>u=.pointer (some ⟨fb,fo,none⟩)|3=>u=(g.tag:Int)|4=>u=.agg #[.int .u8 (v.what.toNat:Int),v.text,(v.tag:Int),.slice A7 v.kids.length c7]|5=>∃c,u=.slice (some ⟨c,0,none⟩) 1 1|6=>∃c,u=.agg #[.int .u8 61,aa,(g.tag:Int),.slice (some ⟨c,0,none⟩) 1 1]|7=>u=.pointer (some ⟨fb,fo,none⟩)|9=>u=.pointer (some ⟨fb,fo,none⟩)|_=>True)
    (fun L U W=>(L 8=false->Below W6 W6 W)/\(L 5=true->L 8=false->∃W7,W=W7.alloc (.cells (Mf (v,.slice A7 v.kids.length c7)).toArray 47)/\U 5=.slice (some ⟨W7.heap.size,0,none⟩) 1 1/\Below W6 W6 W7)/\(L 6=true->U 6=.agg #[.int .u8 61,aa,(g.tag:Int),U 5]) /\
  (L 8=true->∃W7,W=(W7.alloc (.cells (Mf (v,.slice A7 v.kids.length c7)).toArray 47)).setCells w 0 [.int .u8 61,aa,(g.tag:Int),.slice (some ⟨W7.heap.size,0,none⟩) 1 1]/\Below W6 W6 W7)) (fun _ _=>True) (fun _ _ _ _ _ h=>h) (⟨fun _=>(Am _ _).drew,fun h=>Bool.noConfusion h,fun h=>Bool.noConfusion h,fun h=>Bool.noConfusion h⟩) ?_ ?_
   ·repeat (first|exact Ai.nil|(refine Ai.cons ?_ ?_;rotate_left))
    all_goals
     rintro L U W hL hpre hR hun hdep K hK;have HR:=Aa hR;obtain⟨R1,R2,R3,R4⟩:=HR.o;have Hdep:=Aa hdep;clear hun hdep hR;first|(simp[Region.binds]at hpre;done)|simp[Region.binds]at hpre|clear hpre
    iterate 3
     ·exact ii
    ·have h6:L 6=false:=At Hdep.o 6 3 rfl hL;have h8:L 8=false:=At Hdep.o 8 6 rfl h6;have m0:=((R1 h8).cell (p:=⟨fb,fo,none⟩) (by have:=HW6.o.size;show fb<_;omega)).trans D0.o;exact lR
    ·have h5:L 5=false:=At Hdep.o 5 4 rfl hL;have h6:L 6=false:=At Hdep.o 6 5 rfl h5;have h8:L 8=false:=At Hdep.o 8 6 rfl h6;have m0:=((R1 h8).cell (p:=⟨B7,0,none⟩) hz6).trans (X6.o 0 _ rfl);have m1:=((R1 h8).cell (p:=⟨B7,1,none⟩) hz6).trans (X6.o 1 _ rfl);have m2:=((R1 h8).cell (p:=⟨B7,2,none⟩) hz6).trans (X6.o 2 _ rfl);have m3:=((R1 h8).cell (p:=⟨B7,3,none⟩) hz6).trans (X6.o 3 _ rfl);exact lR
    ·have h6:L 6=false:=At Hdep.o 6 5 rfl hL;have h8:L 8=false:=At Hdep.o 8 6 rfl h6;have hba:Below W W (W.alloc (.cells (Mf (v,.slice A7 v.kids.length c7)).toArray 47)):=(Am _ _).alloc (Ao _) _;have u4:=hpre.2;go_simp;exact hK (.slice (W,0) 1 1) _ _ ⟨W.heap.size,rfl⟩ Ab ⟨fun _=>(R1 h8).trans (hba.mono (R1 h8).size),fun _ _=>⟨W,rfl,rfl,R1 h8⟩,fun h=>absurd (h6.symm.trans aQ) aL,fun h=>absurd (h8.symm.trans aQ) aL⟩ aK
    ·obtain⟨c,u5⟩:=hpre.2.2;have u3:=hpre.1.2;go_simp;exact hK (.agg #[.int .u8 61,aa,(g.tag:Int),U 5]) _ _ ⟨c,by rw[u5]⟩ Ab ⟨R1,R2,fun _=>rfl,fun h=>R4 aQ⟩ dY
    ·exact ii
    ·obtain⟨⟨l6,_⟩,_⟩:=hpre;have u6:=R3 l6;have l5:L 5=true:=by
      cases h5:L 5 with
      |true=>rfl
      |false=>exact absurd (l6.symm.trans (At Hdep.o 6 5 rfl h5)) aL
     obtain⟨W7,rfl,u5,hb7⟩:=R2 l5 hL;rw[u5]at u6;rw[if_pos cC];refine wp_store_mid 47 _ _ rfl w 0 ([.int .u8 61,aa,(g.tag:Int),.slice (some ⟨W7.heap.size,0,none⟩) 1 1]:List Value).toArray rfl u6 ((F6.o.post hb7).post ((Am _ _).alloc (Ao _) _)).2.1 aP bu ?_;exact hK undef _ _ Ab Ab ⟨fun h=>by simp at h,fun _ h=>by simp at h,fun _=>by show U 6=.agg #[.int .u8 61,aa,(g.tag:Int),U 5];rw[u5];exact u6,fun _=>⟨W7,rfl,hb7⟩⟩ rfl
    ·clear R1 R2 R3 R4;go_simp;exact hK (.pointer (some ⟨fb,fo,none⟩)) _ _ rfl Ab HR.o aK
   rintro L U W hL hφ hR;have hφ9:=hφ 9 aL;clear hφ;have e9:U 9=.pointer (some ⟨fb,fo,none⟩):=hφ9;obtain⟨_,_,_,h4⟩:=hR;obtain⟨W7,rfl,hb7⟩:=h4 (hL 8 aL);clear hL h4;simp only[e9];clear hφ9;go_wp2_with fail;have F7:=Aa (F6.o.post hb7);have Hk7:=Aa (Hk6.o.after hb7);have hz7:=F7.o.2.2.2;have Z:=Q4.fin (v:=Df (g,v)) (sl:=.slice (some ⟨W7.heap.size,0,none⟩) 1 1) (F7.o.post ((Am _ _).alloc (Ao _) (.cells (Mf (v,.slice A7 v.kids.length c7)).toArray 47))) hb0 rfl (Hk7.o.one (T:=47) (fun c hc _=>by omega) aI);have HPz:=HP6.o.via (F6.o.1.env HW.o hb) (Z.2.1.env HW.o hb);refine aG (v:=.tuple #[.agg (Jx (Df (g,v)) (.slice (some ⟨W7.heap.size,0,none⟩) 1 1)).toArray,.pointer (some ⟨fb,fo,none⟩)]) (As results176 _ _ w.heap.size _ _ _ rfl rfl Z.2.2 underlying47 rfl aP) rfl ?_;have hx9:=Hx5.o;refine⟨Df (g,v),_,_,t',rfl,Z.1,?_,.mk (show g.tag<=1000000000 by omega) fi aN (fun y hy=>by rw[ar]at hy;subst hy;exact HB5.o),by omega,by rw[Jn];simp only;omega,.inr ⟨g,v,HPz,rfl,Hfg.o,HB5.o,?_⟩⟩
   ·have e:q.isNone=(Aq S 1000 N g.kind t2).isNone:=by rw[hq0.o];cases Aq S 1000 N g.kind t2<;>rfl
    rw[e];exact Z.2.1
   intro y hy;rw[hq0.o]at hy;cases hr:Aq S 1000 N g.kind t2 with
   |none=>rw[hr]at hy;cases hy
   |some z=>
    obtain⟨z1,z2⟩:=z;rw[hr]at hy;simp only[ak]at hy;obtain⟨e1,e2⟩:=hx9 _ hr;simp only at e1 e2;rw[<-hy,e1,e2]
def Qv(ps:List (Fd × Vl)):Option (List (Fd × Vl) × List UInt8)->Option (List (Fd × Vl) × List UInt8)
 |some (us,z)=>some (ps++us,z)
 |none=>none
structure RI(S:List Ty)(K:Kd->List UInt8->Option (Vl × List UInt8))(fs:List Fd)(t1:List UInt8)(b1:Bool)(ps:List (Fd × Vl))(last:Nat)(tt:List UInt8):Prop where
 eq:b1=false->Ef S K fs 201 0 t1=Qv ps (Ef S K fs (201 - ps.length) last tt)
 len:Dh ((ps.map Df).map Ba)+tt.length<=t1.length
 bd:∀p∈ps,Bd (Df p)
 lo:ps.length<=last
 hi:last<=200
def RE(S:List Ty)(K:Kd->List UInt8->Option (Vl × List UInt8))(fs:List Fd)(t1:List UInt8)(b1:Bool)(vs:List Vl)(tt:List UInt8)(bb:Bool)(N:Nat):Prop:=
 ∃ps:List (Fd × Vl),(if b1 then none else Ef S K fs 201 0 t1)=(if bb then none else match Av 125 tt with|some z=>some (ps,z)|none=>none)/\(bb=false->vs=ps.map Df)/\Dh (vs.map Ba)+tt.length<=t1.length+8*N+1/\(∀x∈vs,Bd x)/\vs.length<=201
section
variable {S:List Ty} {K:Kd->List UInt8->Option (Vl × List UInt8)} {fs:List Fd} {t1 tt t' t'':List UInt8} {b1:Bool} {ps:List (Fd × Vl)} {last N:Nat} {g:Fd} {x:Vl}
theorem RI.init:RI S K fs t1 b1 [] 0 t1:=⟨fun _=>by cases h:Ef S K fs 201 0 t1<;>simp[Qv,h],by simp[Dh],by simp,Ao _,by omega⟩
theorem RI.bad(h:RI S K fs t1 true ps last tt):RE S K fs t1 true (ps.map Df) tt true N:=
 ⟨ps,by simp,fun h=>Bool.noConfusion h,by have:=h.len;omega,fun y hy=>by obtain⟨p,hp,rfl⟩:=ay.1 hy;exact h.bd p hp,by have:=h.lo;have:=h.hi;simp;omega⟩
theorem RI.fuel(h:RI S K fs t1 b1 ps last tt):∃m,201 - ps.length=m+1:=⟨200 - ps.length,by have:=h.lo;have:=h.hi;omega⟩
theorem RI.step(h:RI S K fs t1 false ps last tt)(hK:De K fs tt=some ((g,x),t'))(hl:last<g.tag)(hne:Ba x≠Jf S g)(hlen:tt.length=(Ba (Df (g,x))).length+t'.length)(hc:Av 44 t'=some t'')(hB:Bd (Df (g,x)))(hg:g.tag<=200):
  RI S K fs t1 false (ps++[(g,x)]) g.tag t'':=by
 obtain⟨m,hm⟩:=h.fuel;have e:t'=44::t'':=Cs.1 hc;refine⟨fun _=>?_,?_,fun p hp=>?_,by have:=h.lo;simp;omega,hg⟩
 ·rw[h.eq rfl,hm,show 201 - (ps++[(g,x)]).length=m by simp;omega];conv=>lhs;unfold Ef
  rw[hK];simp only;rw[if_neg gi,hc];simp only;cases Ef S K fs m g.tag t''<;>simp[Qv]
 ·have:=h.len;rw[aA,aA,Ng];simp[D8,Dh]at this ⊢;rw[e]at hlen;simp at hlen;omega
 rcases ag.1 hp with hp|hp
 ·exact h.bd p hp
 rw[ar]at hp;subst hp;exact hB
theorem RI.stop(h:RI S K fs t1 false ps last tt)(hs:∀y,De K fs tt=some y->y.1.1.tag<=last\/Ba y.1.2=Jf S y.1.1)(hl:t'.length<=tt.length):RE S K fs t1 false (ps.map Df) t' true N:=by
 obtain⟨m,hm⟩:=h.fuel;refine⟨ps,?_,fun h=>Bool.noConfusion h,by have:=h.len;omega,fun y hy=>by obtain⟨p,hp,rfl⟩:=ay.1 hy;exact h.bd p hp,by have:=h.lo;have:=h.hi;simp;omega⟩;rw[if_neg aL,h.eq rfl,hm];unfold Ef;cases hk:De K fs tt with
 |none=>rfl
 |some y=>
  obtain⟨p,z⟩:=y;simp only;rw[if_pos (hs _ hk)];rfl
theorem RI.brk(h:RI S K fs t1 false ps last tt)(hx:∀y,De K fs tt=some y->y=((g,x),t'))(hl:last<g.tag)(hne:Ba x≠Jf S g)(hc:Bk [44] t' (De K fs tt).isNone=none)(hB:Bd (Df (g,x)))
  (hn:(Ba (Df (g,x))).length+t'.length<=tt.length+8*N):RE S K fs t1 false (ps.map Df++[Df (g,x)]) t' (De K fs tt).isNone N:=by
 obtain⟨m,hm⟩:=h.fuel;refine⟨ps++[(g,x)],?_,fun _=>by simp,?_,?_,by have:=h.lo;have:=h.hi;simp;omega⟩
 ·rw[if_neg aL,h.eq rfl,hm];unfold Ef;cases hk:De K fs tt with
  |none=>rfl
  |some y=>
   have:=hx y hk;subst this;rw[hk,Co]at hc;simp only[Option.isNone_some,ap,if_false]at hc ⊢;rw[if_neg gi,hc];simp only;cases Av 125 t'<;>simp[Qv]
 ·have:=h.len;rw[aA,Ng];simp[D8,Dh]at this ⊢;omega
 intro y hy;rcases ag.1 hy with hy|hy
 ·obtain⟨p,hp,rfl⟩:=ay.1 hy;exact h.bd p hp
 rw[ar]at hy;subst hy;exact hB
theorem RE.fin{vs:List Vl}{bb:Bool}{t:List UInt8}(h:RE S K fs t1 b1 vs tt bb N)(h1:t1=(Bk [123] t false).getD t)(hb1:b1=(Bk [123] t false).isNone)(h2:Bk [125] t1 b1=none):
  (match Av 123 t with
   |none=>none
   |some r=>match Av 125 r with
    |some q=>some (Vl.mk 82 [] 0 [],q)
    |none=>match Ef S K fs 201 0 r with|some (ps,q)=>some (.mk 82 [] 0 (ps.map Df),q)|none=>none) =
  if (Bk [125] tt bb).isNone then none else some (.mk 82 [] 0 vs,(Bk [125] tt bb).getD tt):=by
 obtain⟨ps,h3,h4,_⟩:=h;rw[Co]at h1 hb1 h2 ⊢;simp only[ap,if_false]at h1 hb1;cases hy:Av 123 t with
 |none=>
  rw[hy]at hb1;simp only[Option.isNone_none]at hb1;subst hb1;simp only[if_true]at h3;simp only;cases bb with
  |true=>simp
  |false=>
   simp only[ap,if_false]at h3 ⊢;cases hz:Av 125 tt with
   |none=>simp
   |some z=>rw[hz]at h3;cases h3
 |some r=>
  rw[hy]at h1 hb1;simp only[Option.isNone_some,Option.getD_some]at h1 hb1;subst h1 hb1;simp only[ap,if_false]at h2 h3;simp only;rw[h2];simp only;rw[h3];cases bb with
  |true=>simp
  |false=>
   rw[h4 rfl];simp only[ap,if_false];cases Av 125 tt<;>simp
end
end
end Go.Proofs.YtpjijpcemejlnaaGreatDoor
