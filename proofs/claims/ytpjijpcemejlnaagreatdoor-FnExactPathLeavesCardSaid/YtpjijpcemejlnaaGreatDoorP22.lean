/- Texts joined. Conditions: as each theorem names them. -/
import Derived.Maps.AppendAt
import Derived.Test.YtpjijpcemejlnaaGreatDoorP21
set_option maxRecDepth 100000
set_option maxHeartbeats 32000000
set_option linter.unusedVariables false
set_option linter.unusedSimpArgs false
namespace Go.Proofs.YtpjijpcemejlnaaGreatDoor
open Go.RowKit Go.Proofs.Tryz
section
attribute [local go_sem] Qhy Qhh Qg3 Qfo ByteArray.mk_append_mk
theorem Dx(b:Nat):∀(vs:List Value) (o:Nat) (w:World),w.grownBy (w.setCells b o vs) (some b)
 |[],_,w=>World.grownBy.refl _ _
 |v::r,o,w=>(Nh w ⟨b,o,none⟩ v).trans (Dx b r (o+1) _)
def N7(o:Option (List Ty × Kd))(w:World)(e:Ending)(w':World):Prop:=
 (match o with
  |some x=>∃p xs,Aj xs=x.1/\e=.returned (.tuple #[p,Jv x.2,.bool true])/\S8 w.heap.size w' p xs
  |none=>∃(p:Option Addr) (a b c:ByteArray),e=.returned (.tuple #[.pointer p,.agg #[.string a,.string b,.string c],.bool false]))/\Below w w w'
theorem N7.no{w w':World}{e:Ending}{o:Option (List Ty × Kd)}(ho:o=none){p:Option Addr}{a b c:ByteArray}(he:e=.returned (.tuple #[.pointer p,.agg #[.string a,.string b,.string c],.bool false]))(hb:Below w w w'):N7 o w e w':=by
 rw[ho];exact⟨⟨p,a,b,c,he⟩,hb⟩
theorem Qcz(s d:List UInt8)(w:World)(hs:s.length<=4000000)(hd:d.length<=4000000):
  Calls prog 51 #[s,d] w (N7 (C4 s d) w):=by
 have Hrs:=Aa (fun W=>Sm s W hs);have Hrk:=Aa (fun W=>Pt d W hd);have HF:=@Aa (C4 s d=(match Ca s with|none=>none|some S=>match Cg d with|none=>none|some k=>if Cb S k then some (S,k)else none)) rfl;have Hkok:=Aa (fun k (h:Cg d=some k)=>(D7.1 h).1);generalize Ca s=oS at HF Hrs;generalize Cg d=oK at HF Hrk Hkok;go_enter func51,ntmps51;go_wp2_with fail;refine(Hrs.o _).mono ?_;rintro e w1 ⟨hcase,hb1⟩;have hz1:w.heap.size<w1.heap.size:=ey;have HT1:=@Aa (w1.there w 0 3) (As (Cx w [a8,a8,a8] 62) aK hb1);have Hb1:=@Aa (Below w w w1) (((Au _ _).alloc (Ap _) _).trans (hb1.mono aK));clear hb1;cases oS with
 |none=>
  obtain⟨p,rfl⟩:=hcase;go_wp2_with ((with_reducible refine Ad (op:=⟨none,.store 62 _ _,_,_,_,none⟩) rfl 62 _ _ rfl w 0 [a8,a8,a8] ?_ ?_ ?_ ?_ ?_ ?_);rfl;rfl;(exact HT1.o);kernel_rfl;(simp[Value.oneCell']);intro w9 HS9)
  have HZ:=@Aa (w9.rangeAt w 0 [a8,a8,a8]) (by rw[HS9.o];exact aa _ _ _ _ HT1.o);refine aE (v:=.tuple #[.pointer none,.agg ([a8,a8,a8]:List Value).toArray,.bool false]) ?_ rfl ?_
  ·exact Fa results51 _ _ w.heap.size [a8,a8,a8] _ _ _ rfl rfl rfl HZ.o underlying62 rfl aM
  exact N7.no HF.o rfl (by rw[HS9.o];exact Af _ (Ap _) _ _ _ Hb1.o)
 |some S=>
  obtain⟨p,xs,hxs,rfl,hsl⟩:=hcase;subst hxs;have Hsl:=@Aa (S8 (w.heap.size+1) w1 p xs) (by simpa using hsl);obtain⟨pb,_,_,_,hp,_⟩:=hsl;subst hp;go_wp2_with fail;refine(Hrk.o _).mono ?_;rintro e w2 ⟨hcase,hb2⟩;cases oK with
  |none=>
   obtain⟨a1,a2,a3,rfl⟩:=hcase;have hz4:w2.heap.size<(w2.alloc (.cells #[.string a1,.string a2,.string a3] 62)).heap.size:=aK;have hz2:w.heap.size<w2.heap.size:=by have:=hb2.size;omega
   have HT4:=@Aa ((w2.alloc (.cells #[.string a1,.string a2,.string a3] 62)).there w 0 3) (aq (As HT1.o hz1 hb2) _);have HX4:=@Aa ((w2.alloc (.cells #[.string a1,.string a2,.string a3] 62)).rangeAt w2 0 [.string a1,.string a2,.string a3]) (Ch w2 [.string a1,.string a2,.string a3] _);have Hsl4:=@Aa (S8 (w.heap.size+1) (w2.alloc (.cells #[.string a1,.string a2,.string a3] 62)) pb xs) ((Hsl.o.below hb2).below ((Au _ _).alloc (Ap _) _));have Hb4:=@Aa (Below w w (w2.alloc (.cells #[.string a1,.string a2,.string a3] 62))) ((Hb1.o.trans (hb2.mono Hb1.o.size)).alloc aG _);clear hb2;go_wp2_with fail;refine Bc [23,24,25,26,27,28,29,30,4,999,6] aM aM aM (fun u=>by dsimp only[Br,Bh,List.set,am,Nat.reduceAdd])
    (fun i v W=>match i with|0=>v=pb|1=>v=.agg ([.string a1,.string a2,.string a3]:List Value).toArray|2=>v=.bool false|3=>v=.bool false|7=>v=.bool false|8=>v=pb|10=>v=.bool false|_=>True) (fun L U W=>Below w w W/\w2.heap.size<W.heap.size/\W.there w 0 3/\W.rangeAt w2 0 [.string a1,.string a2,.string a3]/\S8 (w.heap.size+1) W pb xs/\(L 9=true->W.rangeAt w 0 [.string a1,.string a2,.string a3])) (fun _ _=>True) (fun _ _ _ _ _ h=>h) ⟨Hb4.o.drew,by simp,by simpa using HT4.o,by simpa using HX4.o,Hsl4.o.below ((Au _ _).drew),by simp⟩ ?_ ?_
   ·repeat (first|exact Ar.nil|(refine Ar.cons ?_ ?_;rotate_left))
    all_goals
     rintro L U W hL hpre hR hun hdep K hK;have HR:=Aa hR;obtain⟨_,_,_,hxr,_,_⟩:=hR;have c0:W.cell? (w2,0)=some (.string a1):=by simpa using Ac hxr 0 rfl
     have c1:W.cell? (w2,1)=some (.string a2):=by simpa using Ac hxr 1 rfl
     have c2:W.cell? (w2,2)=some (.string a3):=by simpa using Ac hxr 2 rfl
     clear hun hdep hxr;first|(simp[Region.binds]at hpre;done)|simp[Region.binds]at hpre|clear hpre
    iterate 9 exact f4
    ·obtain⟨r1,r2,r3,r4,r5,r6⟩:=HR.o;rw[if_pos du];refine wp_store_mid 62 _ _ rfl w 0 ([.string a1,.string a2,.string a3]:List Value).toArray rfl hpre.1.2 r3 aM bU ?_;exact i7
    ·exact f4
   rintro L U W hL hφ ⟨r1,r2,r3,r4,r5,r6⟩;have e8:U 8=pb:=hφ 8 aJ;have e10:U 10=.bool false:=hφ 10 aJ;have hr0:=r6 (hL 9 aJ);simp only[e8,e10];have R1:=Aa r1;have R5:=Aa r5;have R0:=Aa hr0;clear hL hφ r1 r2 r3 r4 r5 r6 hr0;go_wp2_with fail;refine aE (v:=.tuple #[pb,.agg ([.string a1,.string a2,.string a3]:List Value).toArray,.bool false]) ?_ rfl ?_
   ·exact Fa results51 _ _ w.heap.size [.string a1,.string a2,.string a3] _ _ _ rfl rfl rfl R0.o underlying62 rfl aM
   exact N7.no HF.o rfl R1.o
  |some k=>
   have hcase':e=.returned (.tuple #[.agg #[k.signs,k.base,k.name],.bool true]):=hcase;subst hcase';clear hcase;have hkn:k.name.length<=100:=ad (Kw (Hkok.o k rfl)) aJ;have hz4:w2.heap.size<(w2.alloc (.cells #[k.signs,k.base,k.name] 62)).heap.size:=aK;have hz2:w.heap.size<w2.heap.size:=by have:=hb2.size;omega
   have HT4:=@Aa ((w2.alloc (.cells #[k.signs,k.base,k.name] 62)).there w 0 3) (aq (As HT1.o hz1 hb2) _);have HX4:=@Aa ((w2.alloc (.cells #[k.signs,k.base,k.name] 62)).rangeAt w2 0 [k.signs,k.base,k.name]) (Ch w2 [k.signs,k.base,k.name] _);have Hsl4:=@Aa (S8 (w.heap.size+1) (w2.alloc (.cells #[k.signs,k.base,k.name] 62)) pb xs) ((Hsl.o.below hb2).below ((Au _ _).alloc (Ap _) _));have Hb4:=@Aa (Below w w (w2.alloc (.cells #[k.signs,k.base,k.name] 62))) ((Hb1.o.trans (hb2.mono Hb1.o.size)).alloc aG _);clear hb2;go_wp2_with fail;have HF3:=@Aa (C4 s d=if Cb (Aj xs) k then some (Aj xs,k)else none) HF.o;refine Bc [23,24,25,26,27,28,29,30,4,999,6] aM aM aM (fun u=>by dsimp only[Br,Bh,List.set,am,Nat.reduceAdd])
    (fun i v W=>match i with|0=>v=pb|1=>v=.agg ([k.signs,k.base,k.name]:List Value).toArray|2=>v=.bool true|3=>v=.bool true|4=>v=pb|5=>v=.agg ([k.signs,k.base,k.name]:List Value).toArray|6=>v=.bool (decide (Cb (Aj xs) k))|7=>v=.bool (decide (Cb (Aj xs) k))|8=>v=pb|10=>v=.bool (decide (Cb (Aj xs) k))|_=>True) (fun L U W=>Below w w W/\w2.heap.size<W.heap.size/\W.there w 0 3/\W.rangeAt w2 0 [k.signs,k.base,k.name]/\S8 (w.heap.size+1) W pb xs/\(L 9=true->W.rangeAt w 0 [k.signs,k.base,k.name])) (fun _ _=>True) (fun _ _ _ _ _ h=>h) ⟨Hb4.o.drew,by simp,by simpa using HT4.o,by simpa using HX4.o,Hsl4.o.below ((Au _ _).drew),by simp⟩ ?_ ?_
   ·repeat (first|exact Ar.nil|(refine Ar.cons ?_ ?_;rotate_left))
    all_goals
     rintro L U W hL hpre hR hun hdep K hK;have HR:=Aa hR;obtain⟨_,_,_,hxr,_,_⟩:=hR;have c0:W.cell? (w2,0)=k.signs:=by simpa using Ac hxr 0 rfl
     have c1:W.cell? (w2,1)=k.base:=by simpa using Ac hxr 1 rfl
     have c2:W.cell? (w2,2)=k.name:=by simpa using Ac hxr 2 rfl
     clear hun hdep hxr;first|(simp[Region.binds]at hpre;done)|simp[Region.binds]at hpre|clear hpre
    iterate 6 exact f4
    ·go_simp;obtain⟨r1,r2,r3,r4,r5,r6⟩:=HR.o;refine(Zk _ xs k W r5.isc.map hkn).mono ?_;rintro e w5 ⟨rfl,hb5⟩;exact hK (.bool (decide (Cb (Aj xs) k))) _ _ rfl Ab ⟨r1.trans (hb5.mono r1.size),ac r2 hb5.size,As r3 (show w.heap.size<W.heap.size by omega) hb5,Ba r4 r2 hb5,r5.below hb5,fun h=>Ba (r6 h) (show w.heap.size<W.heap.size by omega) hb5⟩ aH
    ·exact f4
    ·exact f4
    ·obtain⟨r1,r2,r3,r4,r5,r6⟩:=HR.o;rw[if_pos du];refine wp_store_mid 62 _ _ rfl w 0 ([k.signs,k.base,k.name]:List Value).toArray rfl hpre.1.2 r3 aM bU ?_;exact i7
    ·exact f4
   rintro L U W hL hφ ⟨r1,r2,r3,r4,r5,r6⟩;have e8:U 8=pb:=hφ 8 aJ;have e10:U 10=.bool (decide (Cb (Aj xs) k)):=hφ 10 aJ;have hr0:=r6 (hL 9 aJ);simp only[e8,e10];have R1:=Aa r1;have R5:=Aa r5;have R0:=Aa hr0;clear hL hφ r1 r2 r3 r4 r5 r6 hr0;go_wp2_with fail;refine aE (v:=.tuple #[pb,.agg ([k.signs,k.base,k.name]:List Value).toArray,.bool (decide (Cb (Aj xs) k))]) ?_ rfl ?_
   ·exact Fa results51 _ _ w.heap.size [k.signs,k.base,k.name] _ _ _ rfl rfl rfl R0.o underlying62 rfl aM
   by_cases hr:Cb (Aj xs) k
   ·rw[aC hr];unfold N7;rw[HF3.o,if_pos hr]
    exact⟨⟨_,xs,rfl,rfl,by
     obtain⟨b,A,c,mb,q0,q1,q2,q3,q4,q5,q6,q7,l1,l2,l3,l4⟩:=R5.o;exact⟨b,A,c,mb,q0,q1,q2,q3,q4,q5,q6,q7,by omega,by omega,fun g o h1 h2=>by have:=l3 g o h1 h2;omega,fun x hx=>⟨by have:=(l4 x hx).1;omega,fun k h1 h2=>by have:=(l4 x hx).2 k h1 h2;omega⟩⟩⟩,R1.o⟩
   rw[aB hr];exact N7.no (HF3.o.trans (if_neg hr)) rfl R1.o
def Gp(B:Nat)(w:World)(v:Value):Option Fd->Prop
 |none=>v=.pointer none
 |some f=>∃b o,v=.pointer (some ⟨b,o,none⟩)/\b<B/\w.rangeAt b o (Rk f)
theorem Gp.below{B:Nat}{w w':World}{v:Value}{o:Option Fd}(h:Gp B w v o)(hb:Below B w w'):Gp B w' v o:=by
 cases o with
 |none=>exact h
 |some f=>obtain⟨b,o,e,h1,h2⟩:=h;exact⟨b,o,e,h1,Ba h2 h1 hb⟩
def Qfx(B:Nat)(o:Option Fd)(w:World)(e:Ending)(w':World):Prop:=∃v,e=.returned v/\Gp B w v o/\w=w'
theorem Sn(w0:World)(x:PT)(hx:Sf w0 x)(n:Nat)(w:World)(hb:Below w0 w0 w)(hn:n<=1000000000):
  Calls prog 62 #[x.blk,.int .i64 n] w (Qfx w0.heap.size (Bu x.ty.fields n) w):=by
 obtain⟨z0,_,_,_,z3,_,A,c,hfv,hl,hr⟩:=hx;rw[hfv]at z3;have c2:w.cell? (x.blk,2)=some (.slice A x.ty.fields.length c):=(hb.cell (p:=⟨x.blk,2,none⟩) z0).trans z3;have Hr:=Aa hr;have Hb:=Aa hb;clear hr hfv z3 hb;go_enter func62,ntmps62;go_wp2_with fail;go_loop [11] (fun i=>∃k:Nat,i=.int .i64 k/\k<=x.ty.fields.length/\Hid (∀f∈x.ty.fields.take k,decide (f.tag=n)=false)) (fun i=>x.ty.fields.length - (intOf i).toNat)
 case atStart=>exact⟨0,rfl,ag _,by intro f hf;simp at hf⟩
 case round=>
  obtain⟨k,rfl,hk,hin⟩:=hrel;by_cases hlt:k<x.ty.fields.length
  ·obtain⟨b,off,rfl,hbl,hrg⟩:=S5.range Hr.o hlt;have hrw:=Ba hrg hbl Hb.o;have Hts:=Aa (Be x.ty.fields k hlt);have Hft:=Aa (Qg (p:=fun f=>decide (f.tag=n)) hlt hin.o);generalize x.ty.fields[k]=f at hrg hrw Hts Hft;have c0:w.cell? ⟨b,off+k*6,none⟩=(f.tag:Int):=by simpa using Ac hrw 0 rfl
   have Hrw:=Aa hrw;clear hrw hrg;have k1:(0:Int)<=(k:Int):=aG;have k2:(k:Int)<(x.ty.fields.length:Int):=aG;by_cases he:f.tag=n
   ·have t1:((f.tag:Int) == (n:Int))=true:=by simp[he]
    have Hfin:=Aa (show Bu x.ty.fields n=some f by unfold Bu;rw[Hft.o,if_pos cz]);clear he;go_wp2_with fail;go_ret;exact⟨_,rfl,by rw[Hfin.o];exact⟨b,off+k*6,rfl,hbl,Hrw.o⟩,rfl⟩
   have t1:((f.tag:Int) == (n:Int))=false:=bS
   have Hin:=Aa (show ∀g∈x.ty.fields.take (k+1),decide (g.tag=n)=false by
    intro g hg;rw[Hts.o]at hg;rcases af.1 hg with hg|hg
    ·exact hin.o g hg
    simp at hg;subst hg;simpa using he)
   clear he;go_wp2_with fail;go_round
   case rel=>exact⟨k+1,by go_num,by omega,Hin.o⟩
   case measure=>simp[intOf];omega
  ·have Hfin:=@Aa (Bu x.ty.fields n=none) (Ka (fun f hf=>hin.o f cV));go_wp2_with fail;go_ret;exact⟨_,rfl,by rw[Hfin.o];rfl,rfl⟩
theorem Gi(b nm:ByteArray)(w:World):Calls prog 98 #[.agg #[a8,.string b,.string nm]] w fun e w'=>e=.returned (.int .u8 0)/\Below w w w':=by
 go_enter func98,ntmps98;go_wp2_with fail;go_ret;exact⟨rfl,(Au _ _).alloc (Ap _) _⟩
theorem Jc(c:UInt8)(t:List UInt8)(hl:t.length<=1000)(b nm:ByteArray)(w:World):Calls prog 98 #[.agg #[.string ⟨(c::t).toArray⟩,.string b,.string nm]] w fun e w'=>e=.returned (.int .u8 (c.toNat:Int))/\Below w w w':=by
 go_enter func98,ntmps98;go_wp2_with fail;go_ret;exact⟨rfl,(Au _ _).alloc (Ap _) _⟩
theorem Xt(p:Value)(c:UInt8)(t:List UInt8)(b nm:ByteArray)(w:World)(hc:c=91\/c=63)(hl:t.length<=1000):
  Calls prog 155 #[p,.agg #[.string ⟨(c::t).toArray⟩,.string b,.string nm]] w (Gb (Qbg c) w):=by
 rcases hc with rfl|rfl
 ·go_enter func155,ntmps155;go_wp2_with fail;refine(Jc 91 t hl _ _ _).mono ?_;rintro e w1 ⟨rfl,hb1⟩;go_wp2_with fail;exact i8
 go_enter func155,ntmps155;go_wp2_with fail;refine(Jc 63 t hl _ _ _).mono ?_;rintro e w1 ⟨rfl,hb1⟩;go_wp2_with fail;exact i8
theorem Th(p:Value)(b:List UInt8)(nm:ByteArray)(w:World)(hb:b=[110]\/b=[116]\/b=[102]):
  Calls prog 155 #[p,.agg #[a8,b,.string nm]] w (Gb (Tc b) w):=by
 rcases hb with rfl|rfl|rfl<;>
 ·go_enter func155,ntmps155;go_wp2_with fail;refine(Gi _ _ _).mono ?_;rintro e w1 ⟨rfl,hb1⟩;obtain⟨hc1,_,_⟩:=Bv hb1;have y1:=hc1 w 1 aK;simp at y1;clear hc1;have Hb1:=Aa (((Au w.heap.size w).alloc (Ap _) _).trans (hb1.mono aK));clear hb1;go_wp2_with fail;go_ret;exact⟨rfl,Hb1.o⟩
def kcs(k:Kd):List Value:=[k.signs,k.base,k.name]
def Gf(v:Vl)(sl:Value):List Value:=[.int .u8 (v.what.toNat:Int),v.text,(v.tag:Int),sl]
def Jt(w:World)(b:Nat)(p:Value)(k:Kd)(t:List UInt8)(bad:Bool)(W:World):Prop:=
 C7 w b p t bad W/\W.rangeAt w 0 (kcs k)/\W.there (w.heap.size+1) 0 4/\w.heap.size+1<W.heap.size
theorem Jt.init{w:World}{b:Nat}{p:Value}{k:Kd}{t:List UInt8}{bad:Bool}(h:Fg w b p t bad){T U:TypeId}:Jt w b p k t bad ((w.alloc (.cells #[k.signs,k.base,k.name] T)).alloc (.cells #[.int .u8 0,a8,.int .i64 0,.slice none 0 0] U)):=by
 have h1:Below w w ((w.alloc (.cells #[k.signs,k.base,k.name] T)).alloc (.cells #[.int .u8 0,a8,.int .i64 0,.slice none 0 0] U)):=((Au _ _).alloc (Ap _) _).alloc aK _;refine⟨⟨h.grow h1,Cn h1 _⟩,?_,?_,by simp⟩
 ·have:=Ba (Ch w (kcs k) T) (show w.heap.size<(w.alloc (.cells (kcs k).toArray T)).heap.size by simp) ((Au _ _).alloc (Ap _) (.cells #[.int .u8 0,a8,.int .i64 0,.slice none 0 0] U));exact this
 have:=Cx (w.alloc (.cells #[k.signs,k.base,k.name] T)) [.int .u8 0,a8,.int .i64 0,.slice none 0 0] U;simpa using this
theorem Jt.post{w W W':World}{b:Nat}{p:Value}{k:Kd}{t:List UInt8}{bad:Bool}(h:Jt w b p k t bad W)(hb:Below W W W'):Jt w b p k t bad W':=
 ⟨h.1.post hb,Ba h.2.1 (by have:=h.2.2.2;omega) hb,As h.2.2.1 h.2.2.2 hb,ac h.2.2.2 hb.size⟩
theorem Jt.step{w W W':World}{b:Nat}{p:Value}{k:Kd}{t t':List UInt8}{bad bad':Bool}(h:Jt w b p k t bad W)(hb:b<w.heap.size)(hs:C7 W b p t' bad' W'):Jt w b p k t' bad' W':=
 ⟨h.1.trans hs,Fo h.2.1 hs.2 aN,Fx h.2.2.1 hs.2 h.2.2.2 aN,ac h.2.2.2 hs.2.size⟩
theorem Jt.fin{w W w9:World}{b N:Nat}{p:Value}{k:Kd}{t t':List UInt8}{bad':Bool}{v:Vl}{sl:Value}{r:Option (Vl × List UInt8)}(F:Jt w b p k t' bad' W)(hb:b<w.heap.size)(HS:w9=W.setCells (w.heap.size+1) 0 (Gf v sl))
  (hv:Eb (fun c=>w.heap.size+2<=c) W sl v.kids) (hr:bad'=r.isNone) (hx:∀x,r=some x->v=x.1/\t'=x.2) (hB:Bd v) (hl:t'.length<=t.length) (hn:(Bg v).length+t'.length<=t.length+8*N):
  Jh w b p t N r (.returned (.agg (Gf v sl).toArray)) w9/\w9.rangeAt (w.heap.size+1) 0 (Gf v sl):=by
 subst HS hr;exact⟨⟨v,sl,t',rfl,(hv.set (B:=w.heap.size+1) aG _).mono fun c hc _=>by omega,F.1.set aG aG _,hx,hB,hl,hn⟩,aa _ _ _ _ F.2.2.1⟩
theorem Ti(b N:Nat)(p:Value)(t:List UInt8)(k:Kd)(w:World)(h:Fg w b p t true):
  Calls prog 102 #[b,Jv k] w (Jh w b p t N none):=by
 have HS:=Aa h;obtain⟨h0,h1,h2,h3,h4⟩:=h;have hbn:¬(b=w.heap.size):=aG;have hbn2:¬(b=w.heap.size+1):=aG;unfold Jv;clear h1 h2 h3;go_enter func102,ntmps102;go_wp2_with fail;have F:=(Jt.init (k:=k) HS.o (T:=62) (U:=47)).1;refine aE (v:=.agg (Gf E3 (.slice none 0 0)).toArray) ?_ rfl ⟨E3,.slice none 0 0,t,rfl,Eb.nil _ _,F,aK,D9 aJ aJ,Ap _,by simp[E3,Bg,D2,G1]⟩;refine Ay results102 _ _ (w.heap.size+1) _ _ rfl ?_ underlying47 rfl aM;have:=Ch (w.alloc (.cells #[k.signs,k.base,k.name] 62)) [.int .u8 0,a8,.int .i64 0,.slice none 0 0] 47;simpa [Gf,E3,Vl.what,Vl.text,Vl.tag]using this
theorem Y7(t:List UInt8):N0 t=if Fq 999999 t then some (Ge t,t.dropWhile Az)else none:=by
 unfold N0 Fq Ge;cases h:Cf (t.takeWhile Az)with
 |none=>simp
 |some n=>simp[(Bt.1 h).1]
theorem Vu(t:List UInt8):Ge t<=999999:=by
 unfold Ge;cases h:Cf (t.takeWhile Az)with
 |none=>simp
 |some n=>exact(Bt.1 h).1
theorem Vy(p:UInt8->Bool)(t:List UInt8):(t.dropWhile p).length<=t.length:=(P7 p t).2
theorem Qeq(b N:Nat)(p:Value)(t:List UInt8)(k:Kd)(w:World)(h:Fg w b p t false)(hl:t.length<=900)(hs:k.signs=[])(hb:k.base=[110])(q:Option (Vl × List UInt8))(hq:q=match N0 t with|some (n,r)=>some (.mk 110 (An n) 0 [],r)|none=>none):
  Calls prog 102 #[b,Jv k] w (Jh w b p t (N+1) q):=by
 have HQ:=Aa hq;have HS:=Aa h;have hb0:=h.1;have hbn:¬(b=w.heap.size):=aG;have hbn2:¬(b=w.heap.size+1):=aG;have c2:=h.2.2.2.2;clear hq;obtain⟨sg,bs,nm⟩:=k;simp only at hs hb;have HN:=Aa (Y7 t);have hnn:=Vu t;have Hn:=Aa (fun W (h:Fg W b p t false)=>Nb b 999999 p t false W h aG aJ);have Hd:=Aa (fun W=>Ez (Ge t) (Ge t) W (Ap _) aG);have hdl:=C0 5 (Ge t) cu;have hdr:=Vy Az t;generalize Ge t=n at *;generalize Fq 999999 t=ok at *;generalize t.dropWhile Az=r at *;subst hs hb;unfold Jv;simp only;clear h;go_enter func102,ntmps102;go_wp2_with fail;refine(Gi _ _ _).mono ?_;rintro e w2 ⟨rfl,hb2⟩;have F2:=Aa ((Jt.init (k:=⟨[],[110],nm⟩) HS.o).post hb2);clear hb2 c2;have k0:=Ac F2.o.2.1 0 rfl;have k1:=Ac F2.o.2.1 1 rfl;have k2:=Ac F2.o.2.1 2 rfl;simp only[am]at k0 k1 k2;have s2:=F2.o.1.1.2.2.2.2;go_wp2_with fail;refine(Hn.o _ F2.o.1.1).mono ?_;rintro e w3 ⟨rfl,hs3⟩;have F3:=Aa (F2.o.step hb0 hs3);clear hs3 k0 k1 k2 s2;go_wp2_with fail;refine(Hd.o _).mono ?_;rintro e w4 ⟨rfl,hb4⟩;have F4:=Aa (F3.o.post hb4);clear hb4;go_wp2_with ((with_reducible refine Ad (op:=⟨none,.store 47 _ _,_,_,_,none⟩) rfl 47 _ _ rfl (w.heap.size+1) 0 [.int .u8 110,.string ⟨(An n).toArray⟩,.int .i64 0,.slice none 0 0] ?_ ?_ ?_ ?_ ?_ ?_);rfl;rfl;(exact F4.o.2.2.1);kernel_rfl;(simp[Value.oneCell']);intro w9 HS9)
 have HQ:=HQ.o;rw[HN.o]at HQ;have Z:=Jt.fin (t:=t) (N:=N+1) (v:=.mk 110 (An n) 0 []) (sl:=.slice none 0 0) (r:=q) F4.o hb0 HS9.o (Eb.nil _ _) (by rw[HQ];cases ok<;>rfl)
  (by rw[HQ];cases ok<;>simp) (D9 aJ aG) hdr dY
 exact aE (v:=.agg (Gf (.mk 110 (An n) 0 []) (.slice none 0 0)).toArray) (Ay results102 _ _ (w.heap.size+1) _ _ rfl Z.2 underlying47 rfl aM) rfl Z.1
theorem Qev(b N:Nat)(p:Value)(t:List UInt8)(k:Kd)(w:World)(h:Fg w b p t false)(hl:t.length<=900)(hs:k.signs=[])(hb:k.base=[116])(q:Option (Vl × List UInt8))(hq:q=match Kj t with|some (x,r)=>some (.mk 116 x 0 [],r)|none=>none):
  Calls prog 102 #[b,Jv k] w (Jh w b p t (N+1) q):=by
 have HQ:=Aa hq;have HS:=Aa h;have hb0:=h.1;have hbn:¬(b=w.heap.size):=aG;have hbn2:¬(b=w.heap.size+1):=aG;have c2:=h.2.2.2.2;clear hq;obtain⟨sg,bs,nm⟩:=k;simp only at hs hb;have Hn:=Aa (fun W (h:Fg W b p t false)=>Z4 b p t false W h aG);subst hs hb;unfold Jv;simp only;clear h;go_enter func102,ntmps102;go_wp2_with fail;refine(Gi _ _ _).mono ?_;rintro e w2 ⟨rfl,hb2⟩;have F2:=Aa ((Jt.init (k:=⟨[],[116],nm⟩) HS.o).post hb2);clear hb2 c2;have k0:=Ac F2.o.2.1 0 rfl;have k1:=Ac F2.o.2.1 1 rfl;have k2:=Ac F2.o.2.1 2 rfl;simp only[am]at k0 k1 k2;have s2:=F2.o.1.1.2.2.2.2;go_wp2_with fail;refine(Hn.o _ F2.o.1.1).mono ?_;rintro e w3 ⟨x,r,bad,rfl,hs3,hx,hxl⟩;have F3:=Aa (F2.o.step hb0 hs3);have Hx:=Aa hx;clear hs3 hx k0 k1 k2 s2;go_wp2_with ((with_reducible refine Ad (op:=⟨none,.store 47 _ _,_,_,_,none⟩) rfl 47 _ _ rfl (w.heap.size+1) 0 [.int .u8 116,x,.int .i64 0,.slice none 0 0] ?_ ?_ ?_ ?_ ?_ ?_);rfl;rfl;(exact F3.o.2.2.1);kernel_rfl;(simp[Value.oneCell']);intro w9 HS9)
 have HQ:=HQ.o;rw[show Kj t=if bad then none else some (x,r)from Hx.o]at HQ;have Z:=Jt.fin (t:=t) (N:=N+1) (v:=.mk 116 x 0 []) (sl:=.slice none 0 0) (r:=q) F3.o hb0 HS9.o (Eb.nil _ _) (by rw[HQ];cases bad<;>rfl)
  (by rw[HQ];cases bad<;>simp) (D9 aJ aG) aG dY
 exact aE (v:=.agg (Gf (.mk 116 x 0 []) (.slice none 0 0)).toArray) (Ay results102 _ _ (w.heap.size+1) _ _ rfl Z.2 underlying47 rfl aM) rfl Z.1
theorem Qe9(b N:Nat)(p:Value)(t:List UInt8)(k:Kd)(w:World)(h:Fg w b p t false)(hl:t.length<=900)(hs:k.signs=[])(hb:k.base=[102])(q:Option (Vl × List UInt8))(hq:q=match Mx t with|some (x,r)=>some (.mk 102 (if x then D8 else Kv) 0 [],r)|none=>none):
  Calls prog 102 #[b,Jv k] w (Jh w b p t (N+1) q):=by
 have HQ:=Aa hq;have HS:=Aa h;have hb0:=h.1;have hbn:¬(b=w.heap.size):=aG;have hbn2:¬(b=w.heap.size+1):=aG;have c2:=h.2.2.2.2;clear hq;obtain⟨sg,bs,nm⟩:=k;simp only at hs hb;have HFL:=@Aa (Mx t=(match Aw D8 t false with|some r=>some (true,r)|none=>match Aw Kv t false with|some r=>some (false,r)|none=>none)) rfl;have Hy:=Aa (fun W (h:Fg W b p t false)=>Gj b p t D8 false W h aG);have Hw:=Aa (fun W (h:Fg W b p t false)=>Cz b p t Kv false W h aG);have Hl1:=Aa (fun r (h:Aw D8 t false=some r)=>(E9 (p:=D8)).1 h);have Hl2:=Aa (fun r (h:Aw Kv t false=some r)=>(E9 (p:=Kv)).1 h);subst hs hb;unfold Jv;simp only;clear h;rcases hy:Aw D8 t false with _|r
 ·rw[hy]at Hy HFL;unfold D8 at Hy;unfold Kv at Hw
  have HL:=Aa (show ((Aw Kv t false).getD t).length<=t.length from by
   cases h:Aw Kv t false with
   |none=>exact Ap _
   |some r=>rw[Hl2.o r h];simp)
  clear hy;go_enter func102,ntmps102;go_wp2_with fail;refine(Gi _ _ _).mono ?_;rintro e w2 ⟨rfl,hb2⟩;have F2:=Aa ((Jt.init (k:=⟨[],[102],nm⟩) HS.o).post hb2);clear hb2 c2;have k0:=Ac F2.o.2.1 0 rfl;have k1:=Ac F2.o.2.1 1 rfl;have k2:=Ac F2.o.2.1 2 rfl;simp only[am]at k0 k1 k2;have s2:=F2.o.1.1.2.2.2.2;go_wp2_with fail;refine(Hy.o _ F2.o.1.1).mono ?_;rintro e w3 ⟨rfl,hs3⟩;simp only[Option.getD_none]at hs3;have F3:=Aa (F2.o.step hb0 hs3);clear hs3 k0 k1 k2 s2;go_wp2_with fail;refine(Hw.o _ F3.o.1.1).mono ?_;rintro e w4 ⟨rfl,hs4⟩;have F4:=Aa (F3.o.step hb0 hs4);clear hs4;go_wp2_with ((with_reducible refine Ad (op:=⟨none,.store 47 _ _,_,_,_,none⟩) rfl 47 _ _ rfl (w.heap.size+1) 0 [.int .u8 102,.string ⟨#[110,111]⟩,.int .i64 0,.slice none 0 0] ?_ ?_ ?_ ?_ ?_ ?_);rfl;rfl;(exact F4.o.2.2.1);kernel_rfl;(simp[Value.oneCell']);intro w9 HS9)
  have HQ:=HQ.o;rw[HFL.o]at HQ;have hl2:=HL.o;have Z:=Jt.fin (t:=t) (N:=N+1) (v:=.mk 102 Kv 0 []) (sl:=.slice none 0 0) (r:=q) F4.o hb0 HS9.o (Eb.nil _ _) (by rw[HQ];unfold Kv;cases Aw [110,111] t false<;>rfl)
   (by rw[HQ];unfold Kv;cases Aw [110,111] t false<;>simp) (D9 aJ aJ) hl2 (by unfold Kv at hl2 ⊢;simp[Bg,D2,G1];omega)
  exact aE (v:=.agg (Gf (.mk 102 Kv 0 []) (.slice none 0 0)).toArray) (Ay results102 _ _ (w.heap.size+1) _ _ rfl Z.2 underlying47 rfl aM) rfl Z.1
 rw[hy]at Hy HFL;unfold D8 at Hy;have hlr:=Hl1.o r hy;have hlr2:t.length=3+r.length:=by rw[hlr];simp[D8];omega
 clear hy hlr;go_enter func102,ntmps102;go_wp2_with fail;refine(Gi _ _ _).mono ?_;rintro e w2 ⟨rfl,hb2⟩;have F2:=Aa ((Jt.init (k:=⟨[],[102],nm⟩) HS.o).post hb2);clear hb2 c2;have k0:=Ac F2.o.2.1 0 rfl;have k1:=Ac F2.o.2.1 1 rfl;have k2:=Ac F2.o.2.1 2 rfl;simp only[am]at k0 k1 k2;have s2:=F2.o.1.1.2.2.2.2;go_wp2_with fail;refine(Hy.o _ F2.o.1.1).mono ?_;rintro e w3 ⟨rfl,hs3⟩;simp only[Option.getD_some]at hs3;have F3:=Aa (F2.o.step hb0 hs3);clear hs3 k0 k1 k2 s2;go_wp2_with ((with_reducible refine Ad (op:=⟨none,.store 47 _ _,_,_,_,none⟩) rfl 47 _ _ rfl (w.heap.size+1) 0 [.int .u8 102,.string ⟨#[121,101,115]⟩,.int .i64 0,.slice none 0 0] ?_ ?_ ?_ ?_ ?_ ?_);rfl;rfl;(exact F3.o.2.2.1);kernel_rfl;(simp[Value.oneCell']);intro w9 HS9)
 have HQ:=HQ.o;rw[HFL.o]at HQ;have Z:=Jt.fin (t:=t) (N:=N+1) (v:=.mk 102 D8 0 []) (sl:=.slice none 0 0) (r:=q) F3.o hb0 HS9.o (Eb.nil _ _) (by rw[HQ];rfl)
  (by rw[HQ];simp) (D9 aJ aJ) aG (by unfold D8;simp[Bg,D2,G1];omega)
 exact aE (v:=.agg (Gf (.mk 102 D8 0 []) (.slice none 0 0)).toArray) (Ay results102 _ _ (w.heap.size+1) _ _ rfl Z.2 underlying47 rfl aM) rfl Z.1
def IvC(w0:World)(b:Nat)(p:Value)(S:List Ty)(N:Nat)(k:Kd):Prop:=
 ∀(t:List UInt8) (bad:Bool) (w:World),Below w0 w0 w->Fg w b p t bad->t.length<=900->(bad=false->t.length<N) ->
  Calls prog 102 #[b,Jv k] w (Jh w b p t N (if bad then none else Ai S 1000 N k t))
theorem Eb.one{P Q:Nat->Prop}{w:World}{v:Vl}{sl:Value}{T:TypeId}(h:Eb P w sl v.kids)(hQ:∀b,P b->b<w.heap.size->Q b)(hn:Q w.heap.size):
  Eb Q (w.alloc (.cells #[.int .u8 (v.what.toNat:Int),v.text,(v.tag:Int),sl] T)) (.slice (w,0) 1 1) [v]:=by
 have hb:Below w w (w.alloc (.cells #[.int .u8 (v.what.toNat:Int),v.text,(v.tag:Int),sl] T)):=(Au _ _).alloc (Ap _) _;refine .mk (w,0) 1 [(v,sl)] rfl rfl aK ⟨rfl,(show 4<=maxLen by decide),fun _=>⟨w.heap.size,0,rfl,by simp,fun j u hj=>?_⟩⟩ (fun g o _ e=>by injection e with e;injection e with e;subst e;exact hn) (fun x hx=>?_)
 ·rw[World.cell?_alloc_new];simpa [Np]using hj
 rw[ap]at hx;subst hx;exact(h.mono hQ).after hb
theorem D3(c:UInt8)(t:List UInt8)(bad:Bool):((Aw [c] t bad).getD t).length<=t.length:=eo
theorem Gy{c:UInt8}{t r:List UInt8}{bad:Bool}(h:Aw [c] t bad=some r):r.length+1=t.length:=by
 rw[Bz]at h;cases bad with
 |true=>cases h
 |false=>rw[if_neg aJ,B0]at h;subst h;rfl
theorem Qa0(w0:World)(b N:Nat)(p:Value)(S:List Ty)(t:List UInt8)(k:Kd)(w:World)(hw:Below w0 w0 w)(hb:w0.heap.size<=b)(h:Fg w b p t false)(hl:t.length<=900)(hN:t.length<=N)(hN2:N<=2000)(sg:List UInt8)(hs:k.signs=63::sg)(hsl:sg.length<=100)
  (H:IvC w0 b p S N k.part) (q:Option (Vl × List UInt8)) (hq:q=Zm (Ai S 1000 N k.part) t):
  Calls prog 102 #[b,Jv k] w (Jh w b p t (N+1) q):=by
 have HQ:=Aa hq;have HH:=Aa H;have HP:=Aa (fun W=>T9 k W 63 sg hs aG);have HS:=Aa h;have HW:=Aa hw;have hb0:=h.1;have hbn:¬(b=w.heap.size):=aG;have hbn2:¬(b=w.heap.size+1):=aG;have c2:=h.2.2.2.2;have hm:=D3 43 t false;have Hlt:=Aa (fun r (h:Aw [43] t false=some r)=>Gy h);have Hlt2:=Aa (fun r (h:Aw [45] t false=some r)=>Gy h);have Htk:=Aa (fun W (h:Fg W b p t false)=>Gj b p t [45] false W h aG);have Hwt:=Aa (fun W (h:Fg W b p t false)=>Cz b p t [43] false W h aG)
 have HQ2:=Aa (show Zm (Ai S 1000 N k.part) t=(match Aw [45] t false with|some q=>some (.mk 63 [] 0 [],q)|none=>match Aw [43] t false with|none=>none|some r=>match Ai S 1000 N k.part r with|some (v,q)=>some (.mk 63 [] 0 [v],q)|none=>none)from by
  rw[Bz,Bz];rfl)
 generalize Zm (Ai S 1000 N k.part) t=q0 at *;have Hkp:=Aa (rfl:Jv k=Jv k);obtain⟨sg',bs,nm⟩:=k;simp only at hs;subst hs;generalize hkp:(⟨63::sg,bs,nm⟩:Kd).part=kp at *;unfold Jv at HP ⊢;simp only at HP ⊢;clear h hq hw H Hkp hkp;rcases hy:Aw [45] t false with _|r
 ·rw[hy]at Htk HQ2;obtain⟨t1,ht1⟩:∃t1,t1=(Aw [43] t false).getD t:=⟨_,rfl⟩
  obtain⟨b1,hb1⟩:∃b1,b1=(Aw [43] t false).isNone:=⟨_,rfl⟩
  have HQ3:=Aa (show q=if b1 then none else match Ai S 1000 N kp t1 with|some (v,q)=>some (.mk 63 [] 0 [v],q)|none=>none from by
   rw[HQ.o,HQ2.o,ht1,hb1];cases Aw [43] t false<;>rfl)
  have HL1:=Aa (show b1=false->t1.length<N from by
   intro h;rw[hb1]at h;cases hr:Aw [43] t false with
   |none=>rw[hr]at h;cases h
   |some r=>have:=Hlt.o r hr;rw[ht1,hr];simp;omega)
  rw[<-ht1]at hm;rw[<-ht1,<-hb1]at Hwt;clear hy ht1 hb1 HQ2 HQ;go_enter func102,ntmps102;go_wp2_with fail;refine(Jc 63 sg aG _ _ _).mono ?_;rintro e w2 ⟨rfl,hb2⟩;have F2:=Aa ((Jt.init (k:=⟨63::sg,bs,nm⟩) HS.o).post hb2);clear hb2 c2;go_wp2_with fail;refine(Htk.o _ F2.o.1.1).mono ?_;rintro e w3 ⟨rfl,hs3⟩;simp only[Option.getD_none]at hs3;have F3:=Aa (F2.o.step hb0 hs3);clear hs3;go_wp2_with fail;refine(Hwt.o _ F3.o.1.1).mono ?_;rintro e w4 ⟨rfl,hs4⟩;have F4:=Aa (F3.o.step hb0 hs4);clear hs4;have k0:=Ac F4.o.2.1 0 rfl;have k1:=Ac F4.o.2.1 1 rfl;have k2:=Ac F4.o.2.1 2 rfl;simp only[am]at k0 k1 k2;go_wp2_with fail;refine(HP.o _).mono ?_;rintro e w5 ⟨rfl,hb5⟩;have F5:=Aa (F4.o.post hb5);clear hb5 k0 k1 k2;go_wp2_with fail;refine(HH.o t1 b1 _ (F5.o.1.env HW.o hb) F5.o.1.1 aG HL1.o).mono ?_;rintro e w6 ⟨v,sl,t',rfl,hk,hs6,hx,hB,hl6,hn6⟩;obtain⟨A7,c7,rfl⟩:=hk.form;have F6:=Aa (F5.o.step hb0 hs6);have hz5:=F5.o.2.2.2;have Hk:=Aa hk;have Hx:=Aa hx;have HB:=Aa hB;clear hs6 hk hx hB;unfold Kc;have F7:=Aa (fun o=>F6.o.post ((Au _ _).alloc (Ap _) o));go_wp2_with ((with_reducible refine Ad (op:=⟨none,.store 47 _ _,_,_,_,none⟩) rfl 47 _ _ rfl (w.heap.size+1) 0 [.int .u8 63,a8,.int .i64 0,.slice (w6,0) 1 1] ?_ ?_ ?_ ?_ ?_ ?_);rfl;rfl;(exact(Aa (F7.o _)).o.2.2.1);kernel_rfl;(simp[Value.oneCell']);intro w9 HS9)
  have hz6:=F6.o.2.2.2;have Z:=Jt.fin (t:=t) (N:=N+1) (v:=.mk 63 [] 0 [v]) (sl:=.slice (w6,0) 1 1) (r:=q) (F7.o _) hb0 HS9.o (Hk.o.one (fun c hc _=>by omega) aG)
   (by rw[HQ3.o];cases b1 with
    |true=>rfl
    |false=>simp only[an,if_false];cases Ai S 1000 N kp t1 with
     |none=>rfl
     |some y=>rfl)
   (by rw[HQ3.o];cases b1 with
    |true=>simp
    |false=>
     simp only[an,if_false];have hx2:=Hx.o;simp only[an,if_false]at hx2;cases hr:Ai S 1000 N kp t1 with
     |none=>simp
     |some y=>obtain⟨e1,e2⟩:=hx2 y hr;rintro x hxx;injection hxx with hxx;subst hxx;exact⟨by rw[e1],e2⟩)
   (.mk aJ (by simp[Df];omega) aK (fun x hx=>by rw[ap]at hx;subst hx;exact HB.o)) aG (by simp[Bg,D2,G1,Aq];omega)
  exact aE (v:=.agg (Gf (.mk 63 [] 0 [v]) (.slice (w6,0) 1 1)).toArray) (Ay results102 _ _ (w.heap.size+1) _ _ rfl Z.2 underlying47 rfl aM) rfl Z.1
 rw[hy]at Htk HQ2;have hlt:=Hlt2.o r hy;clear hy;go_enter func102,ntmps102;go_wp2_with fail;refine(Jc 63 sg aG _ _ _).mono ?_;rintro e w2 ⟨rfl,hb2⟩;have F2:=Aa ((Jt.init (k:=⟨63::sg,bs,nm⟩) HS.o).post hb2);clear hb2 c2;go_wp2_with fail;refine(Htk.o _ F2.o.1.1).mono ?_;rintro e w3 ⟨rfl,hs3⟩;simp only[Option.getD_some]at hs3;have F3:=Aa (F2.o.step hb0 hs3);clear hs3;go_wp2_with ((with_reducible refine Ad (op:=⟨none,.store 47 _ _,_,_,_,none⟩) rfl 47 _ _ rfl (w.heap.size+1) 0 [.int .u8 63,a8,.int .i64 0,.slice none 0 0] ?_ ?_ ?_ ?_ ?_ ?_);rfl;rfl;(exact F3.o.2.2.1);kernel_rfl;(simp[Value.oneCell']);intro w9 HS9)
 have HQ:=HQ.o;rw[HQ2.o]at HQ;have Z:=Jt.fin (t:=t) (N:=N+1) (v:=.mk 63 [] 0 []) (sl:=.slice none 0 0) (r:=q) F3.o hb0 HS9.o (Eb.nil _ _) (by rw[HQ];rfl)
  (by rw[HQ];simp) (D9 aJ aJ) aG dY
 exact aE (v:=.agg (Gf (.mk 63 [] 0 []) (.slice none 0 0)).toArray) (Ay results102 _ _ (w.heap.size+1) _ _ rfl Z.2 underlying47 rfl aM) rfl Z.1
end
theorem Qbm:(prog.info? 47).map (fun i=>(i.zero,i.size,i.bytes))=some (some (.agg #[.int .u8 0,a8,.int .i64 0,.slice none 0 0]),4,56):=aM
structure Sp(base B:Nat)(W:World)(h0 h1 h2 u rv:Value)(xs:List (Vl × Value)):Prop where
 lt:B<W.heap.size
 bs:base<=W.heap.size
 hB:B<base
 bk:Ny W B
 c0:W.cell? (B,0)=some h0
 c1:W.cell? (B,1)=some h1
 c2:W.cell? (B,2)=some h2
 c3:W.cell? (B,3)=some u
 row:W.ownsRow base 47 4 rv xs.length (xs.flatMap Np)
 kids:∀x∈xs,Eb (fun c=>base<=c/\rv.ownBlock≠some c) W x.2 x.1.kids
theorem Sp.after{base B:Nat}{W W':World}{h0 h1 h2 u rv:Value}{xs:List (Vl × Value)}(h:Sp base B W h0 h1 h2 u rv xs)(hb:Below W W W'):Sp base B W' h0 h1 h2 u rv xs:=by
 obtain⟨hc,_,hz⟩:=Bv hb;exact⟨hz _ h.lt,ad h.bs hb.size,h.hB,h.bk.belowAt h.lt hb,(hc _ _ h.lt).trans h.c0,(hc _ _ h.lt).trans h.c1,(hc _ _ h.lt).trans h.c2,(hc _ _ h.lt).trans h.c3,Ax h.row hb,fun x hx=>(h.kids x hx).after hb⟩
theorem Sp.step{base B b:Nat}{W W':World}{h0 h1 h2 u rv:Value}{xs:List (Vl × Value)}(h:Sp base B W h0 h1 h2 u rv xs)(hg:W.grownBy W' (some b))(hb:b<base)(hne:b≠B):Sp base B W' h0 h1 h2 u rv xs:=by
 have hn:some B≠some b:=fun e=>by injection e with e;omega
 exact⟨ac h.lt hg.size,ad h.bs hg.size,h.hB,h.bk.grown h.lt hg hn,hg.cell h.c0 hn,hg.cell h.c1 hn,hg.cell h.c2 hn,hg.cell h.c3 hn,
  h.row.kept hg (by
   cases hr:rv.ownBlock with
   |none=>cases rv with
    |slice A a b=>cases A with
     |none=>exact .inl rfl
     |some x=>simp[Value.ownBlock]at hr
    |_=>exact .inl rfl
   |some k=>have:=(h.row.lt k hr).1;exact .inr bX),
  fun x hx=>(h.kids x hx).grown hg fun c hc e=>by injection e with e;omega⟩
theorem Sp.store{base B:Nat}{W:World}{h0 h1 h2 u rv:Value}{xs:List (Vl × Value)}(h:Sp base B W h0 h1 h2 u rv xs):Sp base B (W.setCell ⟨B,3,none⟩ rv) h0 h1 h2 rv rv xs:=by
 have hg:=Bb W B 3 rv;have hf:=h.bk.live 3;refine⟨by simpa using h.lt,by simpa using h.bs,h.hB,h.bk.set _,by simp[go_sem,h.c0],by simp[go_sem,h.c1],by simp[go_sem,h.c2],by simp[go_sem,h.c3,hf],h.row.kept hg ?_,fun x hx=>(h.kids x hx).grown hg fun c hc e=>by injection e with e;have:=h.hB;omega⟩;cases hr:rv.ownBlock with
 |none=>cases rv with
  |slice A a b=>cases A with
   |none=>exact .inl rfl
   |some x=>simp[Value.ownBlock]at hr
  |_=>exact .inl rfl
 |some k=>have:=(h.row.lt k hr).1;have:=h.hB;exact .inr bX
theorem Sp.app{base B:Nat}{W W':World}{h0 h1 h2 u rv rv':Value}{xs:List (Vl × Value)}{x:Vl × Value}(h:Sp base B W h0 h1 h2 u rv xs)(hx:Eb (fun c=>base<=c/\rv.ownBlock≠some c) W x.2 x.1.kids)
  (hown:W'.ownsRow base 47 4 rv' (xs.length+1) (xs.flatMap Np++Np x)) (hg:W.grownBy W' rv.ownBlock) (hwh:rv'.ownBlock=rv.ownBlock\/∃k,rv'.ownBlock=some k/\W.heap.size<=k):Sp base B W' h0 h1 h2 u rv' (xs++[x]):=by
 have hn:some B≠rv.ownBlock:=fun e=>dS;refine⟨ac h.lt hg.size,ad h.bs hg.size,h.hB,h.bk.grown h.lt hg hn,hg.cell h.c0 hn,hg.cell h.c1 hn,hg.cell h.c2 hn,hg.cell h.c3 hn,by simpa using hown,fun y hy=>?_⟩;have hy':Eb (fun c=>base<=c/\rv.ownBlock≠some c) W y.2 y.1.kids:=by
  rcases af.1 hy with hy|hy
  ·exact h.kids y hy
  rw[ap]at hy;subst hy;exact hx
 refine hy'.kept (fun b o v hb _ hv=>hg.cell hv fun e=>hb.2 e.symm) hg.size fun c hc hl=>⟨hc.1,?_⟩
 rcases hwh with e|⟨k,e,hk⟩
 ·rw[e];exact hc.2
 exact i9
theorem Sp.done{base B:Nat}{W:World}{h0 h1 h2 u rv:Value}{xs:List (Vl × Value)}(h:Sp base B W h0 h1 h2 u rv xs)(hl:xs.length<=1000):Eb (fun c=>base<=c) W rv (Av xs):=by
 rcases h.row.2 with⟨rfl,h0⟩|⟨g,cap,cur,rfl,hbg,hh,hnc,hcm,hcs,htk⟩
 ·obtain rfl:xs=[]:=List.eq_nil_of_length_eq_zero h0;exact Eb.nil _ _
 refine .mk (g,0) cap xs rfl rfl hl ⟨Rb Qbs xs,by unfold maxLen;omega,fun hn=>⟨g,0,rfl,(h.row.lt g rfl).2,fun j u hu=>?_⟩⟩ (fun g' o _ e=>by injection e with e;injection e with e;subst e;exact hbg) fun x hx=>(h.kids x hx).mono fun c hc _=>hc.1;have:=h.row.cells (g:=g) rfl j u hu;have e1:(⟨g,0,none⟩:Addr).add j=⟨g,0+j,none⟩:=bo;rwa [e1]at this
theorem J1{w:World}{base k n m c:Nat}{e:TypeId}{A:Option Addr}{xs:List Value}(h:w.ownsRow base e k (.slice A m c) n xs):m=n:=by
 rcases h.2 with⟨e,h0⟩|⟨g,cap,cur,e,_⟩
 ·injection e with _ e1 e2;omega
 injection e with _ e1 e2
theorem Jt.app{w W W':World}{b:Nat}{p:Value}{k:Kd}{t:List UInt8}{bad:Bool}{row:Option Nat}(h:Jt w b p k t bad W)(hb:b<w.heap.size)(hg:W.grownBy W' row)(hr:∀k,row=some k->w.heap.size+2<=k):Jt w b p k t bad W':=by
 have hn:∀c,c<w.heap.size+2->some c≠row:=fun c hc e=>by have:=hr c e.symm;omega
 obtain⟨⟨⟨h0,h1,h2,h3,h4⟩,hg0⟩,k1,k2,k3⟩:=h
 exact⟨⟨⟨ac h0 hg.size,h1.grown h0 hg (hn b aG),hg.cell h2 (hn b aG),hg.cell h3 (hn b aG),hg.cell h4 (hn b aG)⟩,⟨hg.os.trans hg0.os,hg.tape.trans hg0.tape,hg.output.trans hg0.output,ad hg0.size hg.size,fun k hk hne=>(hg.block k (ac hk hg0.size) (hn k aG)).trans (hg0.block k hk hne)⟩⟩,
  Fo k1 hg (hn _ aG),Fx k2 hg k3 (hn _ aG),ac k3 hg.size⟩
theorem Jt.put{w W:World}{b B o:Nat}{p:Value}{k:Kd}{t:List UInt8}{bad:Bool}(h:Jt w b p k t bad W)(hb:b<w.heap.size)(hB:w.heap.size+2<=B)(v:Value):Jt w b p k t bad (W.setCell ⟨B,o,none⟩ v):=
 h.app hb (Bb W B o v) fun k e=>by injection e with e;omega
theorem Qbr(x:Vl × Value)(h:x.2.oneCell'=true):∀u∈Np x,u.oneCell'=true:=by
 intro u hu;simp[Np]at hu;rcases hu with rfl|rfl|rfl|rfl
 ·rfl
 ·rfl
 ·rfl
 exact h
def Pb(vs:List Vl):Option (List Vl × List UInt8)->Option (List Vl × List UInt8)
 |some (us,z)=>some (vs++us,z)
 |none=>none
def LI(K:List UInt8->Option (Vl × List UInt8))(t1:List UInt8)(b1:Bool)(vs:List Vl)(tt:List UInt8):Prop:=
 (b1=true->vs=[])/\(b1=false->Cl K 1000 t1=Pb vs (Cl K (1000 - vs.length) tt))/\Df (vs.map Bg)+tt.length<=t1.length/\∀x∈vs,Bd x
def LE(K:List UInt8->Option (Vl × List UInt8))(t1:List UInt8)(b1:Bool)(vs:List Vl)(tt:List UInt8)(bb:Bool)(N:Nat):Prop:=
 (if b1 then none else Cl K 1000 t1)=(if bb then none else match Am 93 tt with|some z=>some (vs,z)|none=>none)/\Df (vs.map Bg)+tt.length<=t1.length+8*N+1/\∀x∈vs,Bd x
theorem LI.init(K:List UInt8->Option (Vl × List UInt8))(t1:List UInt8)(b1:Bool):LI K t1 b1 [] t1:=
 ⟨fun _=>rfl,fun _=>by cases h:Cl K 1000 t1<;>simp[Pb,h],by simp[Df],by simp⟩
theorem Jy(a b:List (List UInt8)):Df (a++b)=Df a+Df b:=ej
theorem LI.len{K:List UInt8->Option (Vl × List UInt8)}{t1 tt:List UInt8}{b1:Bool}{vs:List Vl}(h:LI K t1 b1 vs tt):vs.length+tt.length<=t1.length:=by
 have h1:=Qby (vs.map Bg);have h2:=h.2.2.1;simp at h1;omega
theorem LI.step{K:List UInt8->Option (Vl × List UInt8)}{t1 tt t' t'':List UInt8}{vs:List Vl}{v:Vl}(h:LI K t1 false vs tt)(hK:K tt=some (v,t'))(hg:tt.length=(Bg v).length+t'.length)(hc:Am 44 t'=some t'')(hB:Bd v)(hl:t1.length<=900):LI K t1 false (vs++[v]) t'':=by
 have hlen:=h.len;obtain⟨_,h2,h3,h4⟩:=h;have e:t'=44::t'':=B0.1 hc;refine⟨fun h=>Bool.noConfusion h,fun _=>?_,?_,?_⟩
 ·rw[h2 rfl];obtain⟨m,hm⟩:∃m,1000 - vs.length=m+1:=⟨999 - vs.length,by omega⟩
  rw[hm,show 1000 - (vs++[v]).length=m by simp;omega];conv=>lhs;unfold Cl
  rw[hK];simp only[hc];cases Cl K m t''<;>simp[Pb]
 ·rw[ay,Jy];simp[Er,Df]at h3 ⊢;rw[e]at hg;simp at hg;omega
 intro x hx;rcases af.1 hx with hx|hx
 ·exact h4 x hx
 rw[ap]at hx;subst hx;exact hB
theorem LI.brk{K:List UInt8->Option (Vl × List UInt8)}{t1 tt t':List UInt8}{vs:List Vl}{v:Vl}{N:Nat}(h:LI K t1 false vs tt)(hx:∀x,K tt=some x->v=x.1/\t'=x.2)(hc:Aw [44] t' (K tt).isNone=none)(hB:Bd v)(hl:t1.length<=900)
  (hn:(Bg v).length+t'.length<=tt.length+8*N):LE K t1 false (vs++[v]) t' (K tt).isNone N:=by
 have hlen:=h.len;obtain⟨_,h2,h3,h4⟩:=h;refine⟨?_,?_,?_⟩
 ·rw[if_neg aJ,h2 rfl];obtain⟨m,hm⟩:∃m,1000 - vs.length=m+1:=⟨999 - vs.length,by omega⟩
  rw[hm];unfold Cl;cases hk:K tt with
  |none=>rfl
  |some y=>
   obtain⟨e1,e2⟩:=hx y hk;obtain⟨y1,y2⟩:=y;simp only at e1 e2;subst e1 e2;rw[hk,Bz]at hc;simp only[Option.isNone_some,an,if_false]at hc ⊢;rw[hc];simp only;cases Am 93 t'<;>simp[Pb]
 ·rw[ay,Jy];simp[Er,Df]at h3 ⊢;omega
 intro x hx;rcases af.1 hx with hx|hx
 ·exact h4 x hx
 rw[ap]at hx;subst hx;exact hB
theorem LI.bad{K:List UInt8->Option (Vl × List UInt8)}{t1 tt:List UInt8}{vs:List Vl}{N:Nat}(h:LI K t1 true vs tt):LE K t1 true vs tt true N:=⟨by simp,by have:=h.2.2.1;omega,h.2.2.2⟩
theorem LE.fin{K:List UInt8->Option (Vl × List UInt8)}{t t1 tt:List UInt8}{b1 bb:Bool}{vs:List Vl}{N:Nat}(h:LE K t1 b1 vs tt bb N)(h1:t1=(Aw [91] t false).getD t)(hb1:b1=(Aw [91] t false).isNone)(h2:Aw [93] t1 b1=none):
  Re K 1000 t=if (Aw [93] tt bb).isNone || decide (20<vs.length)then none else some (.mk 91 [] 0 vs,(Aw [93] tt bb).getD tt):=by
 obtain⟨h3,_,_⟩:=h;rw[Bz]at h1 hb1 h2 ⊢;simp only[an,if_false]at h1 hb1;unfold Re;cases hy:Am 91 t with
 |none=>
  rw[hy]at hb1;simp only[Option.isNone_none]at hb1;subst hb1;simp only[if_true]at h3;simp only;cases bb with
  |true=>simp
  |false=>
   simp only[an,if_false]at h3 ⊢;cases hz:Am 93 tt with
   |none=>simp
   |some z=>rw[hz]at h3;cases h3
 |some r=>
  rw[hy]at h1 hb1;simp only[Option.isNone_some,Option.getD_some]at h1 hb1;subst h1 hb1;simp only[an,if_false]at h2 h3;simp only;rw[h2];simp only;rw[h3];cases bb with
  |true=>simp
  |false=>
   simp only[an,if_false];cases Am 93 tt with
   |none=>simp
   |some z=>
    simp only[Option.isNone_some,Bool.false_or,decide_eq_true_eq,Option.getD_some];by_cases h:vs.length<=20
    ·rw[if_pos h,if_neg aG]
    rw[if_neg h,if_pos aG]
section
attribute [local go_sem] Qhy Qhh Qg3 Qfo ByteArray.mk_append_mk
def Rd(tt:List UInt8)(N:Nat)(r:Option (Vl × List UInt8))(v:Vl)(t':List UInt8):Prop:=
 (∀x,r=some x->v=x.1/\t'=x.2)/\Bd v/\t'.length<=tt.length/\(Bg v).length+t'.length<=tt.length+8*N
structure Qhv(w:World)(b B:Nat)(p:Value)(k:Kd)(h0 h1 h2 rv:Value)(xs:List (Vl × Value))(tt:List UInt8)(bb:Bool)(N:Nat)(r:Option (Vl × List UInt8))(c s a d:Bool)(uc us ua:Value)(W:World):Prop where
 r1:∃t2 bad2,Jt w b p k t2 bad2 W/\(c=false->t2=tt/\bad2=bb)
 r2:a=false->Sp (B+1) B W h0 h1 h2 rv rv xs
 r3:c=true->∃v sl t',uc=Kc v sl/\Rd tt N r v t'/\Jt w b p k t' r.isNone W/\(a=false->Eb (fun c=>B+1<=c/\rv.ownBlock≠some c) W sl v.kids) /\
  (s=true->a=false->∃W7,W=W7.alloc (.cells (Np (v,sl)).toArray 47)/\us=.slice (some ⟨W7.heap.size,0,none⟩) 1 1/\Sp (B+1) B W7 h0 h1 h2 rv rv xs/\Eb (fun c=>B+1<=c/\rv.ownBlock≠some c) W7 sl v.kids/\Jt w b p k t' r.isNone W7) /\
  (a=true->d=false->∃A n c,ua=.slice A n c/\Sp (B+1) B W h0 h1 h2 rv ua (xs++[(v,sl)])) /\
  (d=true->∃A n c,ua=.slice A n c/\Sp (B+1) B W h0 h1 h2 ua ua (xs++[(v,sl)]))
theorem Qcp(w0:World)(b N:Nat)(p:Value)(S:List Ty)(t:List UInt8)(k:Kd)(w:World)(hw:Below w0 w0 w)(hb:w0.heap.size<=b)(h:Fg w b p t false)(hl:t.length<=900)(hN:t.length<=N)(hN2:N<=2000)
  (H:IvC w0 b p S N k) (HG:∀s v r,Ai S 1000 N k s=some (v,r)->s=Bg v++r) (q:Option (Vl × List UInt8)) (hq:q=Re (Ai S 1000 N k) 1000 t):
  Calls prog 142 #[b,Jv k] w (Jh w b p t (N+1) q):=by
 have HQ:=Aa hq;have HH:=Aa H;have HG:=Aa HG;have HS:=Aa h;have HW:=Aa hw;have hb0:=h.1;have hbn:¬(b=w.heap.size):=aG;have hbn2:¬(b=w.heap.size+1):=aG;have hbn3:¬(b=w.heap.size+2):=aG;have hm:=D3 91 t false;have Hwt:=Aa (fun W (h:Fg W b p t false)=>Cz b p t [91] false W h aG);have Hlt0:=Aa (fun r (h:Aw [91] t false=some r)=>Gy h);obtain⟨t1,ht1⟩:∃t1,t1=(Aw [91] t false).getD t:=⟨_,rfl⟩
 obtain⟨b1,hb1⟩:∃b1,b1=(Aw [91] t false).isNone:=⟨_,rfl⟩
 have Ht1:=Aa ht1;have Hb1:=Aa hb1
 have HL1:=Aa (show b1=false->t1.length<N from by
  intro h;rw[hb1]at h;cases hr:Aw [91] t false with
  |none=>rw[hr]at h;cases h
  |some r=>have:=Hlt0.o r hr;rw[ht1,hr];simp;omega)
 rw[<-ht1]at hm;rw[<-ht1,<-hb1]at Hwt;have Htk:=Aa (fun W (h:Fg W b p t1 b1)=>Gj b p t1 [93] b1 W h aG);have HK:=Aa (fun s=>(rfl:Ai S 1000 N k s=Ai S 1000 N k s));clear h hw H hq ht1 hb1 HK;have HF0:=Aa (Jt.init (k:=k) HS.o (T:=62) (U:=47));unfold Jv;go_enter func142,ntmps142;go_wp2_with fail;obtain⟨W1,hW1⟩:∃W1,W1=((w.alloc (.cells #[k.signs,k.base,k.name] 62)).alloc (.cells #[.int .u8 0,a8,.int .i64 0,.slice none 0 0] 47)).alloc (.cells #[.int .u8 91,a8,.int .i64 0,.slice none 0 0] 47):=⟨_,rfl⟩
 rw[<-hW1];have hz1:W1.heap.size=w.heap.size+3:=by rw[hW1];simp
 have F1:=@Aa (Jt w b p k t false W1) (by rw[hW1];exact HF0.o.post ((Au _ _).alloc (Ap _) _))
 have K1:=Aa (show Sp (w.heap.size+2+1) (w.heap.size+2) W1 (.int .u8 91) a8 (.int .i64 0) (.slice none 0 0) (.slice none 0 0) []from by
  have hbk:Ny W1 (w.heap.size+2):=by rw[hW1];have:=Ny.new ((w.alloc (.cells #[k.signs,k.base,k.name] 62)).alloc (.cells #[.int .u8 0,a8,.int .i64 0,.slice none 0 0] 47)) #[.int .u8 91,a8,.int .i64 0,.slice none 0 0] 47;simpa using this
  exact⟨by omega,by omega,by omega,hbk,by rw[hW1];simp[go_sem],by rw[hW1];simp[go_sem],by rw[hW1];simp[go_sem],by rw[hW1];simp[go_sem],World.ownsRow_nil _ _ _ _,by simp⟩)
 clear hW1 HF0;refine(Hwt.o _ F1.o.1.1).mono ?_;rintro e W2 ⟨rfl,hs2⟩;have F2:=Aa (F1.o.step hb0 hs2);have K2:=Aa (K1.o.step hs2.2 aG aG);clear hs2 F1 K1;go_wp2_with fail;refine(Htk.o _ F2.o.1.1).mono ?_;rcases hy:Aw [93] t1 b1 with _|r
 ·have Hy:=Aa hy;clear hy;rintro e W3 ⟨rfl,hs3⟩;simp only[Option.getD_none]at hs3;have F3:=Aa (F2.o.step hb0 hs3);have K3:=Aa (K2.o.step hs3.2 aG aG);clear hs3 F2 K2;go_wp2_with fail;go_loopw [] (fun wr=>∃(xs:List (Vl × Value)) (A:Option Addr) (n c:Nat) (tt:List UInt8),tt.length<=t1.length/\wr.cell? (b,1)=tt/\Hid (Jt w b p k tt b1 wr)/\Hid (Sp (w.heap.size+2+1) (w.heap.size+2) wr (.int .u8 91) a8 (.int .i64 0) (.slice A n c) (.slice A n c) xs)/\Hid (LI (Ai S 1000 N k) t1 b1 (Av xs) tt))
   (fun wr=>match wr.cell? (b,1)with|some (.string s)=>s.size|_=>0)
  case atStart=>exact⟨[],none,0,0,t1,Ap _,F3.o.1.1.2.2.2.1,F3.o,K3.o,LI.init _ _ _⟩
  case round=>
   obtain⟨xs,A,n,c,tt,htl,c1,F,K,hI⟩:=hrel;have s2:=F.o.1.1.2.2.2.2;have hxl:xs.length<=900:=by have:=hI.o.len;simp[Av]at this;omega
   cases b1 with
   |true=>
    go_wp2_with fail;have Hw9:=Aa (fun W (h:Fg W b p tt true)=>Cz b p tt [93] true W h aG);refine(Hw9.o _ F.o.1.1).mono ?_;rintro e W7 ⟨rfl,hs7⟩;have F7:=Aa (F.o.step hb0 hs7);have K7:=Aa (K.o.step hs7.2 aG aG);have hfin:=Aa (HQ.o.trans ((Aa (hI.o.bad (N:=N))).o.fin Ht1.o Hb1.o Hy.o));have hle9:=D3 93 tt true;have hE9:=(Aa (hI.o.bad (N:=N))).o.2.1;obtain⟨t4,ht4⟩:∃t4,t4=(Aw [93] tt true).getD tt:=⟨_,rfl⟩
    obtain⟨b4,hb4⟩:∃b4,b4=(Aw [93] tt true).isNone:=⟨_,rfl⟩
    rw[<-ht4]at F7 hfin hle9;rw[<-hb4]at F7 hfin;have e7:(Av xs).length=(xs).length:=by simp[Av]
    obtain⟨ys,hys⟩:∃ys,ys=xs:=⟨_,rfl⟩
    rw[<-hys]at K7 hfin hE9 e7;have HB9:=Aa (Aa (hI.o.bad (N:=N))).o.2.2;rw[<-hys]at HB9;have hyl:ys.length<=1000:=by rw[hys];omega
    have d0:=K7.o.c0;have d1:=K7.o.c1;have d2:=K7.o.c2;have d3:=K7.o.c3;have s7:=F7.o.1.1.2.1.live 2;have s8:=F7.o.1.1.2.2.2.2;have q7:=F7.o.1.1.1;have hn7:n=ys.length:=J1 K7.o.row;subst hn7;clear hs7 ht4 hb4 hys;by_cases h20:ys.length<=20
    ·have t20:decide ((20:Int)<(ys.length:Int))=false:=aB aG;go_wp2_with ((with_reducible refine Ad (op:=⟨none,.store 47 _ _,_,_,_,none⟩) rfl 47 _ _ rfl (w.heap.size+1) 0 [.int .u8 91,a8,.int .i64 0,.slice A ys.length c] ?_ ?_ ?_ ?_ ?_ ?_);rfl;rfl;(exact F7.o.2.2.1);kernel_rfl;(simp[Value.oneCell']);intro w9 HS9)
     have Z:=Jt.fin (t:=t) (N:=N+1) (v:=.mk 91 [] 0 (Av ys)) (sl:=.slice A ys.length c) (r:=q) F7.o hb0 HS9.o ((K7.o.done hyl).mono fun c hc _=>by omega) cE
      cE (.mk aJ aG aK HB9.o) aG dl
     exact ia
    have t20:decide ((20:Int)<(ys.length:Int))=true:=aC aG;have F8:=Aa (F7.o.step hb0 ⟨F7.o.1.1.setBad true,Bb _ b 2 (.bool true)⟩);have K8:=Aa (K7.o.step (Bb _ b 2 (.bool true)) aG aG);go_wp2_with ((with_reducible refine Ad (op:=⟨none,.store 47 _ _,_,_,_,none⟩) rfl 47 _ _ rfl (w.heap.size+1) 0 [.int .u8 91,a8,.int .i64 0,.slice A ys.length c] ?_ ?_ ?_ ?_ ?_ ?_);rfl;rfl;(exact F8.o.2.2.1);kernel_rfl;(simp[Value.oneCell']);intro w9 HS9)
    have Z:=Jt.fin (t:=t) (N:=N+1) (v:=.mk 91 [] 0 (Av ys)) (sl:=.slice A ys.length c) (r:=q) F8.o hb0 HS9.o ((K8.o.done hyl).mono fun c hc _=>by omega) de
     de (.mk aJ aG aK HB9.o) aG dl
    exact ia
   |false=>
    have h1N:=HL1.o rfl;go_wp2_with fail;refine N4 [17,18,19,20,21,22,23,24,999]
     (fun ix v W=>match ix with|0=>v=(w,2,3)|1=>v=.slice A n c|2=>v=b|3=>v=Jv k|4=>∃x s,v=Kc x s|5=>∃g,v=.slice (some ⟨g,0,none⟩) 1 1|6=>∃A n c,v=.slice A n c|7=>v=(w,2,3)|_=>True)
     (fun L U W=>Qhv w b (w.heap.size+2) p k (.int .u8 91) a8 (.int .i64 0) (.slice A n c) xs tt false N (Ai S 1000 N k tt) (L 4) (L 5) (L 6) (L 8) (U 4) (U 5) (U 6) W) (⟨⟨tt,false,F.o.post (Au _ _).drew,fun _=>⟨rfl,rfl⟩⟩,fun _=>K.o.after (Au _ _).drew,fun h=>Bool.noConfusion h⟩) ?_ ?_
    ·repeat (first|exact Ar.nil|(refine Ar.cons ?_ ?_;rotate_left))
     all_goals
      rintro L U W hL hpre HR Hdep K hK;obtain⟨⟨t2,bad2,hF2,hF2'⟩,R2,R3⟩:=HR.o;have k0:=Ac hF2.2.1 0 rfl;have k1:=Ac hF2.2.1 1 rfl;have k2:=Ac hF2.2.1 2 rfl;simp only[am]at k0 k1 k2;first|(simp[Region.binds]at hpre;done)|simp[Region.binds]at hpre|clear hpre
     ·exact eT
     ·have h6:L 6=false:=Bx Hdep.o 6 1 rfl hL;have g3:=(R2 h6).c3;exact ib
     ·exact eT
     ·go_simp;first|exact hK (Jv k) _ _ rfl Ab HR.o rfl|exact hK (Jv k) _ _ rfl Ab HR.o aH
     ·have h5:L 5=false:=Bx Hdep.o 5 4 rfl hL;have h6:L 6=false:=Bx Hdep.o 6 5 rfl h5;have h8:L 8=false:=Bx Hdep.o 8 6 rfl h6;obtain⟨rfl,rfl⟩:=hF2' hL;go_simp;refine(HH.o t2 false _ (hF2.1.env HW.o hb) hF2.1.1 aG (fun _=>by omega)).mono ?_;rintro e w5 ⟨v,sl,t',rfl,hk5,hs5,hx5,hB5,hl5,hn5⟩;simp only[an,if_false]at hx5 hs5;have hF5:=hF2.step hb0 hs5;have hK5:=(R2 h6).step hs5.2 aG aG;have hks:Eb (fun g=>w.heap.size+2+1<=g/\(Value.slice A n c).ownBlock≠some g) w5 sl v.kids:=hk5.mono fun c hc _=>⟨by have:=(R2 h6).bs;omega,fun e=>by have:=((R2 h6).row.lt c e).2;omega⟩
      exact hK (Kc v sl) _ _ ⟨v,sl,rfl⟩ Ab ⟨⟨t',_,hF5,fun h=>by simp at h⟩,fun _=>hK5,fun _=>⟨v,sl,t',rfl,⟨hx5,hB5,hl5,hn5⟩,hF5,fun _=>hks,fun h=>absurd (h5.symm.trans bg) aJ,fun h=>absurd (h6.symm.trans bg) aJ,fun h=>absurd (h8.symm.trans bg) aJ⟩⟩ aH
     ·have h6:L 6=false:=Bx Hdep.o 6 5 rfl hL;have h8:L 8=false:=Bx Hdep.o 8 6 rfl h6;obtain⟨v,sl,t',u4,hrd,hF3,hks,_,_,_⟩:=R3 hpre.1;obtain⟨A7,c7,rfl⟩:=(hks h6).form;have hba:Below W W (W.alloc (.cells (Np (v,.slice A7 v.kids.length c7)).toArray 47)):=(Au _ _).alloc (Ap _) _;unfold Kc at u4;go_simp;exact hK (.slice (W,0) 1 1) _ _ ⟨W.heap.size,rfl⟩ Ab ⟨⟨t',_,hF3.post hba,fun h=>absurd (hpre.1.symm.trans bg) aJ⟩,fun _=>(R2 h6).after hba,fun _=>⟨v,_,t',u4,hrd,hF3.post hba,fun _=>(hks h6).after hba,fun _ _=>⟨W,rfl,rfl,R2 h6,hks h6,hF3⟩,fun h=>absurd (h6.symm.trans bg) aJ,fun h=>absurd (h8.symm.trans bg) aJ⟩⟩ (by simp[Act.put,u4])
     ·have h8:L 8=false:=Bx Hdep.o 8 6 rfl hL;obtain⟨lv,uv⟩:=hpre.1;have ls:L 5=true:=hpre.2.1.1;have lc:L 4=true:=hpre.2.2.1;obtain⟨v,sl,t',u4,hrd,hF3,hks,hs,_,_⟩:=R3 lc;obtain⟨W7,rfl,u5,hK7,hk7,hF7⟩:=hs ls hL;obtain⟨A7,c7,e7⟩:=hk7.form;have hlen7:=hK7.row;rw[if_pos du];refine Pp W7 (.tmp 18) (.tmp 22) 45 rfl (w.heap.size+2+1) 47 (.agg #[.int .u8 0,a8,.int .i64 0,.slice none 0 0]) 4 56 underlying45 Qbm rfl aJ (Np (v,sl)) rfl (Qbr _ (by rw[e7];rfl)) (.slice A n c) xs.length (xs.flatMap Np) uv u5 hK7.row bj aG hK7.bs ?_;intro v' w' hown hg hwh;obtain⟨A5',n5',c5',rfl⟩:=N5 hown;have hKa:=hK7.app (x:=(v,sl)) hk7 hown hg hwh;have hFa:Jt w b p k t' (Ai S 1000 N k tt).isNone w':=hF7.app hb0 hg (fun c e=>by have:=(hK7.row.lt c e).1;omega);exact hK _ _ _ ⟨A5',n5',c5',rfl⟩ Ab ⟨⟨t',_,hFa,fun h=>absurd (lc.symm.trans bg) aJ⟩,fun h=>by simp at h,fun _=>⟨v,sl,t',u4,hrd,hFa,fun h=>by simp at h,fun _ h=>by simp at h,fun _ _=>⟨A5',n5',c5',rfl,hKa⟩,fun h=>absurd (h8.symm.trans bg) aJ⟩⟩ rfl
     ·exact eT
     ·obtain⟨la,A5',n5',c5',ua⟩:=hpre.2.1;have up:=hpre.1.2;have ls:L 5=true:=by
       cases h5:L 5 with
       |true=>rfl
       |false=>exact absurd (la.symm.trans (Bx Hdep.o 6 5 rfl h5)) aJ
      have lc:L 4=true:=by
       cases h4:L 4 with
       |true=>rfl
       |false=>exact absurd (ls.symm.trans (Bx Hdep.o 5 4 rfl h4)) aJ
      obtain⟨v,sl,t',u4,hrd,hF3,_,_,ha,_⟩:=R3 lc;obtain⟨A6',n6',c6',ua',hKa⟩:=ha la hL;rw[ua]at hKa;have hcell:=hKa.c3;have hfz:=hKa.bk.live 3;have hst:=hKa.store;have hst2:Sp (w.heap.size+2+1) (w.heap.size+2) (W.setCell ⟨w.heap.size+2,3,none⟩ (.slice A5' n5' c5')) (.int .u8 91) a8 (.int .i64 0) (U 6) (U 6) (xs++[(v,sl)]):=by rw[ua];exact hst
      have hFs:Jt w b p k t' (Ai S 1000 N k tt).isNone (W.setCell ⟨w.heap.size+2,3,none⟩ (.slice A5' n5' c5')):=hF3.put hb0 aG _;go_simp;exact hK undef _ _ Ab Ab ⟨⟨t',_,hFs,fun h=>absurd (lc.symm.trans bg) aJ⟩,fun h=>absurd (la.symm.trans bg) aJ,fun _=>⟨v,sl,t',u4,hrd,hFs,fun h=>absurd (la.symm.trans bg) aJ,fun _ h=>absurd (la.symm.trans bg) aJ,fun _ h=>by simp at h,fun _=>⟨A5',n5',c5',ua,hst2⟩⟩⟩ (by simp[Act.put,hpre,up,ua,u4])
    rintro L U W hL hφ hR;clear hφ;obtain⟨_,_,h3⟩:=hR;obtain⟨v,sl,t',_,hrd,hF,_,_,_,hd⟩:=h3 (hL 4 aJ);obtain⟨A5,n5,c5,e5,hK5⟩:=hd (hL 8 aJ);rw[e5]at hK5;have F5:=Aa hF;have K5:=Aa hK5;have Rd5:=Aa hrd;have ht5:=hrd.2.2.1;clear hL h3 hd hF hK5 hrd;have Htk5:=Aa (fun W (h:Fg W b p t' (Ai S 1000 N k tt).isNone)=>Gj b p t' [44] (Ai S 1000 N k tt).isNone W h aG);go_wp2_with fail;refine(Htk5.o _ F5.o.1.1).mono ?_;rcases hc:Aw [44] t' (Ai S 1000 N k tt).isNone with _|r
    ·have Hc:=Aa hc;clear hc;rintro e W6 ⟨rfl,hs6⟩;simp only[Option.getD_none]at hs6;have F6:=Aa (F5.o.step hb0 hs6);have K6:=Aa (K5.o.step hs6.2 aG aG)
     have E6:=Aa (show LE (Ai S 1000 N k) t1 false (Av (xs++[(v,sl)])) t' (Ai S 1000 N k tt).isNone N from by
      have:=hI.o.brk (N:=N) Rd5.o.1 Hc.o Rd5.o.2.1 aG Rd5.o.2.2.2;simpa [Av]using this)
     clear hs6 F5 K5 Hc;go_wp2_with fail;have Hw9:=Aa (fun W (h:Fg W b p t' (Ai S 1000 N k tt).isNone)=>Cz b p t' [93] (Ai S 1000 N k tt).isNone W h aG);refine(Hw9.o _ F6.o.1.1).mono ?_;rintro e W7 ⟨rfl,hs7⟩;have F7:=Aa (F6.o.step hb0 hs7);have K7:=Aa (K6.o.step hs7.2 aG aG);have hfin:=Aa (HQ.o.trans (E6.o.fin Ht1.o Hb1.o Hy.o));have hle9:=D3 93 t' (Ai S 1000 N k tt).isNone;have hE9:=E6.o.2.1;obtain⟨t4,ht4⟩:∃t4,t4=(Aw [93] t' (Ai S 1000 N k tt).isNone).getD t':=⟨_,rfl⟩
     obtain⟨b4,hb4⟩:∃b4,b4=(Aw [93] t' (Ai S 1000 N k tt).isNone).isNone:=⟨_,rfl⟩
     rw[<-ht4]at F7 hfin hle9;rw[<-hb4]at F7 hfin;have e7:(Av (xs++[(v,sl)])).length=((xs++[(v,sl)])).length:=by simp[Av]
     obtain⟨ys,hys⟩:∃ys,ys=(xs++[(v,sl)]):=⟨_,rfl⟩
     rw[<-hys]at K7 hfin hE9 e7;have HB9:=Aa E6.o.2.2;rw[<-hys]at HB9;have hyl:ys.length<=1000:=by rw[hys];simp;omega
     have d0:=K7.o.c0;have d1:=K7.o.c1;have d2:=K7.o.c2;have d3:=K7.o.c3;have s7:=F7.o.1.1.2.1.live 2;have s8:=F7.o.1.1.2.2.2.2;have q7:=F7.o.1.1.1;have hn7:n5=ys.length:=J1 K7.o.row;subst hn7;clear hs7 ht4 hb4 hys;by_cases h20:ys.length<=20
     ·have t20:decide ((20:Int)<(ys.length:Int))=false:=aB aG;go_wp2_with ((with_reducible refine Ad (op:=⟨none,.store 47 _ _,_,_,_,none⟩) rfl 47 _ _ rfl (w.heap.size+1) 0 [.int .u8 91,a8,.int .i64 0,.slice A5 ys.length c5] ?_ ?_ ?_ ?_ ?_ ?_);rfl;rfl;(exact F7.o.2.2.1);kernel_rfl;(simp[Value.oneCell']);intro w9 HS9)
      have Z:=Jt.fin (t:=t) (N:=N+1) (v:=.mk 91 [] 0 (Av ys)) (sl:=.slice A5 ys.length c5) (r:=q) F7.o hb0 HS9.o ((K7.o.done hyl).mono fun c hc _=>by omega) cE
       cE (.mk aJ aG aK HB9.o) aG dl
      exact ic
     have t20:decide ((20:Int)<(ys.length:Int))=true:=aC aG;have F8:=Aa (F7.o.step hb0 ⟨F7.o.1.1.setBad true,Bb _ b 2 (.bool true)⟩);have K8:=Aa (K7.o.step (Bb _ b 2 (.bool true)) aG aG);go_wp2_with ((with_reducible refine Ad (op:=⟨none,.store 47 _ _,_,_,_,none⟩) rfl 47 _ _ rfl (w.heap.size+1) 0 [.int .u8 91,a8,.int .i64 0,.slice A5 ys.length c5] ?_ ?_ ?_ ?_ ?_ ?_);rfl;rfl;(exact F8.o.2.2.1);kernel_rfl;(simp[Value.oneCell']);intro w9 HS9)
     have Z:=Jt.fin (t:=t) (N:=N+1) (v:=.mk 91 [] 0 (Av ys)) (sl:=.slice A5 ys.length c5) (r:=q) F8.o hb0 HS9.o ((K8.o.done hyl).mono fun c hc _=>by omega) de
      de (.mk aJ aG aK HB9.o) aG dl
     exact ic
    have Hc:=Aa hc;have hcl:=Gy hc;clear hc;rintro e W6 ⟨rfl,hs6⟩;simp only[Option.getD_some]at hs6;cases hk:Ai S 1000 N k tt with
    |none=>rw[hk,Bz]at Hc;exact absurd Hc.o aK
    |some y=>
     have Hk:=Aa hk;rw[hk]at hs6 F5 Rd5;have F6:=Aa (F5.o.step hb0 hs6);have K6:=Aa (K5.o.step hs6.2 aG aG)
     have I6:=Aa (show LI (Ai S 1000 N k) t1 false (Av (xs++[(v,sl)])) r from by
      obtain⟨e1,e2⟩:=Rd5.o.1 y rfl;have hg:=HG.o tt y.1 y.2 (by rw[Hk.o]);have h44:Am 44 t'=some r:=by have:=Hc.o;rw[Hk.o,Bz]at this;simpa using this
      have:=hI.o.step (v:=v) (t':=t') (by rw[Hk.o,e1,e2]) (by rw[hg,e1,e2];simp) h44 Rd5.o.2.1 aG;simpa [Av]using this)
     have c6:=F6.o.1.1.2.2.2.1;clear hs6 F5 K5 hk;go_wp2_with fail;go_roundw
     case rel=>exact⟨xs++[(v,sl)],A5,n5,c5,r,by omega,c6,F6.o,K6.o,I6.o⟩
     case measure=>simp[c1,c6,ByteArray.size];omega
 have Hy:=Aa hy;have hlt:=Gy hy;clear hy;rintro e W3 ⟨rfl,hs3⟩;simp only[Option.getD_some]at hs3;have F3:=Aa (F2.o.step hb0 hs3);have K3:=Aa (K2.o.step hs3.2 aG aG);clear hs3 F2 K2;have d0:=K3.o.c0;have d1:=K3.o.c1;have d2:=K3.o.c2;have d3:=K3.o.c3;go_wp2_with ((with_reducible refine Ad (op:=⟨none,.store 47 _ _,_,_,_,none⟩) rfl 47 _ _ rfl (w.heap.size+1) 0 [.int .u8 91,a8,.int .i64 0,.slice none 0 0] ?_ ?_ ?_ ?_ ?_ ?_);rfl;rfl;(exact F3.o.2.2.1);kernel_rfl;(simp[Value.oneCell']);intro w9 HS9)
 have hq2:q=some (.mk 91 [] 0 [],r):=by
  have h1:=Ht1.o;have h2:=Hb1.o;have h3:=Hy.o;rw[HQ.o];rw[Bz]at h1 h2 h3;unfold Re;simp only[an,if_false]at h1 h2;cases h9:Am 91 t with
  |none=>rw[h9]at h2;simp at h2;subst h2;simp at h3
  |some z=>
   rw[h9]at h1 h2;simp at h1 h2;subst h1 h2;simp only[an,if_false]at h3;simp only[h3]
 have Z:=Jt.fin (t:=t) (N:=N+1) (v:=.mk 91 [] 0 []) (sl:=.slice none 0 0) (r:=q) F3.o hb0 HS9.o (Eb.nil _ _) (by rw[hq2];cases b1;rfl;have:=Hy.o;rw[Bz]at this;simp at this)
  (by rw[hq2];simp) (D9 aJ aJ) aG (by simp[Bg,D2,G1,Aq];omega)
 exact aE (v:=.agg (Gf (.mk 91 [] 0 []) (.slice none 0 0)).toArray) (Ay results142 _ _ (w.heap.size+1) _ _ rfl Z.2 underlying47 rfl aM) rfl Z.1
theorem Xl(p:Value)(xs:List PT)(hok:∀y∈xs,Du y.ty)(n:Nat)(k:Kd)(w:World)(hsc:Tq w p xs)(hk:Da k)(hs:k.signs=[])(hb:k.base=[64])(x:PT)(hx:Fj xs k.name=some x)
  (hn:n<=9) (ih:x.ty.sort=85->∀f fs,x.ty.fields=f::fs->∀W,Tq W p xs->Calls prog 155 #[p,Jv f.kind] W (Gb (Cu (Aj xs) n f.kind) W)):
  Calls prog 155 #[p,Jv k] w (Gb (Cu (Aj xs) (n+1) k) w):=by
 have Hlen:=Aa (Pj (Aj xs) (fun t ht=>by obtain⟨y,hy,rfl⟩:=aw.1 ht;exact hok y hy))
 have HF:=Aa (show Cu (Aj xs) (n+1) k=if x.ty.sort=82 then[123,125]else match x.ty.fields with|[]=>[]|f::_=>if x.ty.sort=69 then 35::An f.tag else 60::(An f.tag++61::(Cu (Aj xs) n f.kind++[62]))from by
  rw[Cu,if_neg df,if_neg df,if_neg bE,if_neg bE,if_neg bE,Jq,hx];rfl)
 have hxm:=(H5 hx).1;have Hto:=Aa (hok _ hxm);have hnl:=Kw hk;have Hsc:=Aa hsc;obtain⟨pb,A,cc,mb,rfl,q0,q1,q2,q3,q4,htys,_⟩:=hsc;obtain⟨z0,_,z1,z2,z3,z4,A8,c,hz8,hl8',hrow8⟩:=htys x hxm;rw[hz8]at z3;have Hrow:=Aa hrow8;have Ih:=Aa ih
 have Hlk:=Aa (fun W (h:Below w w W)=>show (Instr.lookup 156 (.map (some mb)) k.name false).run prog W=.ok x.blk W from by
  have:=Jf (Dm.below q4 h) k.name aG;rw[hx]at this;exact this)
 have hmb:=q4.lt;unfold Jv;rw[hs,hb];clear hk hs hb hx q1 q3 q4 htys hrow8 ih hok hz8 z2 z4 hxm;go_enter func155,ntmps155;go_wp2_with fail;refine(Gi _ _ _).mono ?_;rintro e w1 ⟨rfl,hb1⟩;obtain⟨hc1,_,hzz⟩:=Bv hb1;have y1:w1.cell? (w,1)=some (.string ⟨#[64]⟩):=(hc1 w 1 aK).trans aK;have y2:w1.cell? (w,2)=k.name:=(hc1 w 2 aK).trans aK;have Hb1:=@Aa (Below w w w1) (((Au w.heap.size w).alloc (Ap _) _).trans (hb1.mono aK));have hz1:w.heap.size<w1.heap.size:=ey;have m1:w1.cell? (pb,1)=some (.map (some mb)):=(Hb1.o.cell (p:=⟨pb,1,none⟩) q0).trans q2;have u0:w1.cell? (x.blk,0)=some (.int .u8 (x.ty.sort.toNat:Int)):=(Hb1.o.cell (p:=⟨x.blk,0,none⟩) z0).trans z1;have u2:w1.cell? (x.blk,2)=some (.slice A8 x.ty.fields.length c):=(Hb1.o.cell (p:=⟨x.blk,2,none⟩) z0).trans z3;have Hlook:=Aa (fun q=>Hlk.o (w1.drewN q) (Hb1.o.trans ((below_drewN (Au _ _) q).mono Hb1.o.size)));clear hc1 hzz hb1 q2 z1 z3;go_wp2_with fail;refine N4 [20,21,22,23,24,25,26,5]
  (fun i v W=>match i with|0=>v=pb|1=>v=pb|2=>v=(pb,1)|3=>v=.map (some mb)|4=>v=(w,2)|5=>v=k.name|6=>v=x.blk|7=>v=x.blk|_=>True)
  (fun L U W=>∃q,W=w1.drewN q) (⟨1,rfl⟩) ?_ ?_
 ·repeat (first|exact Ar.nil|(refine Ar.cons ?_ ?_;rotate_left))
  all_goals
   rintro L U W hL hpre HR Hdep K hK;obtain⟨q,rfl⟩:=HR.o;have hlq:=Hlook.o q;first|(simp[Region.binds]at hpre;done)|simp[Region.binds]at hpre|clear hpre
  iterate 8
   ·exact eT
 rintro L U W hL hφ hR;have e7:U 7=x.blk:=hφ 7 aJ;simp only[e7];clear hφ;obtain⟨q,rfl⟩:=hR;have Hbq:=Aa (Hb1.o.trans ((below_drewN (Au w1.heap.size w1) q).mono Hb1.o.size));clear hL y1 y2 m1;by_cases h82:x.ty.sort=82
 ·have t82:((x.ty.sort.toNat:Int) == 82)=true:=Bj (d:=82) h82;have HF2:=Aa (HF.o.trans (if_pos h82));clear h82 HF;go_wp2_with fail;go_ret;exact⟨by rw[HF2.o];rfl,Hbq.o⟩
 have t82:((x.ty.sort.toNat:Int) == 82)=false:=Ak (d:=82) h82;have HF2:=Aa (HF.o.trans (if_neg h82));have hne:x.ty.fields≠[]:=fun h=>h82 (Hto.o.2.2.2.2 h);obtain⟨f,fs,hfs⟩:∃f fs,x.ty.fields=f::fs:=by
  cases h:x.ty.fields with
  |nil=>exact absurd h hne
  |cons f fs=>exact⟨f,fs,rfl⟩
 have hf0:0<x.ty.fields.length:=cp;have hge:x.ty.fields[0]=f:=by simp[hfs]
 have hft:=Hto.o.2.2.1.1 f cp;have htag:f.tag<=200:=hft.2.1;have hdl:=C0 2 f.tag bV;have Hd:=Aa (fun W=>Ez f.tag f.tag W (Ap _) aG);have hi0:(0:Int)<(x.ty.fields.length:Int):=aG;have HF3:=@Aa (Cu (Aj xs) (n+1) k=if x.ty.sort=69 then 35::An f.tag else 60::(An f.tag++61::(Cu (Aj xs) n f.kind++[62]))) (by rw[HF2.o,hfs]);have Hfs:=Aa hfs;obtain⟨b,off,rfl,hbl,hrg⟩:=S5.range Hrow.o hf0;rw[hge]at hrg;have hrq:=Ba hrg hbl Hbq.o;simp only[Nat.zero_mul,Nat.add_zero]at hrq;have g0:(w1.drewN q).cell? ⟨b,off,none⟩=(f.tag:Int):=by simpa using Ac hrq 0 rfl
 have G2:=Aa (Ac hrq 2 rfl);have G3:=Aa (Ac hrq 3 rfl);have G4:=Aa (Ac hrq 4 rfl);have H82:=Aa h82;clear HF2 HF h82 hne hfs hge hft hrg hrq;by_cases h69:x.ty.sort=69
 ·have t69:((x.ty.sort.toNat:Int) == 69)=true:=Bj (d:=69) h69;have HF4:=Aa (HF3.o.trans (if_pos h69));clear h69 HF3;go_wp2_with fail;refine(Hd.o _).mono ?_;rintro e w2 ⟨rfl,hb2⟩;go_wp2_with fail;go_ret;exact⟨by rw[HF4.o];simp,Hbq.o.trans (hb2.mono Hbq.o.size)⟩
 have t69:((x.ty.sort.toNat:Int) == 69)=false:=Ak (d:=69) h69;have HF4:=Aa (HF3.o.trans (if_neg h69));have h85:x.ty.sort=85:=by
  rcases Hto.o.1 with h|h|h
  ·exact absurd h H82.o
  ·exact h
  exact absurd h h69
 have Ih2:=Aa (Ih.o h85 f fs Hfs.o);unfold Jv at Ih2;have hsl:=Hlen.o n f.kind;generalize Cu (Aj xs) n f.kind=sl at *;clear h69 HF3 h85 Ih;go_wp2_with fail;obtain⟨W0,hW0⟩:∃W0,W0=w1.drewN q:=⟨_,rfl⟩
 rw[<-hW0]at Hbq g0 G2 G3 G4 ⊢;have Y2:=@Aa (W0.cell? (x.blk,2)=some (.slice (some ⟨b,off,none⟩) x.ty.fields.length c)) (by rw[hW0];exact u2);have Y0:=Aa g0;have Y3:=@Aa (W0.cell? ⟨b,off+2,none⟩=some (.string ⟨f.kind.signs.toArray⟩)) G2.o;have Y4:=@Aa (W0.cell? ⟨b,off+3,none⟩=some (.string ⟨f.kind.base.toArray⟩)) G3.o;have Y5:=@Aa (W0.cell? ⟨b,off+4,none⟩=some (.string ⟨f.kind.name.toArray⟩)) G4.o;have Hx5:=@Aa (x.blk<W0.heap.size) (ac z0 Hbq.o.size);have Hb5:=@Aa (b<W0.heap.size) (ac hbl Hbq.o.size);have Hsc0:=Aa (Hsc.o.below Hbq.o);clear hW0 g0 u0 u2;refine N4 [44,45,46,47,48,49,50,51,52,53,54,55,56,57,58,59,60,61,62,63,64,4]
  (fun i v W=>match i with|0=>v=x.blk|1=>v=x.blk|2=>v=(x.blk,2)|3=>v=.slice (some ⟨b,off,none⟩) x.ty.fields.length c|4=>v=.pointer (some ⟨b,off,none⟩)|5=>v=.pointer (some ⟨b,off,none⟩)|6=>v=(f.tag:Int)|7=>v=.string ⟨(An f.tag).toArray⟩|8=>v=.string ⟨(60::An f.tag).toArray⟩|9=>v=.string ⟨(60::(An f.tag++[61])).toArray⟩|10=>v=pb|11=>v=x.blk|12=>v=x.blk|13=>v=(x.blk,2)|14=>v=.slice (some ⟨b,off,none⟩) x.ty.fields.length c|15=>v=.pointer (some ⟨b,off,none⟩)|16=>v=.pointer (some ⟨b,off+2,none⟩)|17=>v=.agg #[.string ⟨f.kind.signs.toArray⟩,.string ⟨f.kind.base.toArray⟩,.string ⟨f.kind.name.toArray⟩]|18=>v=.string ⟨(sl).toArray⟩|19=>v=.string ⟨(60::(An f.tag++61::sl)).toArray⟩|20=>v=.string ⟨(60::(An f.tag++61::(sl++[62]))).toArray⟩|21=>v=.string ⟨(60::(An f.tag++61::(sl++[62]))).toArray⟩|_=>True)
  (fun L U W=>Below W0 W0 W) ((Au _ _).drew) ?_ ?_
 ·repeat (first|exact Ar.nil|(refine Ar.cons ?_ ?_;rotate_left))
  all_goals
   rintro L U W hL hpre HR Hdep K hK;have hB:=HR.o;have c2:=(hB.cell (p:=⟨x.blk,2,none⟩) Hx5.o).trans Y2.o;have c0:=(hB.cell (p:=⟨b,off,none⟩) Hb5.o).trans Y0.o;have c3:=(hB.cell (p:=⟨b,off+2,none⟩) Hb5.o).trans Y3.o;have c4:=(hB.cell (p:=⟨b,off+3,none⟩) Hb5.o).trans Y4.o;have c5:=(hB.cell (p:=⟨b,off+4,none⟩) Hb5.o).trans Y5.o;have c4':W.cell? ⟨b,off+2+1,none⟩=_:=c4;have c5':W.cell? ⟨b,off+2+1+1,none⟩=_:=c5;have c5'':W.cell? ⟨b,off+2+2,none⟩=_:=c5;first|(simp[Region.binds]at hpre;done)|simp[Region.binds]at hpre|clear hpre
  iterate 7
   ·exact eT
  ·exact fT
  ·exact f8
  ·exact f8
  iterate 8
   ·exact eT
  ·exact fO
  ·exact f8
  ·exact f8
  ·exact eT
 rintro L U W hL hφ hR;have e21:U 21=.string ⟨(60::(An f.tag++61::(sl++[62]))).toArray⟩:=hφ 21 aJ;simp only[e21];clear hφ;have Hb9:=Aa (Hbq.o.trans (hR.mono Hbq.o.size));clear hR;go_wp2_with fail;go_ret;exact⟨by rw[HF4.o];rfl,Hb9.o⟩
theorem Pw(p:Value)(S:List Ty)(n:Nat)(k:Kd)(w:World)(hk:Da k)(h:¬(k.signs=[]/\k.base=[64])):
  Calls prog 155 #[p,Jv k] w (Gb (Cu S (n+1) k) w):=by
 unfold Jv;cases hs:k.signs with
 |cons c t=>
  have hc:=Pf hk hs;have hl:=hk.2.2;unfold Bp at hl;rw[hs]at hl;rw[My _ _ k c t hs hc];exact Xt p c t _ _ w hc (by simp at hl;omega)
 |nil=>
  have hb:k.base≠[64]:=fun hb=>h ⟨hs,hb⟩;rw[J7 _ _ k hs (Ki hk hs hb).2];exact Th p k.base _ w (Ki hk hs hb).2
theorem Yu(p:Value)(xs:List PT)(hok:∀x∈xs,Du x.ty)(hS:Fe (Aj xs)):∀(n:Nat),n<=9->∀(k:Kd) (w:World),Tq w p xs->Da k->Cb (Aj xs) k->Sa (Aj xs) n k ->
  Calls prog 155 #[p,Jv k] w (Gb (Cu (Aj xs) (n+1) k) w):=by
 intro n;induction n with
 |zero=>
  intro _ k w hsc hk hr he;refine Pw p _ 0 k w hk (fun h=>?_);obtain⟨t,_,h2⟩:=he h.1 h.2;exact absurd h2 (by simp[Bm])
 |succ n ih=>
  intro hn k w hsc hk hr he;by_cases hsb:k.signs=[]/\k.base=[64]
  ·obtain⟨hs,hb⟩:=hsb;have h1:=hr hb;rw[Jq]at h1;cases hx:Fj xs k.name with
   |none=>rw[hx]at h1;cases h1
   |some x=>
    have hft:Ck (Aj xs) k.name=some x.ty:=(H5 hx).2.2;have hto:Du x.ty:=hok _ (H5 hx).1;refine Xl p xs hok (n+1) k w hsc hk hs hb x hx hn (fun h85 f fs hfs W hW=>?_);have hrf:Cb (Aj xs) f.kind:=hS x.ty (Bq hft).1 cZ f cp;exact gX
  exact Pw p _ (n+1) k w hk hsb
theorem Zl(p:Value)(xs:List PT)(h:Pz (Aj xs))(k:Kd)(w:World)(hsc:Tq w p xs)(hk:Da k)(hr:Cb (Aj xs) k):
  Calls prog 155 #[p,Jv k] w (Gb (Qm (Aj xs) k) w):=
 Yu p xs (fun x hx=>h.1.1 x.ty (ao hx)) h.2.1 9 (Ap _) k w hsc hk hr (Vo h hr)
theorem Qge(p:Value)(xs:List PT)(h:Pz (Aj xs))(f:Fd)(b o:Nat)(w:World)(hsc:Tq w p xs)(hf:w.rangeAt b o (Rk f))(hk:Da f.kind)(hr:Cb (Aj xs) f.kind)(hl:f.given.length<=1000):
  Calls prog 121 #[p,.pointer (some ⟨b,o,none⟩)] w (Gb (Qa (Aj xs) f) w):=by
 have HF:=@Aa (Qa (Aj xs) f=if f.given=[]then Qm (Aj xs) f.kind else f.given) rfl;have Hs:=Aa (fun W (h1:Tq W p xs)=>Zl p xs h f.kind W h1 hk hr);have Hsc:=Aa hsc;unfold Jv at Hs;have c2:w.cell? ⟨b,o+2,none⟩=f.kind.signs:=Ac hf 2 rfl;have c3:w.cell? ⟨b,o+3,none⟩=f.kind.base:=Ac hf 3 rfl;have c4:w.cell? ⟨b,o+4,none⟩=f.kind.name:=Ac hf 4 rfl;have c5:w.cell? ⟨b,o+5,none⟩=f.given:=Ac hf 5 rfl;have c3':w.cell? ⟨b,o+2+1,none⟩=f.kind.base:=c3;have c4':w.cell? ⟨b,o+2+1+1,none⟩=f.kind.name:=c4;have c4'':w.cell? ⟨b,o+2+2,none⟩=f.kind.name:=c4;clear h hk hr hsc hf;by_cases hg:f.given=[]
 ·have HF2:=Aa (HF.o.trans (if_pos hg));rw[hg]at c5;clear hg HF;go_enter func121,ntmps121;go_wp2_with fail;refine(Hs.o _ Hsc.o).mono ?_;rintro e w1 ⟨rfl,hb1⟩;go_wp2_with fail;go_ret;exact⟨by rw[HF2.o];rfl,hb1⟩
 have HF2:=Aa (HF.o.trans (if_neg hg));have t1:f.given.isEmpty=false:=by simpa using hg
 have t2:(!f.given.isEmpty)=true:=by simp[t1]
 clear hg HF;go_enter func121,ntmps121;go_wp2_with fail;go_ret;exact⟨by rw[HF2.o];rfl,Au _ _⟩
end
end Go.Proofs.YtpjijpcemejlnaaGreatDoor
