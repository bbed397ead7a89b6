/- Texts joined. Conditions: as each theorem names them. -/
import Derived.Test.YtgfmljfjgohdcaaGreatDoorL26
set_option maxRecDepth 100000
set_option maxHeartbeats 32000000
set_option linter.unusedVariables false
set_option linter.unusedSimpArgs false
namespace Go.Proofs.YtgfmljfjgohdcaaGreatDoor
open Go.RowKit Go.Proofs.Tryz
section
attribute [local go_sem] Qls Qkr Qj4 Qig ByteArray.mk_append_mk
theorem Qgs(w0:World)(p1 p2:Value)(xs ys:List PT)(hx:Rr w0 p1 xs)(hy:Rr w0 p2 ys)(hS:Jv (Ae xs))(hT:Jv (Ae ys)):∀(n:Nat) (a b:Kd) (m:List Cr) (w:World),
  Cs a->Cs b->Bq (Ae xs) a->Bq (Ae ys) b->Ks (Ae xs) (Ae ys) m->64<n+m.length->Eh w0 p1 p2 w m ->
   Calls prog 185 #[(w0,1,0),Gy a,Gy b] w (Rl w0 p1 p2 (H6 (Ae xs) (Ae ys) n a b m) w):=by
 have h8:(Ae xs).length*(Ae ys).length<=64:=by
  exact iD
 intro n;induction n with
 |zero=>
  intro a b m w _ _ _ _ hm hn _;have:=hm.len;omega
 |succ n ih=>
  intro a b m w ha hb hra hrb hm hn hst;have hml:m.length<=64:=aa hm.len h8;exact Qcl w0 p1 p2 xs ys hx hy n a b m w ha hb hra hrb hst (fun x y W hxm hym hW=>Qdp w0 p1 p2 xs ys hx hy hS hT n x y hxm hym ih m hm hn hml W hW)
theorem Nn.mono{lo lo':Nat}{w:World}{p:Value}{xs:List PT}(h:Nn lo w p xs)(hle:lo'<=lo):Nn lo' w p xs:=by
 obtain⟨b,A,c,mb,q0,q1,q2,q3,q4,q5,q6,q7,l1,l2,l3,l4⟩:=h;exact⟨b,A,c,mb,q0,q1,q2,q3,q4,q5,q6,q7,by omega,by omega,fun g o h1 h2=>by have:=l3 g o h1 h2;omega,fun x hx=>⟨by have:=(l4 x hx).1;omega,fun k h1 h2=>by have:=(l4 x hx).2 k h1 h2;omega⟩⟩
theorem M9.form{o:Option (List Ty × Kd)}{w w':World}{e:Ending}(h:M9 o w e w'):
  ∃(q:Option Addr) (a b c:ByteArray),e=.returned (.tuple #[.pointer q,.agg #[.string a,.string b,.string c],.bool o.isSome])/\Below w w w' /\
   ∀S k,o=some (S,k)->∃xs,Ae xs=S/\a=⟨k.signs.toArray⟩/\b=⟨k.base.toArray⟩/\c=⟨k.name.toArray⟩/\Nn w.heap.size w' (.pointer q) xs:=by
 obtain⟨h1,hb⟩:=h;cases o with
 |none=>
  obtain⟨p,a,b,c,e⟩:=h1;exact⟨p,a,b,c,e,hb,fun S k h=>by cases h⟩
 |some x=>
  obtain⟨S,k⟩:=x;obtain⟨p,xs,hx,e,hs⟩:=h1;obtain⟨pb,_,_,_,rfl,_⟩:=hs.isc;exact⟨_,_,_,_,e,hb,fun S' k' h=>by cases h;exact⟨xs,hx,rfl,rfl,rfl,hs⟩⟩
section
variable {P:Program}
theorem Jx{fn:Func}{r p p2 q:Tmp}{ty:TypeId}(h:fn.results=#[.tmp r,.cell p ty,.cell p2 ty,.tmp q])(tmps:Array Value)(w:World)(b b2:Nat)(cs cs2:List Value)(d:TypeDesc)(y x:Value)
  (hr:tmps.getD r undef=y) (hp:tmps.getD p undef=b) (hp2:tmps.getD p2 undef=b2) (hq:tmps.getD q undef=x) (hc:w.rangeAt b 0 cs) (hc2:w.rangeAt b2 0 cs2) (hu:P.underlying ty=some d) (hd:d.isRow=true) (hi:(P.info? ty).map (·.size)=some cs.length) (hi2:(P.info? ty).map (·.size)=some cs2.length):
  (results fn tmps).run P w=.ok (.tuple #[y,.agg cs.toArray,.agg cs2.toArray,x]) w:=by
 have hp':tmps[p]?.getD undef=b:=dS;have hp2':tmps[p2]?.getD undef=b2:=by simpa using hp2
 have hq':tmps[q]?.getD undef=x:=eD;have hr':tmps[r]?.getD undef=y:=dp;simp[results,h,hp',hp2',hq',hr',asAddr,run_loadVar_mid w b 0 ty cs d hc hu hd hi,run_loadVar_mid w b2 0 ty cs2 d hc2 hu hd hi2]
end
theorem Qe5{B:Nat}{a b:World}(h:Below B a b)(p:Addr)(u:Value):Below B (a.setCell p u) (b.setCell p u):=
 ⟨h.os,h.tape,h.output,by simp[World.setCell];exact h.size,fun k hk=>by
  simp only[World.setCell,Array.getElem?_modify];rw[h.block k hk]⟩
theorem Tw{B:Nat}(k:Nat):∀(vs:List Value) (o:Nat) {a b:World},Below B a b->Below B (a.setCells k o vs) (b.setCells k o vs)
 |[],_,_,_,h=>h
 |v::r,o,a,b,h=>Tw k r (o+1) (Qe5 h ⟨k,o,none⟩ v)
structure Ps(w:World)(p1 p2:Value)(xs ys:List PT)(N B13 B16:Nat)(ka kb:List Value)(w0 W:World)(mm:List Cr):Prop where
 sz:w0.heap.size=N
 i1:Nn (w.heap.size+2) w0 p1 xs
 i2:Nn (w.heap.size+2) w0 p2 ys
 be:Below w w w0
 t9':w0.there w 0 3
 t10':w0.there (w.heap.size+1) 0 3
 x13':w0.rangeAt B13 0 ka
 x16':w0.rangeAt B16 0 kb
 l13:B13<N
 l16:B16<N
 lw:w.heap.size+2<=N
 st:Eh w0 p1 p2 W mm
theorem Ps.x13{w:World}{p1 p2:Value}{xs ys:List PT}{N B13 B16:Nat}{ka kb:List Value}{w0 W:World}{mm:List Cr}(h:Ps w p1 p2 xs ys N B13 B16 ka kb w0 W mm):W.rangeAt B13 0 ka:=Ah h.x13' (by have:=h.l13;have:=h.sz;omega) h.st.1
theorem Ps.x16{w:World}{p1 p2:Value}{xs ys:List PT}{N B13 B16:Nat}{ka kb:List Value}{w0 W:World}{mm:List Cr}(h:Ps w p1 p2 xs ys N B13 B16 ka kb w0 W mm):W.rangeAt B16 0 kb:=Ah h.x16' (by have:=h.l16;have:=h.sz;omega) h.st.1
theorem Ps.t9{w:World}{p1 p2:Value}{xs ys:List PT}{N B13 B16:Nat}{ka kb:List Value}{w0 W:World}{mm:List Cr}(h:Ps w p1 p2 xs ys N B13 B16 ka kb w0 W mm):W.there w 0 3:=An h.t9' (by have:=h.lw;have:=h.sz;omega) h.st.1
theorem Ps.t10{w:World}{p1 p2:Value}{xs ys:List PT}{N B13 B16:Nat}{ka kb:List Value}{w0 W:World}{mm:List Cr}(h:Ps w p1 p2 xs ys N B13 B16 ka kb w0 W mm):W.there (w.heap.size+1) 0 3:=An h.t10' (by have:=h.lw;have:=h.sz;omega) h.st.1
theorem Ps.drew{w:World}{p1 p2:Value}{xs ys:List PT}{N B13 B16:Nat}{ka kb:List Value}{w0 W:World}{mm:List Cr}(h:Ps w p1 p2 xs ys N B13 B16 ka kb w0 W mm):Ps w p1 p2 xs ys N B13 B16 ka kb w0 W.drew mm:=
 {h with st:=h.st.below (Ar _ _).drew}
theorem Ps.store{w:World}{p1 p2:Value}{xs ys:List PT}{N B13 B16:Nat}{ka kb:List Value}{w0 W:World}{mm:List Cr}(h:Ps w p1 p2 xs ys N B13 B16 ka kb w0 W mm){b:Nat}(cs:List Value)
  (h1:w.heap.size<=b) (h2:b<w.heap.size+2) (h3:B13≠b) (h4:B16≠b):Ps w p1 p2 xs ys N B13 B16 ka kb (w0.setCells b 0 cs) (W.setCells b 0 cs) mm:=by
 have hlw:=h.lw;have hsz:=h.sz
 refine⟨by rw[Bw];exact h.sz,h.i1.far (Cz _ _ _ w0) h2,h.i2.far (Cz _ _ _ w0) h2,Ag _ h1 _ _ _ h.be,ag h.t9' _ _ _,ag h.t10' _ _ _,
  ai h.x13' _ _ _ (.inl h3),ai h.x16' _ _ _ (.inl h4),h.l13,h.l16,h.lw,?_⟩
 obtain⟨s1,s2,s3,s4,s5,s6⟩:=h.st;have hg:=Cz b cs 0 W;have hc:∀j,(W.setCells b 0 cs).cell? ⟨w0.heap.size+1,j,none⟩=W.cell? ⟨w0.heap.size+1,j,none⟩:=fun j=>hg.cell_far ⟨w0.heap.size+1,j,none⟩ (show w0.heap.size+1<_ by omega) aL;unfold Eh;rw[Bw,Bw];exact⟨Tw b cs 0 s1,s2,(hc 0).trans s3,(hc 1).trans s4,(hc 2).trans s5,s6.kept hg aL⟩
def Qc0(o1 o2:Option (List Ty × Kd))(w:World)(e:Ending)(w':World):Prop:=
 ∃(q:Option Addr) (a1 b1 c1 a2 b2 c2:ByteArray),e=.returned (.tuple #[.pointer q,.agg #[.string a1,.string b1,.string c1],.agg #[.string a2,.string b2,.string c2],.bool (Eo o1 o2)])/\Below w w w' /\
  (Eo o1 o2=true->∃(S T:List Ty) (a b:Kd) (xs ys:List PT) (eb:Nat) (p1 p2:Option Addr),o1=some (S,a)/\o2=some (T,b)/\Ae xs=S/\Ae ys=T/\q=some ⟨eb,0,none⟩/\a1=⟨a.signs.toArray⟩/\b1=⟨a.base.toArray⟩/\c1=⟨a.name.toArray⟩/\a2=⟨b.signs.toArray⟩/\b2=⟨b.base.toArray⟩/\c2=⟨b.name.toArray⟩ /\
   w.heap.size<=eb/\eb<w'.heap.size/\w'.cell? (eb,0)=some (.pointer p1)/\w'.cell? (eb,1)=some (.pointer p2)/\Nn w.heap.size w' (.pointer p1) xs/\Nn w.heap.size w' (.pointer p2) ys)
theorem Qak(s1 d1 s2 d2:List UInt8)(w:World)(h1:s1.length<=4000000)(h2:d1.length<=4000000)(h3:s2.length<=4000000)(h4:d2.length<=4000000):
  Calls prog 126 #[s1,d1,s2,d2] w (Qc0 (Bn s1 d1) (Bn s2 d2) w):=by
 have Hk1:=Aa (fun W=>Ph s1 d1 W h1 h2);have Hk2:=Aa (fun W=>Ph s2 d2 W h3 h4);have Hg1:=Aa (fun S k (h:Bn s1 d1=some (S,k))=>Fq h);have Hg2:=Aa (fun S k (h:Bn s2 d2=some (S,k))=>Fq h);generalize Bn s1 d1=o1 at *;generalize Bn s2 d2=o2 at *;have hmm:=@run_makeMap prog;go_enter func126,ntmps126;go_wp2_with fail;refine(Hk1.o _).mono ?_;rintro e w1 hp1;obtain⟨q1,a1,b1,c1,rfl,hb1,hs1⟩:=hp1.form;have HT9:=@Aa (w1.there w 0 3) (An (ap (B9 w [a6,a6,a6] 67) _) aL hb1);have HT10:=@Aa (w1.there (w.heap.size+1) 0 3) (An (by have:=B9 (w.alloc (.cells ([a6,a6,a6]:List Value).toArray 67)) [a6,a6,a6] 67;simpa using this) aH hb1);have Hb1:=@Aa (Below w w w1) ((((Ar _ _).alloc (Am _) _).alloc aH _).trans (hb1.mono aL));have hz1:w.heap.size+1<w1.heap.size:=cP;have Hs1:=Aa hs1;clear hp1 hb1 hs1;go_wp2_with fail;refine(Hk2.o _).mono ?_;rintro e w3 hp2;obtain⟨q2,a2,b2,c2,rfl,hb3,hs2⟩:=hp2.form;have HB3:=@Aa (Below w1 w1 w3) (((Ar _ _).alloc (Am _) _).trans (hb3.mono aH));have X13:=@Aa (w3.rangeAt w1 0 [.string a1,.string b1,.string c1]) (Ah (Bo w1 [.string a1,.string b1,.string c1] 67) aH hb3);have hz3:w1.heap.size<w3.heap.size:=fc;have Hs2:=Aa hs2;have Hb3:=Aa (Hb1.o.trans (HB3.o.mono aF));have HT9':=Aa (An HT9.o (show w.heap.size<w1.heap.size by omega) HB3.o);have HT10':=Aa (An HT10.o hz1 HB3.o);clear hp2 hb3 hs2 HT9 HT10;have HT9:=@Aa ((w3.alloc (.cells #[.string a2,.string b2,.string c2] 67)).there w 0 3) (ap HT9'.out _);have HT10:=@Aa ((w3.alloc (.cells #[.string a2,.string b2,.string c2] 67)).there (w.heap.size+1) 0 3) (ap HT10'.out _);have Hb4:=@Aa (Below w w (w3.alloc (.cells #[.string a2,.string b2,.string c2] 67))) (Hb3.o.alloc aF _);cases o1 with
 |none=>
  cases o2 with
  |none=>
   have Hev:Hid (Eo none none=false):=rfl;dsimp only[Option.isSome];go_wp2_with (first|((with_reducible refine Ad (op:=⟨none,.store 67 _ _,_,_,_,none⟩) rfl 67 _ _ rfl w 0 [a6,a6,a6] ?_ ?_ ?_ ?_ ?_ ?_);rfl;rfl;(exact HT9.o);kernel_rfl;(simp[Value.oneCell']);intro w9 HS9;have HT10b:=@Aa (w9.there (w.heap.size+1) 0 3) dL)|((with_reducible refine Ad (op:=⟨none,.store 67 _ _,_,_,_,none⟩) rfl 67 _ _ rfl (w.heap.size+1) 0 [a6,a6,a6] ?_ ?_ ?_ ?_ ?_ ?_);rfl;rfl;(exact HT10b.o);kernel_rfl;(simp[Value.oneCell']);intro w10 HS10))
   have HZ1:=@Aa (w10.rangeAt w 0 [a6,a6,a6]) bu;have HZ2:=@Aa (w10.rangeAt (w.heap.size+1) 0 [a6,a6,a6]) dA;have Hb9:=@Aa (Below w w w10) cd;refine aD (v:=.tuple #[.pointer none,.agg ([a6,a6,a6]:List Value).toArray,.agg ([a6,a6,a6]:List Value).toArray,.bool false]) ?_ rfl ?_
   ·exact g8
   exact iQ
  |some y=>
   have Hev:Hid (Eo none (some y)=false):=rfl;dsimp only[Option.isSome];go_wp2_with (first|((with_reducible refine Ad (op:=⟨none,.store 67 _ _,_,_,_,none⟩) rfl 67 _ _ rfl w 0 [a6,a6,a6] ?_ ?_ ?_ ?_ ?_ ?_);rfl;rfl;(exact HT9.o);kernel_rfl;(simp[Value.oneCell']);intro w9 HS9;have HT10b:=@Aa (w9.there (w.heap.size+1) 0 3) dL)|((with_reducible refine Ad (op:=⟨none,.store 67 _ _,_,_,_,none⟩) rfl 67 _ _ rfl (w.heap.size+1) 0 [a6,a6,a6] ?_ ?_ ?_ ?_ ?_ ?_);rfl;rfl;(exact HT10b.o);kernel_rfl;(simp[Value.oneCell']);intro w10 HS10))
   have HZ1:=@Aa (w10.rangeAt w 0 [a6,a6,a6]) bu;have HZ2:=@Aa (w10.rangeAt (w.heap.size+1) 0 [a6,a6,a6]) dA;have Hb9:=@Aa (Below w w w10) cd;refine aD (v:=.tuple #[.pointer none,.agg ([a6,a6,a6]:List Value).toArray,.agg ([a6,a6,a6]:List Value).toArray,.bool false]) ?_ rfl ?_
   ·exact g8
   exact iQ
 |some x=>
  obtain⟨S,k⟩:=x;cases o2 with
  |none=>
   have Hev:Hid (Eo (some (S,k)) none=false):=rfl;dsimp only[Option.isSome];go_wp2_with (first|((with_reducible refine Ad (op:=⟨none,.store 67 _ _,_,_,_,none⟩) rfl 67 _ _ rfl w 0 [a6,a6,a6] ?_ ?_ ?_ ?_ ?_ ?_);rfl;rfl;(exact HT9.o);kernel_rfl;(simp[Value.oneCell']);intro w9 HS9;have HT10b:=@Aa (w9.there (w.heap.size+1) 0 3) dL)|((with_reducible refine Ad (op:=⟨none,.store 67 _ _,_,_,_,none⟩) rfl 67 _ _ rfl (w.heap.size+1) 0 [a6,a6,a6] ?_ ?_ ?_ ?_ ?_ ?_);rfl;rfl;(exact HT10b.o);kernel_rfl;(simp[Value.oneCell']);intro w10 HS10))
   have HZ1:=@Aa (w10.rangeAt w 0 [a6,a6,a6]) bu;have HZ2:=@Aa (w10.rangeAt (w.heap.size+1) 0 [a6,a6,a6]) dA;have Hb9:=@Aa (Below w w w10) cd;refine aD (v:=.tuple #[.pointer none,.agg ([a6,a6,a6]:List Value).toArray,.agg ([a6,a6,a6]:List Value).toArray,.bool false]) ?_ rfl ?_
   ·exact g8
   exact iQ
  |some y=>
   obtain⟨T,l⟩:=y;dsimp only[Option.isSome];obtain⟨xs,hxs,e1,e2,e3,hi1⟩:=Hs1.o _ _ rfl;obtain⟨ys,hys,e4,e5,e6,hi2⟩:=Hs2.o _ _ rfl;have hl1:Nn (w.heap.size+2) w1 (.pointer q1) xs:=hi1.mono aH;have hl3:Nn (w.heap.size+2) w3 (.pointer q1) xs:=hl1.below HB3.o;have hl3':Nn (w.heap.size+2) w3 (.pointer q2) ys:=hi2.mono aL;have Hi1':=Aa hl3;have Hi2':=Aa hl3';have E1:=Aa e1;have E2:=Aa e2;have E3:=Aa e3;have E4:=Aa e4;have E5:=Aa e5;have E6:=Aa e6;obtain⟨hS,_,_,hk1,_,hr1⟩:=Hg1.o _ _ rfl;obtain⟨hT,_,_,hk2,_,hr2⟩:=Hg2.o _ _ rfl;subst hxs hys;clear e1 e2 e3 e4 e5 e6;go_wp2_with fail;obtain⟨w4,hw4⟩:∃w4,w4=w3.alloc (.cells #[.string a2,.string b2,.string c2] 67):=⟨_,rfl⟩
   rw[<-hw4]at HT9 HT10 Hb4 ⊢;have hz4:w4.heap.size=w3.heap.size+1:=by rw[hw4];simp
   have hb34:Below w3 w3 w4:=by rw[hw4];exact(Ar _ _).alloc (Am _) _
   have Hi1:=Aa (Hi1'.out.below hb34);have Hi2:=Aa (Hi2'.out.below hb34);have X13':=Aa (Ah X13.o hz3 hb34);have X16:=@Aa (w4.rangeAt w3 0 [.string a2,.string b2,.string c2]) (by rw[hw4];exact Bo w3 [.string a2,.string b2,.string c2] 67);have Hcall:=Aa (fun(w0' W:World) (hN:w0'.heap.size=w4.heap.size) (h1:Nn (w.heap.size+2) w0' (.pointer q1) xs) (h2:Nn (w.heap.size+2) w0' (.pointer q2) ys) (h:Eh w0' (.pointer q1) (.pointer q2) W [])=>show Calls prog 185 #[.pointer (some ⟨w4.heap.size+1,0,none⟩),Gy k,Gy l] W (Rl w0' (.pointer q1) (.pointer q2) (H6 (Ae xs) (Ae ys) 65 k l []) W)from hN ▸ Qgs w0' _ _ xs ys h1.isc h2.isc hS hT 65 k l [] W hk1 hk2 hr1 hr2 (Ks.nil _ _) aH h);unfold Gy at Hcall;rw[<-E1.o,<-E2.o,<-E3.o,<-E4.o,<-E5.o,<-E6.o]at Hcall;have Hev:Hid (Eo (some (Ae xs,k)) (some (Ae ys,l))=(H6 (Ae xs) (Ae ys) 65 k l []).1):=rfl;generalize H6 (Ae xs) (Ae ys) 65 k l []=r at *;obtain⟨r1,r2⟩:=r;clear hw4 hb34 hi1 hi2 hl1 hl3 hl3' hS hT hk1 hk2 hr1 hr2;have hmb:(w4.alloc (.map #[] 0)).heap.size=w4.heap.size+1:=aH;obtain⟨w6,hw6⟩:∃w6,w6=(w4.alloc (.map #[] 0)).alloc (.cells #[.pointer q1,.pointer q2,.map (some (w3.heap.size+1))] 174):=⟨_,rfl⟩
   rw[<-hw6];have hz6:w6.heap.size=w4.heap.size+2:=by rw[hw6];simp
   have hb46:Below w4 w4 w6:=by rw[hw6];exact((Ar _ _).alloc (Am _) _).alloc aH _
   have Hst6:=Aa (show Eh w4 (.pointer q1) (.pointer q2) w6 []from by
    refine⟨hb46,by omega,by rw[hw6,<-hmb];simp,by rw[hw6,<-hmb];simp,by rw[hw6,<-hmb];simp;omega,?_⟩;rw[hw6];exact((Db.made w4 prog 284 (.bool false)).alloc _).of_eq (fun l hl=>by simp[N7]))
   have HE:=@Aa (Ps w (.pointer q1) (.pointer q2) xs ys w4.heap.size w1.heap.size w3.heap.size [.string a1,.string b1,.string c1] [.string a2,.string b2,.string c2] w4 w6 []) ⟨rfl,Hi1.o,Hi2.o,Hb4.o,HT9.o,HT10.o,X13'.out,X16.o,by omega,by omega,by omega,Hst6.o⟩;have g13:w.heap.size+2<=w1.heap.size:=aF;have g16:w.heap.size+2<=w3.heap.size:=aF;have hz43:w3.heap.size+1+1=w4.heap.size+1:=aF;rw[hz43];generalize w1.heap.size=B13 at *;generalize w3.heap.size=B16 at *;clear hw6 hb46 hmb;refine M0 [46,47,48,49,50,51,52,8,999,998,11]
    (fun i v W=>match i with|0=>v=.pointer (some ⟨w4.heap.size+1,0,none⟩)|1=>v=.agg ([.string a1,.string b1,.string c1]:List Value).toArray|2=>v=.agg ([.string a2,.string b2,.string c2]:List Value).toArray|3=>v=.pointer (some ⟨w4.heap.size+1,0,none⟩)|4=>v=.agg ([.string a1,.string b1,.string c1]:List Value).toArray|5=>v=.agg ([.string a2,.string b2,.string c2]:List Value).toArray|6=>v=.bool r1|7=>v=.pointer (some ⟨w4.heap.size+1,0,none⟩)|10=>v=.bool r1|_=>True)
    (fun L U W=>∃w0' mm,Ps w (.pointer q1) (.pointer q2) xs ys w4.heap.size B13 B16 [.string a1,.string b1,.string c1] [.string a2,.string b2,.string c2] w0' W mm/\(L 6=false->mm=[])/\(L 8=true->w0'.rangeAt w 0 [.string a1,.string b1,.string c1])/\(L 9=true->w0'.rangeAt (w.heap.size+1) 0 [.string a2,.string b2,.string c2])) (⟨w4,[],HE.o.drew,fun _=>rfl,fun h=>Bool.noConfusion h,fun h=>Bool.noConfusion h⟩) ?_ ?_
   ·repeat (first|exact Ap.nil|(refine Ap.cons ?_ ?_;rotate_left))
    all_goals
     rintro L U W hL hpre HR Hdep K hK;obtain⟨w0',mm,hE,hm0,R8,R9⟩:=HR.o;have x13:=hE.x13;have x16:=hE.x16;have a0:W.cell? (B13,0)=some (.string a1):=by simpa using Ab x13 0 rfl
     have a1':W.cell? (B13,1)=some (.string b1):=by simpa using Ab x13 1 rfl
     have a2':W.cell? (B13,2)=some (.string c1):=by simpa using Ab x13 2 rfl
     have b0:W.cell? (B16,0)=some (.string a2):=by simpa using Ab x16 0 rfl
     have b1':W.cell? (B16,1)=some (.string b2):=by simpa using Ab x16 1 rfl
     have b2':W.cell? (B16,2)=some (.string c2):=by simpa using Ab x16 2 rfl
     clear x13 x16;first|(simp[Region.binds]at hpre;done)|simp[Region.binds]at hpre|clear hpre
    iterate 6
     ·exact fD
    ·obtain rfl:=hm0 hL;go_simp;refine(Hcall.o w0' W hE.sz hE.i1 hE.i2 hE.st).mono ?_;rintro e w5 ⟨rfl,ha5,hk5⟩;exact hK _ _ _ rfl Ac ⟨w0',_,{hE with st:=ha5},fun h=>by simp at h,R8,R9⟩ aG
    ·exact fD
    ·rw[if_pos d9];refine wp_store_mid 67 _ _ rfl w 0 ([.string a1,.string b1,.string c1]:List Value).toArray rfl dP hE.t9 aJ bJ ?_;exact hK undef _ _ Ac Ac ⟨_,mm,hE.store (b:=w.heap.size) [.string a1,.string b1,.string c1] aF aF aF aF,hm0,fun _=>a7 _ _ _ _ hE.t9',fun h=>ai (R9 h) _ _ _ (.inl (show w.heap.size+1≠w.heap.size by omega))⟩ rfl
    ·rw[if_pos d9];refine wp_store_mid 67 _ _ rfl (w.heap.size+1) 0 ([.string a2,.string b2,.string c2]:List Value).toArray rfl dP hE.t10 aJ bJ ?_;exact hK undef _ _ Ac Ac ⟨_,mm,hE.store (b:=(w.heap.size+1)) [.string a2,.string b2,.string c2] aF aF aF aF,hm0,fun h=>ai (R8 h) _ _ _ (.inl (show w.heap.size≠w.heap.size+1 by omega)),fun _=>a7 _ _ _ _ hE.t10'⟩ rfl
    ·exact fD
   rintro L U W hL hφ hR;have e7:U 7=.pointer (some ⟨w4.heap.size+1,0,none⟩):=hφ 7 aI;have e10:U 10=.bool r1:=hφ 10 aI;simp only[e7,e10];clear hφ;obtain⟨w0',mm,hE,_,h8,h9⟩:=hR;have Z1:=Aa (Ah (h8 (hL 8 aI)) (show w.heap.size<w0'.heap.size by have:=hE.sz;have:=hE.lw;omega) hE.st.1);have Z2:=Aa (Ah (h9 (hL 9 aI)) (show w.heap.size+1<w0'.heap.size by have:=hE.sz;have:=hE.lw;omega) hE.st.1);have HEv:=Aa hE;clear hL hE h8 h9;go_wp2_with fail;refine aD (v:=.tuple #[.pointer (some ⟨w4.heap.size+1,0,none⟩),.agg ([.string a1,.string b1,.string c1]:List Value).toArray,.agg ([.string a2,.string b2,.string c2]:List Value).toArray,.bool r1]) ?_ rfl ?_
   ·exact Jx results126 _ _ w.heap.size (w.heap.size+1) [.string a1,.string b1,.string c1] [.string a2,.string b2,.string c2] _ _ _ rfl rfl rfl rfl Z1.o Z2.o underlying67 rfl aJ aJ
   have hE:=HEv.o;have hs:=hE.sz;obtain⟨s1,s2,s3,s4,s5,s6⟩:=hE.st;rw[hs]at s2 s3 s4;exact⟨_,_,_,_,_,_,_,by rw[Hev.o],hE.be.trans (s1.mono hE.be.size),fun _=>⟨_,_,k,l,xs,ys,w4.heap.size+1,q1,q2,rfl,rfl,rfl,rfl,rfl,E1.o,E2.o,E3.o,E4.o,E5.o,E6.o,by have:=hE.lw;omega,by omega,s3,s4,(hE.i1.below s1).mono aF,(hE.i2.below s1).mono aF⟩⟩
theorem Qc0.kinds{o1 o2:Option (List Ty × Kd)}{w w':World}{e:Ending}(h:Qc0 o1 o2 w e w'):∃(q:Option Addr) (a1 b1 c1 a2 b2 c2:ByteArray),e=.returned (.tuple #[.pointer q,.agg #[.string a1,.string b1,.string c1],.agg #[.string a2,.string b2,.string c2],.bool (Eo o1 o2)])/\Below w w w':=by
 obtain⟨q,a1,b1,c1,a2,b2,c2,h1,h2,_⟩:=h;exact⟨q,a1,b1,c1,a2,b2,c2,h1,h2⟩
theorem Qbn(s1 d1 s2 d2:List UInt8)(w:World)(h1:s1.length<=4000000)(h2:d1.length<=4000000)(h3:s2.length<=4000000)(h4:d2.length<=4000000):
  Calls prog 184 #[s1,d1,s2,d2] w fun e w'=>e=.returned (.bool (Eo (Bn s1 d1) (Bn s2 d2)))/\Below w w w':=by
 have Hr:=Aa (fun W=>Qak s1 d1 s2 d2 W h1 h2 h3 h4);generalize Bn s1 d1=o1 at *;generalize Bn s2 d2=o2 at *;go_enter func184,ntmps184;go_wp2_with fail;refine(Hr.o _).mono ?_;rintro e w1 hp;obtain⟨q,a1,b1,c1,a2,b2,c2,rfl,hb1⟩:=hp.kinds;have Hb1:=Aa hb1;clear hb1 hp;go_wp2_with fail;go_ret;exact⟨rfl,(Hb1.o.alloc Hb1.o.size _).alloc (by simp;have:=Hb1.o.size;omega) _⟩
end
end Go.Proofs.YtgfmljfjgohdcaaGreatDoor
