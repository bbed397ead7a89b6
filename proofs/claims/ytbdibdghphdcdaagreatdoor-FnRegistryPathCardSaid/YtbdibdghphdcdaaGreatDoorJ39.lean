/- Texts joined. Conditions: as each theorem names them. -/
import Derived.Deep.CutRange
import Derived.Deep.DeepCutAuto
import Derived.Test.YtbdibdghphdcdaaGreatDoorJ35
set_option maxRecDepth 100000
set_option maxHeartbeats 32000000
set_option linter.unusedVariables false
set_option linter.unusedSimpArgs false
namespace Go.Proofs.YtbdibdghphdcdaaGreatDoor
open Go.RowKit Go.Proofs.Tryz
section
attribute [local go_sem] Qo7 Qok Qoa Ql9 ByteArray.mk_append_mk
theorem Qck(u:Value)(vs:List Fw)(n:Int)(w:World)(h:Gz w u vs)(hn:vs.length<=1048577)(hl:∀x∈vs,x.1.length<=4000000/\x.2.length<=4000000)(hlo:-9223372036854775808<=n)(hhi:n<=9223372036854775807):
  Calls prog 13 #[.agg #[u],.int .i64 n] w (Kk vs n w):=by
 have Hv:=Aa h;have Hl:=Aa hl;obtain⟨A,c,rfl,hcap,hvm,hr⟩:=h;have Hr:=Aa hr;clear hl hr;go_enter func13,ntmps13;go_wp2_with fail;obtain⟨W1,hW1⟩:∃W1,W1=(w.alloc (.cells #[.slice A vs.length c] 25)).alloc (.cells #[a6,a6] 31):=⟨_,rfl⟩
 rw[<-hW1];have hz1:W1.heap.size=w.heap.size+2:=cm;have B1:=Aa (show Below w w W1 by rw[hW1];exact((Ap _ _).alloc (An _) _).alloc aK _);have C1:=Aa (show W1.cell? (w,0)=some (.slice A vs.length c)by rw[hW1];simp[go_sem]);have T1:=Aa (show W1.there (w.heap.size+1) 0 2 by rw[hW1];have:=Bu (w.alloc (.cells #[.slice A vs.length c] 25)) [a6,a6] 31;simpa using this);clear hW1;refine(Qgp _ vs _ (Hv.o.below B1.o) hn Hl.o).mono ?_;rintro e w1 ⟨rfl,hb1⟩;have hz2:=hb1.size;have C2:=Aa ((hb1.cell (p:=⟨w.heap.size,0,none⟩) (show w.heap.size<W1.heap.size by omega)).trans C1.o);have T2:=Aa (Aj T1.o aH hb1);have B2:=Aa (B1.o.trans (hb1.mono aH));clear hb1;have c2:=C2.o;cases hok:N4 vs with
 |false=>
  have HN:=Aa (Qh5 (n:=n) hok);clear hok;go_wp2_with ((with_reducible refine Ad (op:=⟨none,.store 31 _ _,_,_,_,none⟩) rfl 31 _ _ rfl (w.heap.size+1) 0 [a6,a6] ?_ ?_ ?_ ?_ ?_ ?_);rfl;rfl;(exact T2.o);kernel_rfl;(simp[Value.oneCell']);intro w9 HS9)
  have HZ:=(by rw[HS9.o];exact aa _ _ _ _ T2.o:w9.rangeAt (w.heap.size+1) 0 [a6,a6])
  refine aF (v:=.tuple #[.agg ([a6,a6]:List Value).toArray,.bool false]) (Am results13 _ _ (w.heap.size+1) _ _ _ rfl rfl HZ underlying31 rfl aL) rfl ?_;exact mz
 |true=>
  have HOK:=Aa hok;clear hok;by_cases hin:1<=n/\n<=(vs.length:Int)
  ·obtain⟨k,rfl,hk⟩:∃k:Nat,n=(k:Int)+1/\k<vs.length:=⟨(n - 1).toNat,by omega,by omega⟩
   have HA:=Aa (Qkg HOK.o hk);obtain⟨b,off,rfl,hbl,x0,x1⟩:=Gz.at_ (Hr.o.below B2.o) hk;have Hxv:=@Aa (Cf vs k=vs[k]) (Eg hk);generalize vs[k]=x at x0 x1 Hxv;have t1:decide ((k:Int)+1<1)=false:=aC aH;have t2:decide ((vs.length:Int)<(k:Int)+1)=false:=aC aH;have hcap2:(k:Int)<(c:Int):=aH;go_wp2_with ((with_reducible refine Ad (op:=⟨none,.store 31 _ _,_,_,_,none⟩) rfl 31 _ _ rfl (w.heap.size+1) 0 [x.1,x.2] ?_ ?_ ?_ ?_ ?_ ?_);rfl;rfl;(exact T2.o);kernel_rfl;(simp[Value.oneCell']);intro w9 HS9)
   have HZ:=(by rw[HS9.o];exact aa _ _ _ _ T2.o:w9.rangeAt (w.heap.size+1) 0 [x.1,x.2])
   refine aF (v:=.tuple #[.agg ([x.1,x.2]:List Value).toArray,.bool true]) (Am results13 _ _ (w.heap.size+1) _ _ _ rfl rfl HZ underlying31 rfl aL) rfl ?_;exact mA
  have HN:=Aa (Qhm hin);by_cases h1:n<1
  ·have t1:decide (n<1)=true:=aD h1;go_wp2_with ((with_reducible refine Ad (op:=⟨none,.store 31 _ _,_,_,_,none⟩) rfl 31 _ _ rfl (w.heap.size+1) 0 [a6,a6] ?_ ?_ ?_ ?_ ?_ ?_);rfl;rfl;(exact T2.o);kernel_rfl;(simp[Value.oneCell']);intro w9 HS9)
   have HZ:=(by rw[HS9.o];exact aa _ _ _ _ T2.o:w9.rangeAt (w.heap.size+1) 0 [a6,a6])
   refine aF (v:=.tuple #[.agg ([a6,a6]:List Value).toArray,.bool false]) (Am results13 _ _ (w.heap.size+1) _ _ _ rfl rfl HZ underlying31 rfl aL) rfl ?_;exact mz
  have t1:decide (n<1)=false:=aC h1;have h2:(vs.length:Int)<n:=aH;have t2:decide ((vs.length:Int)<n)=true:=aD h2;go_wp2_with ((with_reducible refine Ad (op:=⟨none,.store 31 _ _,_,_,_,none⟩) rfl 31 _ _ rfl (w.heap.size+1) 0 [a6,a6] ?_ ?_ ?_ ?_ ?_ ?_);rfl;rfl;(exact T2.o);kernel_rfl;(simp[Value.oneCell']);intro w9 HS9)
  have HZ:=(by rw[HS9.o];exact aa _ _ _ _ T2.o:w9.rangeAt (w.heap.size+1) 0 [a6,a6])
  refine aF (v:=.tuple #[.agg ([a6,a6]:List Value).toArray,.bool false]) (Am results13 _ _ (w.heap.size+1) _ _ _ rfl rfl HZ underlying31 rfl aL) rfl ?_;exact mz
theorem Yt(w0:World)(x:PT)(hx:So w0 x)(n:Nat)(hn:n<=1000000000)(f:Fd)(hf:Av x.ty.fields n=some f):∃b o,b<w0.heap.size/\w0.rangeAt b o (Vp f)/\∀W,Below w0.heap.size w0 W ->
  Calls prog 59 #[.pointer (some ⟨x.blk,0,none⟩),.int .i64 n] W fun e w'=>e=.returned (.pointer (some ⟨b,o,none⟩))/\W=w':=by
 obtain⟨z0,_,_,_,z3,_,A,c,hfv,hl,hr⟩:=hx
 rw[hfv]at z3
 unfold Av at hf
 obtain⟨hp,j,hj,hfj,hlt⟩:=List.find?_eq_some_iff_getElem.1 hf
 obtain⟨b,off,rfl,hbl,hrg⟩:=Sp.range hr hj
 rw[hfj]at hrg
 refine⟨b,off+j*6,hbl,hrg,fun W hW=>?_⟩
 have c2:W.cell? ⟨x.blk,2,none⟩=some (.slice (some ⟨b,off,none⟩) x.ty.fields.length c):=(hW.cell (p:=⟨x.blk,2,none⟩) z0).trans z3
 have Hr:=Aa hr
 have Hb:=Aa hW
 have Hlt:=Aa hlt
 have Htag:=Aa (show f.tag=n from by simpa using hp)
 have Hfj:=Aa hfj
 clear hr hfv z3 hW hlt hp hfj hf hrg
 go_enter func59,ntmps59
 go_wp2_with fail
 go_loop [11] (fun i=>∃k:Nat,i=.int .i64 k/\k<=j) (fun i=>x.ty.fields.length - (intOf i).toNat)
 case atStart=>exact⟨0,rfl,Nat.zero_le _⟩
 case round=>
  obtain⟨k,rfl,hk⟩:=hrel
  have hkl:k<x.ty.fields.length:=by omega
  obtain⟨b',off',e',hbl',hrg'⟩:=Sp.range Hr.o hkl
  injection e' with e'
  injection e' with e1 e2
  subst e1 e2
  have c0:W.cell? ⟨b,off+k*6,none⟩=some (.int .i64 ((x.ty.fields[k]).tag:Int)):=by simpa using Ab (Ah hrg' hbl' Hb.o) 0 rfl
  have k1:(0:Int)<=(k:Int):=by omega
  have k2:(k:Int)<(x.ty.fields.length:Int):=by omega
  clear hrg'
  by_cases he:k=j
  ·subst he
   rw[Hfj.o,Htag.o]at c0
   have t1:((n:Int) == (n:Int))=true:=by simp
   go_wp2_with fail
   go_ret
   exact⟨rfl,rfl⟩
  ·have hne:(x.ty.fields[k]).tag≠n:=by have:=Hlt.o k (by omega);simpa using this
   have t1:(((x.ty.fields[k]).tag:Int) == (n:Int))=false:=by rw[beq_eq_false_iff_ne];omega
   generalize (x.ty.fields[k]).tag=tk at *
   clear hne
   go_wp2_with fail
   go_round
   case rel=>exact⟨k+1,by go_num,by omega⟩
   case measure=>simp[intOf];omega
end
def Na(r:Vl × Bool)(w:World)(e:Ending)(w':World):Prop:=∃sl,e=.returned (.tuple #[Er r.1 sl,.bool r.2])/\Eh (fun c=>w.heap.size<=c) w' sl r.1.kids/\Below w w w'
def Qch(r:Vl × Bool)(lost:Bool)(B11:Nat)(w:World)(e:Ending)(w':World):Prop:=∃sl,e=.returned (Er r.1 sl)/\Eh (fun c=>w.heap.size<=c) w' sl r.1.kids/\w.grownBy w' (some B11)/\w'.cell? (B11,0)=some (.bool (lost || r.2))/\w'.frozen? (B11,0)=false
theorem Kv{w w1 w2:World}{row:Option Nat}(h:w.grownBy w1 row)(k:w1.grownBy w2 row):w.grownBy w2 row:=
 ⟨k.os.trans h.os,k.tape.trans h.tape,k.output.trans h.output,ad h.size k.size,fun b hb hne=>(k.block b (ac hb h.size) hne).trans (h.block b hb hne)⟩
theorem Xj{w w':World}{b o:Nat}{vs:List Value}(h:w.grownBy w' (some o))(hb:w.heap.size<=b)(off:Nat):w.grownBy (w'.setCells b off vs) (some o):=by
 have hg:=Bx b vs off w';exact⟨hg.os.trans h.os,hg.tape.trans h.tape,hg.output.trans h.output,ad h.size hg.size,fun k hk hne=>(hg.block k (ac hk h.size) bQ).trans (h.block k hk hne)⟩
theorem Qg8(w:World)(eb B4 B11:Nat)(hl4:B4<w.heap.size)(hl11:B11<w.heap.size)(c4:w.cell? (B4,0)=eb)(lost:Bool)(c11:w.cell? (B11,0)=some (.bool lost))(f11:w.frozen? (B11,0)=false)(a b:Kd)(x:Vl)(A:Option Addr)(n c:Nat)(r:Vl × Bool)
  (HL:∀W,Below w w W->Calls prog 31 #[eb,Et a,Et b,Er x (.slice A n c)] W (Na r W)):
  Calls prog 57 #[Et a,Et b,Er x (.slice A n c),B4,B11] w (Qch r lost B11 w):=by
 obtain⟨W4,hW4⟩:∃W4,W4=(((w.alloc (.cells #[a.signs,a.base,a.name] 50)).alloc (.cells #[b.signs,b.base,b.name] 50)).alloc (.cells #[.int .u8 (x.what.toNat:Int),x.text,(x.tag:Int),.slice A n c] 44)).alloc (.cells #[.int .u8 0,a6,.int .i64 0,.slice none 0 0] 44):=⟨_,rfl⟩
 have hb4:Below w w W4:=by rw[hW4];exact((((Ap _ _).alloc (An _) _).alloc aK _).alloc aM _).alloc aM _
 have HL4:=Aa (HL W4 hb4);have hz4:W4.heap.size=w.heap.size+4:=by rw[hW4];simp
 have T8:=Aa (show W4.there (w.heap.size+3) 0 4 from by
  have h:=Bu (((w.alloc (.cells #[a.signs,a.base,a.name] 50)).alloc (.cells #[b.signs,b.base,b.name] 50)).alloc (.cells #[.int .u8 (x.what.toNat:Int),x.text,(x.tag:Int),.slice A n c] 44)) [.int .u8 0,a6,.int .i64 0,.slice none 0 0] 44;rw[show ((((w.alloc (.cells #[a.signs,a.base,a.name] 50)).alloc (.cells #[b.signs,b.base,b.name] 50)).alloc (.cells #[.int .u8 (x.what.toNat:Int),x.text,(x.tag:Int),.slice A n c] 44))).heap.size=w.heap.size+3 from by simp]at h;rw[hW4];exact h)
 have Hb4:=Aa hb4;have C4:=Aa ((hb4.cell (p:=⟨B4,0,none⟩) hl4).trans c4);have C11:=Aa ((hb4.cell (p:=⟨B11,0,none⟩) hl11).trans c11);have F11:=Aa ((hb4.frozen (p:=⟨B11,0,none⟩) hl11).trans f11);have c4':=C4.o;rw[hW4]at c4';unfold Et Er at HL4 ⊢;clear HL hb4 c4 c11 f11;go_enter func57,ntmps57;go_wp2_with fail;rw[<-hW4];clear hW4 c4';refine HL4.o.mono ?_;rintro e w5 ⟨sl,rfl,hs5,hb5⟩;obtain⟨A5,c5,rfl⟩:=hs5.form;have Hs5:=Aa hs5;have Hb5:=Aa (Hb4.o.trans (hb5.mono Hb4.o.size));have T85:=Aa (Aj T8.o aH hb5);have c115:w5.cell? (B11,0)=some (.bool lost):=(hb5.cell (p:=⟨B11,0,none⟩) (show B11<W4.heap.size by omega)).trans C11.o;have f115:w5.frozen? (B11,0)=false:=(hb5.frozen (p:=⟨B11,0,none⟩) (show B11<W4.heap.size by omega)).trans F11.o;have hz5:w.heap.size+4<=w5.heap.size:=by have:=hb5.size;omega
 have hn1:¬(B11=w5.heap.size):=aH;have hn2:B11<w5.heap.size:=aH;have hn3:¬(w5.heap.size=B11):=aH;unfold Er;have Hr:=@Aa (r.1=.mk r.1.what r.1.text r.1.tag r.1.kids) (by cases r.1;rfl);clear hb5 hs5;cases lost with
 |true=>
  have T86:=@Aa (((w5.setCell ⟨B11,0,none⟩ (.bool true)).alloc (.cells #[.int .u8 (r.1.what.toNat:Int),r.1.text,(r.1.tag:Int),.slice A5 r.1.kids.length c5] 44)).there (w.heap.size+3) 0 4) (ar (ai T85.o B11 0 [.bool true]) _);go_wp2_with ((with_reducible refine Ad (op:=⟨none,.store 44 _ _,_,_,_,none⟩) rfl 44 _ _ rfl (w.heap.size+3) 0 [.int .u8 (r.1.what.toNat:Int),r.1.text,(r.1.tag:Int),.slice A5 r.1.kids.length c5] ?_ ?_ ?_ ?_ ?_ ?_);(first|rfl|(simp;done));rfl;(exact T86.o);kernel_rfl;(simp[Value.oneCell']);intro w9 HS9)
  refine aF (v:=.agg ([.int .u8 (r.1.what.toNat:Int),r.1.text,(r.1.tag:Int),.slice A5 r.1.kids.length c5]:List Value).toArray) ?_ rfl ?_
  ·exact jG
  have hg5:w.grownBy w5 (some B11):=Cm Hb5.o _;have hg6:=Kv hg5 (Ao w5 B11 0 (.bool true));have hal:=(Ap (w5.setCell ⟨B11,0,none⟩ (.bool true)).heap.size (w5.setCell ⟨B11,0,none⟩ (.bool true))).alloc (An _) (.cells #[.int .u8 (r.1.what.toNat:Int),r.1.text,(r.1.tag:Int),.slice A5 r.1.kids.length c5] 44);have hg7:=Kv hg6 (Cm hal (some B11));have hg9:w.grownBy w9 (some B11):=by rw[HS9.o];exact Xj hg7 aH 0
  refine⟨.slice A5 r.1.kids.length c5,rfl,?_,hg9,?_,?_⟩
  ·have h1:Eh (fun c=>w.heap.size+4<=c) w5 (.slice A5 r.1.kids.length c5) r.1.kids:=Hs5.o.mono fun c hc _=>aH;have h2:=(h1.grown (Ao w5 B11 0 (.bool true)) (fun c hc e=>by injection e with e;omega)).after hal;exact mB
  ·exact jo
  rw[HS9.o,(Bx (w.heap.size+3) [.int .u8 (r.1.what.toNat:Int),r.1.text,(r.1.tag:Int),.slice A5 r.1.kids.length c5] 0 _).frozen_far ⟨B11,0,none⟩ aM aM];simp[go_sem,f115,hn1,hn2]
 |false=>
  have T86:=@Aa (((w5.setCell ⟨B11,0,none⟩ (.bool r.2)).alloc (.cells #[.int .u8 (r.1.what.toNat:Int),r.1.text,(r.1.tag:Int),.slice A5 r.1.kids.length c5] 44)).there (w.heap.size+3) 0 4) (ar (ai T85.o B11 0 [.bool r.2]) _);go_wp2_with ((with_reducible refine Ad (op:=⟨none,.store 44 _ _,_,_,_,none⟩) rfl 44 _ _ rfl (w.heap.size+3) 0 [.int .u8 (r.1.what.toNat:Int),r.1.text,(r.1.tag:Int),.slice A5 r.1.kids.length c5] ?_ ?_ ?_ ?_ ?_ ?_);(first|rfl|(simp;done));rfl;(exact T86.o);kernel_rfl;(simp[Value.oneCell']);intro w9 HS9)
  refine aF (v:=.agg ([.int .u8 (r.1.what.toNat:Int),r.1.text,(r.1.tag:Int),.slice A5 r.1.kids.length c5]:List Value).toArray) ?_ rfl ?_
  ·exact jG
  have hg5:w.grownBy w5 (some B11):=Cm Hb5.o _;have hg6:=Kv hg5 (Ao w5 B11 0 (.bool r.2));have hal:=(Ap (w5.setCell ⟨B11,0,none⟩ (.bool r.2)).heap.size (w5.setCell ⟨B11,0,none⟩ (.bool r.2))).alloc (An _) (.cells #[.int .u8 (r.1.what.toNat:Int),r.1.text,(r.1.tag:Int),.slice A5 r.1.kids.length c5] 44);have hg7:=Kv hg6 (Cm hal (some B11));have hg9:w.grownBy w9 (some B11):=by rw[HS9.o];exact Xj hg7 aH 0
  refine⟨.slice A5 r.1.kids.length c5,rfl,?_,hg9,?_,?_⟩
  ·have h1:Eh (fun c=>w.heap.size+4<=c) w5 (.slice A5 r.1.kids.length c5) r.1.kids:=Hs5.o.mono fun c hc _=>aH;have h2:=(h1.grown (Ao w5 B11 0 (.bool r.2)) (fun c hc e=>by injection e with e;omega)).after hal;exact mB
  ·exact jo
  rw[HS9.o,(Bx (w.heap.size+3) [.int .u8 (r.1.what.toNat:Int),r.1.text,(r.1.tag:Int),.slice A5 r.1.kids.length c5] 0 _).frozen_far ⟨B11,0,none⟩ aM aM];simp[go_sem,f115,hn1,hn2]
structure LiS(w W7 wr:World)(h0 h1 h2:Value)(l:Bool)(kv:Value)(xs:List (Vl × Value)):Prop where
 bel:Below w w wr
 keep:Below (w.heap.size+5) W7 wr
 st:Vq (w.heap.size+7) (w.heap.size+5) wr h0 h1 h2 kv kv xs
 c6:wr.cell? (w,6,0)=some (.bool l)
 f6:wr.frozen? (w,6,0)=false
section
variable {w W7 wr W W' W1:World} {h0 h1 h2 kv u8 u9 u10:Value} {l l' l8 l9 l10 l12:Bool} {xs:List (Vl × Value)} {r:Vl × Bool} {A:Option Addr} {c:Nat}
theorem LiS.after(h:LiS w W7 wr h0 h1 h2 l kv xs)(hb:Below wr wr W):LiS w W7 W h0 h1 h2 l kv xs:=by
 have hlt:w.heap.size+6<wr.heap.size:=h.st.bs;exact⟨h.bel.trans (hb.mono h.bel.size),h.keep.trans (hb.mono aH),h.st.after hb,(hb.cell (p:=⟨w.heap.size+6,0,none⟩) hlt).trans h.c6,(hb.frozen (p:=⟨w.heap.size+6,0,none⟩) hlt).trans h.f6⟩
theorem LiS.one(h:LiS w W7 wr h0 h1 h2 l kv xs)(hg:wr.grownBy W (some (w.heap.size+6)))(hc:W.cell? (w,6,0)=some (.bool l'))(hf:W.frozen? (w,6,0)=false):LiS w W7 W h0 h1 h2 l' kv xs:=
 ⟨h.bel.grown hg h.bel.size (fun k e=>by injection e with e;omega),h.keep.grown hg (by have:=h.st.bs;omega) (fun k e=>by injection e with e;omega),h.st.step hg aH aH,hc,hf⟩
structure Nu(w W7 W1:World)(h0 h1 h2:Value)(l:Bool)(A:Option Addr)(c:Nat)(xs:List (Vl × Value))(r:Vl × Bool)(l8 l9 l10 l12:Bool)(u8 u9 u10:Value)(W:World):Prop where
 s0:l8=false->Below W1 W1 W
 s1:l8=true->l9=false->∃sl,u8=Er r.1 sl/\Eh (fun c=>W1.heap.size<=c) W sl r.1.kids/\LiS w W7 W h0 h1 h2 (l || r.2) (.slice A xs.length c) xs
 s2:l9=true->l10=false->∃W8 sl,W=W8.alloc (.cells (Kt (r.1,sl)).toArray 44)/\u9=.slice (some ⟨W8.heap.size,0,none⟩) 1 1/\Eh (fun c=>W1.heap.size<=c) W8 sl r.1.kids/\LiS w W7 W8 h0 h1 h2 (l || r.2) (.slice A xs.length c) xs
 s3:l10=true->l12=false->∃sl A6 c6,u10=.slice A6 (xs.length+1) c6/\Vq (w.heap.size+7) (w.heap.size+5) W h0 h1 h2 (.slice A xs.length c) u10 (xs++[(r.1,sl)])/\Below w w W/\Below (w.heap.size+5) W7 W/\W.cell? (w,6,0)=some (.bool (l || r.2))/\W.frozen? (w,6,0)=false
 s4:l12=true->∃sl A6 c6,LiS w W7 W h0 h1 h2 (l || r.2) (.slice A6 (xs.length+1) c6) (xs++[(r.1,sl)])
theorem Nu.start:Nu w W7 W1 h0 h1 h2 l A c xs r false false false false u8 u9 u10 W1:=
 ⟨fun _=>Ap _ _,fun h=>Bool.noConfusion h,fun h=>Bool.noConfusion h,fun h=>Bool.noConfusion h,fun h=>Bool.noConfusion h⟩
theorem Nu.c3(h:Nu w W7 W1 h0 h1 h2 l A c xs r l8 l9 l10 l12 u8 u9 u10 W)(hl:LiS w W7 W1 h0 h1 h2 l (.slice A xs.length c) xs)(h10:l10=false):W.cell? (w,5,3)=some (.slice A xs.length c):=by
 cases e8:l8 with
 |false=>exact(hl.after (h.s0 e8)).st.c3
 |true=>
  cases e9:l9 with
  |false=>obtain⟨_,_,_,hL⟩:=h.s1 e8 e9;exact hL.st.c3
  |true=>obtain⟨W8,sl,rfl,_,_,hL⟩:=h.s2 e9 h10;exact(hL.after ((Ap _ _).alloc (An _) _)).st.c3
theorem Nu.pre(h:Nu w W7 W1 h0 h1 h2 l A c xs r l8 l9 l10 l12 u8 u9 u10 W)(h8:l8=false)(h9:l9=false)(h10:l10=false)(h12:l12=false)(hb:Below W W W'):Nu w W7 W1 h0 h1 h2 l A c xs r l8 l9 l10 l12 u8 u9 u10 W':=by
 subst h8 h9 h10 h12;exact⟨fun _=>(h.s0 rfl).trans (hb.mono (h.s0 rfl).size),fun h=>Bool.noConfusion h,fun h=>Bool.noConfusion h,fun h=>Bool.noConfusion h,fun h=>Bool.noConfusion h⟩
theorem Nu.put8{sl:Value}(hs0:Below W1 W1 W)(hl:LiS w W7 W1 h0 h1 h2 l (.slice A xs.length c) xs)(h9:l9=false)(h10:l10=false)(h12:l12=false)(hs:Eh (fun c=>W.heap.size<=c) W' sl r.1.kids)(hg:W.grownBy W' (some (w.heap.size+6)))(hc:W'.cell? (w,6,0)=some (.bool (l || r.2)))(hf:W'.frozen? (w,6,0)=false):
  Nu w W7 W1 h0 h1 h2 l A c xs r true l9 l10 l12 (Er r.1 sl) u9 u10 W':=by
 subst h9 h10 h12;exact⟨fun h=>Bool.noConfusion h,fun _ _=>⟨sl,rfl,hs.mono fun c hc _=>ad hs0.size hc,(hl.after hs0).one hg hc hf⟩,fun h=>Bool.noConfusion h,fun h=>Bool.noConfusion h,fun h=>Bool.noConfusion h⟩
theorem Nu.put9(h:Nu w W7 W1 h0 h1 h2 l A c xs r l8 l9 l10 l12 u8 u9 u10 W)(h8:l8=true)(h9:l9=false)(h10:l10=false)(h12:l12=false):∃sl,u8=Er r.1 sl/\(∃A n c,sl=.slice A n c) /\
  Nu w W7 W1 h0 h1 h2 l A c xs r l8 true l10 l12 u8 (.slice (W,0) 1 1) u10 (W.alloc (.cells (Kt (r.1,sl)).toArray 44)):=by
 obtain⟨sl,e,hs,hL⟩:=h.s1 h8 h9;subst h10 h12;exact⟨sl,e,by obtain⟨A,c,e⟩:=hs.form;exact⟨A,_,c,e⟩,fun h=>absurd (h8.symm.trans h) aJ,fun _ h=>Bool.noConfusion h,fun _ _=>⟨W,sl,rfl,rfl,hs,hL⟩,fun h=>Bool.noConfusion h,fun h=>Bool.noConfusion h⟩
theorem Nu.put10{W8:World}{sl v:Value}(hL:LiS w W7 W8 h0 h1 h2 (l || r.2) (.slice A xs.length c) xs)(hl:LiS w W7 W1 h0 h1 h2 l (.slice A xs.length c) xs)(hs:Eh (fun c=>W1.heap.size<=c) W8 sl r.1.kids)(h8:l8=true)(h9:l9=true)(h12:l12=false)
  (hown:W.ownsRow (w.heap.size+7) 44 4 v (xs.length+1) (xs.flatMap Kt++Kt (r.1,sl))) (hg:W8.grownBy W (Value.slice A xs.length c).ownBlock) (hwh:v.ownBlock=(Value.slice A xs.length c).ownBlock\/∃k,v.ownBlock=some k/\W8.heap.size<=k):
  Nu w W7 W1 h0 h1 h2 l A c xs r l8 l9 true l12 u8 u9 v W/\∃A6 c6,v=.slice A6 (xs.length+1) c6:=by
 have hk:Eh (fun c1=>w.heap.size+7<=c1/\(Value.slice A xs.length c).ownBlock≠some c1) W8 sl r.1.kids:=hs.mono fun c1 hc _=>⟨ad hl.st.bs hc,fun e=>by have:=(hl.st.row.lt c1 e).2;omega⟩
 have hK:=hL.st.app (x:=(r.1,sl)) hk hown hg hwh;have hv:∃A6 c6,v=.slice A6 (xs.length+1) c6:=by
  rcases hown.2 with⟨_,e0⟩|⟨g,cap,cur,e,_⟩
  ·omega
  exact⟨_,cap,e⟩
 obtain⟨A6,c6,e6⟩:=hv;have hlo:∀k,(Value.slice A xs.length c).ownBlock=some k->w.heap.size+7<=k:=fun k e=>(hL.st.row.lt k e).1;have hne:some (w.heap.size+6)≠(Value.slice A xs.length c).ownBlock:=fun e=>by have:=hlo _ e.symm;omega
 subst h12;exact⟨⟨fun h=>absurd (h8.symm.trans h) aJ,fun _ h=>absurd (h9.symm.trans h) aJ,fun _ h=>Bool.noConfusion h,fun _ _=>⟨sl,A6,c6,e6,hK,hL.bel.grown hg hL.bel.size (fun k e=>by have:=hlo k e;omega),hL.keep.grown hg (by have:=hL.st.bs;omega) (fun k e=>by have:=hlo k e;omega),hg.cell hL.c6 hne,(hg.frozen_far ⟨w.heap.size+6,0,none⟩ (show w.heap.size+6<W8.heap.size from hL.st.bs) hne).trans hL.f6⟩,fun h=>Bool.noConfusion h⟩,A6,c6,e6⟩
theorem Nu.put12(h:Nu w W7 W1 h0 h1 h2 l A c xs r l8 l9 l10 l12 u8 u9 u10 W)(h8:l8=true)(h9:l9=true)(h10:l10=true)(h12:l12=false)(hW:W'=W.setCell ⟨w.heap.size+5,3,none⟩ u10):Nu w W7 W1 h0 h1 h2 l A c xs r l8 l9 l10 true u8 u9 u10 W':=by
 subst hW;obtain⟨sl,A6,c6,e6,hK,hb,hk,hc,hf⟩:=h.s3 h10 h12;have hg:=Ao W (w.heap.size+5) 3 u10;have hS:=hK.store;rw[e6]at hS hg ⊢;have hlt:w.heap.size+6<W.heap.size:=hK.bs;exact⟨fun h=>absurd (h8.symm.trans h) aJ,fun _ h=>absurd (h9.symm.trans h) aJ,fun _ h=>absurd (h10.symm.trans h) aJ,fun _ h=>Bool.noConfusion h,fun _=>⟨sl,A6,c6,hb.setCell (p:=⟨w.heap.size+5,3,none⟩) (show w.heap.size<=w.heap.size+5 by omega) _,hk.setCell (p:=⟨w.heap.size+5,3,none⟩) (An (w.heap.size+5)) _,hS,hg.cell hc aK,(hg.frozen_far ⟨w.heap.size+6,0,none⟩ hlt aK).trans hf⟩⟩
end
section
attribute [local go_sem] Qo7 Qok Qoa Ql9 ByteArray.mk_append_mk
structure EvW(W:World)(eb:Nat)(p1 p2:Value)(xs ys:List PT):Prop where
 lt:eb<W.heap.size
 c0:W.cell? (eb,0)=some p1
 c1:W.cell? (eb,1)=some p2
 s1:Tr W p1 xs
 s2:Tr W p2 ys
theorem EvW.after{W W':World}{eb:Nat}{p1 p2:Value}{xs ys:List PT}(h:EvW W eb p1 p2 xs ys)(hb:Below W W W'):EvW W' eb p1 p2 xs ys:=
 ⟨ac h.lt hb.size,(hb.cell (p:=⟨eb,0,none⟩) h.lt).trans h.c0,(hb.cell (p:=⟨eb,1,none⟩) h.lt).trans h.c1,h.s1.below hb,h.s2.below hb⟩
structure LkT(w:World)(eb:Nat)(an bn:List UInt8)(xb yb pb1 mb1 pb2 mb2:Nat):Prop where
 le:eb<w.heap.size
 l1:pb1<w.heap.size
 l2:pb2<w.heap.size
 e0:w.cell? (eb,0)=pb1
 e1:w.cell? (eb,1)=pb2
 m1:w.cell? (pb1,1)=some (.map (some mb1))
 m2:w.cell? (pb2,1)=some (.map (some mb2))
 k1:∀W,Below w w W->(Instr.lookup 118 (.map (some mb1)) an false).run prog W=.ok xb W
 k2:∀W,Below w w W->(Instr.lookup 118 (.map (some mb2)) bn false).run prog W=.ok yb W
theorem Qnt{w:World}{eb:Nat}{p1 p2:Value}{xs ys:List PT}(h:EvW w eb p1 p2 xs ys){an bn:List UInt8}{x y:PT}(hx:Fh xs an=some x)(hy:Fh ys bn=some y)(ha:an.length<=1000)(hb:bn.length<=1000):∃pb1 mb1 pb2 mb2,p1=.pointer (some ⟨pb1,0,none⟩)/\p2=.pointer (some ⟨pb2,0,none⟩)/\LkT w eb an bn x.blk y.blk pb1 mb1 pb2 mb2:=by
 obtain⟨pb1,_,_,mb1,e1,q0,_,q2,_,q4,_,_⟩:=h.s1;obtain⟨pb2,_,_,mb2,e2,s0,_,s2,_,s4,_,_⟩:=h.s2;refine⟨pb1,mb1,pb2,mb2,e1,e2,h.lt,q0,s0,h.c0.trans (by rw[e1]),h.c1.trans (by rw[e2]),q2,s2,fun W hW=>?_,fun W hW=>?_⟩
 ·have:=Gj (D5.below q4 hW) an aH;rw[hx]at this;exact this
 have:=Gj (D5.below s4 hW) bn aH;rw[hy]at this;exact this
structure LiH(w W7:World)(eb:Nat)(a b:Kd)(vv:Vl)(A2:Option Addr)(n2 c2:Nat):Prop where
 sz:W7.heap.size=w.heap.size+7
 T:W7.there (w.heap.size+4) 0 4
 e0:W7.cell? (w,0)=eb
 a0:W7.cell? (w,1,0)=a.signs
 a1:W7.cell? (w,1,1)=a.base
 a2:W7.cell? (w,1,2)=a.name
 b2:W7.cell? (w,2,2)=b.name
 v0:W7.cell? (w,3,0)=some (.int .u8 (vv.what.toNat:Int))
 v1:W7.cell? (w,3,1)=vv.text
 v2:W7.cell? (w,3,2)=(vv.tag:Int)
 v3:W7.cell? (w,3,3)=some (.slice A2 n2 c2)
 st:LiS w W7 W7 (.int .u8 (vv.what.toNat:Int)) vv.text (vv.tag:Int) false (.slice none 0 0) []
theorem Yw(w W7:World)(eb:Nat)(a b:Kd)(vv:Vl)(A2:Option Addr)(n2 c2:Nat)(h:W7=(((((((w.alloc (.cells #[eb] 68)).alloc (.cells #[a.signs,a.base,a.name] 50)).alloc (.cells #[.string ⟨b.signs.toArray⟩,.string ⟨b.base.toArray⟩,.string ⟨b.name.toArray⟩] 50)).alloc (.cells #[.int .u8 (vv.what.toNat:Int),vv.text,(vv.tag:Int),.slice A2 n2 c2] 44)).alloc (.cells #[.int .u8 0,a6,.int .i64 0,.slice none 0 0] 44)).alloc (.cells #[.int .u8 (vv.what.toNat:Int),vv.text,(vv.tag:Int),.slice none 0 0] 44)).alloc (.cells #[.bool false] 4))):LiH w W7 eb a b vv A2 n2 c2:=by
 obtain⟨W5,hW5⟩:∃W5,W5=((((w.alloc (.cells #[eb] 68)).alloc (.cells #[a.signs,a.base,a.name] 50)).alloc (.cells #[.string ⟨b.signs.toArray⟩,.string ⟨b.base.toArray⟩,.string ⟨b.name.toArray⟩] 50)).alloc (.cells #[.int .u8 (vv.what.toNat:Int),vv.text,(vv.tag:Int),.slice A2 n2 c2] 44)).alloc (.cells #[.int .u8 0,a6,.int .i64 0,.slice none 0 0] 44):=⟨_,rfl⟩
 obtain⟨W6,hW6⟩:∃W6,W6=W5.alloc (.cells #[.int .u8 (vv.what.toNat:Int),vv.text,(vv.tag:Int),.slice none 0 0] 44):=⟨_,rfl⟩
 have hW7:W7=W6.alloc (.cells #[.bool false] 4):=by rw[h,hW6,hW5]
 clear h;have hz5:W5.heap.size=w.heap.size+5:=d7;have hz6:W6.heap.size=w.heap.size+6:=by rw[hW6];simp;omega
 have hz7:W7.heap.size=w.heap.size+7:=by rw[hW7];simp;omega
 have hb5:Below w w W5:=il;have hb56:Below W5 W5 W6:=di;have hb67:Below W6 W6 W7:=gO;have hc57:∀b o,b<w.heap.size+5->W7.cell? ⟨b,o,none⟩=W5.cell? ⟨b,o,none⟩:=fun b o hb=>(hb67.cell (p:=⟨b,o,none⟩) (show b<W6.heap.size by omega)).trans (hb56.cell (p:=⟨b,o,none⟩) (show b<W5.heap.size by omega));have hT:W5.there (w.heap.size+4) 0 4:=by
  have h:=Bu ((((w.alloc (.cells #[eb] 68)).alloc (.cells #[a.signs,a.base,a.name] 50)).alloc (.cells #[.string ⟨b.signs.toArray⟩,.string ⟨b.base.toArray⟩,.string ⟨b.name.toArray⟩] 50)).alloc (.cells #[.int .u8 (vv.what.toNat:Int),vv.text,(vv.tag:Int),.slice A2 n2 c2] 44)) [.int .u8 0,a6,.int .i64 0,.slice none 0 0] 44;rw[<-hW5]at h;simpa using h
 refine⟨hz7,Aj (Aj hT aH hb56) aH hb67,?_,?_,?_,?_,?_,?_,?_,?_,?_,?_⟩;iterate 9
  ·rw[hc57 _ _ aH,hW5];go_simp
 have hB:Rj W6 (w.heap.size+5):=by rw[hW6,<-hz5];exact Rj.new _ _ _
 have hc:∀o u,(#[.int .u8 (vv.what.toNat:Int),vv.text,(vv.tag:Int),.slice none 0 0]:Array Value)[o]?=some u->W7.cell? ⟨w.heap.size+5,o,none⟩=some u:=fun o u hu=>by
  exact mC
 refine⟨(hb5.trans (hb56.mono aH)).trans (hb67.mono aH),Ap _ _,⟨by omega,by omega,by omega,hB.belowAt aH hb67,hc 0 _ rfl,hc 1 _ rfl,hc 2 _ rfl,hc 3 _ rfl,World.ownsRow_nil _ _ _ _,by simp⟩,?_,?_⟩
 ·rw[hW7,<-hz6];simp[World.cell?_alloc_new]
 rw[hW7,<-hz6];simp[go_sem]
theorem Qho(P:Nat->Prop)(w:World)(A:Option Addr)(c:Nat):Eh P w (.slice A 0 c) []:=
 .mk A c [] rfl rfl aK ⟨rfl,ag _,fun h=>absurd h aK⟩ (fun _ _ h=>absurd h aK) aK
theorem Qa0(w:World)(eb:Nat)(a b:Kd)(hs:a.signs=[])(hb:a.base≠[64])(vv:Vl)(hk:vv.kids=[])(A2:Option Addr)(c2:Nat):
  Calls prog 31 #[eb,Et a,Et b,Er vv (.slice A2 0 c2)] w (Na (vv,false) w):=by
 obtain⟨n2,hn2⟩:∃n2,n2=0:=⟨_,rfl⟩
 have Hs:=Aa hs;have Hb:=Aa hb;have Hk:=Aa hk;clear hs hb hk;obtain⟨W7,hW7⟩:∃W7,W7=(((((((w.alloc (.cells #[eb] 68)).alloc (.cells #[a.signs,a.base,a.name] 50)).alloc (.cells #[b.signs,b.base,b.name] 50)).alloc (.cells #[.int .u8 (vv.what.toNat:Int),vv.text,(vv.tag:Int),.slice A2 n2 c2] 44)).alloc (.cells #[.int .u8 0,a6,.int .i64 0,.slice none 0 0] 44)).alloc (.cells #[.int .u8 (vv.what.toNat:Int),vv.text,(vv.tag:Int),.slice none 0 0] 44)).alloc (.cells #[.bool false] 4)):=⟨_,rfl⟩
 have HH:=Aa (Yw w W7 eb a b vv A2 n2 c2 hW7);unfold Et Er;go_enter func31,ntmps31;go_upto_region 4 with fail
 subst hn2;rw[<-hW7];clear hW7;have e1:=HH.o.a0;have e2:=HH.o.a1;have e3:=HH.o.v0;have e4:=HH.o.v1;have e5:=HH.o.v2;have e6:=HH.o.v3;have t1:a.signs.isEmpty=true:=gx;have t2:(a.base == [64])=false:=by simpa using Hb.o
 have HT:=Aa HH.o.T;rw[Hs.o]at e1;go_wp2_with ((with_reducible refine Ad (op:=⟨none,.store 44 _ _,_,_,_,none⟩) rfl 44 _ _ rfl (w.heap.size+4) 0 [.int .u8 (vv.what.toNat:Int),vv.text,(vv.tag:Int),.slice A2 0 c2] ?_ ?_ ?_ ?_ ?_ ?_);(first|rfl|(simp;done));rfl;(exact HT.o);kernel_rfl;(simp[Value.oneCell']);intro w9 HS9)
 refine aF (v:=.tuple #[.agg ([.int .u8 (vv.what.toNat:Int),vv.text,(vv.tag:Int),.slice A2 0 c2]:List Value).toArray,.bool false]) ?_ rfl ?_
 ·exact Am results31 _ _ (w.heap.size+4) [.int .u8 (vv.what.toNat:Int),vv.text,(vv.tag:Int),.slice A2 0 c2] _ _ rfl rfl (by rw[HS9.o];exact aa _ _ _ _ HT.o) underlying44 rfl aL
 refine⟨.slice A2 0 c2,rfl,by rw[Hk.o];exact Qho _ _ _ _,?_⟩;rw[HS9.o];exact Ai _ aH _ _ _ HH.o.st.bel
theorem Ql4(w:World)(eb:Nat)(a b:Kd)(hs:a.signs=[])(hb:a.base=[64])(vv:Vl)(hw85:vv.what≠85)(hw82:vv.what≠82)(hk:vv.kids=[])(A2:Option Addr)(c2:Nat)(xb yb pb1 mb1 pb2 mb2:Nat)(hlk:LkT w eb a.name b.name xb yb pb1 mb1 pb2 mb2):
  Calls prog 31 #[eb,Et a,Et b,Er vv (.slice A2 0 c2)] w (Na (vv,false) w):=by
 obtain⟨n2,hn2⟩:∃n2,n2=0:=⟨_,rfl⟩
 have Hs:=Aa hs;have Hb:=Aa hb;have Hk:=Aa hk;clear hs hb hk;have t85:((vv.what.toNat:Int) == 85)=false:=by have:=Aq hw85;simpa using this
 have t82:((vv.what.toNat:Int) == 82)=false:=by have:=Aq hw82;simpa using this
 have HLk:=Aa hlk;have ht:vv.text=vv.text:=rfl;clear hw85 hw82 hlk;obtain⟨W7,hW7⟩:∃W7,W7=(((((((w.alloc (.cells #[eb] 68)).alloc (.cells #[a.signs,a.base,a.name] 50)).alloc (.cells #[b.signs,b.base,b.name] 50)).alloc (.cells #[.int .u8 (vv.what.toNat:Int),vv.text,(vv.tag:Int),.slice A2 n2 c2] 44)).alloc (.cells #[.int .u8 0,a6,.int .i64 0,.slice none 0 0] 44)).alloc (.cells #[.int .u8 (vv.what.toNat:Int),vv.text,(vv.tag:Int),.slice none 0 0] 44)).alloc (.cells #[.bool false] 4)):=⟨_,rfl⟩
 have HH:=Aa (Yw w W7 eb a b vv A2 n2 c2 hW7);unfold Et Er;go_enter func31,ntmps31;go_upto_region 4 with fail
 subst hn2;rw[<-hW7];clear hW7;have e1:=HH.o.a0;have e2:=HH.o.a1;have e3:=HH.o.v0;have t1:a.signs.isEmpty=true:=gx;rw[Hs.o]at e1;rw[Hb.o]at e2;go_upto_region 13 with fail
 refine Jo [58,59,60,61,62,63,64,65,66,67,68,69,70,71,72,73,74,75,76,77,15,16]
  (fun ix v W=>match ix with|0=>v=eb|1=>v=eb|2=>v=eb|3=>v=pb1|4=>v=pb1|5=>v=(pb1,1)|6=>v=.map (some mb1)|7=>v=(w,1,2)|8=>v=a.name|9=>v=xb|10=>v=eb|11=>v=eb|12=>v=(eb,1)|13=>v=pb2|14=>v=pb2|15=>v=(pb2,1)|16=>v=.map (some mb2)|17=>v=(w,2,2)|18=>v=b.name|19=>v=yb|20=>v=xb|21=>v=yb|_=>True)
  (fun L U W=>W=W7.drew) (rfl) ?_ ?_
 ·exact iz
 rintro L U W hL hφ hR;have e20:U 20=xb:=hφ 20 aJ;have e21:U 21=yb:=hφ 21 aJ;simp only[e20,e21];clear hφ;subst hR;clear hL;have e5:=HH.o.v0;go_wp2_with fail;have HL:=Aa (HH.o.st.after (Ap _ _).drew);have HT:=Aa (Aj HH.o.T (show w.heap.size+4<w.heap.size+5 by omega) HL.o.keep.drew);refine Jo [156,157,999,9]
  (fun ix v W=>match ix with|0=>v=.agg #[.int .u8 (vv.what.toNat:Int),vv.text,(vv.tag:Int),.slice none 0 0]|1=>v=.bool false|3=>v=.bool false|_=>True)
  (fun L U W=>(L 2=false->W=W7.drew.drew)/\(L 2=true->W=W7.drew.drew.setCells (w.heap.size+4) 0 [.int .u8 (vv.what.toNat:Int),vv.text,(vv.tag:Int),.slice none 0 0])) (⟨fun _=>rfl,fun h=>Bool.noConfusion h⟩) ?_ ?_
 ·repeat (first|exact Ak.nil|(refine Ak.cons ?_ ?_;rotate_left))
  all_goals
   rintro L U W hL hpre HR Hdep K hK;first|(simp[Region.binds]at hpre;done)|simp[Region.binds]at hpre|clear hpre
  ·exact iR
  ·have x6:W.cell? (w,6,0)=some (.bool false):=by
    cases e2:L 2 with
    |false=>rw[HR.o.1 e2];exact HL.o.c6
    |true=>
     exact mD
   exact lq
  ·have hW:=HR.o.1 hL;subst hW;have u0:U 0=.agg #[.int .u8 (vv.what.toNat:Int),vv.text,(vv.tag:Int),.slice none 0 0]:=cN;rw[if_pos cx];refine wp_store_mid 44 _ _ rfl (w.heap.size+4) 0 ([.int .u8 (vv.what.toNat:Int),vv.text,(vv.tag:Int),.slice none 0 0]:List Value).toArray rfl u0 HT.o aL bh ?_;exact mE
  ·exact ip
 rintro L U W hL hφ hR;have hW:=hR.2 (hL 2 aJ);have u3:U 3=.bool false:=hφ 3 aJ;simp only[u3];clear hR hL hφ u3;subst hW;go_wp2_with fail;refine aF (v:=.tuple #[.agg ([.int .u8 (vv.what.toNat:Int),vv.text,(vv.tag:Int),.slice none 0 0]:List Value).toArray,.bool false]) ?_ rfl ?_
 ·exact Am results31 _ _ (w.heap.size+4) [.int .u8 (vv.what.toNat:Int),vv.text,(vv.tag:Int),.slice none 0 0] _ _ rfl rfl (aa _ _ _ _ HT.o) underlying44 rfl aL
 refine⟨.slice none 0 0,rfl,by rw[Hk.o];exact Qho _ _ _ _,?_⟩;exact Ai _ aH _ _ _ HL.o.bel.drew
theorem Vq.single{base B:Nat}{W:World}{h0 h1 h2:Value}(h:Vq base B W h0 h1 h2 (.slice none 0 0) (.slice none 0 0) []){y:Vl}{sl:Value}(hs:Eh (fun c=>base<=c) W sl y.kids):
  Vq base B (W.alloc (.cells (Kt (y,sl)).toArray 44)) h0 h1 h2 (.slice none 0 0) (.slice (W,0) 1 1) [(y,sl)]:=by
 have hb:=(Ap W.heap.size W).alloc (An _) (.cells (Kt (y,sl)).toArray 44);have h2:=h.after hb;refine⟨h2.lt,h2.bs,h2.hB,h2.bk,h2.c0,h2.c1,h2.c2,h2.c3,⟨rfl,.inr ⟨W.heap.size,1,(Kt (y,sl)).toArray,rfl,h.bs,heap_alloc_new _ _,An _,by unfold maxLen;omega,rfl,rfl⟩⟩,fun x hx=>?_⟩;simp at hx;subst hx;exact(hs.mono (Q:=fun c=>base<=c/\(Value.slice (W,0) 1 1).ownBlock≠some c) fun c hc hl=>⟨hc,by simp[Value.ownBlock];omega⟩).after hb
structure Xn(w W7 W1:World)(h0 h1 h2:Value)(r:Vl × Bool)(l19 l20 l22:Bool)(u19 u20:Value)(W:World):Prop where
 s0:l19=false->W=W1
 s1:l19=true->l20=false->∃sl,u19=Er r.1 sl/\Eh (fun c=>W1.heap.size<=c) W sl r.1.kids/\LiS w W7 W h0 h1 h2 r.2 (.slice none 0 0) []
 s2:l20=true->l22=false->∃W8 sl,W=W8.alloc (.cells (Kt (r.1,sl)).toArray 44)/\u20=.slice (some ⟨W8.heap.size,0,none⟩) 1 1/\Eh (fun c=>W1.heap.size<=c) W8 sl r.1.kids/\LiS w W7 W8 h0 h1 h2 r.2 (.slice none 0 0) []
 s3:l22=true->∃g sl,LiS w W7 W h0 h1 h2 r.2 (.slice (some ⟨g,0,none⟩) 1 1) [(r.1,sl)]
section
variable {w W7 W W' W1:World} {h0 h1 h2 u19 u20:Value} {l19 l20 l22:Bool} {r:Vl × Bool}
theorem Xn.start:Xn w W7 W1 h0 h1 h2 r false false false u19 u20 W1:=⟨fun _=>rfl,fun h=>Bool.noConfusion h,fun h=>Bool.noConfusion h,fun h=>Bool.noConfusion h⟩
theorem Xn.put19{sl:Value}(hl:LiS w W7 W1 h0 h1 h2 false (.slice none 0 0) [])(h20:l20=false)(h22:l22=false)(hs:Eh (fun c=>W1.heap.size<=c) W sl r.1.kids)(hg:W1.grownBy W (some (w.heap.size+6)))(hc:W.cell? (w,6,0)=some (.bool (false || r.2)))(hf:W.frozen? (w,6,0)=false):
  Xn w W7 W1 h0 h1 h2 r true l20 l22 (Er r.1 sl) u20 W:=by
 subst h20 h22;exact⟨fun h=>Bool.noConfusion h,fun _ _=>⟨sl,rfl,hs,hl.one hg (by simpa using hc) hf⟩,fun h=>Bool.noConfusion h,fun h=>Bool.noConfusion h⟩
theorem Xn.put20(h:Xn w W7 W1 h0 h1 h2 r l19 l20 l22 u19 u20 W)(h19:l19=true)(h20:l20=false)(h22:l22=false):∃sl,u19=Er r.1 sl/\(∃A n c,sl=.slice A n c) /\
  Xn w W7 W1 h0 h1 h2 r l19 true l22 u19 (.slice (W,0) 1 1) (W.alloc (.cells (Kt (r.1,sl)).toArray 44)):=by
 obtain⟨sl,e,hs,hL⟩:=h.s1 h19 h20;subst h22;exact⟨sl,e,by obtain⟨A,c,e⟩:=hs.form;exact⟨A,_,c,e⟩,fun h=>absurd (h19.symm.trans h) aJ,fun _ h=>Bool.noConfusion h,fun _ _=>⟨W,sl,rfl,rfl,hs,hL⟩,fun h=>Bool.noConfusion h⟩
theorem Xn.put22(h:Xn w W7 W1 h0 h1 h2 r l19 l20 l22 u19 u20 W)(hb1:w.heap.size+7<=W1.heap.size)(h19:l19=true)(h20:l20=true)(h22:l22=false)(hW:W'=W.setCell ⟨w.heap.size+5,3,none⟩ u20):Xn w W7 W1 h0 h1 h2 r l19 l20 true u19 u20 W':=by
 subst hW;obtain⟨W8,sl,rfl,eu,hs,hL⟩:=h.s2 h20 h22;have hb8:=(Ap W8.heap.size W8).alloc (An _) (.cells (Kt (r.1,sl)).toArray 44);have hK:=(hL.st.single (hs.mono fun c hc _=>ad hb1 hc)).store;have hL2:=hL.after hb8;have hlt:w.heap.size+6<W8.heap.size:=hL.st.bs;have hg:=Ao (W8.alloc (.cells (Kt (r.1,sl)).toArray 44)) (w.heap.size+5) 3 u20;rw[<-eu]at hK;refine⟨fun h=>absurd (h19.symm.trans h) aJ,fun _ h=>absurd (h20.symm.trans h) aJ,fun _ h=>Bool.noConfusion h,fun _=>⟨W8.heap.size,sl,hL2.bel.setCell (p:=⟨w.heap.size+5,3,none⟩) (show w.heap.size<=w.heap.size+5 by omega) _,hL2.keep.setCell (p:=⟨w.heap.size+5,3,none⟩) (An (w.heap.size+5)) _,eu ▸ hK,hg.cell hL2.c6 aK,(hg.frozen_far ⟨w.heap.size+6,0,none⟩ aM aK).trans hL2.f6⟩⟩
end
end
end Go.Proofs.YtbdibdghphdcdaaGreatDoor
