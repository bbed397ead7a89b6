/- Texts joined. Conditions: as each theorem names them. -/
import Derived.Maps.AppendAt
import Derived.Test.YtkgkoicedddkmaaGreatDoorR14
set_option maxRecDepth 100000
set_option maxHeartbeats 32000000
set_option linter.unusedVariables false
set_option linter.unusedSimpArgs false
namespace Go.Proofs.YtkgkoicedddkmaaGreatDoor
open Go.RowKit Go.Proofs.Tryz
section
attribute [local go_sem] Qiz Qii Qib Qgw ByteArray.mk_append_mk
def Qh3(w:World)(p:Value)(xs:List PT):Prop:=
 ∃b mb,p=.pointer (some ⟨b,0,none⟩)/\b<w.heap.size/\w.cell? ⟨b,1,none⟩=some (.map (some mb))/\Pd w mb xs
theorem Q9.map{w:World}{p:Value}{xs:List PT}(h:Q9 w p xs):Qh3 w p xs:=by
 obtain⟨b,A,c,mb,e,h0,h1,h2,h3,h4,_⟩:=h;exact⟨b,mb,e,h0,h2,h4⟩
theorem Ey{w:World}{mb:Nat}{xs:List PT}(h:Pd w mb xs)(n:Cf)(hn:n.length<=9223372036854775807):
  (Instr.lookup 120 (.map (some mb)) n false).run prog w=.ok (Xh (Ef xs n)) w:=
 Dd.lookup h Tryz.keyStr underlying120 (Tryz.zeroPtr w) (Qc6 hn)
theorem H8{k:Kd}(h:Cw k):k.name.length<=3:=by
 rcases h.2.1 with⟨_,hn⟩|⟨_,hn⟩
 ·exact(Dk.1 hn).2.1
 rw[hn];simp
theorem Qbh(p:Value)(xs:List PT)(k:Kd)(w:World)(h:Qh3 w p xs)(hk:k.name.length<=100):
  Calls prog 74 #[p,D2 k] w fun e w'=>e=.returned (.bool (decide (Bx (Ae xs) k)))/\Below w w w':=by
 obtain⟨b,mb,rfl,hb,hm,hn⟩:=h;have Hn:=Aa hn;clear hn;unfold D2;generalize hd:(.cells #[k.signs,k.base,k.name] 62:Obj)=ob;have hl0:w.heap.size<(w.alloc ob).heap.size:=aL;have x1:(w.alloc ob).cell? (w,1)=k.base:=by rw[<-hd];simp
 have x2:(w.alloc ob).cell? (w,2)=k.name:=by rw[<-hd];simp
 have x3:(w.alloc ob).cell? (b,1)=some (.map (some mb)):=by rw[World.cell?_alloc_old _ _ _ (show b≠w.heap.size by omega)];exact hm
 have hlook:∀q,(Instr.lookup 120 (.map (some mb)) k.name false).run prog ((w.alloc ob).drewN q)=.ok (Xh (Ef xs k.name)) ((w.alloc ob).drewN q):=fun q=>Ey (Dd.below (Hn.o.alloc _) (below_drewN (Aq _ _) q)) k.name aH;have Hd:=Aa hd
 have Hr:=Aa (show decide (Bx (Ae xs) k)=(decide (k.base≠[64]) || (Ef xs k.name).isSome)by
  have e:Bx (Ae xs) k↔(k.base=[64]->(Ef xs k.name).isSome=true):=by unfold Bx;rw[Gf];simp
  by_cases h:k.base=[64]
  ·cases hf:Ef xs k.name with
   |none=>rw[aC (fun h2=>by have:=e.1 h2 h;rw[hf]at this;cases this)];simp[h]
   |some x=>rw[aD (e.2 (fun _=>by rw[hf];rfl))];simp
  rw[aD (e.2 (fun h2=>absurd h2 h))];simp[h])
 have Hb:=@Aa (Below w w (w.alloc ob)) ((Aq _ _).alloc (Ap _) _);go_enter func74,ntmps74;rcases Decidable.em (k.base=[64])with h64|h64
 ·have t1:(k.base != [64])=false:=eY;have H64:=Aa h64;clear h64 hd hl0;go_wp2_with fail;rw[Hd.o];cases hf:Ef xs k.name with
  |none=>
   rw[hf]at hlook;have Hf:=Aa hf;clear hf;unfold Xh at hlook;refine Bi [5,6,7,8,9,10,11,12,13,14,15,16,17,4] aO aO aO (fun u=>by dsimp only[Qbm,Bm,List.set,am,Nat.reduceAdd])
    (fun i v W=>match i with|0=>v=(w,1)|1=>v=k.base|2=>v=.bool false|3=>v=.bool false|4=>v=b|5=>v=b|6=>v=(b,1)|7=>v=.map (some mb)|8=>v=(w,2)|9=>v=k.name|10=>v=.pointer none|11=>v=.bool false|12=>v=.bool false|13=>v=.bool false|_=>True) (fun L U W=>∃q,W=(w.alloc ob).drewN q) (fun _ _=>True) (fun _ _ _ _ _ h=>h) ⟨1,rfl⟩ ?_ ?_
   ·exact im
   rintro L U W hL hφ ⟨q,rfl⟩;have e13:U 13=.bool false:=hφ 13 aK;simp only[e13];go_wp2_with fail;go_ret;exact⟨Ea (Cs (by rw[Hr.o,Hf.o];simp[H64.o])),below_drewN Hb.o _⟩
  |some x=>
   rw[hf]at hlook;have Hf:=Aa hf;clear hf;unfold Xh PT.ptr at hlook;refine Bi [5,6,7,8,9,10,11,12,13,14,15,16,17,4] aO aO aO (fun u=>by dsimp only[Qbm,Bm,List.set,am,Nat.reduceAdd])
    (fun i v W=>match i with|0=>v=(w,1)|1=>v=k.base|2=>v=.bool false|3=>v=.bool false|4=>v=b|5=>v=b|6=>v=(b,1)|7=>v=.map (some mb)|8=>v=(w,2)|9=>v=k.name|10=>v=x.blk|11=>v=.bool true|12=>v=.bool true|13=>v=.bool true|_=>True) (fun L U W=>∃q,W=(w.alloc ob).drewN q) (fun _ _=>True) (fun _ _ _ _ _ h=>h) ⟨1,rfl⟩ ?_ ?_
   ·exact im
   rintro L U W hL hφ ⟨q,rfl⟩;have e13:U 13=.bool true:=hφ 13 aK;simp only[e13];go_wp2_with fail;go_ret;exact⟨Ea (Cs (by rw[Hr.o,Hf.o];simp)),below_drewN Hb.o _⟩
 have t1:(k.base != [64])=true:=eY;have H64:=Aa h64;clear h64 hd hl0;go_wp2_with fail;rw[Hd.o];refine Bi [5,6,7,8,9,10,11,12,13,14,15,16,17,4] aO aO aO (fun u=>by dsimp only[Qbm,Bm,List.set,am,Nat.reduceAdd])
  (fun i v W=>match i with|0=>v=(w,1)|1=>v=k.base|2=>v=.bool true|3=>v=.bool true|12=>v=.bool true|13=>v=.bool true|_=>True) (fun L U W=>∃q,W=(w.alloc ob).drewN q) (fun _ _=>True) (fun _ _ _ _ _ h=>h) ⟨1,rfl⟩ ?_ ?_
 ·exact im
 rintro L U W hL hφ ⟨q,rfl⟩;have e13:U 13=.bool true:=hφ 13 aK;simp only[e13];go_wp2_with fail;go_ret;exact⟨Ea (Cs (by rw[Hr.o];simp[H64.o])),below_drewN Hb.o _⟩
theorem Rx{S:List Ty}{n:Nat}{t:Ty}(h:Ff S t=none):Bv S (n+1) t=true:=by rw[Bv,h]
theorem Qho{S:List Ty}{n:Nat}{t u:Ty}(h:Ff S t=some u):Bv S (n+1) t=Bv S n u:=by rw[Bv,h]
theorem Qd5{S:List Ty}{t:Ty}(h:t.sort≠85):Ff S t=none:=if_neg h
theorem Qee{S:List Ty}{t:Ty}{f:Fd}{fs:List Fd}(h:t.sort=85)(hf:t.fields=f::fs):Ff S t=if f.kind.signs=[]/\f.kind.base=[64]then Bp S f.kind.name else none:=by
 unfold Ff;rw[if_pos h,hf]
theorem Z7{t:Ty}(h:Ep t)(hs:t.sort=85):∃f fs,t.fields=f::fs/\Cw f.kind:=by
 obtain⟨_,_,h3,_,h5⟩:=h;cases hf:t.fields with
 |nil=>have:=h5 hf;rw[hs]at this;exact absurd this aK
 |cons f fs=>exact⟨f,fs,rfl,((h3.1 f en).2.2.2.2 eD).1⟩
theorem Qdv(p:Value)(xs:List PT)(x:PT)(w:World)(h:Qh3 w p xs)(hT:∀y∈xs,Px w y)(hok:∀y∈xs,Ep y.ty)(hS:Fw (Ae xs))(hx:x∈xs):
  Calls prog 99 #[p,x.ptr] w fun e w'=>e=.returned (.bool (Bv (Ae xs) 9 x.ty))/\Below w w w':=by
 have Hmap:=Aa h;obtain⟨b,mb,rfl,hb,hm,hn⟩:=h;have HT:=Aa hT;have Hok:=Aa hok;have HS:=Aa hS;have Hx:=Aa hx;have Hn:=Aa hn;have Hm:=Aa hm;clear hT hok hS hx hn hm;unfold PT.ptr;go_enter func99,ntmps99;go_wp2_with fail;go_loopw [1,6] (fun t i wr=>∃(n:Nat) (y:PT),i=.int .i64 n/\n<=9/\t=y.blk/\Hid (y∈xs)/\Hid (Bv (Ae xs) 9 x.ty=Bv (Ae xs) (9 - n) y.ty)/\Hid (Below w w wr)) (fun _ i _=>9 - (intOf i).toNat)
 case atStart=>exact⟨0,x,rfl,by omega,rfl,Hx.o,rfl,Aq _ _⟩
 case round=>
  obtain⟨n,y,rfl,hn9,rfl,hy,he,hbr⟩:=hrel;have n1:(0:Int)<=(n:Int):=aH;obtain⟨hyb,_,y0,y1,y2,y3,A,cA,hyf,hl8,hrow⟩:=(HT.o y hy.o).below hbr.o;have Hrow:=Aa hrow;have hzw:=hbr.o.size;rw[hyf]at y2;clear hrow hyf y1 y3;by_cases hlt:n<9
  ·have n2:(n:Int)<9:=aH;have he2:=Aa (show Bv (Ae xs) 9 x.ty=Bv (Ae xs) (8 - n+1) y.ty by rw[he.o,show 9 - n=8 - n+1 by omega]);by_cases h85:y.ty.sort=85
   ·have t1:((y.ty.sort.toNat:Int) != 85)=false:=Mh (d:=85) h85;obtain⟨f,fs,hf,hkd⟩:=Z7 (Hok.o y hy.o) h85;have Hnext:=Aa (Qee (S:=Ae xs) h85 hf);have hpos:0<y.ty.fields.length:=en;obtain⟨bA,oA,rfl,hbA,hrg⟩:=Pv.range Hrow.o hpos;have hf0:y.ty.fields[0]=f:=by simp[hf]
    rw[hf0,Nat.zero_mul,Nat.add_zero]at hrg;have Hrg:=@Aa (wr.rangeAt bA (oA+2) [f.kind.signs,f.kind.base,f.kind.name]) (Yw [(f.tag:Int),f.name] _ [f.given] hrg);have hp1:(0:Int)<(y.ty.fields.length:Int):=aH;have Href:=Aa (HS.o y.ty (ap (f:=(·.ty)) hy.o) ee f en);have Hkd:=Aa hkd;have hnl:=H8 hkd;clear h85 hf hf0 hrg hkd;have hbb:=Aa ((Hm.o));by_cases hsg:f.kind.signs=[]
    ·have s1:(f.kind.signs != [])=false:=cL;have s2:f.kind.signs.isEmpty=true:=cL;have s4:(!f.kind.signs.isEmpty)=false:=cL;by_cases h64:f.kind.base=[64]
     ·have s3:(f.kind.base == [64])=true:=eY;have s5:(f.kind.base != [64])=false:=eY;have hsome:=Href.o h64;rw[Gf]at hsome;cases hz:Ef xs f.kind.name with
      |none=>rw[hz]at hsome;cases hsome
      |some z=>
       have Hz:=Aa (show Bv (Ae xs) 9 x.ty=Bv (Ae xs) (8 - n) z.ty from by
        rw[he2.o];exact Qho (by rw[Hnext.o,if_pos ⟨hsg,h64⟩,Gf,hz];rfl))
       have Hzm:=Aa (Fc hz).1;generalize hd:(.cells #[f.kind.signs,f.kind.base,f.kind.name] 62:Obj)=ob;have x2:(wr.alloc ob).cell? (wr,2)=f.kind.name:=by rw[<-hd];simp
       have x3:(wr.alloc ob).cell? (b,1)=some (.map (some mb)):=by
        rw[World.cell?_alloc_old _ _ _ (show b≠wr.heap.size by omega)];exact(hbr.o.cell (p:=⟨b,1,none⟩) hb).trans Hm.o
       have hlook:∀q,(Instr.lookup 120 (.map (some mb)) f.kind.name false).run prog ((wr.alloc ob).drewN q)=.ok z.blk ((wr.alloc ob).drewN q):=fun q=>by
        have:=Ey (Dd.below (Dd.alloc (Dd.below Hn.o hbr.o) ob) (below_drewN (Aq _ _) q)) f.kind.name aH;rw[hz]at this;exact this
       have Hbb:=@Aa (Below w w (wr.alloc ob)) (hbr.o.alloc hzw _);have Hd:=Aa hd;clear hd hsg h64 hz hsome;go_wp2_with ((with_reducible refine wpList_load_mid (op:=⟨_,.load 62 _,_,_,_,none⟩) rfl 62 _ rfl bA (oA+2) ?_ _ _ Hrg.o underlying62 ?_ ?_ ?_);rfl;rfl;kernel_rfl)
       rw[Hd.o];refine Bi [28,29,30,31,32,33,34,1] aO aO aO (fun u=>by dsimp only[Qbm,Bm,List.set,am,Nat.reduceAdd])
        (fun i v W=>match i with|0=>v=b|1=>v=b|2=>v=(b,1)|3=>v=.map (some mb)|4=>v=(wr,2)|5=>v=f.kind.name|6=>v=z.blk|7=>v=z.blk|_=>True) (fun L U W=>∃q,W=(wr.alloc ob).drewN q) (fun _ _=>True) (fun _ _ _ _ _ h=>h) ⟨1,rfl⟩ ?_ ?_
       ·repeat (first|exact Ah.nil|(refine Ah.cons ?_ ?_;rotate_left))
        all_goals
         rintro L U W hL hpre ⟨q,rfl⟩ hun hdep K hK;have hlq:=hlook q;clear hun hdep;first|(simp[Region.binds]at hpre;done)|simp[Region.binds]at hpre|clear hpre
         go_simp;first|exact hK _ _ _ rfl Ac ⟨q,rfl⟩ rfl|exact hK _ _ _ rfl Ac ⟨q,rfl⟩ aI
       rintro L U W hL hφ ⟨q,rfl⟩;have e7:U 7=z.blk:=hφ 7 aK;simp only[e7];clear hφ hL hlook x2 x3;go_wp2_with fail;go_roundw
       case rel=>exact⟨n+1,z,by go_num,by omega,rfl,Hzm.o,by show _=Bv (Ae xs) (9 - (n+1)) z.ty;rw[Hz.o,show 9 - (n+1)=8 - n by omega],below_drewN Hbb.o _⟩
       case measure=>simp[intOf];omega
     have s3:(f.kind.base == [64])=false:=eY;have s5:(f.kind.base != [64])=true:=eY;have Hend:=Aa (he2.o.trans (Rx (by rw[Hnext.o,if_neg (fun h=>h64 h.2)])));clear hsg h64;go_wp2_with ((with_reducible refine wpList_load_mid (op:=⟨_,.load 62 _,_,_,_,none⟩) rfl 62 _ rfl bA (oA+2) ?_ _ _ Hrg.o underlying62 ?_ ?_ ?_);rfl;rfl;kernel_rfl)
     go_ret;exact⟨Ea (Cs Hend.o.symm),hbr.o.alloc hzw _⟩
    have s1:(f.kind.signs != [])=true:=cL;have s2:f.kind.signs.isEmpty=false:=cL;have s4:(!f.kind.signs.isEmpty)=true:=cL;have Hend:=Aa (he2.o.trans (Rx (by rw[Hnext.o,if_neg (fun h=>hsg h.1)])));clear hsg;go_wp2_with ((with_reducible refine wpList_load_mid (op:=⟨_,.load 62 _,_,_,_,none⟩) rfl 62 _ rfl bA (oA+2) ?_ _ _ Hrg.o underlying62 ?_ ?_ ?_);rfl;rfl;kernel_rfl)
    go_ret;exact⟨Ea (Cs Hend.o.symm),hbr.o.alloc hzw _⟩
   have t1:((y.ty.sort.toNat:Int) != 85)=true:=Pe (d:=85) h85;have Hend:=Aa (he2.o.trans (Rx (Qd5 h85)));clear h85;go_wp2_with fail;go_ret;exact⟨Ea (Cs Hend.o.symm),hbr.o⟩
  ·obtain rfl:n=9:=aH;have Hend:=@Aa (Bv (Ae xs) 9 x.ty=false) he.o;go_wp2_with fail;go_ret;exact⟨Ea (Cs Hend.o.symm),hbr.o⟩
theorem Px.kept{w w':World}{x:PT}{row:Option Nat}(h:Px w x)(hg:w.grownBy w' row)(h1:row≠some x.blk)(h2:∀k,0<x.ty.fields.length->x.fv.ownBlock=some k->row≠some k):Px w' x:=by
 obtain⟨h0,hk,a0,a1,a2,a3,A,c,e,hl,hr⟩:=h;have hne:some x.blk≠row:=fun e=>h1 e.symm;refine⟨ac h0 hg.size,hk.grown h0 hg hne,hg.cell a0 hne,hg.cell a1 hne,hg.cell a2 hne,hg.cell a3 hne,A,c,e,hl,hr.1,hr.2.1,fun hn=>?_⟩;obtain⟨b,off,eA,hb,hc⟩:=hr.2.2 hn;have hne2:some b≠row:=fun e2=>h2 b aH (by rw[e,eA];rfl) e2.symm;exact⟨b,off,eA,ac hb hg.size,fun j u hu=>hg.cell (hc j u hu) hne2⟩
theorem Px.fvlt{w:World}{x:PT}(h:Px w x){k:Nat}(hn:0<x.ty.fields.length)(hk:x.fv.ownBlock=some k):k<w.heap.size:=by
 obtain⟨_,_,_,_,_,_,A,c,e,_,hr⟩:=h;obtain⟨b,off,eA,hb,_⟩:=hr.2.2 aH;rw[e,eA]at hk;simp only[Value.ownBlock,aj]at hk;omega
def Qbo(lo:Nat)(x:PT):Prop:=lo<=x.blk/\∀k,0<x.ty.fields.length->x.fv.ownBlock=some k->lo<=k
def Qff(v:Value)(x:PT):Prop:=v.ownBlock≠some x.blk/\∀k,0<x.ty.fields.length->x.fv.ownBlock=some k->v.ownBlock≠some k
def Tw(w:World)(lo:Nat)(v:Value)(xs:List PT):Prop:=(∀x∈xs,Px w x/\Qbo lo x/\Qff v x)/\xs.Pairwise fun x y=>x.blk≠y.blk
theorem Tw.far{w w':World}{lo b:Nat}{v:Value}{xs:List PT}(h:Tw w lo v xs)(hg:w.grownBy w' (some b))(hb:b<lo):Tw w' lo v xs:=
 ⟨fun x hx=>by
  obtain⟨h1,h2,h3⟩:=h.1 x hx;refine⟨h1.kept hg (fun e=>?_) (fun k hn hk e=>?_),h2,h3⟩
  ·injection e with e;have:=h2.1;omega
  injection e with e;have:=h2.2 k hn hk;omega,h.2⟩
theorem Tw.below{w w':World}{lo:Nat}{v:Value}{xs:List PT}(h:Tw w lo v xs)(hb:Below w w w'):Tw w' lo v xs:=
 ⟨fun x hx=>⟨(h.1 x hx).1.below hb,(h.1 x hx).2⟩,h.2⟩
theorem Tw.push{wo w3 w5:World}{lo base n k1:Nat}{e:TypeId}{v v5:Value}{cs:List Value}{xs:List PT}{x:PT}(h:Tw wo lo v xs)(hb:Below wo wo w3)(hown:wo.ownsRow base e k1 v n cs)(hx:Px w3 x)(hxb:wo.heap.size<=x.blk)
  (hxf:∀k,x.fv.ownBlock=some k->wo.heap.size<=k) (hlo:lo<=wo.heap.size) (hg:w3.grownBy w5 v.ownBlock) (hwh:v5.ownBlock=v.ownBlock\/∃k,v5.ownBlock=some k/\w3.heap.size<=k):Tw w5 lo v5 (xs++[x]):=by
 have hall:∀y∈xs++[x],Px w3 y/\Qbo lo y/\Qff v y:=by
  intro y hy;rcases af.1 hy with hy|hy
  ·obtain⟨h1,h2⟩:=h.1 y hy;exact⟨h1.below hb,h2⟩
  simp at hy;subst hy;refine⟨hx,⟨by omega,fun k _ hk=>by have:=hxf k hk;omega⟩,fun e=>?_,fun k _ hk e=>?_⟩
  ·have:=(hown.lt _ e).2;omega
  have:=(hown.lt _ e).2;have:=hxf k hk;omega
 refine⟨fun y hy=>?_,?_⟩
 ·obtain⟨h1,h2,h3⟩:=hall y hy;refine⟨h1.kept hg h3.1 h3.2,h2,?_⟩;rcases hwh with hwh|⟨k,hwh,hk⟩
  ·unfold Qff;rw[hwh];exact h3
  refine⟨fun e=>?_,fun k2 hn hk2 e=>?_⟩
  ·rw[hwh]at e;injection e with e;have:=h1.1;omega
  rw[hwh]at e;injection e with e;have:=h1.fvlt hn hk2;omega
 rw[List.pairwise_append];refine⟨h.2,by simp,fun y hy z hz=>?_⟩;simp at hz;subst hz;have:=(h.1 y hy).1.1;omega
def Qt(lo:Nat)(w:World)(p:Value)(xs:List PT):Prop:=
 ∃b A c mb,p=.pointer (some ⟨b,0,none⟩)/\b<w.heap.size/\w.cell? ⟨b,0,none⟩=some (.slice A xs.length c)/\w.cell? ⟨b,1,none⟩=some (.map (some mb))/\B9 w A xs.length (xs.map (·.ptr))/\Pd w mb xs/\(∀x∈xs,Px w x)/\(xs.Pairwise fun x y=>x.blk≠y.blk) /\
  lo<=b/\lo<=mb/\(∀g o,0<xs.length->A=some ⟨g,o,none⟩->lo<=g)/\∀x∈xs,Qbo lo x
theorem Qt.isc{lo:Nat}{w:World}{p:Value}{xs:List PT}(h:Qt lo w p xs):Q9 w p xs:=by
 obtain⟨b,A,c,mb,h0,h1,h2,h3,h4,h5,h6,h7,_⟩:=h;exact⟨b,A,c,mb,h0,h1,h2,h3,h4,h5,h6,h7⟩
theorem Qt.below{lo:Nat}{w w':World}{p:Value}{xs:List PT}(h:Qt lo w p xs)(hb:Below w w w'):Qt lo w' p xs:=by
 obtain⟨b,A,c,mb,e,h0,h1,h2,h3,h4,h5,h6,h7⟩:=h;obtain⟨hc,_,hz⟩:=By hb;exact⟨b,A,c,mb,e,hz _ h0,(hc _ _ h0).trans h1,(hc _ _ h0).trans h2,h3.below hb,Dd.below h4 hb,fun x hx=>(h5 x hx).below hb,h6,h7⟩
theorem Qt.far{lo b0:Nat}{w w':World}{p:Value}{xs:List PT}(h:Qt lo w p xs)(hg:w.grownBy w' (some b0))(hb0:b0<lo):Qt lo w' p xs:=by
 obtain⟨b,A,c,mb,e,h0,h1,h2,h3,h4,h5,h6,l1,l2,l3,l4⟩:=h;have hne:some b≠some b0:=bV;refine⟨b,A,c,mb,e,ac h0 hg.size,hg.cell h1 hne,hg.cell h2 hne,⟨h3.1,h3.2.1,fun hn=>?_⟩,Dd.kept h4 hg bV,fun x hx=>(h5 x hx).kept hg (fun e=>?_) (fun k hn hk e=>?_),h6,l1,l2,l3,l4⟩
 ·obtain⟨g,o,eA,hgl,hc⟩:=h3.2.2 hn;have:=l3 g o hn eA;exact⟨g,o,eA,ac hgl hg.size,fun j u hu=>hg.cell (hc j u hu) (by intro e;injection e with e;simp at e;omega)⟩
 ·injection e with e;have:=(l4 x hx).1;omega
 injection e with e;have:=(l4 x hx).2 k hn hk;omega
def Gq(o:Option (List Ty))(w:World)(e:Ending)(w':World):Prop:=
 (match o with
  |some S=>∃p xs,Ae xs=S/\e=.returned (.tuple #[p,.bool true])/\Qt w.heap.size w' p xs
  |none=>∃p:Option Addr,e=.returned (.tuple #[.pointer p,.bool false]))/\Below w w w'
theorem Gq.no{w w':World}{e:Ending}{o:Option (List Ty)}(ho:o=none){p:Option Addr}(he:e=.returned (.tuple #[.pointer p,.bool false]))(hb:Below w w w'):Gq o w e w':=by
 rw[ho];exact⟨⟨p,he⟩,hb⟩
theorem Gq.yes{w w':World}{e:Ending}{o:Option (List Ty)}{p:Value}{xs:List PT}(ho:o=some (Ae xs))(he:e=.returned (.tuple #[p,.bool true]))(hs:Qt w.heap.size w' p xs)(hb:Below w w w'):Gq o w e w':=by
 rw[ho];exact⟨⟨p,xs,rfl,he,hs⟩,hb⟩
theorem Qaw{xs:List PT}{x:PT}(h:Ef xs x.ty.name=none)(l:Lit)(hl:WideAt.IsKeyLit l):(if l.sameKey (.string x.ty.name)=true then x.ptr else V0 xs l)=V0 (xs++[x]) l:=by
 by_cases e:l=.string x.ty.name
 ·subst e;rw[if_pos (WideAt.sameKey_self hl)];unfold Ef at h;show x.ptr=Xh ((xs++[x]).find? fun y=>decide (y.ty.name=x.ty.name));rw[List.find?_append,h];simp[Xh]
 rw[if_neg (fun hh=>e ((WideAt.sameKey_iff (show WideAt.IsKeyLit (.string x.ty.name)from Ac)).1 hh))];cases l with
 |string s=>
  have hne:¬x.ty.name=s:=fun h2=>e (by rw[h2]);unfold V0 Ef;simp only;rw[List.find?_append];simp[hne]
 |_=>rfl
theorem Vp{xs:List PT}{n:Cf}:Ef xs n=none↔(Ae xs).any (fun u=>decide (u.name=n))=false:=by
 unfold Ef Ae;rw[List.find?_eq_none,List.any_map];simp
theorem Tryz.infoPt:(prog.info? 118).map (fun i=>(i.zero,i.size,i.bytes))=some (some (.pointer none),1,8):=aO
theorem Y7(s:List UInt8)(w:World)(hs:s.length<=4000000)(h:400<s.length):
  Calls prog 72 #[s] w (Gq (Cl s) w):=by
 have HF:=@Aa (Cl s=none) (if_pos h);have t1:(400:Int)<(s.length:Int):=aH;go_enter func72,ntmps72;go_wp2_with fail;go_ret2;exact Gq.no HF.o rfl (Aq _ _)
theorem Q9.tys{w:World}{p:Value}{xs:List PT}(h:Q9 w p xs):∀x∈xs,Px w x:=by
 obtain⟨_,_,_,_,_,_,_,_,_,_,h,_⟩:=h;exact h
theorem Qb2(s:List UInt8)(w:World)(hs:s.length<=400):
  Calls prog 72 #[s] w (Gq (Cl s) w):=by
 have HF:=@Aa (Cl s=(match Fe (s.length+1) s []with|none=>none|some S=>if Fw S/\(∀t∈S,Bv S 9 t=true)then some S else none)) (if_neg aH);have t1:¬(400:Int)<(s.length:Int):=aH;have hmm:=@run_makeMap prog;go_enter func72,ntmps72;go_wp2_with fail;clear hmm;have HM0:=@Aa (Dd prog 9 (.pointer none) ((w.alloc (.map #[] 0)).alloc (.cells #[.slice none 0 0,.map (some w.heap.size)] 122)) w 0 (V0 [])) (((Dd.made w prog 9 (.pointer none)).alloc _).of_eq (fun l hl=>by cases l<;>rfl))
 have HR0:=Aa (show ((w.alloc (.map #[] 0)).alloc (.cells #[.slice none 0 0,.map (some w.heap.size)] 122)).rangeAt (w.heap.size+1) 0 [.slice none 0 0,.map (some w.heap.size)]from by
  have:=Bw (w.alloc (.map #[] 0)) [.slice none 0 0,.map (some w.heap.size)] 122;simpa using this)
 have HK0:=Aa (show ((w.alloc (.map #[] 0)).alloc (.cells #[.slice none 0 0,.map (some w.heap.size)] 122)).there (w.heap.size+1) 0 2 from by
  have:=Cc (w.alloc (.map #[] 0)) [.slice none 0 0,.map (some w.heap.size)] 122;simpa using this)
 have HB0:=@Aa (Below w w ((w.alloc (.map #[] 0)).alloc (.cells #[.slice none 0 0,.map (some w.heap.size)] 122))) (((Aq _ _).alloc (Ap _) _).alloc aL _);have HO0:=Aa (World.ownsRow_nil ((w.alloc (.map #[] 0)).alloc (.cells #[.slice none 0 0,.map (some w.heap.size)] 122)) (w.heap.size+2) 118 1)
 go_loopw [0] (fun l wr=>∃(u:List UInt8) (fuel:Nat) (xs:List PT) (tv:Value),l=u/\u.length<=s.length/\u.length<fuel/\Hid (Fe (s.length+1) s []=Fe fuel u (Ae xs))/\xs.length<=8 /\
   Hid (wr.rangeAt (w.heap.size+1) 0 [tv,.map (some w.heap.size)])/\Hid (wr.there (w.heap.size+1) 0 2)/\Hid (wr.ownsRow (w.heap.size+2) 118 1 tv xs.length (xs.map (·.ptr))) /\
   Hid (Pd wr w.heap.size xs)/\Hid (Tw wr (w.heap.size+2) tv xs)/\Hid (Below w w wr)/\w.heap.size+2<=wr.heap.size) (fun l _=>Qr l)
 case atStart=>exact⟨s,s.length+1,[],.slice none 0 0,rfl,Ap _,by omega,rfl,by simp,HR0.o,HK0.o,HO0.o,HM0.o,⟨by simp,List.Pairwise.nil⟩,HB0.o,by simp⟩
 case round=>
  clear HM0 HR0 HK0 HB0 HO0;obtain⟨wo,rfl⟩:∃wo:World,wo=wr:=⟨_,rfl⟩
  obtain⟨u,fuel,xs,tv,rfl,hul,hfu,hlin,hx8,hT,hK,hown,hnm,hty,hbr,hzr⟩:=hrel;obtain⟨A,cA,rfl,hrow⟩:=B9.own hown.o;have Hrow:=Aa hrow;have s0:wo.cell? (w,1,0)=some (.slice A xs.length cA):=by simpa using Ab hT.o 0 rfl
  have s1:wo.cell? (w,1,1)=some (.map (some w.heap.size)):=by simpa using Ab hT.o 1 rfl
  obtain⟨fuel,rfl⟩:∃f,fuel=f+1:=⟨fuel - 1,by omega⟩
  clear hrow;by_cases hu:u=[]
  ·subst hu;have Hlin:=Aa (show Fe (s.length+1) s []=some (Ae xs)by rw[hlin.o];simp[Fe]);have hgood:=Qiy.1 Hlin.o;have Htok:=@Aa (∀x∈xs,Ep x.ty) (fun x hx=>hgood.1.1 x.ty (ap (f:=(·.ty)) hx));have HF2:=@Aa (Cl s=if Fw (Ae xs)/\(∀t∈Ae xs,Bv (Ae xs) 9 t=true)then some (Ae xs)else none) (by rw[HF.o,Hlin.o]);have HSC:=@Aa (Q9 wo (w,1,0) xs) ⟨w.heap.size+1,A,cA,w.heap.size,rfl,by omega,s0,s1,by have:=Hrow.o;simpa using this,hnm.o,fun x hx=>(hty.o.1 x hx).1,hty.o.2⟩;have Hrow2:=@Aa (B9 wo A xs.length (xs.map (·.ptr))) Hrow.o
   have HSL:=Aa (show Qt w.heap.size wo (w,1,0) xs from⟨w.heap.size+1,A,cA,w.heap.size,rfl,by omega,s0,s1,Hrow2.o,hnm.o,fun x hx=>(hty.o.1 x hx).1,hty.o.2,by omega,Ap _,fun g o _ eA=>by
    have:=(hown.o.lt g (by rw[eA];rfl)).1;omega,fun x hx=>⟨by have:=(hty.o.1 x hx).2.1.1;omega,fun k hn hk=>by have:=(hty.o.1 x hx).2.1.2 k hn hk;omega⟩⟩)
   clear hgood hlin hT hK hown hnm hty Hrow HF Hlin;have S0:=Aa s0;go_wp2_with fail;clear s0 s1;go_loopw [84] (fun i wr=>∃k:Nat,i=.int .i64 k/\k<=xs.length/\Hid (∀x∈xs.take k,x.ty.sort≠69->∀f∈x.ty.fields,Bx (Ae xs) f.kind)/\Hid (Below wo wo wr)) (fun i _=>xs.length - (intOf i).toNat)
   case atStart=>exact⟨0,rfl,ag _,by intro x hx;simp at hx,Aq _ _⟩
   case round=>
    obtain⟨wp,rfl⟩:∃wp:World,wp=wr:=⟨_,rfl⟩
    obtain⟨k,rfl,hk,hin,hbp⟩:=hrel;have k1:(0:Int)<=(k:Int):=aH;have hzp:=hbp.o.size;by_cases hkl:k<xs.length
    ·have k2:(k:Int)<(xs.length:Int):=aH;obtain⟨bA,oA,rfl,hbA,cl⟩:=(Hrow2.o.below hbp.o).at_ hkl;rw[List.getElem_map]at cl;have Hts:=Aa (Ch xs k hkl);have Hmem:=Aa (ae hkl);generalize xs[k]=x at cl Hts Hmem;unfold PT.ptr at cl;have Hxt:=Aa (Htok.o x Hmem.o);obtain⟨hyb,_,y0,y1,y2,y3,A7,c7,hyf,hl8,hrow7⟩:=(HSC.o.tys x Hmem.o).below hbp.o;rw[hyf]at y2;have Hrow7:=Aa hrow7;clear hrow7 hyf y1 y3;go_wp2_with fail;go_loopw [93] (fun i wr=>∃j:Nat,i=.int .i64 j/\j<=x.ty.fields.length/\Hid (x.ty.sort≠69->∀f∈x.ty.fields.take j,Bx (Ae xs) f.kind)/\Hid (Below wp wp wr)) (fun i _=>x.ty.fields.length - (intOf i).toNat)
     case atStart=>exact⟨0,rfl,ag _,by intro _ f hf;simp at hf,Aq _ _⟩
     case round=>
      obtain⟨j,rfl,hj,hin2,hbq⟩:=hrel;have j1:(0:Int)<=(j:Int):=aH;have hzq:=hbq.o.size;have x0:=(hbq.o.cell (p:=⟨x.blk,0,none⟩) hyb).trans y0;have hxw:x.blk<wr.heap.size:=aH;have hxn:¬(x.blk=wr.heap.size):=aH;have Hbw:=@Aa (Below w w wr) ((hbr.o.trans (hbp.o.mono aH)).trans (hbq.o.mono aH));have Hbo2:=@Aa (Below wo wo wr) (hbp.o.trans (hbq.o.mono hzp));by_cases hjl:j<x.ty.fields.length
      ·have j2:(j:Int)<(x.ty.fields.length:Int):=aH;obtain⟨b8,o8,rfl,hb8,hrg⟩:=Pv.range (Hrow7.o.below hbq.o) hjl;have Hts2:=Aa (Ch x.ty.fields j hjl);have Hfm:=Aa (ae hjl);have Hrg:=@Aa (wr.rangeAt b8 (o8+j*6) [.int .i64 (x.ty.fields[j].tag:Int),.string ⟨x.ty.fields[j].name.toArray⟩,.string ⟨x.ty.fields[j].kind.signs.toArray⟩,.string ⟨x.ty.fields[j].kind.base.toArray⟩,.string ⟨x.ty.fields[j].kind.name.toArray⟩,.string ⟨x.ty.fields[j].given.toArray⟩]) hrg;clear hrg;generalize x.ty.fields[j]=f at Hts2 Hfm Hrg;by_cases h69:x.ty.sort=69
       ·have t69:((x.ty.sort.toNat:Int) != 69)=false:=Mh (d:=69) h69;have Hin2:=@Aa (x.ty.sort≠69->∀f∈x.ty.fields.take (j+1),Bx (Ae xs) f.kind) (fun h=>absurd h69 h);clear h69;go_wp2_with ((with_reducible refine wpList_load_mid (op:=⟨_,.load 124 _,_,_,_,none⟩) rfl 124 _ rfl b8 (o8+j*6) ?_ _ _ Hrg.o underlying124 ?_ ?_ ?_);rfl;rfl;kernel_rfl)
        go_roundw
        case rel=>exact⟨j+1,by go_num,by omega,Hin2.o,hbq.o.alloc hzq _⟩
        case measure=>simp[intOf];omega
       have t69:((x.ty.sort.toNat:Int) != 69)=true:=Pe (d:=69) h69;have Hkd:=Aa ((Hxt.o.2.2.1.1 f Hfm.o).2.2.2.2 h69).1;have Hhas:=Aa (fun W (h:Below wo wo W)=>Qbh _ xs f.kind W (HSC.o.below h).map (ad (H8 Hkd.o) aK));unfold D2 at Hhas;by_cases hrf:Bx (Ae xs) f.kind
       ·have Hin2:=Aa (show x.ty.sort≠69->∀f∈x.ty.fields.take (j+1),Bx (Ae xs) f.kind from fun h g hg=>by
         rw[Hts2.o]at hg;rcases af.1 hg with hg|hg
         ·exact hin2.o h g hg
         simp at hg;subst hg;exact hrf)
        rw[aD hrf]at Hhas;clear h69 hrf;go_wp2_with ((with_reducible refine wpList_load_mid (op:=⟨_,.load 124 _,_,_,_,none⟩) rfl 124 _ rfl b8 (o8+j*6) ?_ _ _ Hrg.o underlying124 ?_ ?_ ?_);rfl;rfl;kernel_rfl)
        refine(Hhas.o _ (Hbo2.o.alloc aH _)).mono ?_;rintro e w9 ⟨rfl,hb9⟩;have Hb9:=@Aa (Below wp wp w9) ((hbq.o.alloc hzq _).trans (hb9.mono aM));clear hb9;go_wp2_with fail;go_roundw
        case rel=>exact⟨j+1,by go_num,by omega,Hin2.o,Hb9.o⟩
        case measure=>simp[intOf];omega
       have Hend:=Aa (show Cl s=none by
        rw[HF2.o,if_neg];rintro⟨h,_⟩;exact hrf (h x.ty (ap (f:=(·.ty)) Hmem.o) h69 f Hfm.o))
       rw[aC hrf]at Hhas;clear h69 hrf;go_wp2_with ((with_reducible refine wpList_load_mid (op:=⟨_,.load 124 _,_,_,_,none⟩) rfl 124 _ rfl b8 (o8+j*6) ?_ _ _ Hrg.o underlying124 ?_ ?_ ?_);rfl;rfl;kernel_rfl)
       refine(Hhas.o _ (Hbo2.o.alloc aH _)).mono ?_;rintro e w9 ⟨rfl,hb9⟩;have Hb9:=@Aa (Below w w w9) ((Hbw.o.alloc Hbw.o.size _).trans (hb9.mono aM));clear hb9;go_wp2_with fail;go_ret2;exact Gq.no Hend.o rfl Hb9.o
      ·have j2:¬(j:Int)<(x.ty.fields.length:Int):=aH
       have Hin3:=Aa (show ∀y∈xs.take (k+1),y.ty.sort≠69->∀f∈y.ty.fields,Bx (Ae xs) f.kind from fun y hy=>by
        rw[Hts.o]at hy;rcases af.1 hy with hy|hy
        ·exact hin.o y hy
        simp at hy;subst hy;intro h f hf;exact hin2.o h f dN)
       go_wp2_with fail;go_roundw
       case rel=>exact⟨k+1,by go_num,by omega,Hin3.o,Hbo2.o⟩
       case measure=>simp[intOf];omega
    ·have k2:¬(k:Int)<(xs.length:Int):=aH
     have Hkinds:=Aa (show Fw (Ae xs)from fun t ht h f hf=>by
      obtain⟨x,hx,rfl⟩:=ax.1 ht;exact hin.o x (by rw[au aH];exact hx) h f hf)
     have s9:=(hbp.o.cell (p:=⟨w.heap.size+1,0,none⟩) (show w.heap.size+1<wo.heap.size by omega)).trans S0.o;have HSP:=Aa (HSC.o.below hbp.o);have HrowP:=Aa (Hrow2.o.below hbp.o);have HbP:=@Aa (Below w w wp) (hbr.o.trans (hbp.o.mono aH));go_wp2_with fail;clear s9;go_loopw [116] (fun i wr=>∃m:Nat,i=.int .i64 m/\m<=xs.length/\Hid (∀x∈xs.take m,Bv (Ae xs) 9 x.ty=true)/\Hid (Below wp wp wr)) (fun i _=>xs.length - (intOf i).toNat)
     case atStart=>exact⟨0,rfl,ag _,by intro x hx;simp at hx,Aq _ _⟩
     case round=>
      obtain⟨m,rfl,hm,hin4,hbm⟩:=hrel;have m1:(0:Int)<=(m:Int):=aH;have HbM:=@Aa (Below w w wr) (HbP.o.trans (hbm.o.mono HbP.o.size));by_cases hml:m<xs.length
      ·have m2:(m:Int)<(xs.length:Int):=aH;obtain⟨bA,oA,rfl,hbA,cl⟩:=(HrowP.o.below hbm.o).at_ hml;rw[List.getElem_map]at cl;have Hts:=Aa (Ch xs m hml);have Hmem:=Aa (ae hml);generalize xs[m]=x at cl Hts Hmem;have Hends:=Aa (Qdv _ xs x wr (HSP.o.below hbm.o).map (HSP.o.below hbm.o).tys Htok.o Hkinds.o Hmem.o);unfold PT.ptr at cl Hends;cases hee:Bv (Ae xs) 9 x.ty with
       |true=>
        rw[hee]at Hends
        have Hin5:=Aa (show ∀y∈xs.take (m+1),Bv (Ae xs) 9 y.ty=true from fun y hy=>by
         rw[Hts.o]at hy;rcases af.1 hy with hy|hy
         ·exact hin4.o y hy
         simp at hy;subst hy;exact hee)
        clear hee;go_wp2_with fail;refine Hends.o.mono ?_;rintro e w9 ⟨rfl,hb9⟩;have Hb9:=Aa (hbm.o.trans (hb9.mono hbm.o.size));clear hb9;go_wp2_with fail;go_roundw
        case rel=>exact⟨m+1,by go_num,by omega,Hin5.o,Hb9.o⟩
        case measure=>simp[intOf];omega
       |false=>
        rw[hee]at Hends
        have Hend:=Aa (show Cl s=none by
         rw[HF2.o,if_neg];rintro⟨_,h⟩;have:=h x.ty (ap (f:=(·.ty)) Hmem.o);rw[hee]at this;cases this)
        clear hee;go_wp2_with fail;refine Hends.o.mono ?_;rintro e w9 ⟨rfl,hb9⟩;have Hb9:=Aa (HbM.o.trans (hb9.mono HbM.o.size));clear hb9;go_wp2_with fail;go_ret2;exact Gq.no Hend.o rfl Hb9.o
      ·have m2:¬(m:Int)<(xs.length:Int):=aH
       have Hfin:=Aa (show Cl s=some (Ae xs)by
        rw[HF2.o,if_pos];refine⟨Hkinds.o,fun t ht=>?_⟩;obtain⟨x,hx,rfl⟩:=ax.1 ht;exact hin4.o x (by rw[au aH];exact hx))
       go_wp2_with fail;go_ret2;exact Gq.yes Hfin.o rfl ((HSL.o.below hbp.o).below hbm.o) HbM.o
  ·have hu1:u.isEmpty=false:=dx;have hu2:(!u.isEmpty)=true:=dx;have hu3:(u == [])=false:=dx;have hu4:(u != [])=true:=dx
   have Hlin:=Aa (show Fe (s.length+1) s []=(if (Qde 10 u).2.2=false\/(Ae xs).length=8 then none else match Ee (Qde 10 u).1 with
    |none=>none
    |some t=>if (Ae xs).any (fun v=>decide (v.name=t.name))=true then none else Fe fuel (Qde 10 u).2.1 (Ae xs++[t]))by rw[hlin.o,Fe,if_neg hu];rfl)
   have Hcut:=Aa (fun W=>Re u 10 W aH);have hcl:=Kp 10 u;have hsh:(Qde 10 u).2.2=true->(Qde 10 u).2.1.length<u.length:=fun h=>by
    rcases Ev 10 u with⟨_,e⟩|⟨p,t,e1,_,e⟩
    ·rw[e]at h;cases h
    rw[e];show t.length<u.length;rw[e1];simp;omega
   have Hsh:=Aa hsh;generalize Qde 10 u=q at *;obtain⟨ln,rest,told⟩:=q;simp only at hcl Hlin Hsh;have hcl1:=hcl.1;have hcl2:=hcl.2;clear hcl hu hlin hsh;go_wp2_with fail;refine(Hcut.o _).mono ?_;rintro e w1 ⟨rfl,k1,rfl⟩;unfold Zz;cases told with
   |false=>
    have Hend:=Aa (show Cl s=none by rw[HF.o,Hlin.o];simp);go_wp2_with fail;go_ret2;exact Gq.no Hend.o rfl (below_drewN hbr.o _)
   |true=>
    have hrl:=Hsh.o aL;rcases Nat.eq_or_lt_of_le hx8 with h8|h8
    ·have q1:((xs.length:Int) == 8)=true:=by simp[h8]
     have Hend:=Aa (show Cl s=none by rw[HF.o,Hlin.o];simp[Ae,h8]);clear h8;go_wp2_with fail;go_ret2;exact Gq.no Hend.o rfl (below_drewN hbr.o _)
    have q1:((xs.length:Int) == 8)=false:=cb
    have Hlin2:=Aa (show Fe (s.length+1) s []=(match Ee ln with
     |none=>none
     |some t=>if (Ae xs).any (fun v=>decide (v.name=t.name))=true then none else Fe fuel rest (Ae xs++[t]))by rw[Hlin.o,if_neg (by simp[Ae];omega)])
    have Htype:=Aa (fun W=>Zc ln W aH);have Htok:=Aa (fun t (h:Ee ln=some t)=>(Ew.1 h).1);clear Hlin;generalize Ee ln=ot at Hlin2 Htype Htok;go_wp2_with fail;refine(Htype.o _).mono ?_;rintro e w2 ⟨hcase,hb2⟩;have hbo:Below wo wo w2:=(below_drewN (Aq _ _) k1).trans (by simpa using hb2);have Hbo:=Aa hbo;cases ot with
    |none=>
     obtain⟨pp,rfl⟩:=hcase;have Hend:=Aa (show Cl s=none by rw[HF.o,Hlin2.o]);go_wp2_with fail;refine Bi [45,46,47,48,49,50,51,52,53,54,55,56,57,58] aO aO aO (fun u=>by dsimp only[Qbm,Bm,List.set,am,Nat.reduceAdd])
      (fun i v W=>match i with|0=>v=.bool false|1=>v=.bool true|2=>v=.bool true|13=>v=.bool true|_=>True) (fun L U W=>∃q,W=(w2).drewN q) (fun _ _=>True) (fun _ _ _ _ _ h=>h) ⟨1,rfl⟩ ?_ ?_
     ·repeat (first|exact Ah.nil|(refine Ah.cons ?_ ?_;rotate_left))
      all_goals
       rintro L U W hL hpre ⟨q,rfl⟩ hun hdep K hK;clear hun hdep;first|(simp[Region.binds]at hpre;done)|simp[Region.binds]at hpre|clear hpre
       go_simp;first|exact hK _ _ _ rfl Ac ⟨q,rfl⟩ rfl|exact hK _ _ _ rfl Ac ⟨q,rfl⟩ aI|exact hK undef _ _ Ac Ac ⟨q,rfl⟩ aI|exact hK _ _ _ Ac Ac ⟨q,rfl⟩ rfl|exact hK _ _ _ Ac Ac ⟨q,rfl⟩ aI
     rintro L U W hL hφ ⟨q,rfl⟩;have e13:U 13=.bool true:=hφ 13 aK;simp only[e13];clear hφ hL;go_wp2_with fail;go_ret2;exact Gq.no Hend.o rfl (below_drewN (hbr.o.trans (Hbo.o.mono aH)) _)
    |some t=>
     obtain⟨x,hxt,rfl,hxb,hxty,hxf⟩:=hcase;subst hxt;have hxb2:wo.heap.size<=x.blk:=by simpa using hxb
     have hxz:x.blk<w2.heap.size:=hxty.1;have y1:w2.cell? (x.blk,1)=x.ty.name:=hxty.2.2.2.1;have u0:=(hbo.cell (p:=⟨w.heap.size+1,0,none⟩) (show w.heap.size+1<wo.heap.size by omega)).trans s0;have u1:=(hbo.cell (p:=⟨w.heap.size+1,1,none⟩) (show w.heap.size+1<wo.heap.size by omega)).trans s1;have Hnm2:=Aa (Dd.below hnm.o hbo);have Hxty:=Aa hxty;have Hxf:=Aa hxf;have Htk:=Aa (Htok.o x.ty rfl);have hnl:x.ty.name.length<=3:=(Dk.1 Htk.o.2.1).2.1;have hlook:∀q,(Instr.lookup 120 (.map (some w.heap.size)) x.ty.name false).run prog (w2.drewN q)=.ok (Xh (Ef xs x.ty.name)) (w2.drewN q):=fun q=>Ey (Dd.below Hnm2.o (below_drewN (Aq _ _) q)) x.ty.name aH;have hz2:wo.heap.size<=w2.heap.size:=hbo.size;clear hbo s0 s1 hxty hxf;unfold PT.ptr;cases hfp:Ef xs x.ty.name with
     |some z=>
      have Hend:=Aa (show Cl s=none by
       rw[HF.o,Hlin2.o];have:(Ae xs).any (fun v=>decide (v.name=x.ty.name))=true:=by
        cases hh:(Ae xs).any (fun v=>decide (v.name=x.ty.name))with
        |true=>rfl
        |false=>rw[Vp.2 hh]at hfp;cases hfp
       simp[this])
      rw[hfp]at hlook;unfold Xh PT.ptr at hlook;clear hfp;go_wp2_with fail;refine Bi [45,46,47,48,49,50,51,52,53,54,55,56,57,58] aO aO aO (fun u=>by dsimp only[Qbm,Bm,List.set,am,Nat.reduceAdd])
       (fun i v W=>match i with|0=>v=.bool true|1=>v=.bool false|2=>v=.bool false|3=>v=(w,1,0)|4=>v=(w,1,0)|5=>v=(w,1,1)|6=>v=.map (some w.heap.size)|7=>v=x.blk|8=>v=x.blk|9=>v=(x.blk,1)|10=>v=x.ty.name|11=>v=z.blk|12=>v=.bool true|13=>v=.bool true|_=>True) (fun L U W=>∃q,W=(w2).drewN q) (fun _ _=>True) (fun _ _ _ _ _ h=>h) ⟨1,rfl⟩ ?_ ?_
      ·exact iE
      rintro L U W hL hφ ⟨q,rfl⟩;have e13:U 13=.bool true:=hφ 13 aK;simp only[e13];clear hφ hL;go_wp2_with fail;go_ret2;exact Gq.no Hend.o rfl (below_drewN (hbr.o.trans (Hbo.o.mono aH)) _)
     |none=>
      have Hany:=Aa (Vp.1 hfp);have Hfp:=Aa hfp;rw[hfp]at hlook;unfold Xh at hlook;clear hfp
      have Hlin3:=Aa (show Fe (s.length+1) s []=Fe fuel rest (Ae (xs++[x]))by
       rw[Hlin2.o];show (if _ then _ else _)=_;rw[if_neg (by rw[Hany.o];decide)];simp[Ae])
      go_wp2_with fail;refine Bi [45,46,47,48,49,50,51,52,53,54,55,56,57,58] aO aO aO (fun u=>by dsimp only[Qbm,Bm,List.set,am,Nat.reduceAdd])
       (fun i v W=>match i with|0=>v=.bool true|1=>v=.bool false|2=>v=.bool false|3=>v=(w,1,0)|4=>v=(w,1,0)|5=>v=(w,1,1)|6=>v=.map (some w.heap.size)|7=>v=x.blk|8=>v=x.blk|9=>v=(x.blk,1)|10=>v=x.ty.name|11=>v=.pointer none|12=>v=.bool false|13=>v=.bool false|_=>True) (fun L U W=>∃q,W=(w2).drewN q) (fun _ _=>True) (fun _ _ _ _ _ h=>h) ⟨1,rfl⟩ ?_ ?_
      ·exact iE
      rintro L U W hL hφ ⟨q,rfl⟩;have e13:U 13=.bool false:=hφ 13 aK;simp only[e13];clear hφ hL;obtain⟨w3,hw3⟩:∃w3,w3=w2.drewN q:=⟨_,rfl⟩
      rw[<-hw3];have hb3:Below wo wo w3:=by rw[hw3];exact below_drewN Hbo.o _
      have hb23:Below w2 w2 w3:=by rw[hw3];exact below_drewN (Aq _ _) _
      have Hx3:=Aa (Hxty.o.below hb23);have hown3:=Cm hown.o hb3;have hT3:=Aj hT.o (show w.heap.size+1<wo.heap.size by omega) hb3;have hK3:=Al hK.o (show w.heap.size+1<wo.heap.size by omega) hb3;have hz3:wo.heap.size<=w3.heap.size:=hb3.size;have v0:w3.cell? (w,1,0)=some (.slice A xs.length cA):=by simpa using Ab hT3 0 rfl
      have Hb3:=Aa hb3;have Hown3:=Aa hown3;have HT3:=Aa hT3;have HK3:=Aa hK3;have Hnm3:=Aa (Dd.below Hnm2.o hb23);have Hb23:=Aa hb23;clear hlook hb3 hown3 hT3 hK3 hw3 hb23 u0 u1 y1;go_wp2_with (at_builtin;refine Gw _ rfl _ _ 119 rfl (w.heap.size+2) 118 (.pointer none) 8 underlying119 Tryz.infoPt rfl w3 x.blk rfl rfl (.slice A xs.length cA) xs.length (xs.map (·.ptr)) rfl rfl Hown3.o aZ aH aH ?_;intro v5 w5 hown5 hg5 hwh;have hb5:Below (w.heap.size+2) w3 w5:=(Aq _ _).grown hg5 aH (fun k hk=>(Hown3.o.lt k hk).1);have HT5:=Aa (Aj HT3.o (show w.heap.size+1<w.heap.size+2 by omega) hb5);have HK5:=Aa (Al HK3.o (show w.heap.size+1<w.heap.size+2 by omega) hb5);have Hnm5:=Aa (Dd.belowAt Hnm3.o (show w.heap.size<w.heap.size+2 by omega) hb5);have Hty5:=Aa (Tw.push hty.o Hb3.o hown.o Hx3.o hxb2 (fun k hk=>(by have:=Hxf.o k hk;simpa using this)) aH hg5 hwh);obtain⟨A5,n5,c5,e5⟩:=J6 hown5;subst e5;have Hown5:=Aa hown5;have Hb5:=Aa hb5;have p0:w5.cell? (w,1,0)=some (.slice A xs.length cA):=(by simpa using Ab HT5.o 0 rfl);have f0:w5.frozen? (w,1,0)=false:=(by simpa using(HK5.o 0 aK).2);have hz5:w3.heap.size<=w5.heap.size:=hg5.size;clear hown5 hg5 hwh hb5 v0)
      obtain⟨w6,hw6⟩:∃w6,w6=w5.setCell ⟨w.heap.size+1,0,none⟩ (.slice A5 n5 c5):=⟨_,rfl⟩
      rw[<-hw6];have hg6:w5.grownBy w6 (some (w.heap.size+1)):=by rw[hw6];exact Ps _ _ _
      have hT6:w6.rangeAt (w.heap.size+1) 0 [.slice A5 n5 c5,.map (some w.heap.size)]:=by rw[hw6];exact C7 [] [.slice A xs.length cA] [.map (some w.heap.size)] [.slice A5 n5 c5] HT5.o rfl
      have hK6:w6.there (w.heap.size+1) 0 2:=by rw[hw6];exact ai HK5.o (w.heap.size+1) 0 [.slice A5 n5 c5]
      have Hown6:=Aa (Hown5.o.kept hg6 (.inr (fun e=>by have:=(Hown5.o.lt _ e).1;omega)));have Hnm6:=Aa (Dd.kept Hnm5.o hg6 aL);have Hty6:=Aa (Hty5.o.far hg6 aH);have Hb6:=@Aa (Below w w w6) (((hbr.o.trans (Hb3.o.mono aH)).trans (Hb5.o.mono aH)).trans (by rw[hw6];exact(Aq _ _).setCell aL _));have hz6:w.heap.size+2<=w6.heap.size:=ad aH hg6.size;have m1:w6.cell? (w,1,1)=some (.map (some w.heap.size)):=by simpa using Ab hT6 1 rfl
      have n1:w6.cell? (x.blk,1)=x.ty.name:=(Hty6.o.1 x aL).1.2.2.2.1;have HT6:=Aa hT6;have HK6:=Aa hK6;clear hw6 hg6 hT6 hK6 p0 f0;refine Bi [69,70,71,72,73,74,75,76,77,999] aO aO aO (fun u=>by dsimp only[Qbm,Bm,List.set,am,Nat.reduceAdd])
       (fun i v W=>match i with|0=>v=(w,1,0)|1=>v=(w,1,0)|2=>v=(w,1,1)|3=>v=.map (some w.heap.size)|4=>v=x.blk|5=>v=x.blk|6=>v=(x.blk,1)|7=>v=x.ty.name|8=>v=x.blk|_=>True) (fun L U W=>∃q,(L 9=false->W=w6.drewN q)/\(L 9=true->(w6.drewN q).grownBy W (some w.heap.size)/\Pd W w.heap.size (xs++[x]))) (fun _ _=>True) (fun _ _ _ _ _ h=>h) ⟨1,fun _=>rfl,by simp⟩ ?_ ?_
      ·repeat (first|exact Ah.nil|(refine Ah.cons ?_ ?_;rotate_left))
       all_goals
        rintro L U W hL hpre ⟨q,hq1,hq2⟩ hun hdep K hK;have Hdep:=Aa hdep;have Hq2:=Aa hq2;clear hun hdep hq2;first|(simp[Region.binds]at hpre;done)|simp[Region.binds]at hpre|clear hpre
       ·obtain rfl:=hq1 (Ax Hdep.o 9 3 rfl (Ax Hdep.o 3 2 rfl (Ax Hdep.o 2 1 rfl (Ax Hdep.o 1 0 rfl hL))));go_simp;first|exact hK _ _ _ rfl Ac ⟨q,fun _=>rfl,Hq2.o⟩ rfl|exact hK _ _ _ rfl Ac ⟨q,fun _=>rfl,Hq2.o⟩ aI
       ·obtain rfl:=hq1 (Ax Hdep.o 9 3 rfl (Ax Hdep.o 3 2 rfl (Ax Hdep.o 2 1 rfl hL)));go_simp;first|exact hK _ _ _ rfl Ac ⟨q,fun _=>rfl,Hq2.o⟩ rfl|exact hK _ _ _ rfl Ac ⟨q,fun _=>rfl,Hq2.o⟩ aI
       ·obtain rfl:=hq1 (Ax Hdep.o 9 3 rfl (Ax Hdep.o 3 2 rfl hL));go_simp;first|exact hK _ _ _ rfl Ac ⟨q,fun _=>rfl,Hq2.o⟩ rfl|exact hK _ _ _ rfl Ac ⟨q,fun _=>rfl,Hq2.o⟩ aI
       ·obtain rfl:=hq1 (Ax Hdep.o 9 3 rfl hL);go_simp;first|exact hK _ _ _ rfl Ac ⟨q,fun _=>rfl,Hq2.o⟩ rfl|exact hK _ _ _ rfl Ac ⟨q,fun _=>rfl,Hq2.o⟩ aI
       ·obtain rfl:=hq1 (Ax Hdep.o 9 7 rfl (Ax Hdep.o 7 6 rfl (Ax Hdep.o 6 5 rfl (Ax Hdep.o 5 4 rfl hL))));go_simp;first|exact hK _ _ _ rfl Ac ⟨q,fun _=>rfl,Hq2.o⟩ rfl|exact hK _ _ _ rfl Ac ⟨q,fun _=>rfl,Hq2.o⟩ aI
       ·obtain rfl:=hq1 (Ax Hdep.o 9 7 rfl (Ax Hdep.o 7 6 rfl (Ax Hdep.o 6 5 rfl hL)));go_simp;first|exact hK _ _ _ rfl Ac ⟨q,fun _=>rfl,Hq2.o⟩ rfl|exact hK _ _ _ rfl Ac ⟨q,fun _=>rfl,Hq2.o⟩ aI
       ·obtain rfl:=hq1 (Ax Hdep.o 9 7 rfl (Ax Hdep.o 7 6 rfl hL));go_simp;first|exact hK _ _ _ rfl Ac ⟨q,fun _=>rfl,Hq2.o⟩ rfl|exact hK _ _ _ rfl Ac ⟨q,fun _=>rfl,Hq2.o⟩ aI
       ·obtain rfl:=hq1 (Ax Hdep.o 9 7 rfl hL);go_simp;first|exact hK _ _ _ rfl Ac ⟨q,fun _=>rfl,Hq2.o⟩ rfl|exact hK _ _ _ rfl Ac ⟨q,fun _=>rfl,Hq2.o⟩ aI
       ·obtain rfl:=hq1 (Ax Hdep.o 9 8 rfl hL);go_simp;first|exact hK _ _ _ rfl Ac ⟨q,fun _=>rfl,Hq2.o⟩ rfl|exact hK _ _ _ rfl Ac ⟨q,fun _=>rfl,Hq2.o⟩ aI
       ·obtain rfl:=hq1 hL;obtain⟨w7,hrun,r1,r2⟩:=Dd.store (Dd.below Hnm6.o (below_drewN (Aq _ _) q)) Tryz.keyStr underlying120 aZ x.blk (Qc6 (n:=x.ty.name) aH);have hn7:Pd w7 w.heap.size (xs++[x]):=by
         unfold Pd;rw[ah];exact r1.of_eq (fun l hl=>Qaw Hfp.o l hl)
        have R2:=Aa r2;have Hn7:=Aa hn7;clear r1 r2 hn7;go_simp;exact hK undef _ _ Ac Ac ⟨q,fun h=>by simp at h,fun _=>⟨R2.o,Hn7.o⟩⟩ aI
      rintro L U W hL hφ ⟨q,_,hq2⟩;obtain⟨hg7,hn7⟩:=hq2 (hL 9 aK);have hzq:w6.heap.size<=W.heap.size:=by have:=hg7.size;simpa using this
      have hb7:Below w w W:=(below_drewN Hb6.o q).grown hg7 aM (fun k hk=>by injection hk with hk;omega);have HT7:=Aa (Gi (Aj HT6.o (show w.heap.size+1<w6.heap.size by omega) (below_drewN (Aq _ _) q)) hg7 aL);have HK7:=Aa (Gt (Al HK6.o (show w.heap.size+1<w6.heap.size by omega) (below_drewN (Aq _ _) q)) hg7 aM aL);have Hown7:=Aa ((Cm Hown6.o (below_drewN (Aq _ _) q)).kept hg7 (.inr (fun e=>by have:=(Hown6.o.lt _ e).1;omega)));have Hty7:=Aa ((Hty6.o.below (below_drewN (Aq _ _) q)).far hg7 aH);have Hn7:=Aa hn7;have Hb7:=Aa hb7;clear hL hφ hq2 hg7 hn7 hb7 m1 n1;go_wp2_with fail;go_roundw
      case rel=>exact⟨rest,fuel,xs++[x],.slice A5 n5 c5,rfl,by omega,by omega,Hlin3.o,by simp;omega,HT7.o,HK7.o,by rw[ah,az];exact Hown7.o,Hn7.o,Hty7.o,Hb7.o,by omega⟩
      case measure=>rw[Kc,Kc];omega
theorem Tu(s:List UInt8)(w:World)(hs:s.length<=4000000):
  Calls prog 72 #[s] w (Gq (Cl s) w):=by
 by_cases h:400<s.length
 ·exact Y7 s w hs h
 exact Qb2 s w aH
theorem Es(b:Nat):∀(vs:List Value) (o:Nat) (w:World),w.grownBy (w.setCells b o vs) (some b)
 |[],_,w=>World.grownBy.refl _ _
 |v::r,o,w=>(Ps w ⟨b,o,none⟩ v).trans (Es b r (o+1) _)
def Nf(o:Option (List Ty × Kd))(w:World)(e:Ending)(w':World):Prop:=
 (match o with
  |some x=>∃p xs,Ae xs=x.1/\e=.returned (.tuple #[p,D2 x.2,.bool true])/\Qt w.heap.size w' p xs
  |none=>∃(p:Option Addr) (a b c:ByteArray),e=.returned (.tuple #[.pointer p,.agg #[.string a,.string b,.string c],.bool false]))/\Below w w w'
theorem Nf.no{w w':World}{e:Ending}{o:Option (List Ty × Kd)}(ho:o=none){p:Option Addr}{a b c:ByteArray}(he:e=.returned (.tuple #[.pointer p,.agg #[.string a,.string b,.string c],.bool false]))(hb:Below w w w'):Nf o w e w':=by
 rw[ho];exact⟨⟨p,a,b,c,he⟩,hb⟩
theorem Xt(s d:List UInt8)(w:World)(hs:s.length<=4000000)(hd:d.length<=4000000):
  Calls prog 48 #[s,d] w (Nf (Bn s d) w):=by
 have Hrs:=Aa (fun W=>Tu s W hs);have Hrk:=Aa (fun W=>Q7 d W hd);have HF:=@Aa (Bn s d=(match Cl s with|none=>none|some S=>match Co d with|none=>none|some k=>if Bx S k then some (S,k)else none)) rfl;have Hkok:=Aa (fun k (h:Co d=some k)=>(Em.1 h).1);generalize Cl s=oS at HF Hrs;generalize Co d=oK at HF Hrk Hkok;go_enter func48,ntmps48;go_wp2_with fail;refine(Hrs.o _).mono ?_;rintro e w1 ⟨hcase,hb1⟩;have hz1:w.heap.size<w1.heap.size:=df;have HT1:=@Aa (w1.there w 0 3) (Al (Cc w [a8,a8,a8] 62) aL hb1);have Hb1:=@Aa (Below w w w1) (((Aq _ _).alloc (Ap _) _).trans (hb1.mono aL));clear hb1;cases oS with
 |none=>
  obtain⟨p,rfl⟩:=hcase;go_wp2_with ((with_reducible refine Ad (op:=⟨none,.store 62 _ _,_,_,_,none⟩) rfl 62 _ _ rfl w 0 [a8,a8,a8] ?_ ?_ ?_ ?_ ?_ ?_);rfl;rfl;(exact HT1.o);kernel_rfl;(simp[Value.oneCell']);intro w9 HS9)
  have HZ:=@Aa (w9.rangeAt w 0 [a8,a8,a8]) (by rw[HS9.o];exact aa _ _ _ _ HT1.o);refine aF (v:=.tuple #[.pointer none,.agg ([a8,a8,a8]:List Value).toArray,.bool false]) ?_ rfl ?_
  ·exact Fp results48 _ _ w.heap.size [a8,a8,a8] _ _ _ rfl rfl rfl HZ.o underlying62 rfl aO
  exact Nf.no HF.o rfl (by rw[HS9.o];exact Ag _ (Ap _) _ _ _ Hb1.o)
 |some S=>
  obtain⟨p,xs,hxs,rfl,hsl⟩:=hcase;subst hxs;have Hsl:=@Aa (Qt (w.heap.size+1) w1 p xs) (by simpa using hsl);obtain⟨pb,_,_,_,hp,_⟩:=hsl;subst hp;go_wp2_with fail;refine(Hrk.o _).mono ?_;rintro e w2 ⟨hcase,hb2⟩;cases oK with
  |none=>
   obtain⟨a1,a2,a3,rfl⟩:=hcase;have hz4:w2.heap.size<(w2.alloc (.cells #[.string a1,.string a2,.string a3] 62)).heap.size:=aL;have hz2:w.heap.size<w2.heap.size:=fS;have HT4:=@Aa ((w2.alloc (.cells #[.string a1,.string a2,.string a3] 62)).there w 0 3) (ar (Al HT1.o hz1 hb2) _);have HX4:=@Aa ((w2.alloc (.cells #[.string a1,.string a2,.string a3] 62)).rangeAt w2 0 [.string a1,.string a2,.string a3]) (Bw w2 [.string a1,.string a2,.string a3] _);have Hsl4:=@Aa (Qt (w.heap.size+1) (w2.alloc (.cells #[.string a1,.string a2,.string a3] 62)) pb xs) ((Hsl.o.below hb2).below ((Aq _ _).alloc (Ap _) _));have Hb4:=@Aa (Below w w (w2.alloc (.cells #[.string a1,.string a2,.string a3] 62))) ((Hb1.o.trans (hb2.mono Hb1.o.size)).alloc aH _);clear hb2;go_wp2_with fail;refine Bi [23,24,25,26,27,28,29,30,4,999,6] aO aO aO (fun u=>by dsimp only[Qbm,Bm,List.set,am,Nat.reduceAdd])
    (fun i v W=>match i with|0=>v=pb|1=>v=.agg ([.string a1,.string a2,.string a3]:List Value).toArray|2=>v=.bool false|3=>v=.bool false|7=>v=.bool false|8=>v=pb|10=>v=.bool false|_=>True) (fun L U W=>Below w w W/\w2.heap.size<W.heap.size/\W.there w 0 3/\W.rangeAt w2 0 [.string a1,.string a2,.string a3]/\Qt (w.heap.size+1) W pb xs/\(L 9=true->W.rangeAt w 0 [.string a1,.string a2,.string a3])) (fun _ _=>True) (fun _ _ _ _ _ h=>h) ⟨Hb4.o.drew,by simp,by simpa using HT4.o,by simpa using HX4.o,Hsl4.o.below ((Aq _ _).drew),by simp⟩ ?_ ?_
   ·repeat (first|exact Ah.nil|(refine Ah.cons ?_ ?_;rotate_left))
    all_goals
     rintro L U W hL hpre hR hun hdep K hK;have HR:=Aa hR;obtain⟨_,_,_,hxr,_,_⟩:=hR;have c0:W.cell? (w2,0)=some (.string a1):=by simpa using Ab hxr 0 rfl
     have c1:W.cell? (w2,1)=some (.string a2):=by simpa using Ab hxr 1 rfl
     have c2:W.cell? (w2,2)=some (.string a3):=by simpa using Ab hxr 2 rfl
     clear hun hdep hxr;first|(simp[Region.binds]at hpre;done)|simp[Region.binds]at hpre|clear hpre
    iterate 9 exact ib
    ·obtain⟨r1,r2,r3,r4,r5,r6⟩:=HR.o;rw[if_pos cD];refine wp_store_mid 62 _ _ rfl w 0 ([.string a1,.string a2,.string a3]:List Value).toArray rfl hpre.1.2 r3 aO bj ?_;exact hK undef _ _ Ac Ac ⟨Ag _ (Ap _) _ _ _ r1,by rw[B6];exact r2,ai r3 _ _ _,ak r4 _ _ _ (.inl (show w2.heap.size≠w.heap.size by omega)),r5.far (Es _ _ _ W) aH,fun _=>aa _ _ _ _ r3⟩ rfl
    ·exact ib
   rintro L U W hL hφ ⟨r1,r2,r3,r4,r5,r6⟩;have e8:U 8=pb:=hφ 8 aK;have e10:U 10=.bool false:=hφ 10 aK;have hr0:=r6 (hL 9 aK);simp only[e8,e10];have R1:=Aa r1;have R5:=Aa r5;have R0:=Aa hr0;clear hL hφ r1 r2 r3 r4 r5 r6 hr0;go_wp2_with fail;refine aF (v:=.tuple #[pb,.agg ([.string a1,.string a2,.string a3]:List Value).toArray,.bool false]) ?_ rfl ?_
   ·exact Fp results48 _ _ w.heap.size [.string a1,.string a2,.string a3] _ _ _ rfl rfl rfl R0.o underlying62 rfl aO
   exact Nf.no HF.o rfl R1.o
  |some k=>
   have hcase':e=.returned (.tuple #[.agg #[k.signs,k.base,k.name],.bool true]):=hcase;subst hcase';clear hcase;have hkn:k.name.length<=100:=ad (H8 (Hkok.o k rfl)) aK;have hz4:w2.heap.size<(w2.alloc (.cells #[k.signs,k.base,k.name] 62)).heap.size:=aL;have hz2:w.heap.size<w2.heap.size:=fS;have HT4:=@Aa ((w2.alloc (.cells #[k.signs,k.base,k.name] 62)).there w 0 3) (ar (Al HT1.o hz1 hb2) _);have HX4:=@Aa ((w2.alloc (.cells #[k.signs,k.base,k.name] 62)).rangeAt w2 0 [k.signs,k.base,k.name]) (Bw w2 [k.signs,k.base,k.name] _);have Hsl4:=@Aa (Qt (w.heap.size+1) (w2.alloc (.cells #[k.signs,k.base,k.name] 62)) pb xs) ((Hsl.o.below hb2).below ((Aq _ _).alloc (Ap _) _));have Hb4:=@Aa (Below w w (w2.alloc (.cells #[k.signs,k.base,k.name] 62))) ((Hb1.o.trans (hb2.mono Hb1.o.size)).alloc aH _);clear hb2;go_wp2_with fail;have HF3:=@Aa (Bn s d=if Bx (Ae xs) k then some (Ae xs,k)else none) HF.o;refine Bi [23,24,25,26,27,28,29,30,4,999,6] aO aO aO (fun u=>by dsimp only[Qbm,Bm,List.set,am,Nat.reduceAdd])
    (fun i v W=>match i with|0=>v=pb|1=>v=.agg ([k.signs,k.base,k.name]:List Value).toArray|2=>v=.bool true|3=>v=.bool true|4=>v=pb|5=>v=.agg ([k.signs,k.base,k.name]:List Value).toArray|6=>v=.bool (decide (Bx (Ae xs) k))|7=>v=.bool (decide (Bx (Ae xs) k))|8=>v=pb|10=>v=.bool (decide (Bx (Ae xs) k))|_=>True) (fun L U W=>Below w w W/\w2.heap.size<W.heap.size/\W.there w 0 3/\W.rangeAt w2 0 [k.signs,k.base,k.name]/\Qt (w.heap.size+1) W pb xs/\(L 9=true->W.rangeAt w 0 [k.signs,k.base,k.name])) (fun _ _=>True) (fun _ _ _ _ _ h=>h) ⟨Hb4.o.drew,by simp,by simpa using HT4.o,by simpa using HX4.o,Hsl4.o.below ((Aq _ _).drew),by simp⟩ ?_ ?_
   ·repeat (first|exact Ah.nil|(refine Ah.cons ?_ ?_;rotate_left))
    all_goals
     rintro L U W hL hpre hR hun hdep K hK;have HR:=Aa hR;obtain⟨_,_,_,hxr,_,_⟩:=hR;have c0:W.cell? (w2,0)=k.signs:=by simpa using Ab hxr 0 rfl
     have c1:W.cell? (w2,1)=k.base:=by simpa using Ab hxr 1 rfl
     have c2:W.cell? (w2,2)=k.name:=by simpa using Ab hxr 2 rfl
     clear hun hdep hxr;first|(simp[Region.binds]at hpre;done)|simp[Region.binds]at hpre|clear hpre
    iterate 6 exact ib
    ·go_simp;obtain⟨r1,r2,r3,r4,r5,r6⟩:=HR.o;refine(Qbh _ xs k W r5.isc.map hkn).mono ?_;rintro e w5 ⟨rfl,hb5⟩;exact hK (.bool (decide (Bx (Ae xs) k))) _ _ rfl Ac ⟨r1.trans (hb5.mono r1.size),ac r2 hb5.size,Al r3 (show w.heap.size<W.heap.size by omega) hb5,Aj r4 r2 hb5,r5.below hb5,fun h=>Aj (r6 h) (show w.heap.size<W.heap.size by omega) hb5⟩ aI
    ·exact ib
    ·exact ib
    ·obtain⟨r1,r2,r3,r4,r5,r6⟩:=HR.o;rw[if_pos cD];refine wp_store_mid 62 _ _ rfl w 0 ([k.signs,k.base,k.name]:List Value).toArray rfl hpre.1.2 r3 aO bj ?_;exact hK undef _ _ Ac Ac ⟨Ag _ (Ap _) _ _ _ r1,by rw[B6];exact r2,ai r3 _ _ _,ak r4 _ _ _ (.inl (show w2.heap.size≠w.heap.size by omega)),r5.far (Es _ _ _ W) aH,fun _=>aa _ _ _ _ r3⟩ rfl
    ·exact ib
   rintro L U W hL hφ ⟨r1,r2,r3,r4,r5,r6⟩;have e8:U 8=pb:=hφ 8 aK;have e10:U 10=.bool (decide (Bx (Ae xs) k)):=hφ 10 aK;have hr0:=r6 (hL 9 aK);simp only[e8,e10];have R1:=Aa r1;have R5:=Aa r5;have R0:=Aa hr0;clear hL hφ r1 r2 r3 r4 r5 r6 hr0;go_wp2_with fail;refine aF (v:=.tuple #[pb,.agg ([k.signs,k.base,k.name]:List Value).toArray,.bool (decide (Bx (Ae xs) k))]) ?_ rfl ?_
   ·exact Fp results48 _ _ w.heap.size [k.signs,k.base,k.name] _ _ _ rfl rfl rfl R0.o underlying62 rfl aO
   by_cases hr:Bx (Ae xs) k
   ·rw[aD hr];unfold Nf;rw[HF3.o,if_pos hr]
    exact⟨⟨_,xs,rfl,rfl,by
     obtain⟨b,A,c,mb,q0,q1,q2,q3,q4,q5,q6,q7,l1,l2,l3,l4⟩:=R5.o;exact⟨b,A,c,mb,q0,q1,q2,q3,q4,q5,q6,q7,by omega,by omega,fun g o h1 h2=>by have:=l3 g o h1 h2;omega,fun x hx=>⟨by have:=(l4 x hx).1;omega,fun k h1 h2=>by have:=(l4 x hx).2 k h1 h2;omega⟩⟩⟩,R1.o⟩
   rw[aC hr];exact Nf.no (HF3.o.trans (if_neg hr)) rfl R1.o
def Ji(B:Nat)(w:World)(v:Value):Option Fd->Prop
 |none=>v=.pointer none
 |some f=>∃b o,v=.pointer (some ⟨b,o,none⟩)/\b<B/\w.rangeAt b o (Qz f)
theorem Ji.below{B:Nat}{w w':World}{v:Value}{o:Option Fd}(h:Ji B w v o)(hb:Below B w w'):Ji B w' v o:=by
 cases o with
 |none=>exact h
 |some f=>obtain⟨b,o,e,h1,h2⟩:=h;exact⟨b,o,e,h1,Aj h2 h1 hb⟩
def Qgy(B:Nat)(o:Option Fd)(w:World)(e:Ending)(w':World):Prop:=∃v,e=.returned v/\Ji B w v o/\w=w'
theorem Nl(w0:World)(x:PT)(hx:Px w0 x)(n:Nat)(w:World)(hb:Below w0 w0 w)(hn:n<=1000000000):
  Calls prog 54 #[x.blk,.int .i64 n] w (Qgy w0.heap.size (Au x.ty.fields n) w):=by
 obtain⟨z0,_,_,_,z3,_,A,c,hfv,hl,hr⟩:=hx;rw[hfv]at z3;have c2:w.cell? (x.blk,2)=some (.slice A x.ty.fields.length c):=(hb.cell (p:=⟨x.blk,2,none⟩) z0).trans z3;have Hr:=Aa hr;have Hb:=Aa hb;clear hr hfv z3 hb;go_enter func54,ntmps54;go_wp2_with fail;go_loop [11] (fun i=>∃k:Nat,i=.int .i64 k/\k<=x.ty.fields.length/\Hid (∀f∈x.ty.fields.take k,decide (f.tag=n)=false)) (fun i=>x.ty.fields.length - (intOf i).toNat)
 case atStart=>exact⟨0,rfl,ag _,by intro f hf;simp at hf⟩
 case round=>
  obtain⟨k,rfl,hk,hin⟩:=hrel;by_cases hlt:k<x.ty.fields.length
  ·obtain⟨b,off,rfl,hbl,hrg⟩:=Pv.range Hr.o hlt;have hrw:=Aj hrg hbl Hb.o;have Hts:=Aa (Ch x.ty.fields k hlt);have Hft:=Aa (Ro (p:=fun f=>decide (f.tag=n)) hlt hin.o);generalize x.ty.fields[k]=f at hrg hrw Hts Hft;have c0:w.cell? ⟨b,off+k*6,none⟩=(f.tag:Int):=by simpa using Ab hrw 0 rfl
   have Hrw:=Aa hrw;clear hrw hrg;have k1:(0:Int)<=(k:Int):=aH;have k2:(k:Int)<(x.ty.fields.length:Int):=aH;by_cases he:f.tag=n
   ·have t1:((f.tag:Int) == (n:Int))=true:=by simp[he]
    have Hfin:=Aa (show Au x.ty.fields n=some f by unfold Au;rw[Hft.o,if_pos d9]);clear he;go_wp2_with fail;go_ret;exact⟨_,rfl,by rw[Hfin.o];exact⟨b,off+k*6,rfl,hbl,Hrw.o⟩,rfl⟩
   have t1:((f.tag:Int) == (n:Int))=false:=cb
   have Hin:=Aa (show ∀g∈x.ty.fields.take (k+1),decide (g.tag=n)=false by
    intro g hg;rw[Hts.o]at hg;rcases af.1 hg with hg|hg
    ·exact hin.o g hg
    simp at hg;subst hg;simpa using he)
   clear he;go_wp2_with fail;go_round
   case rel=>exact⟨k+1,by go_num,by omega,Hin.o⟩
   case measure=>simp[intOf];omega
  ·have Hfin:=@Aa (Au x.ty.fields n=none) (Mk (fun f hf=>hin.o f dN));go_wp2_with fail;go_ret;exact⟨_,rfl,by rw[Hfin.o];rfl,rfl⟩
theorem Jg(b nm:ByteArray)(w:World):Calls prog 76 #[.agg #[a8,.string b,.string nm]] w fun e w'=>e=.returned (.int .u8 0)/\Below w w w':=by
 go_enter func76,ntmps76;go_wp2_with fail;go_ret;exact⟨rfl,(Aq _ _).alloc (Ap _) _⟩
theorem Kk(c:UInt8)(t:List UInt8)(hl:t.length<=1000)(b nm:ByteArray)(w:World):Calls prog 76 #[.agg #[.string ⟨(c::t).toArray⟩,.string b,.string nm]] w fun e w'=>e=.returned (.int .u8 (c.toNat:Int))/\Below w w w':=by
 go_enter func76,ntmps76;go_wp2_with fail;go_ret;exact⟨rfl,(Aq _ _).alloc (Ap _) _⟩
theorem Zf(p:Value)(c:UInt8)(t:List UInt8)(b nm:ByteArray)(w:World)(hc:c=91\/c=63)(hl:t.length<=1000):
  Calls prog 83 #[p,.agg #[.string ⟨(c::t).toArray⟩,.string b,.string nm]] w (Gc (Qc4 c) w):=by
 rcases hc with rfl|rfl
 ·go_enter func83,ntmps83;go_wp2_with fail;refine(Kk 91 t hl _ _ _).mono ?_;rintro e w1 ⟨rfl,hb1⟩;go_wp2_with fail;go_ret;exact⟨rfl,((Aq _ _).alloc (Ap _) _).trans (hb1.mono aL)⟩
 go_enter func83,ntmps83;go_wp2_with fail;refine(Kk 63 t hl _ _ _).mono ?_;rintro e w1 ⟨rfl,hb1⟩;go_wp2_with fail;go_ret;exact⟨rfl,((Aq _ _).alloc (Ap _) _).trans (hb1.mono aL)⟩
theorem Vd(p:Value)(b:List UInt8)(nm:ByteArray)(w:World)(hb:b=[110]\/b=[116]\/b=[102]):
  Calls prog 83 #[p,.agg #[a8,b,.string nm]] w (Gc (Tp b) w):=by
 rcases hb with rfl|rfl|rfl<;>
 ·go_enter func83,ntmps83;go_wp2_with fail;refine(Jg _ _ _).mono ?_;rintro e w1 ⟨rfl,hb1⟩;obtain⟨hc1,_,_⟩:=By hb1;have y1:=hc1 w 1 aL;simp at y1;clear hc1;have Hb1:=Aa (((Aq w.heap.size w).alloc (Ap _) _).trans (hb1.mono aL));clear hb1;go_wp2_with fail;go_ret;exact⟨rfl,Hb1.o⟩
def kcs(k:Kd):List Value:=[k.signs,k.base,k.name]
def Gu(v:Vl)(sl:Value):List Value:=[.int .u8 (v.what.toNat:Int),v.text,(v.tag:Int),sl]
def Kt(w:World)(b:Nat)(p:Value)(k:Kd)(t:List UInt8)(bad:Bool)(W:World):Prop:=
 Df w b p t bad W/\W.rangeAt w 0 (kcs k)/\W.there (w.heap.size+1) 0 4/\w.heap.size+1<W.heap.size
theorem Kt.init{w:World}{b:Nat}{p:Value}{k:Kd}{t:List UInt8}{bad:Bool}(h:Gb w b p t bad){T U:TypeId}:Kt w b p k t bad ((w.alloc (.cells #[k.signs,k.base,k.name] T)).alloc (.cells #[.int .u8 0,a8,.int .i64 0,.slice none 0 0] U)):=by
 have h1:Below w w ((w.alloc (.cells #[k.signs,k.base,k.name] T)).alloc (.cells #[.int .u8 0,a8,.int .i64 0,.slice none 0 0] U)):=((Aq _ _).alloc (Ap _) _).alloc aL _;refine⟨⟨h.grow h1,B0 h1 _⟩,?_,?_,by simp⟩
 ·have:=Aj (Bw w (kcs k) T) (show w.heap.size<(w.alloc (.cells (kcs k).toArray T)).heap.size by simp) ((Aq _ _).alloc (Ap _) (.cells #[.int .u8 0,a8,.int .i64 0,.slice none 0 0] U));exact this
 have:=Cc (w.alloc (.cells #[k.signs,k.base,k.name] T)) [.int .u8 0,a8,.int .i64 0,.slice none 0 0] U;simpa using this
theorem Kt.post{w W W':World}{b:Nat}{p:Value}{k:Kd}{t:List UInt8}{bad:Bool}(h:Kt w b p k t bad W)(hb:Below W W W'):Kt w b p k t bad W':=
 ⟨h.1.post hb,Aj h.2.1 (by have:=h.2.2.2;omega) hb,Al h.2.2.1 h.2.2.2 hb,ac h.2.2.2 hb.size⟩
theorem Kt.step{w W W':World}{b:Nat}{p:Value}{k:Kd}{t t':List UInt8}{bad bad':Bool}(h:Kt w b p k t bad W)(hb:b<w.heap.size)(hs:Df W b p t' bad' W'):Kt w b p k t' bad' W':=
 ⟨h.1.trans hs,Gi h.2.1 hs.2 aM,Gt h.2.2.1 hs.2 h.2.2.2 aM,ac h.2.2.2 hs.2.size⟩
theorem Kt.fin{w W w9:World}{b N:Nat}{p:Value}{k:Kd}{t t':List UInt8}{bad':Bool}{v:Vl}{sl:Value}{r:Option (Vl × List UInt8)}(F:Kt w b p k t' bad' W)(hb:b<w.heap.size)(HS:w9=W.setCells (w.heap.size+1) 0 (Gu v sl))
  (hv:Dx (fun c=>w.heap.size+2<=c) W sl v.kids) (hr:bad'=r.isNone) (hx:∀x,r=some x->v=x.1/\t'=x.2) (hB:Bd v) (hl:t'.length<=t.length) (hn:(Bc v).length+t'.length<=t.length+8*N):
  Km w b p t N r (.returned (.agg (Gu v sl).toArray)) w9/\w9.rangeAt (w.heap.size+1) 0 (Gu v sl):=by
 subst HS hr;exact⟨⟨v,sl,t',rfl,(hv.set (B:=w.heap.size+1) aH _).mono fun c hc _=>by omega,F.1.set aH aH _,hx,hB,hl,hn⟩,aa _ _ _ _ F.2.2.1⟩
theorem Vx(b N:Nat)(p:Value)(t:List UInt8)(k:Kd)(w:World)(h:Gb w b p t true):
  Calls prog 50 #[b,D2 k] w (Km w b p t N none):=by
 have HS:=Aa h;obtain⟨h0,h1,h2,h3,h4⟩:=h;have hbn:¬(b=w.heap.size):=aH;have hbn2:¬(b=w.heap.size+1):=aH;unfold D2;clear h1 h2 h3;go_enter func50,ntmps50;go_wp2_with fail;have F:=(Kt.init (k:=k) HS.o (T:=62) (U:=40)).1;refine aF (v:=.agg (Gu En (.slice none 0 0)).toArray) ?_ rfl ⟨En,.slice none 0 0,t,rfl,Dx.nil _ _,F,aL,Et aK aK,Ap _,by simp[En,Bc,Dz,Gs]⟩;refine Az results50 _ _ (w.heap.size+1) _ _ rfl ?_ underlying40 rfl aO;have:=Bw (w.alloc (.cells #[k.signs,k.base,k.name] 62)) [.int .u8 0,a8,.int .i64 0,.slice none 0 0] 40;simpa [Gu,En,Vl.what,Vl.text,Vl.tag]using this
theorem Qas(t:List UInt8):Qg t=if Gg 999999 t then some (G0 t,t.dropWhile Bh)else none:=by
 unfold Qg Gg G0;cases h:Cn (t.takeWhile Bh)with
 |none=>simp
 |some n=>simp[(Ca.1 h).1]
theorem Yq(t:List UInt8):G0 t<=999999:=by
 unfold G0;cases h:Cn (t.takeWhile Bh)with
 |none=>simp
 |some n=>exact(Ca.1 h).1
theorem Zk(p:UInt8->Bool)(t:List UInt8):(t.dropWhile p).length<=t.length:=(Q6 p t).2
theorem Qgj(b N:Nat)(p:Value)(t:List UInt8)(k:Kd)(w:World)(h:Gb w b p t false)(hl:t.length<=900)(hs:k.signs=[])(hb:k.base=[110])(q:Option (Vl × List UInt8))(hq:q=match Qg t with|some (n,r)=>some (.mk 110 (Bb n) 0 [],r)|none=>none):
  Calls prog 50 #[b,D2 k] w (Km w b p t (N+1) q):=by
 have HQ:=Aa hq;have HS:=Aa h;have hb0:=h.1;have hbn:¬(b=w.heap.size):=aH;have hbn2:¬(b=w.heap.size+1):=aH;have c2:=h.2.2.2.2;clear hq;obtain⟨sg,bs,nm⟩:=k;simp only at hs hb;have HN:=Aa (Qas t);have hnn:=Yq t;have Hn:=Aa (fun W (h:Gb W b p t false)=>Ph b 999999 p t false W h aH aK);have Hd:=Aa (fun W=>N9 (G0 t) (G0 t) W (Ap _) aH);have hdl:=Qe5 5 (G0 t) cW;have hdr:=Zk Bh t;generalize G0 t=n at *;generalize Gg 999999 t=ok at *;generalize t.dropWhile Bh=r at *;subst hs hb;unfold D2;simp only;clear h;go_enter func50,ntmps50;go_wp2_with fail;refine(Jg _ _ _).mono ?_;rintro e w2 ⟨rfl,hb2⟩;have F2:=Aa ((Kt.init (k:=⟨[],[110],nm⟩) HS.o).post hb2);clear hb2 c2;have k0:=Ab F2.o.2.1 0 rfl;have k1:=Ab F2.o.2.1 1 rfl;have k2:=Ab F2.o.2.1 2 rfl;simp only[am]at k0 k1 k2;have s2:=F2.o.1.1.2.2.2.2;go_wp2_with fail;refine(Hn.o _ F2.o.1.1).mono ?_;rintro e w3 ⟨rfl,hs3⟩;have F3:=Aa (F2.o.step hb0 hs3);clear hs3 k0 k1 k2 s2;go_wp2_with fail;refine(Hd.o _).mono ?_;rintro e w4 ⟨rfl,hb4⟩;have F4:=Aa (F3.o.post hb4);clear hb4;go_wp2_with ((with_reducible refine Ad (op:=⟨none,.store 40 _ _,_,_,_,none⟩) rfl 40 _ _ rfl (w.heap.size+1) 0 [.int .u8 110,.string ⟨(Bb n).toArray⟩,.int .i64 0,.slice none 0 0] ?_ ?_ ?_ ?_ ?_ ?_);rfl;rfl;(exact F4.o.2.2.1);kernel_rfl;(simp[Value.oneCell']);intro w9 HS9)
 have HQ:=HQ.o;rw[HN.o]at HQ;have Z:=Kt.fin (t:=t) (N:=N+1) (v:=.mk 110 (Bb n) 0 []) (sl:=.slice none 0 0) (r:=q) F4.o hb0 HS9.o (Dx.nil _ _) (by rw[HQ];cases ok<;>rfl)
  (by rw[HQ];cases ok<;>simp) (Et aK aH) hdr fU
 exact aF (v:=.agg (Gu (.mk 110 (Bb n) 0 []) (.slice none 0 0)).toArray) (Az results50 _ _ (w.heap.size+1) _ _ rfl Z.2 underlying40 rfl aO) rfl Z.1
theorem Qf0(b N:Nat)(p:Value)(t:List UInt8)(k:Kd)(w:World)(h:Gb w b p t false)(hl:t.length<=900)(hs:k.signs=[])(hb:k.base=[116])(q:Option (Vl × List UInt8))(hq:q=match Mo t with|some (x,r)=>some (.mk 116 x 0 [],r)|none=>none):
  Calls prog 50 #[b,D2 k] w (Km w b p t (N+1) q):=by
 have HQ:=Aa hq;have HS:=Aa h;have hb0:=h.1;have hbn:¬(b=w.heap.size):=aH;have hbn2:¬(b=w.heap.size+1):=aH;have c2:=h.2.2.2.2;clear hq;obtain⟨sg,bs,nm⟩:=k;simp only at hs hb;have Hn:=Aa (fun W (h:Gb W b p t false)=>Qck b p t false W h aH);subst hs hb;unfold D2;simp only;clear h;go_enter func50,ntmps50;go_wp2_with fail;refine(Jg _ _ _).mono ?_;rintro e w2 ⟨rfl,hb2⟩;have F2:=Aa ((Kt.init (k:=⟨[],[116],nm⟩) HS.o).post hb2);clear hb2 c2;have k0:=Ab F2.o.2.1 0 rfl;have k1:=Ab F2.o.2.1 1 rfl;have k2:=Ab F2.o.2.1 2 rfl;simp only[am]at k0 k1 k2;have s2:=F2.o.1.1.2.2.2.2;go_wp2_with fail;refine(Hn.o _ F2.o.1.1).mono ?_;rintro e w3 ⟨x,r,bad,rfl,hs3,hx,hxl⟩;have F3:=Aa (F2.o.step hb0 hs3);have Hx:=Aa hx;clear hs3 hx k0 k1 k2 s2;go_wp2_with ((with_reducible refine Ad (op:=⟨none,.store 40 _ _,_,_,_,none⟩) rfl 40 _ _ rfl (w.heap.size+1) 0 [.int .u8 116,x,.int .i64 0,.slice none 0 0] ?_ ?_ ?_ ?_ ?_ ?_);rfl;rfl;(exact F3.o.2.2.1);kernel_rfl;(simp[Value.oneCell']);intro w9 HS9)
 have HQ:=HQ.o;rw[show Mo t=if bad then none else some (x,r)from Hx.o]at HQ;have Z:=Kt.fin (t:=t) (N:=N+1) (v:=.mk 116 x 0 []) (sl:=.slice none 0 0) (r:=q) F3.o hb0 HS9.o (Dx.nil _ _) (by rw[HQ];cases bad<;>rfl)
  (by rw[HQ];cases bad<;>simp) (Et aK aH) aH fU
 exact aF (v:=.agg (Gu (.mk 116 x 0 []) (.slice none 0 0)).toArray) (Az results50 _ _ (w.heap.size+1) _ _ rfl Z.2 underlying40 rfl aO) rfl Z.1
theorem Qfy(b N:Nat)(p:Value)(t:List UInt8)(k:Kd)(w:World)(h:Gb w b p t false)(hl:t.length<=900)(hs:k.signs=[])(hb:k.base=[102])(q:Option (Vl × List UInt8))(hq:q=match Nz t with|some (x,r)=>some (.mk 102 (if x then Ei else My) 0 [],r)|none=>none):
  Calls prog 50 #[b,D2 k] w (Km w b p t (N+1) q):=by
 have HQ:=Aa hq;have HS:=Aa h;have hb0:=h.1;have hbn:¬(b=w.heap.size):=aH;have hbn2:¬(b=w.heap.size+1):=aH;have c2:=h.2.2.2.2;clear hq;obtain⟨sg,bs,nm⟩:=k;simp only at hs hb;have HFL:=@Aa (Nz t=(match Ba Ei t false with|some r=>some (true,r)|none=>match Ba My t false with|some r=>some (false,r)|none=>none)) rfl;have Hy:=Aa (fun W (h:Gb W b p t false)=>Jb b p t Ei false W h aH);have Hw:=Aa (fun W (h:Gb W b p t false)=>Db b p t My false W h aH);have Hl1:=Aa (fun r (h:Ba Ei t false=some r)=>(Ft (p:=Ei)).1 h);have Hl2:=Aa (fun r (h:Ba My t false=some r)=>(Ft (p:=My)).1 h);subst hs hb;unfold D2;simp only;clear h;rcases hy:Ba Ei t false with _|r
 ·rw[hy]at Hy HFL;unfold Ei at Hy;unfold My at Hw
  have HL:=Aa (show ((Ba My t false).getD t).length<=t.length from by
   cases h:Ba My t false with
   |none=>exact Ap _
   |some r=>rw[Hl2.o r h];simp)
  clear hy;go_enter func50,ntmps50;go_wp2_with fail;refine(Jg _ _ _).mono ?_;rintro e w2 ⟨rfl,hb2⟩;have F2:=Aa ((Kt.init (k:=⟨[],[102],nm⟩) HS.o).post hb2);clear hb2 c2;have k0:=Ab F2.o.2.1 0 rfl;have k1:=Ab F2.o.2.1 1 rfl;have k2:=Ab F2.o.2.1 2 rfl;simp only[am]at k0 k1 k2;have s2:=F2.o.1.1.2.2.2.2;go_wp2_with fail;refine(Hy.o _ F2.o.1.1).mono ?_;rintro e w3 ⟨rfl,hs3⟩;simp only[Option.getD_none]at hs3;have F3:=Aa (F2.o.step hb0 hs3);clear hs3 k0 k1 k2 s2;go_wp2_with fail;refine(Hw.o _ F3.o.1.1).mono ?_;rintro e w4 ⟨rfl,hs4⟩;have F4:=Aa (F3.o.step hb0 hs4);clear hs4;go_wp2_with ((with_reducible refine Ad (op:=⟨none,.store 40 _ _,_,_,_,none⟩) rfl 40 _ _ rfl (w.heap.size+1) 0 [.int .u8 102,.string ⟨#[110,111]⟩,.int .i64 0,.slice none 0 0] ?_ ?_ ?_ ?_ ?_ ?_);rfl;rfl;(exact F4.o.2.2.1);kernel_rfl;(simp[Value.oneCell']);intro w9 HS9)
  have HQ:=HQ.o;rw[HFL.o]at HQ;have hl2:=HL.o;have Z:=Kt.fin (t:=t) (N:=N+1) (v:=.mk 102 My 0 []) (sl:=.slice none 0 0) (r:=q) F4.o hb0 HS9.o (Dx.nil _ _) (by rw[HQ];unfold My;cases Ba [110,111] t false<;>rfl)
   (by rw[HQ];unfold My;cases Ba [110,111] t false<;>simp) (Et aK aK) hl2 (by unfold My at hl2 ⊢;simp[Bc,Dz,Gs];omega)
  exact aF (v:=.agg (Gu (.mk 102 My 0 []) (.slice none 0 0)).toArray) (Az results50 _ _ (w.heap.size+1) _ _ rfl Z.2 underlying40 rfl aO) rfl Z.1
 rw[hy]at Hy HFL;unfold Ei at Hy;have hlr:=Hl1.o r hy;have hlr2:t.length=3+r.length:=by rw[hlr];simp[Ei];omega
 clear hy hlr;go_enter func50,ntmps50;go_wp2_with fail;refine(Jg _ _ _).mono ?_;rintro e w2 ⟨rfl,hb2⟩;have F2:=Aa ((Kt.init (k:=⟨[],[102],nm⟩) HS.o).post hb2);clear hb2 c2;have k0:=Ab F2.o.2.1 0 rfl;have k1:=Ab F2.o.2.1 1 rfl;have k2:=Ab F2.o.2.1 2 rfl;simp only[am]at k0 k1 k2;have s2:=F2.o.1.1.2.2.2.2;go_wp2_with fail;refine(Hy.o _ F2.o.1.1).mono ?_;rintro e w3 ⟨rfl,hs3⟩;simp only[Option.getD_some]at hs3;have F3:=Aa (F2.o.step hb0 hs3);clear hs3 k0 k1 k2 s2;go_wp2_with ((with_reducible refine Ad (op:=⟨none,.store 40 _ _,_,_,_,none⟩) rfl 40 _ _ rfl (w.heap.size+1) 0 [.int .u8 102,.string ⟨#[121,101,115]⟩,.int .i64 0,.slice none 0 0] ?_ ?_ ?_ ?_ ?_ ?_);rfl;rfl;(exact F3.o.2.2.1);kernel_rfl;(simp[Value.oneCell']);intro w9 HS9)
 have HQ:=HQ.o;rw[HFL.o]at HQ;have Z:=Kt.fin (t:=t) (N:=N+1) (v:=.mk 102 Ei 0 []) (sl:=.slice none 0 0) (r:=q) F3.o hb0 HS9.o (Dx.nil _ _) (by rw[HQ];rfl)
  (by rw[HQ];simp) (Et aK aK) aH (by unfold Ei;simp[Bc,Dz,Gs];omega)
 exact aF (v:=.agg (Gu (.mk 102 Ei 0 []) (.slice none 0 0)).toArray) (Az results50 _ _ (w.heap.size+1) _ _ rfl Z.2 underlying40 rfl aO) rfl Z.1
end
end Go.Proofs.YtkgkoicedddkmaaGreatDoor
