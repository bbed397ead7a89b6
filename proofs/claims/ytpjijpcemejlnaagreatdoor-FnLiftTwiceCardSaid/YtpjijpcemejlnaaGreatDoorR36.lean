/- Texts joined. Conditions: as each theorem names them. -/
import Derived.Test.YtpjijpcemejlnaaGreatDoorR31
import Derived.Test.YtpjijpcemejlnaaGreatDoorR35
set_option maxRecDepth 100000
set_option maxHeartbeats 32000000
set_option linter.unusedVariables false
set_option linter.unusedSimpArgs false
namespace Go.Proofs.YtpjijpcemejlnaaGreatDoor
open Go.RowKit Go.Proofs.Tryz
section
attribute [local go_sem] Qm0 Ql8 Qlz Qj6 ByteArray.mk_append_mk
theorem Rk.range0{w0:World}{x:PT}(h:Rl w0 x):∃A c,w0.cell? (x.blk,2)=some (.slice A x.ty.fields.length c)/\∀i (hi:i<x.ty.fields.length),∃b off,A=some ⟨b,off,none⟩/\b<w0.heap.size/\w0.rangeAt b (off+i*6) (Tf x.ty.fields[i]):=by
 obtain⟨_,_,_,_,z3,_,A,c,hfv,_,hr⟩:=h;rw[hfv]at z3;exact⟨A,c,z3,fun i hi=>Rk.range hr hi⟩
theorem Qea(w0:World)(p1 p2:Value)(xs ys:List PT)(hx:Sw w0 p1 xs)(hy:Sw w0 p2 ys)(hS:Je (Ag xs))(hT:Je (Ag ys))(n:Nat)(x y:PT)(hxm:x∈xs)(hym:y∈ys)
  (ih:∀a b m w,Cm a->Cm b->B0 (Ag xs) a->B0 (Ag ys) b->Kv (Ag xs) (Ag ys) m->64<n+m.length->Fb w0 p1 p2 w m ->
   Calls prog 119 #[(w0,1,0),Eh a,Eh b] w (Vq w0 p1 p2 (J4 (Ag xs) (Ag ys) n a b m) w))
  (m:List Da) (hm:Kv (Ag xs) (Ag ys) m) (hn:64<n+1+m.length) (hml:m.length<=64) (w:World) (hst:Fb w0 p1 p2 w m):
  Calls prog 154 #[(w0,1,0),x.blk,y.blk] w (Vq w0 p1 p2 (evP (Ag xs) (Ag ys) (J4 (Ag xs) (Ag ys) n) x.ty y.ty m) w):=by
 have HF:=@Aa (evP (Ag xs) (Ag ys) (J4 (Ag xs) (Ag ys) n) x.ty y.ty m=if (x.ty.name,y.ty.name)∈m then(true,m)else evT (Ag xs) (Ag ys) (J4 (Ag xs) (Ag ys) n) x.ty y.ty (m++[(x.ty.name,y.ty.name)])) rfl;have Hst:=Aa hst;have Hx:=Aa hx;have Hy:=Aa hy;have Ih:=Aa ih;have HS:=Aa hS;have HT:=Aa hT;have Hgr:=Aa (Nw (Ag xs) (Ag ys) n);have hxt':x.ty∈Ag xs:=aq (f:=(·.ty)) hxm;have hyt':y.ty∈Ag ys:=aq (f:=(·.ty)) hym;have Hto:=Aa (hS.1.1 x.ty hxt');have Huo:=Aa (hT.1.1 y.ty hyt');have Htk:=Aa (hS.2.1 x.ty hxt');have Huk:=Aa (hT.2.1 y.ty hyt');have hnx:x.ty.name∈Fx (Ag xs):=aq (f:=(·.name)) hxt';have hny:y.ty.name∈Fx (Ag ys):=aq (f:=(·.name)) hyt';have hyf8:y.ty.fields.length<=8:=Huo.o.2.2.2.1;have hl1:=(Dm.1 Hto.o.2.1).2.1;have hl2:=(Dm.1 Huo.o.2.1).2.1
 have Hmlen:=Aa (show ∀q∈m,q.1.length<=100/\q.2.length<=100 from fun q hq=>by
  obtain⟨h1,h2⟩:=hm.2 q hq;obtain⟨t1,ht1,e1⟩:=ay.1 h1;obtain⟨t2,ht2,e2⟩:=ay.1 h2;have a1:=(Dm.1 (hS.1.1 t1 ht1).2.1).2.1;have a2:=(Dm.1 (hT.1.1 t2 ht2).2.1).2.1;rw[<-e1,<-e2];exact⟨by omega,by omega⟩)
 have Hm:=Aa hm;obtain⟨pb1,_,_,mb1,rfl,_,_,_,_,_,htx,_⟩:=hx;obtain⟨pb2,_,_,mb2,rfl,_,_,_,_,_,hty,_⟩:=hy;have Htx:=Aa (htx x hxm);have Hty:=Aa (hty y hym);have hsz:=hst.2.1;have Hb:=Aa hst.1;have Hxl0:=Aa Htx.o.1;have Hyl0:=Aa Hty.o.1;have Hxl:=@Aa (x.blk<w.heap.size) (ad Htx.o.1 Hb.o.size);have Hyl:=@Aa (y.blk<w.heap.size) (ad Hty.o.1 Hb.o.size);have X1:=@Aa (w.cell? (x.blk,1)=x.ty.name) ((Hb.o.cell (p:=⟨x.blk,1,none⟩) Htx.o.1).trans Htx.o.2.2.2.1);have Y1:=@Aa (w.cell? (y.blk,1)=y.ty.name) ((Hb.o.cell (p:=⟨y.blk,1,none⟩) Hty.o.1).trans Hty.o.2.2.2.1);clear hst ih hS hT hm hxm hym htx hty hxt' hyt';go_enter func154,ntmps154;go_wp2_with fail;refine Gd [11,12,13,14,15,16,17,18,19,7,999]
  (fun i v W=>match i with|0=>v=x.blk|1=>v=x.blk|2=>v=(x.blk,1)|3=>v=x.ty.name|4=>v=y.blk|5=>v=y.blk|6=>v=(y.blk,1)|7=>v=y.ty.name|8=>v=.agg #[x.ty.name,y.ty.name]|9=>∃b,v=.pointer (some ⟨b,0,none⟩)|_=>True)
  (fun L U W=>Below w w W/\(L 9=true->∃b7,U 9=.pointer (some ⟨b7,0,none⟩)/\w.heap.size<=b7/\b7<W.heap.size/\W.there b7 0 2/\(L 10=true->W.rangeAt b7 0 [x.ty.name,y.ty.name]))) (⟨(Am _ _).drew,fun h=>Bool.noConfusion h⟩) ?_ ?_
 ·repeat (first|exact Ai.nil|(refine Ai.cons ?_ ?_;rotate_left))
  all_goals
   rintro L U W hL hpre HR Hdep K hK;obtain⟨R1,R2⟩:=HR.o;have c1:W.cell? (x.blk,1)=x.ty.name:=(R1.cell (p:=⟨x.blk,1,none⟩) Hxl.o).trans X1.o;have c2:W.cell? (y.blk,1)=y.ty.name:=(R1.cell (p:=⟨y.blk,1,none⟩) Hyl.o).trans Y1.o;first|(simp[Region.binds]at hpre;done)|simp[Region.binds]at hpre|clear hpre
  iterate 9
   ·exact ii
  ·have h10:L 10=false:=At Hdep.o 10 9 rfl hL;go_simp;refine hK _ _ _ ⟨_,rfl⟩ Ab ⟨R1.alloc R1.size _,fun _=>⟨W.heap.size,rfl,R1.size,by simp,B9 W [aa,aa] _,fun h=>absurd (h10.symm.trans aQ) aL⟩⟩ (by simp[Act.put])
  ·obtain⟨l9,b9,u9⟩:L 9=true/\∃b,U 9=.pointer (some ⟨b,0,none⟩):=by
    first|exact hpre.1|exact hpre.2|exact hpre.2.1|exact⟨hpre.1.1,hpre.1.2⟩
   obtain⟨b7,hu,h1,h2,h3,_⟩:=R2 l9;have u8:U 8=.agg ([x.ty.name,y.ty.name]:List Value).toArray:=by first|exact hpre.1.2|exact hpre.2.1.2|exact hpre.2.2
   rw[if_pos cC];refine wp_store_mid 235 _ _ rfl b7 0 ([x.ty.name,y.ty.name]:List Value).toArray hu u8 h3 aP bu ?_;exact hK undef _ _ Ab Ab ⟨Aj _ h1 _ _ _ R1,fun _=>⟨b7,hu,h1,by rw[Cg];exact h2,aj h3 _ _ _,fun _=>ac _ _ _ _ h3⟩⟩ rfl
 rintro L U W hL hφ hR;clear hφ;obtain⟨hbw,hR2⟩:=hR;obtain⟨b7,u7,hb7,hb7l,_,hrg⟩:=hR2 (hL 9 aL);have hrg:=hrg (hL 10 aL);obtain⟨W1,hW1⟩:∃W1,W1=W:=⟨_,rfl⟩
 rw[<-hW1]at hbw hb7l hrg ⊢;simp only[u7];have Hb1:=Aa hbw;have Hst1:=Aa (Hst.o.below hbw);have k0:W1.cell? ⟨b7,0,none⟩=x.ty.name:=Ac hrg 0 rfl;have k1:W1.cell? ⟨b7,1,none⟩=y.ty.name:=Ac hrg 1 rfl;have e2:W1.cell? (w0,1,2)=some (.map (some w0.heap.size)):=Hst1.o.2.2.2.2.1;have Hky:=Aa (Tryz.keyPair (a:=x.ty.name) (b:=y.ty.name) aI aI);obtain⟨inm,hinm⟩:∃inm,decide ((x.ty.name,y.ty.name)∈m)=inm:=⟨_,rfl⟩
 have Hlook:=Aa (fun q=>show (Instr.lookup 121 (.map (some w0.heap.size)) (.agg #[x.ty.name,y.ty.name]) false).run prog (W1.drewN q)=.ok (.bool inm) (W1.drewN q)from by
  have:=Dq.lookup (Dq.below Hst1.o.2.2.2.2.2 (below_drewN (Am _ _) q)) Tryz.keyPairs underlying121 (Tryz.zeroBool _) Hky.o;rw[this,Qgc ⟨by show x.ty.name.length<=100;omega,by show y.ty.name.length<=100;omega⟩ Hmlen.o,hinm])
 have Hinm:=Aa hinm;have H7:=Aa hb7l;have HK7:=Aa hrg;clear hL hR2 hbw hrg hinm hW1 u7;go_wp2_with fail;refine Gd [20,21,22,23,24,25]
  (fun i v W=>match i with|0=>v=(w0,1,0)|1=>v=(w0,1,0)|2=>v=(w0,1,2)|3=>v=.map (some w0.heap.size)|4=>v=.agg #[x.ty.name,y.ty.name]|5=>v=.bool inm|_=>True)
  (fun L U W=>∃q,W=W1.drewN q) (⟨1,rfl⟩) ?_ ?_
 ·repeat (first|exact Ai.nil|(refine Ai.cons ?_ ?_;rotate_left))
  all_goals
   rintro L U W hL hpre HR Hdep K hK;obtain⟨q,rfl⟩:=HR.o;have hlq:=Hlook.o q;first|(simp[Region.binds]at hpre;done)|simp[Region.binds]at hpre|clear hpre
  iterate 6
   ·exact ii
 rintro L U W hL hφ hR;have e5:U 5=.bool inm:=hφ 5 aL;simp only[e5];clear hφ;obtain⟨q2,rfl⟩:=hR;clear hL;obtain⟨W2,hW2⟩:∃W2,W2=W1.drewN q2:=⟨_,rfl⟩
 rw[<-hW2];have hb12:Below W1 W1 W2:=by rw[hW2];exact below_drewN (Am _ _) q2
 have Hst2:=Aa (Hst1.o.below hb12);have Hb2:=Aa (Hb1.o.trans (hb12.mono Hb1.o.size));have k02:W2.cell? ⟨b7,0,none⟩=x.ty.name:=by rw[hW2];exact k0
 have k12:W2.cell? ⟨b7,1,none⟩=y.ty.name:=by rw[hW2];exact k1
 have e22:W2.cell? (w0,1,2)=some (.map (some w0.heap.size)):=Hst2.o.2.2.2.2.1;clear hW2 hb12 k0 k1 e2;cases inm with
 |true=>
  have HF2:=Aa (HF.o.trans (if_pos (of_decide_eq_true Hinm.o)));go_wp2_with fail;go_ret;rw[HF2.o];exact⟨rfl,Hst2.o,Cr Hb2.o _⟩
 |false=>
  have HF2:=Aa (HF.o.trans (if_neg (of_decide_eq_false Hinm.o)));have Hm2:=Aa (Hm.o.snoc hnx hny (of_decide_eq_false Hinm.o));have Hstore:=Aa (fun q=>Dq.store (Dq.below Hst2.o.2.2.2.2.2 (below_drewN (Am _ _) q)) Tryz.keyPairs underlying121 (show m.length<maxLen by unfold maxLen;omega) (.bool true) Hky.o);clear hnx hny;go_wp2_with fail;refine Gd [26,27,28,29,30,999]
   (fun i v W=>match i with|0=>v=(w0,1,0)|1=>v=(w0,1,0)|2=>v=(w0,1,2)|3=>v=.map (some w0.heap.size)|4=>v=.agg #[x.ty.name,y.ty.name]|_=>True)
   (fun L U W=>(L 5=false->∃q,W=W2.drewN q)/\(L 5=true->Fb w0 pb1 pb2 W (m++[(x.ty.name,y.ty.name)])/\W2.grownBy W (some w0.heap.size))) (⟨fun _=>⟨1,rfl⟩,fun h=>Bool.noConfusion h⟩) ?_ ?_
  ·repeat (first|exact Ai.nil|(refine Ai.cons ?_ ?_;rotate_left))
   all_goals
    rintro L U W hL hpre HR Hdep K hK;obtain⟨R1,R2⟩:=HR.o;first|(simp[Region.binds]at hpre;done)|simp[Region.binds]at hpre|clear hpre
   iterate 3
    ·exact ii
   ·have h5:L 5=false:=At Hdep.o 5 3 rfl hL;exact mR
   ·have h5:L 5=false:=At Hdep.o 5 4 rfl hL;exact mR
   ·obtain⟨q,rfl⟩:=R1 hL;obtain⟨w',hrun,hF,hg⟩:=Hstore.o q;go_simp;exact hK undef _ _ Ab Ab ⟨fun h=>by simp at h,fun _=>⟨(Hst2.o.below (below_drewN (Am _ _) q)).push hg hF,(Cr (below_drewN (Am _ _) q) _).trans hg⟩⟩ aK
  rintro L U W hL hφ hR;clear hφ;obtain⟨hst3,hg3⟩:=hR.2 (hL 5 aL);obtain⟨W3,hW3⟩:∃W3,W3=W:=⟨_,rfl⟩
  rw[<-hW3]at hst3 hg3 ⊢;have Hst3:=Aa hst3;have Hg3:=Aa ((Cr Hb2.o _).trans hg3);have x0:W3.cell? (x.blk,0)=some (.int .u8 (x.ty.sort.toNat:Int)):=(hst3.1.cell (p:=⟨x.blk,0,none⟩) Hxl0.o).trans Htx.o.2.2.1;have y0:W3.cell? (y.blk,0)=some (.int .u8 (y.ty.sort.toNat:Int)):=(hst3.1.cell (p:=⟨y.blk,0,none⟩) Hyl0.o).trans Hty.o.2.2.1;obtain⟨Ay,cy,hyc,hyr⟩:=Rk.range0 Hty.o;have y2:W3.cell? (y.blk,2)=some (.slice Ay y.ty.fields.length cy):=(hst3.1.cell (p:=⟨y.blk,2,none⟩) Hyl0.o).trans hyc;have Hyr:=Aa hyr;have Hyc:=Aa hyc;obtain⟨ns,hns⟩:∃ns,((x.ty.sort.toNat:Int) != (y.ty.sort.toNat:Int))=ns:=⟨_,rfl⟩
  have Hns:=Aa hns;clear hst3 hg3 hR hL hW3 k02 k12 e22 hyr hyc;go_wp2_with fail;refine Gd [31,32,33,34,35,36,37,38,39]
   (fun i v W=>match i with|0=>v=x.blk|1=>v=x.blk|2=>v=x.blk|3=>v=.int .u8 (x.ty.sort.toNat:Int)|4=>v=y.blk|5=>v=y.blk|6=>v=y.blk|7=>v=.int .u8 (y.ty.sort.toNat:Int)|8=>v=.bool ns|_=>True)
   (fun L U W=>∃q,W=W3.drewN q) (⟨1,rfl⟩) ?_ ?_
  ·repeat (first|exact Ai.nil|(refine Ai.cons ?_ ?_;rotate_left))
   all_goals
    rintro L U W hL hpre HR Hdep K hK;obtain⟨q,rfl⟩:=HR.o;first|(simp[Region.binds]at hpre;done)|simp[Region.binds]at hpre|clear hpre
   iterate 9
    ·go_simp;first|exact hK _ _ _ rfl Ab HR.o rfl|exact hK _ _ _ rfl Ab HR.o g7|exact hK undef _ _ Ab Ab HR.o g7|exact hK _ _ _ Ab Ab HR.o rfl|exact hK _ _ _ Ab Ab HR.o g7
  rintro L U W hL hφ hR;have e8:U 8=.bool ns:=hφ 8 aL;simp only[e8];clear hφ;obtain⟨q3,rfl⟩:=hR;clear hL hns;obtain⟨W4,hW4⟩:∃W4,W4=W3.drewN q3:=⟨_,rfl⟩
  rw[<-hW4];have hb34:Below W3 W3 W4:=by rw[hW4];exact below_drewN (Am _ _) q3
  have Hst4:=Aa (Hst3.o.below hb34);have Hg4:=Aa (Hg3.o.trans (Cr hb34 _));have y24:W4.cell? (y.blk,2)=some (.slice Ay y.ty.fields.length cy):=by rw[hW4];exact y2
  clear hW4 hb34 x0 y0 y2;cases ns with
  |true=>
   have HF3:=@Aa (evT (Ag xs) (Ag ys) (J4 (Ag xs) (Ag ys) n) x.ty y.ty (m++[(x.ty.name,y.ty.name)])=(false,m++[(x.ty.name,y.ty.name)])) (if_pos (by have:=Hns.o;simp at this;intro h;rw[h]at this;exact this rfl));go_wp2_with fail;go_ret;rw[HF2.o,HF3.o];exact⟨rfl,Hst4.o,Hg4.o⟩
  |false=>
   have hsu:x.ty.sort=y.ty.sort:=by have:=Hns.o;simp at this;exact UInt8.toNat_inj.1 aI
   have HF3:=@Aa (evT (Ag xs) (Ag ys) (J4 (Ag xs) (Ag ys) n) x.ty y.ty (m++[(x.ty.name,y.ty.name)])=Xn (Ag xs) (Ag ys) (J4 (Ag xs) (Ag ys) n) x.ty y.ty.sort y.ty.fields (m++[(x.ty.name,y.ty.name)])) (if_neg (by simp[hsu]));have Hsu:=Aa hsu;clear hsu;go_wp2_with fail
   go_loopw [45] (fun i wr=>∃(j:Nat) (m':List Da),i=.int .i64 j/\j<=y.ty.fields.length/\Hid (evT (Ag xs) (Ag ys) (J4 (Ag xs) (Ag ys) n) x.ty y.ty (m++[(x.ty.name,y.ty.name)])=Xn (Ag xs) (Ag ys) (J4 (Ag xs) (Ag ys) n) x.ty y.ty.sort (y.ty.fields.drop j) m') /\
    Hid (Fb w0 pb1 pb2 wr m')/\Hid (w.grownBy wr (some w0.heap.size))/\Hid (Kv (Ag xs) (Ag ys) m')/\m.length+1<=m'.length) (fun i _=>y.ty.fields.length - (intOf i).toNat)
   case atStart=>exact⟨0,_,rfl,ah _,HF3.o,Hst4.o,Hg4.o,Hm2.o,by simp⟩
   case round=>
    obtain⟨j,m',rfl,hj,heq,hst',hg',hm',hml'⟩:=hrel;have j1:(0:Int)<=(j:Int):=aI;have y2r:wr.cell? (y.blk,2)=some (.slice Ay y.ty.fields.length cy):=(hst'.out.1.cell (p:=⟨y.blk,2,none⟩) Hyl0.o).trans Hyc.o;have y0r:wr.cell? (y.blk,0)=some (.int .u8 (y.ty.sort.toNat:Int)):=(hst'.out.1.cell (p:=⟨y.blk,0,none⟩) Hyl0.o).trans Hty.o.2.2.1;by_cases hlt:j<y.ty.fields.length
    ·have j2:(j:Int)<(y.ty.fields.length:Int):=aI;have Hstep:=Aa (heq.o.trans (Qd5 _ _ _ x.ty y.ty.sort y.ty.fields j hlt m'));obtain⟨bb,off,rfl,hbb,hrg⟩:=Hyr.o j hlt;have Hgm:=Aa (af hlt);generalize y.ty.fields[j]=g at hrg Hstep Hgm;have Rg:=Aa hrg;have Bg:=Aa hbb;have g0:wr.cell? ⟨bb,off+j*6,none⟩=(g.tag:Int):=by simpa using Ac (Ah hrg hbb hst'.out.1) 0 rfl
     have Hgo:=Aa (Huo.o.2.2.1.1 g Hgm.o);have hgt:g.tag<=200:=Hgo.o.2.1;clear hrg hbb;go_wp2_with fail;refine(Pm w0 x Htx.o g.tag wr hst'.out.1 aI).mono ?_;rintro e w5 ⟨fv,rfl,hfp,rfl⟩;have hfm:=fun f (h:Au x.ty.fields g.tag=some f)=>Yl h;have Hfm:=Aa hfm;clear hfm;generalize Au x.ty.fields g.tag=o at hfp Hstep Hfm;cases o with
     |none=>
      have hfv:fv=.pointer none:=hfp;subst hfv;clear hfp;by_cases h82:y.ty.sort=82
      ·have t82:((y.ty.sort.toNat:Int) == 82)=true:=Bl (d:=82) h82;have Hs2:=Aa (Hstep.o.trans (if_pos h82));clear h82;go_wp2_with fail;go_roundw
       case rel=>exact⟨j+1,m',by go_num,by omega,Hs2.o,hst'.out,hg'.out,hm'.out,hml'⟩
       case measure=>simp[intOf];omega
      have t82:((y.ty.sort.toNat:Int) == 82)=false:=Ap (d:=82) h82;have Hs2:=Aa (Hstep.o.trans (if_neg h82));clear h82;go_wp2_with fail;refine Gd [82,83,84,85,86,87,88,89,90,91,92,93,94,95,96,81]
       (fun i v W=>match i with|0=>v=.pointer none|1=>v=.bool true|2=>v=.bool true|3=>v=undef|4=>v=undef|5=>v=undef|6=>v=undef|7=>v=undef|8=>v=undef|9=>v=undef|10=>v=undef|11=>v=undef|12=>v=undef|13=>v=undef|14=>v=.bool true|15=>v=.bool true|_=>True)
       (fun L U W=>∃q,W=wr.drewN q) (⟨1,rfl⟩) ?_ ?_
      ·repeat (first|exact Ai.nil|(refine Ai.cons ?_ ?_;rotate_left))
       all_goals
        rintro L U W hL hpre HR Hdep K hK;obtain⟨q,rfl⟩:=HR.o;first|(simp[Region.binds]at hpre;done)|simp[Region.binds]at hpre|clear hpre
       iterate 16
        ·exact ii
      rintro L U W hL hφ hR;have e15:U 15=.bool true:=hφ 15 aL;simp only[e15];clear hφ;obtain⟨q,rfl⟩:=hR;clear hL;go_wp2_with fail;go_ret;rw[HF2.o,Hs2.o];exact⟨rfl,hst'.out.below (below_drewN (Am _ _) q),hg'.out.trans (Cr (below_drewN (Am _ _) q) _)⟩
     |some f=>
      obtain⟨bf,of,hfv,hbf,hrf⟩:=hfp;subst hfv
      have Rf:=Aa (show w0.rangeAt bf of (Tf f)from fun k v hv=>by
       have:=hrf k v hv;rwa [hst'.out.1.cell (p:=⟨bf,of+k,none⟩) hbf]at this)
      have Bf:=Aa hbf;have Hfm2:=Aa (Hfm.o f rfl);clear hrf hbf Hfm;by_cases h69:y.ty.sort=69
      ·have t69:((y.ty.sort.toNat:Int) == 69)=true:=Bl (d:=69) h69;have Hs2:=Aa (Hstep.o.trans (if_pos h69));clear h69;go_wp2_with fail;go_roundw
       case rel=>exact⟨j+1,m',by go_num,by omega,Hs2.o,hst'.out,hg'.out,hm'.out,hml'⟩
       case measure=>simp[intOf];omega
      have t69:((y.ty.sort.toNat:Int) == 69)=false:=Ap (d:=69) h69;have Hs2:=Aa (Hstep.o.trans (if_neg h69));have h69x:x.ty.sort≠69:=by rw[Hsu.o];exact h69
      have hfo:=Hto.o.2.2.1.1 f Hfm2.o;have Hfk:=Aa (hfo.2.2.2.2 h69x).1;have Hgk:=Aa (Hgo.o.2.2.2.2 h69).1;have Hfr:=Aa (Htk.o h69x f Hfm2.o);have Hgr2:=Aa (Huk.o h69 g Hgm.o);have hfg:=Jb hfo;have hgg:=Jb Hgo.o;have Hcall:=Aa (fun W (h:Fb w0 pb1 pb2 W m')=>Ih.o f.kind g.kind m' W Hfk.o Hgk.o Hfr.o Hgr2.o hm'.out aI h);unfold Eh at Hcall;have Hof1:=Aa (fun W (h:Below w0 w0 W)=>Xq _ xs HS.o f bf of W (Hx.o.below h) (Ah Rf.o Bf.o h) Hfk.o Hfr.o aI);have Hof2:=Aa (fun W (h:Below w0 w0 W)=>Xq _ ys HT.o g bb (off+j*6) W (Hy.o.below h) (Ah Rg.o Bg.o h) Hgk.o Hgr2.o aI);obtain⟨hma,hmb⟩:=Hgr.o f.kind g.kind m' hm'.out;have Hma:=Aa hma;have Hmb:=Aa hmb;have H69:=Aa h69;clear hma hmb hfo h69x h69;go_wp2_with fail;generalize hr:J4 (Ag xs) (Ag ys) n f.kind g.kind m'=r at *;obtain⟨r1,r2⟩:=r;simp only[]at Hma Hmb;clear hr;refine Gd [82,83,84,85,86,87,88,89,90,91,92,93,94,95,96,81]
       (fun i v W=>match i with|0=>v=.pointer (some ⟨bf,of,none⟩)|1=>v=.bool false|2=>v=.bool false|3=>v=(w0,1,0)|4=>v=.pointer (some ⟨bf,of,none⟩)|5=>v=.pointer (some ⟨bf,of,none⟩)|6=>v=.pointer (some ⟨bf,of+2,none⟩)|7=>v=.agg #[f.kind.signs,f.kind.base,f.kind.name]|8=>v=.pointer (some ⟨bb,off+j*6,none⟩)|9=>v=.pointer (some ⟨bb,off+j*6,none⟩)|10=>v=.pointer (some ⟨bb,off+j*6+2,none⟩)|11=>v=.agg #[g.kind.signs,g.kind.base,g.kind.name]|12=>v=.bool r1|13=>v=.bool (!r1)|14=>v=.bool (!r1)|15=>v=.bool (!r1)|_=>True)
       (fun L U W=>∃mm,Fb w0 pb1 pb2 W mm/\wr.grownBy W (some w0.heap.size)/\(L 12=true->mm=r2)/\(L 12=false->mm=m')) (⟨m',hst'.out.below ((Am _ _).drew),Cr ((Am _ _).drew) _,fun h=>Bool.noConfusion h,fun _=>rfl⟩) ?_ ?_
      ·repeat (first|exact Ai.nil|(refine Ai.cons ?_ ?_;rotate_left))
       all_goals
        rintro L U W hL hpre HR Hdep K hK;obtain⟨mm,ha9,hk9,r5,r6⟩:=HR.o;have f2:W.cell? ⟨bf,of+2,none⟩=f.kind.signs:=Ac (Ah Rf.o Bf.o ha9.1) 2 rfl;have f3:W.cell? ⟨bf,of+3,none⟩=f.kind.base:=Ac (Ah Rf.o Bf.o ha9.1) 3 rfl;have f4:W.cell? ⟨bf,of+4,none⟩=f.kind.name:=Ac (Ah Rf.o Bf.o ha9.1) 4 rfl;have f3':W.cell? ⟨bf,of+2+1,none⟩=_:=f3;have f4':W.cell? ⟨bf,of+2+1+1,none⟩=_:=f4;have f4'':W.cell? ⟨bf,of+2+2,none⟩=_:=f4;have g2:W.cell? ⟨bb,off+j*6+2,none⟩=g.kind.signs:=Ac (Ah Rg.o Bg.o ha9.1) 2 rfl;have g3:W.cell? ⟨bb,off+j*6+3,none⟩=g.kind.base:=Ac (Ah Rg.o Bg.o ha9.1) 3 rfl;have g4:W.cell? ⟨bb,off+j*6+4,none⟩=g.kind.name:=Ac (Ah Rg.o Bg.o ha9.1) 4 rfl;have g3':W.cell? ⟨bb,off+j*6+2+1,none⟩=_:=g3;have g4':W.cell? ⟨bb,off+j*6+2+1+1,none⟩=_:=g4;have g4'':W.cell? ⟨bb,off+j*6+2+2,none⟩=_:=g4;first|(simp[Region.binds]at hpre;done)|simp[Region.binds]at hpre|clear hpre
       iterate 12
        ·exact ii
       ·exact jC
       iterate 3
        ·exact ii
      rintro L U W hL hφ hR;have e15:U 15=.bool (!r1):=hφ 15 aL;simp only[e15];clear hφ;obtain⟨mm,ha9,hk9,h1,_⟩:=hR;obtain rfl:=h1 (hL 12 aL);have Ha9:=Aa ha9;have Hk9:=Aa (hg'.out.trans hk9);clear hL ha9 hk9 h1;cases r1 with
      |false=>
       have Hs3:=Aa (Hs2.o.trans (if_pos rfl));go_wp2_with fail;go_ret;rw[HF2.o,Hs3.o];exact⟨rfl,Ha9.o,Hk9.o⟩
      |true=>
       have Hs3:=Aa (Hs2.o.trans (if_neg aN));obtain⟨W9,hW9⟩:∃W9,W9=W:=⟨_,rfl⟩
       rw[<-hW9]at Ha9 Hk9;have Hst9:=Aa Ha9.o;have Y0w:=Aa Hty.o.2.2.1;by_cases h82:y.ty.sort=82
       ·have t82:((y.ty.sort.toNat:Int) == 82)=true:=Bl (d:=82) h82;have H82:=Aa h82;clear h82;obtain⟨nb,hnb⟩:∃nb,(!(Jf (Ag xs) f == Jf (Ag ys) g))=nb:=⟨_,rfl⟩
        have Hnb:=Aa hnb;go_wp2_with fail;rw[<-hW9];clear hW9;refine Gd [98,99,100,101,102,103,104,105,106,107,108,109,110,111,112,113,114,115,116,117,97]
         (fun i v W=>match i with|0=>v=y.blk|1=>v=y.blk|2=>v=y.blk|3=>v=.int .u8 (y.ty.sort.toNat:Int)|4=>v=.bool true|5=>v=.bool true|6=>v=(w0,1,0)|7=>v=(w0,1,0)|8=>v=(w0,1,0)|9=>v=pb1|10=>v=.pointer (some ⟨bf,of,none⟩)|11=>v=.string ⟨(Jf (Ag xs) f).toArray⟩|12=>v=(w0,1,0)|13=>v=(w0,1,0)|14=>v=(w0,1,1)|15=>v=pb2|16=>v=.pointer (some ⟨bb,off+j*6,none⟩)|17=>v=.string ⟨(Jf (Ag ys) g).toArray⟩|18=>v=.bool nb|19=>v=.bool nb|20=>v=.bool nb|_=>True)
         (fun L U W=>Below W9 W9 W) ((Am _ _).drew) ?_ ?_
        ·repeat (first|exact Ai.nil|(refine Ai.cons ?_ ?_;rotate_left))
         all_goals
          rintro L U W hL hpre HR Hdep K hK;have ha9:=Hst9.o.below HR.o;have a0:W.cell? (w0,1,0)=pb1:=ha9.2.2.1;have a1:W.cell? (w0,1,1)=pb2:=ha9.2.2.2.1;have y0:W.cell? (y.blk,0)=some (.int .u8 (y.ty.sort.toNat:Int)):=(ha9.1.cell (p:=⟨y.blk,0,none⟩) Hyl0.o).trans Y0w.o;first|(simp[Region.binds]at hpre;done)|simp[Region.binds]at hpre|clear hpre
         iterate 11
          ·exact iH
         ·go_simp;refine(Hof1.o W ha9.1).mono ?_;rintro e w5 ⟨rfl,hb5⟩;exact mS
         iterate 5
          ·exact iH
         ·go_simp;refine(Hof2.o W ha9.1).mono ?_;rintro e w5 ⟨rfl,hb5⟩;exact mS
         iterate 3
          ·exact iH
        rintro L U W hL hφ hR;have e20:U 20=.bool nb:=hφ 20 aL;simp only[e20];clear hφ;have Hbw:=Aa hR;clear hL hR hnb;cases nb with
        |true=>
         have Hs4:=Aa (Hs3.o.trans (if_pos ⟨H82.o,by have:=Hnb.o;simpa using this⟩));go_wp2_with fail;go_ret;rw[HF2.o,Hs4.o];exact⟨rfl,Ha9.o.below Hbw.o,Hk9.o.trans (Cr Hbw.o _)⟩
        |false=>
         have Hs4:=Aa (Hs3.o.trans (if_neg (fun h=>h.2 (by have:=Hnb.o;simpa using this))));go_wp2_with fail;go_roundw
         case rel=>exact⟨j+1,mm,by go_num,by omega,Hs4.o,Ha9.o.below Hbw.o,Hk9.o.trans (Cr Hbw.o _),Hma.o,by obtain⟨l,hl⟩:=Hmb.o;rw[hl,ai];omega⟩
         case measure=>simp[intOf];omega
       have t82:((y.ty.sort.toNat:Int) == 82)=false:=Ap (d:=82) h82;have Hs4:=Aa (Hs3.o.trans (if_neg (fun h=>h82 h.1)));clear h82;go_wp2_with fail;rw[<-hW9];clear hW9;refine Gd [98,99,100,101,102,103,104,105,106,107,108,109,110,111,112,113,114,115,116,117,97]
        (fun i v W=>match i with|0=>v=y.blk|1=>v=y.blk|2=>v=y.blk|3=>v=.int .u8 (y.ty.sort.toNat:Int)|4=>v=.bool false|5=>v=.bool false|6=>v=undef|7=>v=undef|8=>v=undef|9=>v=undef|10=>v=undef|11=>v=undef|12=>v=undef|13=>v=undef|14=>v=undef|15=>v=undef|16=>v=undef|17=>v=undef|18=>v=undef|19=>v=.bool false|20=>v=.bool false|_=>True)
        (fun L U W=>Below W9 W9 W) ((Am _ _).drew) ?_ ?_
       ·repeat (first|exact Ai.nil|(refine Ai.cons ?_ ?_;rotate_left))
        all_goals
         rintro L U W hL hpre HR Hdep K hK;have ha9:=Hst9.o.below HR.o;have a0:W.cell? (w0,1,0)=pb1:=ha9.2.2.1;have a1:W.cell? (w0,1,1)=pb2:=ha9.2.2.2.1;have y0:W.cell? (y.blk,0)=some (.int .u8 (y.ty.sort.toNat:Int)):=(ha9.1.cell (p:=⟨y.blk,0,none⟩) Hyl0.o).trans Y0w.o;first|(simp[Region.binds]at hpre;done)|simp[Region.binds]at hpre|clear hpre
        iterate 21
         ·exact ii
       rintro L U W hL hφ hR;have e20:U 20=.bool false:=hφ 20 aL;simp only[e20];clear hφ;have Hbw:=Aa hR;clear hL hR;go_wp2_with fail;go_roundw
       case rel=>exact⟨j+1,mm,by go_num,by omega,Hs4.o,Ha9.o.below Hbw.o,Hk9.o.trans (Cr Hbw.o _),Hma.o,by obtain⟨l,hl⟩:=Hmb.o;rw[hl,ai];omega⟩
       case measure=>simp[intOf];omega
    ·obtain rfl:j=y.ty.fields.length:=aI;have Hend:=Aa (heq.o.trans (Qfx _ _ _ x.ty y.ty.sort y.ty.fields m'));go_wp2_with fail;go_ret;rw[HF2.o,Hend.o];exact⟨rfl,hst'.out,hg'.out⟩
theorem Qjx(w0:World)(p1 p2:Value)(xs ys:List PT)(hx:Sw w0 p1 xs)(hy:Sw w0 p2 ys)(hS:Je (Ag xs))(hT:Je (Ag ys)):∀(n:Nat) (a b:Kd) (m:List Da) (w:World),
  Cm a->Cm b->B0 (Ag xs) a->B0 (Ag ys) b->Kv (Ag xs) (Ag ys) m->64<n+m.length->Fb w0 p1 p2 w m ->
   Calls prog 119 #[(w0,1,0),Eh a,Eh b] w (Vq w0 p1 p2 (J4 (Ag xs) (Ag ys) n a b m) w):=by
 have h8:(Ag xs).length*(Ag ys).length<=64:=by
  exact mL
 intro n;induction n with
 |zero=>
  intro a b m w _ _ _ _ hm hn _;have:=hm.len;omega
 |succ n ih=>
  intro a b m w ha hb hra hrb hm hn hst;have hml:m.length<=64:=ae hm.len h8;exact Qeq w0 p1 p2 xs ys hx hy n a b m w ha hb hra hrb hst (fun x y W hxm hym hW=>Qea w0 p1 p2 xs ys hx hy hS hT n x y hxm hym ih m hm hn hml W hW)
theorem Su.mono{lo lo':Nat}{w:World}{p:Value}{xs:List PT}(h:Su lo w p xs)(hle:lo'<=lo):Su lo' w p xs:=by
 obtain⟨b,A,c,mb,q0,q1,q2,q3,q4,q5,q6,q7,l1,l2,l3,l4⟩:=h;exact⟨b,A,c,mb,q0,q1,q2,q3,q4,q5,q6,q7,by omega,by omega,fun g o h1 h2=>by have:=l3 g o h1 h2;omega,fun x hx=>⟨by have:=(l4 x hx).1;omega,fun k h1 h2=>by have:=(l4 x hx).2 k h1 h2;omega⟩⟩
theorem Pf.form{o:Option (List Ty × Kd)}{w w':World}{e:Ending}(h:Pf o w e w'):
  ∃(q:Option Addr) (a b c:ByteArray),e=.returned (.tuple #[.pointer q,.agg #[.string a,.string b,.string c],.bool o.isSome])/\Below w w w' /\
   ∀S k,o=some (S,k)->∃xs,Ag xs=S/\a=⟨k.signs.toArray⟩/\b=⟨k.base.toArray⟩/\c=⟨k.name.toArray⟩/\Su w.heap.size w' (.pointer q) xs:=by
 obtain⟨h1,hb⟩:=h;cases o with
 |none=>
  obtain⟨p,a,b,c,e⟩:=h1;exact⟨p,a,b,c,e,hb,fun S k h=>by cases h⟩
 |some x=>
  obtain⟨S,k⟩:=x;obtain⟨p,xs,hx,e,hs⟩:=h1;obtain⟨pb,_,_,_,rfl,_⟩:=hs.isc;exact⟨_,_,_,_,e,hb,fun S' k' h=>by cases h;exact⟨xs,hx,rfl,rfl,rfl,hs⟩⟩
section
variable {P:Program}
theorem Kz{fn:Func}{r p p2 q:Tmp}{ty:TypeId}(h:fn.results=#[.tmp r,.cell p ty,.cell p2 ty,.tmp q])(tmps:Array Value)(w:World)(b b2:Nat)(cs cs2:List Value)(d:TypeDesc)(y x:Value)
  (hr:tmps.getD r undef=y) (hp:tmps.getD p undef=b) (hp2:tmps.getD p2 undef=b2) (hq:tmps.getD q undef=x) (hc:w.rangeAt b 0 cs) (hc2:w.rangeAt b2 0 cs2) (hu:P.underlying ty=some d) (hd:d.isRow=true) (hi:(P.info? ty).map (·.size)=some cs.length) (hi2:(P.info? ty).map (·.size)=some cs2.length):
  (results fn tmps).run P w=.ok (.tuple #[y,.agg cs.toArray,.agg cs2.toArray,x]) w:=by
 have hp':tmps[p]?.getD undef=b:=ez;have hp2':tmps[p2]?.getD undef=b2:=by simpa using hp2
 have hq':tmps[q]?.getD undef=x:=ge;have hr':tmps[r]?.getD undef=y:=eC;simp[results,h,hp',hp2',hq',hr',asAddr,run_loadVar_mid w b 0 ty cs d hc hu hd hi,run_loadVar_mid w b2 0 ty cs2 d hc2 hu hd hi2]
end
theorem Qg2{B:Nat}{a b:World}(h:Below B a b)(p:Addr)(u:Value):Below B (a.setCell p u) (b.setCell p u):=
 ⟨h.os,h.tape,h.output,by simp[World.setCell];exact h.size,fun k hk=>by
  simp only[World.setCell,Array.getElem?_modify];rw[h.block k hk]⟩
theorem Za{B:Nat}(k:Nat):∀(vs:List Value) (o:Nat) {a b:World},Below B a b->Below B (a.setCells k o vs) (b.setCells k o vs)
 |[],_,_,_,h=>h
 |v::r,o,a,b,h=>Za k r (o+1) (Qg2 h ⟨k,o,none⟩ v)
structure Rm(w:World)(p1 p2:Value)(xs ys:List PT)(N B13 B16:Nat)(ka kb:List Value)(w0 W:World)(mm:List Da):Prop where
 sz:w0.heap.size=N
 i1:Su (w.heap.size+2) w0 p1 xs
 i2:Su (w.heap.size+2) w0 p2 ys
 be:Below w w w0
 t9':w0.there w 0 3
 t10':w0.there (w.heap.size+1) 0 3
 x13':w0.rangeAt B13 0 ka
 x16':w0.rangeAt B16 0 kb
 l13:B13<N
 l16:B16<N
 lw:w.heap.size+2<=N
 st:Fb w0 p1 p2 W mm
theorem Rm.x13{w:World}{p1 p2:Value}{xs ys:List PT}{N B13 B16:Nat}{ka kb:List Value}{w0 W:World}{mm:List Da}(h:Rm w p1 p2 xs ys N B13 B16 ka kb w0 W mm):W.rangeAt B13 0 ka:=Ah h.x13' (by have:=h.l13;have:=h.sz;omega) h.st.1
theorem Rm.x16{w:World}{p1 p2:Value}{xs ys:List PT}{N B13 B16:Nat}{ka kb:List Value}{w0 W:World}{mm:List Da}(h:Rm w p1 p2 xs ys N B13 B16 ka kb w0 W mm):W.rangeAt B16 0 kb:=Ah h.x16' (by have:=h.l16;have:=h.sz;omega) h.st.1
theorem Rm.t9{w:World}{p1 p2:Value}{xs ys:List PT}{N B13 B16:Nat}{ka kb:List Value}{w0 W:World}{mm:List Da}(h:Rm w p1 p2 xs ys N B13 B16 ka kb w0 W mm):W.there w 0 3:=An h.t9' (by have:=h.lw;have:=h.sz;omega) h.st.1
theorem Rm.t10{w:World}{p1 p2:Value}{xs ys:List PT}{N B13 B16:Nat}{ka kb:List Value}{w0 W:World}{mm:List Da}(h:Rm w p1 p2 xs ys N B13 B16 ka kb w0 W mm):W.there (w.heap.size+1) 0 3:=An h.t10' (by have:=h.lw;have:=h.sz;omega) h.st.1
theorem Rm.drew{w:World}{p1 p2:Value}{xs ys:List PT}{N B13 B16:Nat}{ka kb:List Value}{w0 W:World}{mm:List Da}(h:Rm w p1 p2 xs ys N B13 B16 ka kb w0 W mm):Rm w p1 p2 xs ys N B13 B16 ka kb w0 W.drew mm:=
 {h with st:=h.st.below (Am _ _).drew}
theorem Rm.store{w:World}{p1 p2:Value}{xs ys:List PT}{N B13 B16:Nat}{ka kb:List Value}{w0 W:World}{mm:List Da}(h:Rm w p1 p2 xs ys N B13 B16 ka kb w0 W mm){b:Nat}(cs:List Value)
  (h1:w.heap.size<=b) (h2:b<w.heap.size+2) (h3:B13≠b) (h4:B16≠b):Rm w p1 p2 xs ys N B13 B16 ka kb (w0.setCells b 0 cs) (W.setCells b 0 cs) mm:=by
 have hlw:=h.lw;have hsz:=h.sz
 refine⟨by rw[Cg];exact h.sz,h.i1.far (Fm _ _ _ w0) h2,h.i2.far (Fm _ _ _ w0) h2,Aj _ h1 _ _ _ h.be,aj h.t9' _ _ _,aj h.t10' _ _ _,
  am h.x13' _ _ _ (.inl h3),am h.x16' _ _ _ (.inl h4),h.l13,h.l16,h.lw,?_⟩
 obtain⟨s1,s2,s3,s4,s5,s6⟩:=h.st;have hg:=Fm b cs 0 W;have hc:∀j,(W.setCells b 0 cs).cell? ⟨w0.heap.size+1,j,none⟩=W.cell? ⟨w0.heap.size+1,j,none⟩:=fun j=>hg.cell_far ⟨w0.heap.size+1,j,none⟩ (show w0.heap.size+1<_ by omega) aO;unfold Fb;rw[Cg,Cg];exact⟨Za b cs 0 s1,s2,(hc 0).trans s3,(hc 1).trans s4,(hc 2).trans s5,s6.kept hg aO⟩
def Qfp(o1 o2:Option (List Ty × Kd))(w:World)(e:Ending)(w':World):Prop:=
 ∃(q:Option Addr) (a1 b1 c1 a2 b2 c2:ByteArray),e=.returned (.tuple #[.pointer q,.agg #[.string a1,.string b1,.string c1],.agg #[.string a2,.string b2,.string c2],.bool (Dt o1 o2)])/\Below w w w' /\
  (Dt o1 o2=true->∃(S T:List Ty) (a b:Kd) (xs ys:List PT) (eb:Nat) (p1 p2:Option Addr),o1=some (S,a)/\o2=some (T,b)/\Ag xs=S/\Ag ys=T/\q=some ⟨eb,0,none⟩/\a1=⟨a.signs.toArray⟩/\b1=⟨a.base.toArray⟩/\c1=⟨a.name.toArray⟩/\a2=⟨b.signs.toArray⟩/\b2=⟨b.base.toArray⟩/\c2=⟨b.name.toArray⟩ /\
   w.heap.size<=eb/\eb<w'.heap.size/\w'.cell? (eb,0)=some (.pointer p1)/\w'.cell? (eb,1)=some (.pointer p2)/\Su w.heap.size w' (.pointer p1) xs/\Su w.heap.size w' (.pointer p2) ys)
theorem Sy(s1 d1 s2 d2:List UInt8)(w:World)(h1:s1.length<=4000000)(h2:d1.length<=4000000)(h3:s2.length<=4000000)(h4:d2.length<=4000000):
  Calls prog 72 #[s1,d1,s2,d2] w (Qfp (Az s1 d1) (Az s2 d2) w):=by
 have Hk1:=Aa (fun W=>Qap s1 d1 W h1 h2);have Hk2:=Aa (fun W=>Qap s2 d2 W h3 h4);have Hg1:=Aa (fun S k (h:Az s1 d1=some (S,k))=>Dn h);have Hg2:=Aa (fun S k (h:Az s2 d2=some (S,k))=>Dn h);generalize Az s1 d1=o1 at *;generalize Az s2 d2=o2 at *;have hmm:=@run_makeMap prog;go_enter func72,ntmps72;go_wp2_with fail;refine(Hk1.o _).mono ?_;rintro e w1 hp1;obtain⟨q1,a1,b1,c1,rfl,hb1,hs1⟩:=hp1.form;have HT9:=@Aa (w1.there w 0 3) (An (au (B9 w [aa,aa,aa] 62) _) aO hb1);have HT10:=@Aa (w1.there (w.heap.size+1) 0 3) (An (by have:=B9 (w.alloc (.cells ([aa,aa,aa]:List Value).toArray 62)) [aa,aa,aa] 62;simpa using this) aN hb1);have Hb1:=@Aa (Below w w w1) ((((Am _ _).alloc (Ao _) _).alloc aN _).trans (hb1.mono aO));have hz1:w.heap.size+1<w1.heap.size:=eR;have Hs1:=Aa hs1;clear hp1 hb1 hs1;go_wp2_with fail;refine(Hk2.o _).mono ?_;rintro e w3 hp2;obtain⟨q2,a2,b2,c2,rfl,hb3,hs2⟩:=hp2.form;have HB3:=@Aa (Below w1 w1 w3) (((Am _ _).alloc (Ao _) _).trans (hb3.mono aN));have X13:=@Aa (w3.rangeAt w1 0 [.string a1,.string b1,.string c1]) (Ah (Br w1 [.string a1,.string b1,.string c1] 62) aN hb3);have hz3:w1.heap.size<w3.heap.size:=by have:=hb3.size;simp at this;omega
 have Hs2:=Aa hs2;have Hb3:=Aa (Hb1.o.trans (HB3.o.mono aI));have HT9':=Aa (An HT9.o (show w.heap.size<w1.heap.size by omega) HB3.o);have HT10':=Aa (An HT10.o hz1 HB3.o);clear hp2 hb3 hs2 HT9 HT10;have HT9:=@Aa ((w3.alloc (.cells #[.string a2,.string b2,.string c2] 62)).there w 0 3) (au HT9'.out _);have HT10:=@Aa ((w3.alloc (.cells #[.string a2,.string b2,.string c2] 62)).there (w.heap.size+1) 0 3) (au HT10'.out _);have Hb4:=@Aa (Below w w (w3.alloc (.cells #[.string a2,.string b2,.string c2] 62))) (Hb3.o.alloc aI _);cases o1 with
 |none=>
  cases o2 with
  |none=>
   have Hev:Hid (Dt none none=false):=rfl;dsimp only[Option.isSome];go_wp2_with (first|((with_reducible refine Af (op:=⟨none,.store 62 _ _,_,_,_,none⟩) rfl 62 _ _ rfl w 0 [aa,aa,aa] ?_ ?_ ?_ ?_ ?_ ?_);rfl;rfl;(exact HT9.o);kernel_rfl;(simp[Value.oneCell']);intro w9 HS9;have HT10b:=@Aa (w9.there (w.heap.size+1) 0 3) fa)|((with_reducible refine Af (op:=⟨none,.store 62 _ _,_,_,_,none⟩) rfl 62 _ _ rfl (w.heap.size+1) 0 [aa,aa,aa] ?_ ?_ ?_ ?_ ?_ ?_);rfl;rfl;(exact HT10b.o);kernel_rfl;(simp[Value.oneCell']);intro w10 HS10))
   have HZ1:=@Aa (w10.rangeAt w 0 [aa,aa,aa]) bO;have HZ2:=@Aa (w10.rangeAt (w.heap.size+1) 0 [aa,aa,aa]) eL;have Hb9:=@Aa (Below w w w10) cE;refine aG (v:=.tuple #[.pointer none,.agg ([aa,aa,aa]:List Value).toArray,.agg ([aa,aa,aa]:List Value).toArray,.bool false]) ?_ rfl ?_
   ·exact jl
   exact mT
  |some y=>
   have Hev:Hid (Dt none (some y)=false):=rfl;dsimp only[Option.isSome];go_wp2_with (first|((with_reducible refine Af (op:=⟨none,.store 62 _ _,_,_,_,none⟩) rfl 62 _ _ rfl w 0 [aa,aa,aa] ?_ ?_ ?_ ?_ ?_ ?_);rfl;rfl;(exact HT9.o);kernel_rfl;(simp[Value.oneCell']);intro w9 HS9;have HT10b:=@Aa (w9.there (w.heap.size+1) 0 3) fa)|((with_reducible refine Af (op:=⟨none,.store 62 _ _,_,_,_,none⟩) rfl 62 _ _ rfl (w.heap.size+1) 0 [aa,aa,aa] ?_ ?_ ?_ ?_ ?_ ?_);rfl;rfl;(exact HT10b.o);kernel_rfl;(simp[Value.oneCell']);intro w10 HS10))
   have HZ1:=@Aa (w10.rangeAt w 0 [aa,aa,aa]) bO;have HZ2:=@Aa (w10.rangeAt (w.heap.size+1) 0 [aa,aa,aa]) eL;have Hb9:=@Aa (Below w w w10) cE;refine aG (v:=.tuple #[.pointer none,.agg ([aa,aa,aa]:List Value).toArray,.agg ([aa,aa,aa]:List Value).toArray,.bool false]) ?_ rfl ?_
   ·exact jl
   exact mT
 |some x=>
  obtain⟨S,k⟩:=x;cases o2 with
  |none=>
   have Hev:Hid (Dt (some (S,k)) none=false):=rfl;dsimp only[Option.isSome];go_wp2_with (first|((with_reducible refine Af (op:=⟨none,.store 62 _ _,_,_,_,none⟩) rfl 62 _ _ rfl w 0 [aa,aa,aa] ?_ ?_ ?_ ?_ ?_ ?_);rfl;rfl;(exact HT9.o);kernel_rfl;(simp[Value.oneCell']);intro w9 HS9;have HT10b:=@Aa (w9.there (w.heap.size+1) 0 3) fa)|((with_reducible refine Af (op:=⟨none,.store 62 _ _,_,_,_,none⟩) rfl 62 _ _ rfl (w.heap.size+1) 0 [aa,aa,aa] ?_ ?_ ?_ ?_ ?_ ?_);rfl;rfl;(exact HT10b.o);kernel_rfl;(simp[Value.oneCell']);intro w10 HS10))
   have HZ1:=@Aa (w10.rangeAt w 0 [aa,aa,aa]) bO;have HZ2:=@Aa (w10.rangeAt (w.heap.size+1) 0 [aa,aa,aa]) eL;have Hb9:=@Aa (Below w w w10) cE;refine aG (v:=.tuple #[.pointer none,.agg ([aa,aa,aa]:List Value).toArray,.agg ([aa,aa,aa]:List Value).toArray,.bool false]) ?_ rfl ?_
   ·exact jl
   exact mT
  |some y=>
   obtain⟨T,l⟩:=y;dsimp only[Option.isSome];obtain⟨xs,hxs,e1,e2,e3,hi1⟩:=Hs1.o _ _ rfl;obtain⟨ys,hys,e4,e5,e6,hi2⟩:=Hs2.o _ _ rfl;have hl1:Su (w.heap.size+2) w1 (.pointer q1) xs:=hi1.mono aN;have hl3:Su (w.heap.size+2) w3 (.pointer q1) xs:=hl1.below HB3.o;have hl3':Su (w.heap.size+2) w3 (.pointer q2) ys:=hi2.mono aO;have Hi1':=Aa hl3;have Hi2':=Aa hl3';have E1:=Aa e1;have E2:=Aa e2;have E3:=Aa e3;have E4:=Aa e4;have E5:=Aa e5;have E6:=Aa e6;obtain⟨hS,_,_,hk1,_,hr1⟩:=Hg1.o _ _ rfl;obtain⟨hT,_,_,hk2,_,hr2⟩:=Hg2.o _ _ rfl;subst hxs hys;clear e1 e2 e3 e4 e5 e6;go_wp2_with fail;obtain⟨w4,hw4⟩:∃w4,w4=w3.alloc (.cells #[.string a2,.string b2,.string c2] 62):=⟨_,rfl⟩
   rw[<-hw4]at HT9 HT10 Hb4 ⊢;have hz4:w4.heap.size=w3.heap.size+1:=by rw[hw4];simp
   have hb34:Below w3 w3 w4:=by rw[hw4];exact(Am _ _).alloc (Ao _) _
   have Hi1:=Aa (Hi1'.out.below hb34);have Hi2:=Aa (Hi2'.out.below hb34);have X13':=Aa (Ah X13.o hz3 hb34);have X16:=@Aa (w4.rangeAt w3 0 [.string a2,.string b2,.string c2]) (by rw[hw4];exact Br w3 [.string a2,.string b2,.string c2] 62);have Hcall:=Aa (fun(w0' W:World) (hN:w0'.heap.size=w4.heap.size) (h1:Su (w.heap.size+2) w0' (.pointer q1) xs) (h2:Su (w.heap.size+2) w0' (.pointer q2) ys) (h:Fb w0' (.pointer q1) (.pointer q2) W [])=>show Calls prog 119 #[.pointer (some ⟨w4.heap.size+1,0,none⟩),Eh k,Eh l] W (Vq w0' (.pointer q1) (.pointer q2) (J4 (Ag xs) (Ag ys) 65 k l []) W)from hN ▸ Qjx w0' _ _ xs ys h1.isc h2.isc hS hT 65 k l [] W hk1 hk2 hr1 hr2 (Kv.nil _ _) aN h);unfold Eh at Hcall;rw[<-E1.o,<-E2.o,<-E3.o,<-E4.o,<-E5.o,<-E6.o]at Hcall;have Hev:Hid (Dt (some (Ag xs,k)) (some (Ag ys,l))=(J4 (Ag xs) (Ag ys) 65 k l []).1):=rfl;generalize J4 (Ag xs) (Ag ys) 65 k l []=r at *;obtain⟨r1,r2⟩:=r;clear hw4 hb34 hi1 hi2 hl1 hl3 hl3' hS hT hk1 hk2 hr1 hr2;have hmb:(w4.alloc (.map #[] 0)).heap.size=w4.heap.size+1:=aN;obtain⟨w6,hw6⟩:∃w6,w6=(w4.alloc (.map #[] 0)).alloc (.cells #[.pointer q1,.pointer q2,.map (some (w3.heap.size+1))] 123):=⟨_,rfl⟩
   rw[<-hw6];have hz6:w6.heap.size=w4.heap.size+2:=by rw[hw6];simp
   have hb46:Below w4 w4 w6:=by rw[hw6];exact((Am _ _).alloc (Ao _) _).alloc aN _
   have Hst6:=Aa (show Fb w4 (.pointer q1) (.pointer q2) w6 []from by
    refine⟨hb46,by omega,by rw[hw6,<-hmb];simp,by rw[hw6,<-hmb];simp,by rw[hw6,<-hmb];simp;omega,?_⟩;rw[hw6];exact((Dq.made w4 prog 235 (.bool false)).alloc _).of_eq (fun l hl=>by simp[Qg]))
   have HE:=@Aa (Rm w (.pointer q1) (.pointer q2) xs ys w4.heap.size w1.heap.size w3.heap.size [.string a1,.string b1,.string c1] [.string a2,.string b2,.string c2] w4 w6 []) ⟨rfl,Hi1.o,Hi2.o,Hb4.o,HT9.o,HT10.o,X13'.out,X16.o,by omega,by omega,by omega,Hst6.o⟩;have g13:w.heap.size+2<=w1.heap.size:=aI;have g16:w.heap.size+2<=w3.heap.size:=aI;have hz43:w3.heap.size+1+1=w4.heap.size+1:=aI;rw[hz43];generalize w1.heap.size=B13 at *;generalize w3.heap.size=B16 at *;clear hw6 hb46 hmb;refine Gd [46,47,48,49,50,51,52,8,999,998,11]
    (fun i v W=>match i with|0=>v=.pointer (some ⟨w4.heap.size+1,0,none⟩)|1=>v=.agg ([.string a1,.string b1,.string c1]:List Value).toArray|2=>v=.agg ([.string a2,.string b2,.string c2]:List Value).toArray|3=>v=.pointer (some ⟨w4.heap.size+1,0,none⟩)|4=>v=.agg ([.string a1,.string b1,.string c1]:List Value).toArray|5=>v=.agg ([.string a2,.string b2,.string c2]:List Value).toArray|6=>v=.bool r1|7=>v=.pointer (some ⟨w4.heap.size+1,0,none⟩)|10=>v=.bool r1|_=>True)
    (fun L U W=>∃w0' mm,Rm w (.pointer q1) (.pointer q2) xs ys w4.heap.size B13 B16 [.string a1,.string b1,.string c1] [.string a2,.string b2,.string c2] w0' W mm/\(L 6=false->mm=[])/\(L 8=true->w0'.rangeAt w 0 [.string a1,.string b1,.string c1])/\(L 9=true->w0'.rangeAt (w.heap.size+1) 0 [.string a2,.string b2,.string c2])) (⟨w4,[],HE.o.drew,fun _=>rfl,fun h=>Bool.noConfusion h,fun h=>Bool.noConfusion h⟩) ?_ ?_
   ·repeat (first|exact Ai.nil|(refine Ai.cons ?_ ?_;rotate_left))
    all_goals
     rintro L U W hL hpre HR Hdep K hK;obtain⟨w0',mm,hE,hm0,R8,R9⟩:=HR.o;have x13:=hE.x13;have x16:=hE.x16;have a0:W.cell? (B13,0)=some (.string a1):=by simpa using Ac x13 0 rfl
     have a1':W.cell? (B13,1)=some (.string b1):=by simpa using Ac x13 1 rfl
     have a2':W.cell? (B13,2)=some (.string c1):=by simpa using Ac x13 2 rfl
     have b0:W.cell? (B16,0)=some (.string a2):=by simpa using Ac x16 0 rfl
     have b1':W.cell? (B16,1)=some (.string b2):=by simpa using Ac x16 1 rfl
     have b2':W.cell? (B16,2)=some (.string c2):=by simpa using Ac x16 2 rfl
     clear x13 x16;first|(simp[Region.binds]at hpre;done)|simp[Region.binds]at hpre|clear hpre
    iterate 6
     ·exact ii
    ·obtain rfl:=hm0 hL;go_simp;refine(Hcall.o w0' W hE.sz hE.i1 hE.i2 hE.st).mono ?_;rintro e w5 ⟨rfl,ha5,hk5⟩;exact hK _ _ _ rfl Ab ⟨w0',_,{hE with st:=ha5},fun h=>by simp at h,R8,R9⟩ aK
    ·exact ii
    ·rw[if_pos cC];refine wp_store_mid 62 _ _ rfl w 0 ([.string a1,.string b1,.string c1]:List Value).toArray rfl fh hE.t9 aP bu ?_;exact hK undef _ _ Ab Ab ⟨_,mm,hE.store (b:=w.heap.size) [.string a1,.string b1,.string c1] aI aI aI aI,hm0,fun _=>ac _ _ _ _ hE.t9',fun h=>am (R9 h) _ _ _ (.inl (show w.heap.size+1≠w.heap.size by omega))⟩ rfl
    ·rw[if_pos cC];refine wp_store_mid 62 _ _ rfl (w.heap.size+1) 0 ([.string a2,.string b2,.string c2]:List Value).toArray rfl fh hE.t10 aP bu ?_;exact hK undef _ _ Ab Ab ⟨_,mm,hE.store (b:=(w.heap.size+1)) [.string a2,.string b2,.string c2] aI aI aI aI,hm0,fun h=>am (R8 h) _ _ _ (.inl (show w.heap.size≠w.heap.size+1 by omega)),fun _=>ac _ _ _ _ hE.t10'⟩ rfl
    ·exact ii
   rintro L U W hL hφ hR;have e7:U 7=.pointer (some ⟨w4.heap.size+1,0,none⟩):=hφ 7 aL;have e10:U 10=.bool r1:=hφ 10 aL;simp only[e7,e10];clear hφ;obtain⟨w0',mm,hE,_,h8,h9⟩:=hR;have Z1:=Aa (Ah (h8 (hL 8 aL)) (show w.heap.size<w0'.heap.size by have:=hE.sz;have:=hE.lw;omega) hE.st.1);have Z2:=Aa (Ah (h9 (hL 9 aL)) (show w.heap.size+1<w0'.heap.size by have:=hE.sz;have:=hE.lw;omega) hE.st.1);have HEv:=Aa hE;clear hL hE h8 h9;go_wp2_with fail;refine aG (v:=.tuple #[.pointer (some ⟨w4.heap.size+1,0,none⟩),.agg ([.string a1,.string b1,.string c1]:List Value).toArray,.agg ([.string a2,.string b2,.string c2]:List Value).toArray,.bool r1]) ?_ rfl ?_
   ·exact Kz results72 _ _ w.heap.size (w.heap.size+1) [.string a1,.string b1,.string c1] [.string a2,.string b2,.string c2] _ _ _ rfl rfl rfl rfl Z1.o Z2.o underlying62 rfl aP aP
   have hE:=HEv.o;have hs:=hE.sz;obtain⟨s1,s2,s3,s4,s5,s6⟩:=hE.st;rw[hs]at s2 s3 s4;exact⟨_,_,_,_,_,_,_,by rw[Hev.o],hE.be.trans (s1.mono hE.be.size),fun _=>⟨_,_,k,l,xs,ys,w4.heap.size+1,q1,q2,rfl,rfl,rfl,rfl,rfl,E1.o,E2.o,E3.o,E4.o,E5.o,E6.o,by have:=hE.lw;omega,by omega,s3,s4,(hE.i1.below s1).mono aI,(hE.i2.below s1).mono aI⟩⟩
theorem Qfp.kinds{o1 o2:Option (List Ty × Kd)}{w w':World}{e:Ending}(h:Qfp o1 o2 w e w'):∃(q:Option Addr) (a1 b1 c1 a2 b2 c2:ByteArray),e=.returned (.tuple #[.pointer q,.agg #[.string a1,.string b1,.string c1],.agg #[.string a2,.string b2,.string c2],.bool (Dt o1 o2)])/\Below w w w':=by
 obtain⟨q,a1,b1,c1,a2,b2,c2,h1,h2,_⟩:=h;exact⟨q,a1,b1,c1,a2,b2,c2,h1,h2⟩
theorem Xb(s1 d1 s2 d2:List UInt8)(w:World)(h1:s1.length<=4000000)(h2:d1.length<=4000000)(h3:s2.length<=4000000)(h4:d2.length<=4000000):
  Calls prog 38 #[s1,d1,s2,d2] w fun e w'=>e=.returned (.bool (Dt (Az s1 d1) (Az s2 d2)))/\Below w w w':=by
 have Hr:=Aa (fun W=>Sy s1 d1 s2 d2 W h1 h2 h3 h4);generalize Az s1 d1=o1 at *;generalize Az s2 d2=o2 at *;go_enter func38,ntmps38;go_wp2_with fail;refine(Hr.o _).mono ?_;rintro e w1 hp;obtain⟨q,a1,b1,c1,a2,b2,c2,rfl,hb1⟩:=hp.kinds;have Hb1:=Aa hb1;clear hb1 hp;go_wp2_with fail;go_ret;exact⟨rfl,(Hb1.o.alloc Hb1.o.size _).alloc (by simp;have:=Hb1.o.size;omega) _⟩
end
end Go.Proofs.YtpjijpcemejlnaaGreatDoor
