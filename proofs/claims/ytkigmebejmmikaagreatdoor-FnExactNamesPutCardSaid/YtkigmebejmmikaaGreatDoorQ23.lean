/- Texts joined. Conditions: as each theorem names them. -/
import Derived.Maps.AppendAt
import Derived.Test.YtkigmebejmmikaaGreatDoorQ03
import Derived.Test.YtkigmebejmmikaaGreatDoorQ04
import Derived.Test.YtkigmebejmmikaaGreatDoorQ07
import Derived.Test.YtkigmebejmmikaaGreatDoorQ10
import Derived.Test.YtkigmebejmmikaaGreatDoorQ12
import Derived.Test.YtkigmebejmmikaaGreatDoorQ13
import Derived.Test.YtkigmebejmmikaaGreatDoorQ22
set_option maxRecDepth 100000
set_option maxHeartbeats 32000000
set_option linter.unusedVariables false
set_option linter.unusedSimpArgs false
namespace Go.Proofs.YtkigmebejmmikaaGreatDoor
open Go.RowKit Go.Proofs.Tryz
section
attribute [local go_sem] Qja Qit Qib Qgw ByteArray.mk_append_mk
theorem Zz(p:Value)(xs:List PT)(k:Kd)(w:World)(h:Qio w p xs)(hk:k.name.length<=100):
  Calls prog 54 #[p,Fv k] w fun e w'=>e=.returned (.bool (decide (Cb (Ag xs) k)))/\Below w.heap.size w w':=by
 obtain⟨b,mb,rfl,hb,hm,hn⟩:=h
 have Hn:=Aa hn
 clear hn
 unfold Fv
 generalize hd:(.cells #[.string ⟨k.signs.toArray⟩,.string ⟨k.base.toArray⟩,.string ⟨k.name.toArray⟩] 39:Obj)=ob
 have hl0:w.heap.size<(w.alloc ob).heap.size:=by simp
 have x1:(w.alloc ob).cell? ⟨w.heap.size,1,none⟩=some (.string ⟨k.base.toArray⟩):=by rw[<-hd];simp
 have x2:(w.alloc ob).cell? ⟨w.heap.size,2,none⟩=some (.string ⟨k.name.toArray⟩):=by rw[<-hd];simp
 have x3:(w.alloc ob).cell? ⟨b,1,none⟩=some (.map (some mb)):=by rw[World.cell?_alloc_old _ _ _ (show b≠w.heap.size by omega)];exact hm
 have hlook:∀q,(Instr.lookup 78 (.map (some mb)) (.string ⟨k.name.toArray⟩) false).run prog ((w.alloc ob).drewN q)=.ok (Rc (Ej xs k.name)) ((w.alloc ob).drewN q):=fun q=>Fa (Di.below (Hn.o.alloc _) (below_drewN (As _ _) q)) k.name (by omega)
 have Hd:=Aa hd
 have Hr:=Aa (show decide (Cb (Ag xs) k)=(decide (k.base≠[64]) || (Ej xs k.name).isSome)by
  have e:Cb (Ag xs) k↔(k.base=[64]->(Ej xs k.name).isSome=true):=by unfold Cb;rw[Gb];simp
  by_cases h:k.base=[64]
  ·cases hf:Ej xs k.name with
   |none=>rw[decide_eq_false (fun h2=>by have:=e.1 h2 h;rw[hf]at this;cases this)];simp[h]
   |some x=>rw[decide_eq_true (e.2 (fun _=>by rw[hf];rfl))];simp
  rw[decide_eq_true (e.2 (fun h2=>absurd h2 h))];simp[h])
 have Hb:=Aa (show Below w.heap.size w (w.alloc ob)from(As _ _).alloc (Ap _) _)
 go_enter func54,ntmps54
 rcases Decidable.em (k.base=[64])with h64|h64
 ·have t1:(k.base != [64])=false:=by simp[h64]
  have H64:=Aa h64
  clear h64 hd hl0
  go_wp2_with fail
  rw[Hd.o]
  cases hf:Ej xs k.name with
  |none=>
   rw[hf]at hlook
   have Hf:=Aa hf
   clear hf
   unfold Rc at hlook
   refine Be [5,6,7,8,9,10,11,12,13,14,15,16,17,4] (by kernel_rfl) (by kernel_rfl) (by kernel_rfl) (fun u=>by dsimp only[Br,Bi,List.set,Nat.zero_add,Nat.reduceAdd])
    (fun i v W=>match i with|0=>v=.pointer (some ⟨w.heap.size,1,none⟩)|1=>v=.string ⟨k.base.toArray⟩|2=>v=.bool false|3=>v=.bool false|4=>v=.pointer (some ⟨b,0,none⟩)|5=>v=.pointer (some ⟨b,0,none⟩)|6=>v=.pointer (some ⟨b,1,none⟩)|7=>v=.map (some mb)|8=>v=.pointer (some ⟨w.heap.size,2,none⟩)|9=>v=.string ⟨k.name.toArray⟩|10=>v=.pointer none|11=>v=.bool false|12=>v=.bool false|13=>v=.bool false|_=>True) (fun L U W=>∃q,W=(w.alloc ob).drewN q) (fun _ _=>True) (fun _ _ _ _ _ h=>h) ⟨1,rfl⟩ ?_ ?_
   ·repeat (first|exact Aq.nil|(refine Aq.cons ?_ ?_;rotate_left))
    all_goals
     rintro L U W hL hpre ⟨q,rfl⟩ hun hdep K hK
     have hlq:=hlook q
     clear hun hdep
     first|(simp[Region.binds]at hpre;done)|simp[Region.binds]at hpre|clear hpre
     go_simp
     first|exact hK _ _ _ rfl Ab ⟨q,rfl⟩ rfl|exact hK _ _ _ rfl Ab ⟨q,rfl⟩ (by simp[Act.put,hpre,H64.o])|exact hK undef _ _ Ab Ab ⟨q,rfl⟩ (by simp[Act.put,hpre,H64.o])|exact hK _ _ _ Ab Ab ⟨q,rfl⟩ rfl|exact hK _ _ _ Ab Ab ⟨q,rfl⟩ (by simp[Act.put,hpre,H64.o])
   rintro L U W hL hφ ⟨q,rfl⟩
   have e13:U 13=.bool false:=hφ 13 (by decide)
   simp only[e13]
   go_wp2_with fail
   go_ret
   exact⟨D4 (Ci (by rw[Hr.o,Hf.o];simp[H64.o])),below_drewN Hb.o _⟩
  |some x=>
   rw[hf]at hlook
   have Hf:=Aa hf
   clear hf
   unfold Rc PT.ptr at hlook
   refine Be [5,6,7,8,9,10,11,12,13,14,15,16,17,4] (by kernel_rfl) (by kernel_rfl) (by kernel_rfl) (fun u=>by dsimp only[Br,Bi,List.set,Nat.zero_add,Nat.reduceAdd])
    (fun i v W=>match i with|0=>v=.pointer (some ⟨w.heap.size,1,none⟩)|1=>v=.string ⟨k.base.toArray⟩|2=>v=.bool false|3=>v=.bool false|4=>v=.pointer (some ⟨b,0,none⟩)|5=>v=.pointer (some ⟨b,0,none⟩)|6=>v=.pointer (some ⟨b,1,none⟩)|7=>v=.map (some mb)|8=>v=.pointer (some ⟨w.heap.size,2,none⟩)|9=>v=.string ⟨k.name.toArray⟩|10=>v=.pointer (some ⟨x.blk,0,none⟩)|11=>v=.bool true|12=>v=.bool true|13=>v=.bool true|_=>True) (fun L U W=>∃q,W=(w.alloc ob).drewN q) (fun _ _=>True) (fun _ _ _ _ _ h=>h) ⟨1,rfl⟩ ?_ ?_
   ·repeat (first|exact Aq.nil|(refine Aq.cons ?_ ?_;rotate_left))
    all_goals
     rintro L U W hL hpre ⟨q,rfl⟩ hun hdep K hK
     have hlq:=hlook q
     clear hun hdep
     first|(simp[Region.binds]at hpre;done)|simp[Region.binds]at hpre|clear hpre
     go_simp
     first|exact hK _ _ _ rfl Ab ⟨q,rfl⟩ rfl|exact hK _ _ _ rfl Ab ⟨q,rfl⟩ (by simp[Act.put,hpre,H64.o])|exact hK undef _ _ Ab Ab ⟨q,rfl⟩ (by simp[Act.put,hpre,H64.o])|exact hK _ _ _ Ab Ab ⟨q,rfl⟩ rfl|exact hK _ _ _ Ab Ab ⟨q,rfl⟩ (by simp[Act.put,hpre,H64.o])
   rintro L U W hL hφ ⟨q,rfl⟩
   have e13:U 13=.bool true:=hφ 13 (by decide)
   simp only[e13]
   go_wp2_with fail
   go_ret
   exact⟨D4 (Ci (by rw[Hr.o,Hf.o];simp)),below_drewN Hb.o _⟩
 have t1:(k.base != [64])=true:=by simp[h64]
 have H64:=Aa h64
 clear h64 hd hl0
 go_wp2_with fail
 rw[Hd.o]
 refine Be [5,6,7,8,9,10,11,12,13,14,15,16,17,4] (by kernel_rfl) (by kernel_rfl) (by kernel_rfl) (fun u=>by dsimp only[Br,Bi,List.set,Nat.zero_add,Nat.reduceAdd])
  (fun i v W=>match i with|0=>v=.pointer (some ⟨w.heap.size,1,none⟩)|1=>v=.string ⟨k.base.toArray⟩|2=>v=.bool true|3=>v=.bool true|12=>v=.bool true|13=>v=.bool true|_=>True) (fun L U W=>∃q,W=(w.alloc ob).drewN q) (fun _ _=>True) (fun _ _ _ _ _ h=>h) ⟨1,rfl⟩ ?_ ?_
 ·repeat (first|exact Aq.nil|(refine Aq.cons ?_ ?_;rotate_left))
  all_goals
   rintro L U W hL hpre ⟨q,rfl⟩ hun hdep K hK
   have hlq:=hlook q
   clear hun hdep
   first|(simp[Region.binds]at hpre;done)|simp[Region.binds]at hpre|clear hpre
   go_simp
   first|exact hK _ _ _ rfl Ab ⟨q,rfl⟩ rfl|exact hK _ _ _ rfl Ab ⟨q,rfl⟩ (by simp[Act.put,hpre,H64.o])|exact hK undef _ _ Ab Ab ⟨q,rfl⟩ (by simp[Act.put,hpre,H64.o])|exact hK _ _ _ Ab Ab ⟨q,rfl⟩ rfl|exact hK _ _ _ Ab Ab ⟨q,rfl⟩ (by simp[Act.put,hpre,H64.o])
 rintro L U W hL hφ ⟨q,rfl⟩
 have e13:U 13=.bool true:=hφ 13 (by decide)
 simp only[e13]
 go_wp2_with fail
 go_ret
 exact⟨D4 (Ci (by rw[Hr.o];simp[H64.o])),below_drewN Hb.o _⟩
theorem Qw{S:List Ty}{n:Nat}{t:Ty}(h:E0 S t=none):Bt S (n+1) t=true:=by rw[Bt,h]
theorem Qhz{S:List Ty}{n:Nat}{t u:Ty}(h:E0 S t=some u):Bt S (n+1) t=Bt S n u:=by rw[Bt,h]
theorem Qdw{S:List Ty}{t:Ty}(h:t.sort≠85):E0 S t=none:=if_neg h
theorem Qd6{S:List Ty}{t:Ty}{f:Fd}{fs:List Fd}(h:t.sort=85)(hf:t.fields=f::fs):E0 S t=if f.kind.signs=[]/\f.kind.base=[64]then By S f.kind.name else none:=by
 unfold E0;rw[if_pos h,hf]
theorem Zm{t:Ty}(h:Dc t)(hs:t.sort=85):∃f fs,t.fields=f::fs/\Co f.kind:=by
 obtain⟨_,_,h3,_,h5⟩:=h
 cases hf:t.fields with
 |nil=>have:=h5 hf;rw[hs]at this;exact absurd this (by decide)
 |cons f fs=>exact⟨f,fs,rfl,((h3.1 f (by rw[hf];simp)).2.2.2.2 (by rw[hs];decide)).1⟩
theorem Qdn(p:Value)(xs:List PT)(x:PT)(w:World)(h:Qio w p xs)(hT:∀y∈xs,Qv w y)(hok:∀y∈xs,Dc y.ty)(hS:Fq (Ag xs))(hx:x∈xs):
  Calls prog 91 #[p,x.ptr] w fun e w'=>e=.returned (.bool (Bt (Ag xs) 9 x.ty))/\Below w.heap.size w w':=by
 have Hmap:=Aa h
 obtain⟨b,mb,rfl,hb,hm,hn⟩:=h
 have HT:=Aa hT
 have Hok:=Aa hok
 have HS:=Aa hS
 have Hx:=Aa hx
 have Hn:=Aa hn
 have Hm:=Aa hm
 clear hT hok hS hx hn hm
 unfold PT.ptr
 go_enter func91,ntmps91
 go_wp2_with fail
 go_loopw [1,6] (fun t i wr=>∃(n:Nat) (y:PT),i=.int .i64 n/\n<=9/\t=.pointer (some ⟨y.blk,0,none⟩)/\Hid (y∈xs)/\Hid (Bt (Ag xs) 9 x.ty=Bt (Ag xs) (9 - n) y.ty)/\Hid (Below w.heap.size w wr)) (fun _ i _=>9 - (intOf i).toNat)
 case atStart=>exact⟨0,x,rfl,by omega,rfl,Hx.o,rfl,As _ _⟩
 case round=>
  obtain⟨n,y,rfl,hn9,rfl,hy,he,hbr⟩:=hrel
  have n1:(0:Int)<=(n:Int):=by omega
  obtain⟨hyb,_,y0,y1,y2,y3,A,cA,hyf,hl8,hrow⟩:=(HT.o y hy.o).below hbr.o
  have Hrow:=Aa hrow
  have hzw:=hbr.o.size
  rw[hyf]at y2
  clear hrow hyf y1 y3
  by_cases hlt:n<9
  ·have n2:(n:Int)<9:=by omega
   have he2:=Aa (show Bt (Ag xs) 9 x.ty=Bt (Ag xs) (8 - n+1) y.ty by rw[he.o,show 9 - n=8 - n+1 by omega])
   by_cases h85:y.ty.sort=85
   ·have t1:((y.ty.sort.toNat:Int) != 85)=false:=Kn (d:=85) h85
    obtain⟨f,fs,hf,hkd⟩:=Zm (Hok.o y hy.o) h85
    have Hnext:=Aa (Qd6 (S:=Ag xs) h85 hf)
    have hpos:0<y.ty.fields.length:=by rw[hf];simp
    obtain⟨bA,oA,rfl,hbA,hrg⟩:=Q7.range Hrow.o hpos
    have hf0:y.ty.fields[0]=f:=by simp[hf]
    rw[hf0,Nat.zero_mul,Nat.add_zero]at hrg
    have Hrg:=Aa (show wr.rangeAt bA (oA+2) [.string ⟨f.kind.signs.toArray⟩,.string ⟨f.kind.base.toArray⟩,.string ⟨f.kind.name.toArray⟩]from Yd [.int .i64 (f.tag:Int),.string ⟨f.name.toArray⟩] _ [.string ⟨f.given.toArray⟩] hrg)
    have hp1:(0:Int)<(y.ty.fields.length:Int):=by omega
    have Href:=Aa (HS.o y.ty (List.mem_map_of_mem (f:=(·.ty)) hy.o) (by rw[h85];decide) f (by rw[hf];simp))
    have Hkd:=Aa hkd
    have hnl:=Gp hkd
    clear h85 hf hf0 hrg hkd
    have hbb:=Aa ((Hm.o))
    by_cases hsg:f.kind.signs=[]
    ·have s1:(f.kind.signs != [])=false:=by simp[hsg]
     have s2:f.kind.signs.isEmpty=true:=by simp[hsg]
     have s4:(!f.kind.signs.isEmpty)=false:=by simp[hsg]
     by_cases h64:f.kind.base=[64]
     ·have s3:(f.kind.base == [64])=true:=by simp[h64]
      have s5:(f.kind.base != [64])=false:=by simp[h64]
      have hsome:=Href.o h64
      rw[Gb]at hsome
      cases hz:Ej xs f.kind.name with
      |none=>rw[hz]at hsome;cases hsome
      |some z=>
       have Hz:=Aa (show Bt (Ag xs) 9 x.ty=Bt (Ag xs) (8 - n) z.ty from by
        rw[he2.o]
        exact Qhz (by rw[Hnext.o,if_pos ⟨hsg,h64⟩,Gb,hz];rfl))
       have Hzm:=Aa (Dz hz).1
       generalize hd:(.cells #[.string ⟨f.kind.signs.toArray⟩,.string ⟨f.kind.base.toArray⟩,.string ⟨f.kind.name.toArray⟩] 39:Obj)=ob
       have x2:(wr.alloc ob).cell? ⟨wr.heap.size,2,none⟩=some (.string ⟨f.kind.name.toArray⟩):=by rw[<-hd];simp
       have x3:(wr.alloc ob).cell? ⟨b,1,none⟩=some (.map (some mb)):=by
        rw[World.cell?_alloc_old _ _ _ (show b≠wr.heap.size by omega)]
        exact(hbr.o.cell (p:=⟨b,1,none⟩) hb).trans Hm.o
       have hlook:∀q,(Instr.lookup 78 (.map (some mb)) (.string ⟨f.kind.name.toArray⟩) false).run prog ((wr.alloc ob).drewN q)=.ok (.pointer (some ⟨z.blk,0,none⟩)) ((wr.alloc ob).drewN q):=fun q=>by
        have:=Fa (Di.below (Di.alloc (Di.below Hn.o hbr.o) ob) (below_drewN (As _ _) q)) f.kind.name (by omega)
        rw[hz]at this
        exact this
       have Hbb:=Aa (show Below w.heap.size w (wr.alloc ob)from hbr.o.alloc hzw _)
       have Hd:=Aa hd
       clear hd hsg h64 hz hsome
       go_wp2_with ((with_reducible refine wpList_load_mid (op:=⟨_,.load 39 _,_,_,_,none⟩) rfl 39 _ rfl bA (oA+2) ?_ _ _ Hrg.o underlying39 ?_ ?_ ?_);rfl;rfl;kernel_rfl)
       rw[Hd.o]
       refine Be [28,29,30,31,32,33,34,1] (by kernel_rfl) (by kernel_rfl) (by kernel_rfl) (fun u=>by dsimp only[Br,Bi,List.set,Nat.zero_add,Nat.reduceAdd])
        (fun i v W=>match i with|0=>v=.pointer (some ⟨b,0,none⟩)|1=>v=.pointer (some ⟨b,0,none⟩)|2=>v=.pointer (some ⟨b,1,none⟩)|3=>v=.map (some mb)|4=>v=.pointer (some ⟨wr.heap.size,2,none⟩)|5=>v=.string ⟨f.kind.name.toArray⟩|6=>v=.pointer (some ⟨z.blk,0,none⟩)|7=>v=.pointer (some ⟨z.blk,0,none⟩)|_=>True) (fun L U W=>∃q,W=(wr.alloc ob).drewN q) (fun _ _=>True) (fun _ _ _ _ _ h=>h) ⟨1,rfl⟩ ?_ ?_
       ·repeat (first|exact Aq.nil|(refine Aq.cons ?_ ?_;rotate_left))
        all_goals
         rintro L U W hL hpre ⟨q,rfl⟩ hun hdep K hK
         have hlq:=hlook q
         clear hun hdep
         first|(simp[Region.binds]at hpre;done)|simp[Region.binds]at hpre|clear hpre
         go_simp
         first|exact hK _ _ _ rfl Ab ⟨q,rfl⟩ rfl|exact hK _ _ _ rfl Ab ⟨q,rfl⟩ (by simp[Act.put,hpre])
       rintro L U W hL hφ ⟨q,rfl⟩
       have e7:U 7=.pointer (some ⟨z.blk,0,none⟩):=hφ 7 (by decide)
       simp only[e7]
       clear hφ hL hlook x2 x3
       go_wp2_with fail
       go_roundw
       case rel=>exact⟨n+1,z,by go_num,by omega,rfl,Hzm.o,by show _=Bt (Ag xs) (9 - (n+1)) z.ty;rw[Hz.o,show 9 - (n+1)=8 - n by omega],below_drewN Hbb.o _⟩
       case measure=>simp[intOf];omega
     have s3:(f.kind.base == [64])=false:=by simp[h64]
     have s5:(f.kind.base != [64])=true:=by simp[h64]
     have Hend:=Aa (he2.o.trans (Qw (by rw[Hnext.o,if_neg (fun h=>h64 h.2)])))
     clear hsg h64
     go_wp2_with ((with_reducible refine wpList_load_mid (op:=⟨_,.load 39 _,_,_,_,none⟩) rfl 39 _ rfl bA (oA+2) ?_ _ _ Hrg.o underlying39 ?_ ?_ ?_);rfl;rfl;kernel_rfl)
     go_ret
     exact⟨D4 (Ci Hend.o.symm),hbr.o.alloc hzw _⟩
    have s1:(f.kind.signs != [])=true:=by simp[hsg]
    have s2:f.kind.signs.isEmpty=false:=by simp[hsg]
    have s4:(!f.kind.signs.isEmpty)=true:=by simp[hsg]
    have Hend:=Aa (he2.o.trans (Qw (by rw[Hnext.o,if_neg (fun h=>hsg h.1)])))
    clear hsg
    go_wp2_with ((with_reducible refine wpList_load_mid (op:=⟨_,.load 39 _,_,_,_,none⟩) rfl 39 _ rfl bA (oA+2) ?_ _ _ Hrg.o underlying39 ?_ ?_ ?_);rfl;rfl;kernel_rfl)
    go_ret
    exact⟨D4 (Ci Hend.o.symm),hbr.o.alloc hzw _⟩
   have t1:((y.ty.sort.toNat:Int) != 85)=true:=Ng (d:=85) h85
   have Hend:=Aa (he2.o.trans (Qw (Qdw h85)))
   clear h85
   go_wp2_with fail
   go_ret
   exact⟨D4 (Ci Hend.o.symm),hbr.o⟩
  ·obtain rfl:n=9:=by omega
   have Hend:=Aa (show Bt (Ag xs) 9 x.ty=false from he.o)
   go_wp2_with fail
   go_ret
   exact⟨D4 (Ci Hend.o.symm),hbr.o⟩
theorem Qv.kept{w w':World}{x:PT}{row:Option Nat}(h:Qv w x)(hg:w.grownBy w' row)(h1:row≠some x.blk)(h2:∀k,0<x.ty.fields.length->x.fv.ownBlock=some k->row≠some k):Qv w' x:=by
 obtain⟨h0,hk,a0,a1,a2,a3,A,c,e,hl,hr⟩:=h
 have hne:some x.blk≠row:=fun e=>h1 e.symm
 refine⟨Nat.lt_of_lt_of_le h0 hg.size,hk.grown h0 hg hne,hg.cell a0 hne,hg.cell a1 hne,hg.cell a2 hne,hg.cell a3 hne,A,c,e,hl,hr.1,hr.2.1,fun hn=>?_⟩
 obtain⟨b,off,eA,hb,hc⟩:=hr.2.2 hn
 have hne2:some b≠row:=fun e2=>h2 b (by omega) (by rw[e,eA];rfl) e2.symm
 exact⟨b,off,eA,Nat.lt_of_lt_of_le hb hg.size,fun j u hu=>hg.cell (hc j u hu) hne2⟩
theorem Qv.fvlt{w:World}{x:PT}(h:Qv w x){k:Nat}(hn:0<x.ty.fields.length)(hk:x.fv.ownBlock=some k):k<w.heap.size:=by
 obtain⟨_,_,_,_,_,_,A,c,e,_,hr⟩:=h
 obtain⟨b,off,eA,hb,_⟩:=hr.2.2 (by omega)
 rw[e,eA]at hk
 simp only[Value.ownBlock,Option.some.injEq]at hk
 omega
def Qa4(lo:Nat)(x:PT):Prop:=lo<=x.blk/\∀k,0<x.ty.fields.length->x.fv.ownBlock=some k->lo<=k
def Qge(v:Value)(x:PT):Prop:=v.ownBlock≠some x.blk/\∀k,0<x.ty.fields.length->x.fv.ownBlock=some k->v.ownBlock≠some k
def T2(w:World)(lo:Nat)(v:Value)(xs:List PT):Prop:=(∀x∈xs,Qv w x/\Qa4 lo x/\Qge v x)/\xs.Pairwise fun x y=>x.blk≠y.blk
theorem T2.far{w w':World}{lo b:Nat}{v:Value}{xs:List PT}(h:T2 w lo v xs)(hg:w.grownBy w' (some b))(hb:b<lo):T2 w' lo v xs:=
 ⟨fun x hx=>by
  obtain⟨h1,h2,h3⟩:=h.1 x hx
  refine⟨h1.kept hg (fun e=>?_) (fun k hn hk e=>?_),h2,h3⟩
  ·injection e with e;have:=h2.1;omega
  injection e with e;have:=h2.2 k hn hk;omega,h.2⟩
theorem T2.below{w w':World}{lo:Nat}{v:Value}{xs:List PT}(h:T2 w lo v xs)(hb:Below w.heap.size w w'):T2 w' lo v xs:=
 ⟨fun x hx=>⟨(h.1 x hx).1.below hb,(h.1 x hx).2⟩,h.2⟩
theorem T2.push{wo w3 w5:World}{lo base n k1:Nat}{e:TypeId}{v v5:Value}{cs:List Value}{xs:List PT}{x:PT}(h:T2 wo lo v xs)(hb:Below wo.heap.size wo w3)(hown:wo.ownsRow base e k1 v n cs)(hx:Qv w3 x)(hxb:wo.heap.size<=x.blk)
  (hxf:∀k,x.fv.ownBlock=some k->wo.heap.size<=k) (hlo:lo<=wo.heap.size) (hg:w3.grownBy w5 v.ownBlock) (hwh:v5.ownBlock=v.ownBlock\/∃k,v5.ownBlock=some k/\w3.heap.size<=k):T2 w5 lo v5 (xs++[x]):=by
 have hall:∀y∈xs++[x],Qv w3 y/\Qa4 lo y/\Qge v y:=by
  intro y hy
  rcases List.mem_append.1 hy with hy|hy
  ·obtain⟨h1,h2⟩:=h.1 y hy
   exact⟨h1.below hb,h2⟩
  simp at hy;subst hy
  refine⟨hx,⟨by omega,fun k _ hk=>by have:=hxf k hk;omega⟩,fun e=>?_,fun k _ hk e=>?_⟩
  ·have:=(hown.lt _ e).2;omega
  have:=(hown.lt _ e).2;have:=hxf k hk;omega
 refine⟨fun y hy=>?_,?_⟩
 ·obtain⟨h1,h2,h3⟩:=hall y hy
  refine⟨h1.kept hg h3.1 h3.2,h2,?_⟩
  rcases hwh with hwh|⟨k,hwh,hk⟩
  ·unfold Qge;rw[hwh];exact h3
  refine⟨fun e=>?_,fun k2 hn hk2 e=>?_⟩
  ·rw[hwh]at e;injection e with e;have:=h1.1;omega
  rw[hwh]at e;injection e with e;have:=h1.fvlt hn hk2;omega
 rw[List.pairwise_append]
 refine⟨h.2,by simp,fun y hy z hz=>?_⟩
 simp at hz;subst hz
 have:=(h.1 y hy).1.1
 omega
def T0(lo:Nat)(w:World)(p:Value)(xs:List PT):Prop:=
 ∃b A c mb,p=.pointer (some ⟨b,0,none⟩)/\b<w.heap.size/\w.cell? ⟨b,0,none⟩=some (.slice A xs.length c)/\w.cell? ⟨b,1,none⟩=some (.map (some mb))/\Bh w A xs.length (xs.map (·.ptr))/\Nn w mb xs/\(∀x∈xs,Qv w x)/\(xs.Pairwise fun x y=>x.blk≠y.blk) /\
  lo<=b/\lo<=mb/\(∀g o,0<xs.length->A=some ⟨g,o,none⟩->lo<=g)/\∀x∈xs,Qa4 lo x
theorem T0.isc{lo:Nat}{w:World}{p:Value}{xs:List PT}(h:T0 lo w p xs):Qn w p xs:=by
 obtain⟨b,A,c,mb,h0,h1,h2,h3,h4,h5,h6,h7,_⟩:=h
 exact⟨b,A,c,mb,h0,h1,h2,h3,h4,h5,h6,h7⟩
theorem T0.below{lo:Nat}{w w':World}{p:Value}{xs:List PT}(h:T0 lo w p xs)(hb:Below w.heap.size w w'):T0 lo w' p xs:=by
 obtain⟨b,A,c,mb,e,h0,h1,h2,h3,h4,h5,h6,h7⟩:=h
 obtain⟨hc,_,hz⟩:=Bw hb
 exact⟨b,A,c,mb,e,hz _ h0,(hc _ _ h0).trans h1,(hc _ _ h0).trans h2,h3.below hb,Di.below h4 hb,fun x hx=>(h5 x hx).below hb,h6,h7⟩
theorem T0.far{lo b0:Nat}{w w':World}{p:Value}{xs:List PT}(h:T0 lo w p xs)(hg:w.grownBy w' (some b0))(hb0:b0<lo):T0 lo w' p xs:=by
 obtain⟨b,A,c,mb,e,h0,h1,h2,h3,h4,h5,h6,l1,l2,l3,l4⟩:=h
 have hne:some b≠some b0:=by intro e;injection e with e;omega
 refine⟨b,A,c,mb,e,Nat.lt_of_lt_of_le h0 hg.size,hg.cell h1 hne,hg.cell h2 hne,⟨h3.1,h3.2.1,fun hn=>?_⟩,Di.kept h4 hg (by intro e;injection e with e;omega),fun x hx=>(h5 x hx).kept hg (fun e=>?_) (fun k hn hk e=>?_),h6,l1,l2,l3,l4⟩
 ·obtain⟨g,o,eA,hgl,hc⟩:=h3.2.2 hn
  have:=l3 g o hn eA
  exact⟨g,o,eA,Nat.lt_of_lt_of_le hgl hg.size,fun j u hu=>hg.cell (hc j u hu) (by intro e;injection e with e;simp at e;omega)⟩
 ·injection e with e;have:=(l4 x hx).1;omega
 injection e with e;have:=(l4 x hx).2 k hn hk;omega
def Gn(o:Option (List Ty))(w:World)(e:Ending)(w':World):Prop:=
 (match o with
  |some S=>∃p xs,Ag xs=S/\e=.returned (.tuple #[p,.bool true])/\T0 w.heap.size w' p xs
  |none=>∃p:Option Addr,e=.returned (.tuple #[.pointer p,.bool false]))/\Below w.heap.size w w'
theorem Gn.no{w w':World}{e:Ending}{o:Option (List Ty)}(ho:o=none){p:Option Addr}(he:e=.returned (.tuple #[.pointer p,.bool false]))(hb:Below w.heap.size w w'):Gn o w e w':=by
 rw[ho];exact⟨⟨p,he⟩,hb⟩
theorem Gn.yes{w w':World}{e:Ending}{o:Option (List Ty)}{p:Value}{xs:List PT}(ho:o=some (Ag xs))(he:e=.returned (.tuple #[p,.bool true]))(hs:T0 w.heap.size w' p xs)(hb:Below w.heap.size w w'):Gn o w e w':=by
 rw[ho];exact⟨⟨p,xs,rfl,he,hs⟩,hb⟩
theorem Qah{xs:List PT}{x:PT}(h:Ej xs x.ty.name=none)(l:Lit)(hl:WideAt.IsKeyLit l):(if l.sameKey (.string x.ty.name)=true then x.ptr else T7 xs l)=T7 (xs++[x]) l:=by
 by_cases e:l=.string x.ty.name
 ·subst e
  rw[if_pos (WideAt.sameKey_self hl)]
  unfold Ej at h
  show x.ptr=Rc ((xs++[x]).find? fun y=>decide (y.ty.name=x.ty.name))
  rw[List.find?_append,h]
  simp[Rc]
 rw[if_neg (fun hh=>e ((WideAt.sameKey_iff (show WideAt.IsKeyLit (.string x.ty.name)from Ab)).1 hh))]
 cases l with
 |string s=>
  have hne:¬x.ty.name=s:=fun h2=>e (by rw[h2])
  unfold T7 Ej
  simp only
  rw[List.find?_append]
  simp[hne]
 |_=>rfl
theorem Tf{xs:List PT}{n:Cl}:Ej xs n=none↔(Ag xs).any (fun u=>decide (u.name=n))=false:=by
 unfold Ej Ag
 rw[List.find?_eq_none,List.any_map]
 simp
theorem Tryz.infoPt:(prog.info? 76).map (fun i=>(i.zero,i.size,i.bytes))=some (some (.pointer none),1,8):=by kernel_rfl
theorem Xv(s:List UInt8)(w:World)(hs:s.length<=4000000)(h:400<s.length):
  Calls prog 52 #[.string ⟨s.toArray⟩] w (Gn (Ca s) w):=by
 have HF:=Aa (show Ca s=none from if_pos h)
 have t1:(400:Int)<(s.length:Int):=by omega
 go_enter func52,ntmps52
 go_wp2_with fail
 go_ret2
 exact Gn.no HF.o rfl (As _ _)
theorem Qb5(s:List UInt8)(w:World)(hs:s.length<=400):
  Calls prog 52 #[.string ⟨s.toArray⟩] w (Gn (Ca s) w):=by
 have HF:=Aa (show Ca s=(match Ez (s.length+1) s []with|none=>none|some S=>if Fq S/\(∀t∈S,Bt S 9 t=true)then some S else none)from if_neg (by omega))
 have t1:¬(400:Int)<(s.length:Int):=by omega
 have hmm:=@run_makeMap prog
 go_enter func52,ntmps52
 go_wp2_with fail
 clear hmm
 have HM0:=Aa (show Di prog 9 (.pointer none) ((w.alloc (.map #[] 0)).alloc (.cells #[.slice none 0 0,.map (some w.heap.size)] 80)) w.heap.size 0 (T7 [])from((Di.made w prog 9 (.pointer none)).alloc _).of_eq (fun l hl=>by cases l<;>rfl))
 have HR0:=Aa (show ((w.alloc (.map #[] 0)).alloc (.cells #[.slice none 0 0,.map (some w.heap.size)] 80)).rangeAt (w.heap.size+1) 0 [.slice none 0 0,.map (some w.heap.size)]from by
  have:=Ck (w.alloc (.map #[] 0)) [.slice none 0 0,.map (some w.heap.size)] 80
  simpa using this)
 have HK0:=Aa (show ((w.alloc (.map #[] 0)).alloc (.cells #[.slice none 0 0,.map (some w.heap.size)] 80)).there (w.heap.size+1) 0 2 from by
  have:=Cw (w.alloc (.map #[] 0)) [.slice none 0 0,.map (some w.heap.size)] 80
  simpa using this)
 have HB0:=Aa (show Below w.heap.size w ((w.alloc (.map #[] 0)).alloc (.cells #[.slice none 0 0,.map (some w.heap.size)] 80))from((As _ _).alloc (Ap _) _).alloc (by simp) _)
 have HO0:=Aa (World.ownsRow_nil ((w.alloc (.map #[] 0)).alloc (.cells #[.slice none 0 0,.map (some w.heap.size)] 80)) (w.heap.size+2) 76 1)
 go_loopw [0] (fun l wr=>∃(u:List UInt8) (fuel:Nat) (xs:List PT) (tv:Value),l=.string ⟨u.toArray⟩/\u.length<=s.length/\u.length<fuel/\Hid (Ez (s.length+1) s []=Ez fuel u (Ag xs))/\xs.length<=8 /\
   Hid (wr.rangeAt (w.heap.size+1) 0 [tv,.map (some w.heap.size)])/\Hid (wr.there (w.heap.size+1) 0 2)/\Hid (wr.ownsRow (w.heap.size+2) 76 1 tv xs.length (xs.map (·.ptr))) /\
   Hid (Nn wr w.heap.size xs)/\Hid (T2 wr (w.heap.size+2) tv xs)/\Hid (Below w.heap.size w wr)/\w.heap.size+2<=wr.heap.size) (fun l _=>Px l)
 case atStart=>exact⟨s,s.length+1,[],.slice none 0 0,rfl,Ap _,by omega,rfl,by simp,HR0.o,HK0.o,HO0.o,HM0.o,⟨by simp,List.Pairwise.nil⟩,HB0.o,by simp⟩
 case round=>
  clear HM0 HR0 HK0 HB0 HO0
  obtain⟨wo,rfl⟩:∃wo:World,wo=wr:=⟨_,rfl⟩
  obtain⟨u,fuel,xs,tv,rfl,hul,hfu,hlin,hx8,hT,hK,hown,hnm,hty,hbr,hzr⟩:=hrel
  obtain⟨A,cA,rfl,hrow⟩:=Bh.own hown.o
  have Hrow:=Aa hrow
  have s0:wo.cell? ⟨w.heap.size+1,0,none⟩=some (.slice A xs.length cA):=by simpa using Ac hT.o 0 rfl
  have s1:wo.cell? ⟨w.heap.size+1,1,none⟩=some (.map (some w.heap.size)):=by simpa using Ac hT.o 1 rfl
  obtain⟨fuel,rfl⟩:∃f,fuel=f+1:=⟨fuel - 1,by omega⟩
  clear hrow
  by_cases hu:u=[]
  ·subst hu
   have Hlin:=Aa (show Ez (s.length+1) s []=some (Ag xs)by rw[hlin.o];simp[Ez])
   have hgood:=Qx.1 Hlin.o
   have Htok:=Aa (show ∀x∈xs,Dc x.ty from fun x hx=>hgood.1.1 x.ty (List.mem_map_of_mem (f:=(·.ty)) hx))
   have HF2:=Aa (show Ca s=if Fq (Ag xs)/\(∀t∈Ag xs,Bt (Ag xs) 9 t=true)then some (Ag xs)else none from by rw[HF.o,Hlin.o])
   have HSC:=Aa (show Qn wo (.pointer (some ⟨w.heap.size+1,0,none⟩)) xs from⟨w.heap.size+1,A,cA,w.heap.size,rfl,by omega,s0,s1,by have:=Hrow.o;simpa using this,hnm.o,fun x hx=>(hty.o.1 x hx).1,hty.o.2⟩)
   have Hrow2:=Aa (show Bh wo A xs.length (xs.map (·.ptr))from Hrow.o)
   have HSL:=Aa (show T0 w.heap.size wo (.pointer (some ⟨w.heap.size+1,0,none⟩)) xs from⟨w.heap.size+1,A,cA,w.heap.size,rfl,by omega,s0,s1,Hrow2.o,hnm.o,fun x hx=>(hty.o.1 x hx).1,hty.o.2,by omega,Ap _,fun g o _ eA=>by
    have:=(hown.o.lt g (by rw[eA];rfl)).1
    omega,fun x hx=>⟨by have:=(hty.o.1 x hx).2.1.1;omega,fun k hn hk=>by have:=(hty.o.1 x hx).2.1.2 k hn hk;omega⟩⟩)
   clear hgood hlin hT hK hown hnm hty Hrow HF Hlin
   have S0:=Aa s0
   go_wp2_with fail
   clear s0 s1
   go_loopw [84] (fun i wr=>∃k:Nat,i=.int .i64 k/\k<=xs.length/\Hid (∀x∈xs.take k,x.ty.sort≠69->∀f∈x.ty.fields,Cb (Ag xs) f.kind)/\Hid (Below wo.heap.size wo wr)) (fun i _=>xs.length - (intOf i).toNat)
   case atStart=>exact⟨0,rfl,Nat.zero_le _,by intro x hx;simp at hx,As _ _⟩
   case round=>
    obtain⟨wp,rfl⟩:∃wp:World,wp=wr:=⟨_,rfl⟩
    obtain⟨k,rfl,hk,hin,hbp⟩:=hrel
    have k1:(0:Int)<=(k:Int):=by omega
    have hzp:=hbp.o.size
    by_cases hkl:k<xs.length
    ·have k2:(k:Int)<(xs.length:Int):=by omega
     obtain⟨bA,oA,rfl,hbA,cl⟩:=(Hrow2.o.below hbp.o).at_ hkl
     rw[List.getElem_map]at cl
     have Hts:=Aa (Bn xs k hkl)
     have Hmem:=Aa (List.getElem_mem hkl)
     generalize xs[k]=x at cl Hts Hmem
     unfold PT.ptr at cl
     have Hxt:=Aa (Htok.o x Hmem.o)
     obtain⟨hyb,_,y0,y1,y2,y3,A7,c7,hyf,hl8,hrow7⟩:=(HSC.o.tys x Hmem.o).below hbp.o
     rw[hyf]at y2
     have Hrow7:=Aa hrow7
     clear hrow7 hyf y1 y3
     go_wp2_with fail
     go_loopw [93] (fun i wr=>∃j:Nat,i=.int .i64 j/\j<=x.ty.fields.length/\Hid (x.ty.sort≠69->∀f∈x.ty.fields.take j,Cb (Ag xs) f.kind)/\Hid (Below wp.heap.size wp wr)) (fun i _=>x.ty.fields.length - (intOf i).toNat)
     case atStart=>exact⟨0,rfl,Nat.zero_le _,by intro _ f hf;simp at hf,As _ _⟩
     case round=>
      obtain⟨j,rfl,hj,hin2,hbq⟩:=hrel
      have j1:(0:Int)<=(j:Int):=by omega
      have hzq:=hbq.o.size
      have x0:=(hbq.o.cell (p:=⟨x.blk,0,none⟩) hyb).trans y0
      have hxw:x.blk<wr.heap.size:=by omega
      have hxn:¬(x.blk=wr.heap.size):=by omega
      have Hbw:=Aa (show Below w.heap.size w wr from(hbr.o.trans (hbp.o.mono (by omega))).trans (hbq.o.mono (by omega)))
      have Hbo2:=Aa (show Below wo.heap.size wo wr from hbp.o.trans (hbq.o.mono hzp))
      by_cases hjl:j<x.ty.fields.length
      ·have j2:(j:Int)<(x.ty.fields.length:Int):=by omega
       obtain⟨b8,o8,rfl,hb8,hrg⟩:=Q7.range (Hrow7.o.below hbq.o) hjl
       have Hts2:=Aa (Bn x.ty.fields j hjl)
       have Hfm:=Aa (List.getElem_mem hjl)
       have Hrg:=Aa (show wr.rangeAt b8 (o8+j*6) [.int .i64 (x.ty.fields[j].tag:Int),.string ⟨x.ty.fields[j].name.toArray⟩,.string ⟨x.ty.fields[j].kind.signs.toArray⟩,.string ⟨x.ty.fields[j].kind.base.toArray⟩,.string ⟨x.ty.fields[j].kind.name.toArray⟩,.string ⟨x.ty.fields[j].given.toArray⟩]from hrg)
       clear hrg
       generalize x.ty.fields[j]=f at Hts2 Hfm Hrg
       by_cases h69:x.ty.sort=69
       ·have t69:((x.ty.sort.toNat:Int) != 69)=false:=Kn (d:=69) h69
        have Hin2:=Aa (show x.ty.sort≠69->∀f∈x.ty.fields.take (j+1),Cb (Ag xs) f.kind from fun h=>absurd h69 h)
        clear h69
        go_wp2_with ((with_reducible refine wpList_load_mid (op:=⟨_,.load 85 _,_,_,_,none⟩) rfl 85 _ rfl b8 (o8+j*6) ?_ _ _ Hrg.o underlying85 ?_ ?_ ?_);rfl;rfl;kernel_rfl)
        go_roundw
        case rel=>exact⟨j+1,by go_num,by omega,Hin2.o,hbq.o.alloc hzq _⟩
        case measure=>simp[intOf];omega
       have t69:((x.ty.sort.toNat:Int) != 69)=true:=Ng (d:=69) h69
       have Hkd:=Aa ((Hxt.o.2.2.1.1 f Hfm.o).2.2.2.2 h69).1
       have Hhas:=Aa (fun W (h:Below wo.heap.size wo W)=>Zz _ xs f.kind W (HSC.o.below h).map (Nat.le_trans (Gp Hkd.o) (by decide)))
       unfold Fv at Hhas
       by_cases hrf:Cb (Ag xs) f.kind
       ·have Hin2:=Aa (show x.ty.sort≠69->∀f∈x.ty.fields.take (j+1),Cb (Ag xs) f.kind from fun h g hg=>by
         rw[Hts2.o]at hg
         rcases List.mem_append.1 hg with hg|hg
         ·exact hin2.o h g hg
         simp at hg;subst hg;exact hrf)
        rw[decide_eq_true hrf]at Hhas
        clear h69 hrf
        go_wp2_with ((with_reducible refine wpList_load_mid (op:=⟨_,.load 85 _,_,_,_,none⟩) rfl 85 _ rfl b8 (o8+j*6) ?_ _ _ Hrg.o underlying85 ?_ ?_ ?_);rfl;rfl;kernel_rfl)
        refine(Hhas.o _ (Hbo2.o.alloc (by omega) _)).mono ?_
        rintro e w9 ⟨rfl,hb9⟩
        have Hb9:=Aa (show Below wp.heap.size wp w9 from(hbq.o.alloc hzq _).trans (hb9.mono (by simp;omega)))
        clear hb9
        go_wp2_with fail
        go_roundw
        case rel=>exact⟨j+1,by go_num,by omega,Hin2.o,Hb9.o⟩
        case measure=>simp[intOf];omega
       have Hend:=Aa (show Ca s=none by
        rw[HF2.o,if_neg]
        rintro⟨h,_⟩
        exact hrf (h x.ty (List.mem_map_of_mem (f:=(·.ty)) Hmem.o) h69 f Hfm.o))
       rw[decide_eq_false hrf]at Hhas
       clear h69 hrf
       go_wp2_with ((with_reducible refine wpList_load_mid (op:=⟨_,.load 85 _,_,_,_,none⟩) rfl 85 _ rfl b8 (o8+j*6) ?_ _ _ Hrg.o underlying85 ?_ ?_ ?_);rfl;rfl;kernel_rfl)
       refine(Hhas.o _ (Hbo2.o.alloc (by omega) _)).mono ?_
       rintro e w9 ⟨rfl,hb9⟩
       have Hb9:=Aa (show Below w.heap.size w w9 from(Hbw.o.alloc Hbw.o.size _).trans (hb9.mono (by simp;omega)))
       clear hb9
       go_wp2_with fail
       go_ret2
       exact Gn.no Hend.o rfl Hb9.o
      ·have j2:¬(j:Int)<(x.ty.fields.length:Int):=by omega
       have Hin3:=Aa (show ∀y∈xs.take (k+1),y.ty.sort≠69->∀f∈y.ty.fields,Cb (Ag xs) f.kind from fun y hy=>by
        rw[Hts.o]at hy
        rcases List.mem_append.1 hy with hy|hy
        ·exact hin.o y hy
        simp at hy;subst hy
        intro h f hf
        exact hin2.o h f (by rw[List.take_of_length_le (by omega)];exact hf))
       go_wp2_with fail
       go_roundw
       case rel=>exact⟨k+1,by go_num,by omega,Hin3.o,Hbo2.o⟩
       case measure=>simp[intOf];omega
    ·have k2:¬(k:Int)<(xs.length:Int):=by omega
     have Hkinds:=Aa (show Fq (Ag xs)from fun t ht h f hf=>by
      obtain⟨x,hx,rfl⟩:=List.mem_map.1 ht
      exact hin.o x (by rw[List.take_of_length_le (by omega)];exact hx) h f hf)
     have s9:=(hbp.o.cell (p:=⟨w.heap.size+1,0,none⟩) (show w.heap.size+1<wo.heap.size by omega)).trans S0.o
     have HSP:=Aa (HSC.o.below hbp.o)
     have HrowP:=Aa (Hrow2.o.below hbp.o)
     have HbP:=Aa (show Below w.heap.size w wp from hbr.o.trans (hbp.o.mono (by omega)))
     go_wp2_with fail
     clear s9
     go_loopw [116] (fun i wr=>∃m:Nat,i=.int .i64 m/\m<=xs.length/\Hid (∀x∈xs.take m,Bt (Ag xs) 9 x.ty=true)/\Hid (Below wp.heap.size wp wr)) (fun i _=>xs.length - (intOf i).toNat)
     case atStart=>exact⟨0,rfl,Nat.zero_le _,by intro x hx;simp at hx,As _ _⟩
     case round=>
      obtain⟨m,rfl,hm,hin4,hbm⟩:=hrel
      have m1:(0:Int)<=(m:Int):=by omega
      have HbM:=Aa (show Below w.heap.size w wr from HbP.o.trans (hbm.o.mono HbP.o.size))
      by_cases hml:m<xs.length
      ·have m2:(m:Int)<(xs.length:Int):=by omega
       obtain⟨bA,oA,rfl,hbA,cl⟩:=(HrowP.o.below hbm.o).at_ hml
       rw[List.getElem_map]at cl
       have Hts:=Aa (Bn xs m hml)
       have Hmem:=Aa (List.getElem_mem hml)
       generalize xs[m]=x at cl Hts Hmem
       have Hends:=Aa (Qdn _ xs x wr (HSP.o.below hbm.o).map (HSP.o.below hbm.o).tys Htok.o Hkinds.o Hmem.o)
       unfold PT.ptr at cl Hends
       cases hee:Bt (Ag xs) 9 x.ty with
       |true=>
        rw[hee]at Hends
        have Hin5:=Aa (show ∀y∈xs.take (m+1),Bt (Ag xs) 9 y.ty=true from fun y hy=>by
         rw[Hts.o]at hy
         rcases List.mem_append.1 hy with hy|hy
         ·exact hin4.o y hy
         simp at hy;subst hy;exact hee)
        clear hee
        go_wp2_with fail
        refine Hends.o.mono ?_
        rintro e w9 ⟨rfl,hb9⟩
        have Hb9:=Aa (hbm.o.trans (hb9.mono hbm.o.size))
        clear hb9
        go_wp2_with fail
        go_roundw
        case rel=>exact⟨m+1,by go_num,by omega,Hin5.o,Hb9.o⟩
        case measure=>simp[intOf];omega
       |false=>
        rw[hee]at Hends
        have Hend:=Aa (show Ca s=none by
         rw[HF2.o,if_neg]
         rintro⟨_,h⟩
         have:=h x.ty (List.mem_map_of_mem (f:=(·.ty)) Hmem.o)
         rw[hee]at this;cases this)
        clear hee
        go_wp2_with fail
        refine Hends.o.mono ?_
        rintro e w9 ⟨rfl,hb9⟩
        have Hb9:=Aa (HbM.o.trans (hb9.mono HbM.o.size))
        clear hb9
        go_wp2_with fail
        go_ret2
        exact Gn.no Hend.o rfl Hb9.o
      ·have m2:¬(m:Int)<(xs.length:Int):=by omega
       have Hfin:=Aa (show Ca s=some (Ag xs)by
        rw[HF2.o,if_pos]
        refine⟨Hkinds.o,fun t ht=>?_⟩
        obtain⟨x,hx,rfl⟩:=List.mem_map.1 ht
        exact hin4.o x (by rw[List.take_of_length_le (by omega)];exact hx))
       go_wp2_with fail
       go_ret2
       exact Gn.yes Hfin.o rfl ((HSL.o.below hbp.o).below hbm.o) HbM.o
  ·have hu1:u.isEmpty=false:=by simpa using hu
   have hu2:(!u.isEmpty)=true:=by simpa using hu
   have hu3:(u == [])=false:=by simpa using hu
   have hu4:(u != [])=true:=by simpa using hu
   have Hlin:=Aa (show Ez (s.length+1) s []=(if (Cs 10 u).2.2=false\/(Ag xs).length=8 then none else match D7 (Cs 10 u).1 with
    |none=>none
    |some t=>if (Ag xs).any (fun v=>decide (v.name=t.name))=true then none else Ez fuel (Cs 10 u).2.1 (Ag xs++[t]))by rw[hlin.o,Ez,if_neg hu];rfl)
   have Hcut:=Aa (fun W=>Qh u 10 W (by omega))
   have hcl:=J1 10 u
   have hsh:(Cs 10 u).2.2=true->(Cs 10 u).2.1.length<u.length:=fun h=>by
    rcases Eo 10 u with⟨_,e⟩|⟨p,t,e1,_,e⟩
    ·rw[e]at h;cases h
    rw[e];show t.length<u.length;rw[e1];simp;omega
   have Hsh:=Aa hsh
   generalize Cs 10 u=q at *
   obtain⟨ln,rest,told⟩:=q
   simp only at hcl Hlin Hsh
   have hcl1:=hcl.1
   have hcl2:=hcl.2
   clear hcl hu hlin hsh
   go_wp2_with fail
   refine(Hcut.o _).mono ?_
   rintro e w1 ⟨rfl,k1,rfl⟩
   unfold Zo
   cases told with
   |false=>
    have Hend:=Aa (show Ca s=none by rw[HF.o,Hlin.o];simp)
    go_wp2_with fail
    go_ret2
    exact Gn.no Hend.o rfl (below_drewN hbr.o _)
   |true=>
    have hrl:=Hsh.o (by simp)
    rcases Nat.eq_or_lt_of_le hx8 with h8|h8
    ·have q1:((xs.length:Int) == 8)=true:=by simp[h8]
     have Hend:=Aa (show Ca s=none by rw[HF.o,Hlin.o];simp[Ag,h8])
     clear h8
     go_wp2_with fail
     go_ret2
     exact Gn.no Hend.o rfl (below_drewN hbr.o _)
    have q1:((xs.length:Int) == 8)=false:=by rw[beq_eq_false_iff_ne];omega
    have Hlin2:=Aa (show Ez (s.length+1) s []=(match D7 ln with
     |none=>none
     |some t=>if (Ag xs).any (fun v=>decide (v.name=t.name))=true then none else Ez fuel rest (Ag xs++[t]))by rw[Hlin.o,if_neg (by simp[Ag];omega)])
    have Htype:=Aa (fun W=>Yu ln W (by omega))
    have Htok:=Aa (fun t (h:D7 ln=some t)=>(Et.1 h).1)
    clear Hlin
    generalize D7 ln=ot at Hlin2 Htype Htok
    go_wp2_with fail
    refine(Htype.o _).mono ?_
    rintro e w2 ⟨hcase,hb2⟩
    have hbo:Below wo.heap.size wo w2:=(below_drewN (As _ _) k1).trans (by simpa using hb2)
    have Hbo:=Aa hbo
    cases ot with
    |none=>
     obtain⟨pp,rfl⟩:=hcase
     have Hend:=Aa (show Ca s=none by rw[HF.o,Hlin2.o])
     go_wp2_with fail
     refine Be [45,46,47,48,49,50,51,52,53,54,55,56,57,58] (by kernel_rfl) (by kernel_rfl) (by kernel_rfl) (fun u=>by dsimp only[Br,Bi,List.set,Nat.zero_add,Nat.reduceAdd])
      (fun i v W=>match i with|0=>v=.bool false|1=>v=.bool true|2=>v=.bool true|13=>v=.bool true|_=>True) (fun L U W=>∃q,W=(w2).drewN q) (fun _ _=>True) (fun _ _ _ _ _ h=>h) ⟨1,rfl⟩ ?_ ?_
     ·repeat (first|exact Aq.nil|(refine Aq.cons ?_ ?_;rotate_left))
      all_goals
       rintro L U W hL hpre ⟨q,rfl⟩ hun hdep K hK
       clear hun hdep
       first|(simp[Region.binds]at hpre;done)|simp[Region.binds]at hpre|clear hpre
       go_simp
       first|exact hK _ _ _ rfl Ab ⟨q,rfl⟩ rfl|exact hK _ _ _ rfl Ab ⟨q,rfl⟩ (by simp[Act.put,hpre])|exact hK undef _ _ Ab Ab ⟨q,rfl⟩ (by simp[Act.put,hpre])|exact hK _ _ _ Ab Ab ⟨q,rfl⟩ rfl|exact hK _ _ _ Ab Ab ⟨q,rfl⟩ (by simp[Act.put,hpre])
     rintro L U W hL hφ ⟨q,rfl⟩
     have e13:U 13=.bool true:=hφ 13 (by decide)
     simp only[e13]
     clear hφ hL
     go_wp2_with fail
     go_ret2
     exact Gn.no Hend.o rfl (below_drewN (hbr.o.trans (Hbo.o.mono (by omega))) _)
    |some t=>
     obtain⟨x,hxt,rfl,hxb,hxty,hxf⟩:=hcase
     subst hxt
     have hxb2:wo.heap.size<=x.blk:=by simpa using hxb
     have hxz:x.blk<w2.heap.size:=hxty.1
     have y1:w2.cell? ⟨x.blk,1,none⟩=some (.string ⟨x.ty.name.toArray⟩):=hxty.2.2.2.1
     have u0:=(hbo.cell (p:=⟨w.heap.size+1,0,none⟩) (show w.heap.size+1<wo.heap.size by omega)).trans s0
     have u1:=(hbo.cell (p:=⟨w.heap.size+1,1,none⟩) (show w.heap.size+1<wo.heap.size by omega)).trans s1
     have Hnm2:=Aa (Di.below hnm.o hbo)
     have Hxty:=Aa hxty
     have Hxf:=Aa hxf
     have Htk:=Aa (Htok.o x.ty rfl)
     have hnl:x.ty.name.length<=3:=(C9.1 Htk.o.2.1).2.1
     have hlook:∀q,(Instr.lookup 78 (.map (some w.heap.size)) (.string ⟨x.ty.name.toArray⟩) false).run prog (w2.drewN q)=.ok (Rc (Ej xs x.ty.name)) (w2.drewN q):=fun q=>Fa (Di.below Hnm2.o (below_drewN (As _ _) q)) x.ty.name (by omega)
     have hz2:wo.heap.size<=w2.heap.size:=hbo.size
     clear hbo s0 s1 hxty hxf
     unfold PT.ptr
     cases hfp:Ej xs x.ty.name with
     |some z=>
      have Hend:=Aa (show Ca s=none by
       rw[HF.o,Hlin2.o]
       have:(Ag xs).any (fun v=>decide (v.name=x.ty.name))=true:=by
        cases hh:(Ag xs).any (fun v=>decide (v.name=x.ty.name))with
        |true=>rfl
        |false=>rw[Tf.2 hh]at hfp;cases hfp
       simp[this])
      rw[hfp]at hlook
      unfold Rc PT.ptr at hlook
      clear hfp
      go_wp2_with fail
      refine Be [45,46,47,48,49,50,51,52,53,54,55,56,57,58] (by kernel_rfl) (by kernel_rfl) (by kernel_rfl) (fun u=>by dsimp only[Br,Bi,List.set,Nat.zero_add,Nat.reduceAdd])
       (fun i v W=>match i with|0=>v=.bool true|1=>v=.bool false|2=>v=.bool false|3=>v=.pointer (some ⟨w.heap.size+1,0,none⟩)|4=>v=.pointer (some ⟨w.heap.size+1,0,none⟩)|5=>v=.pointer (some ⟨w.heap.size+1,1,none⟩)|6=>v=.map (some w.heap.size)|7=>v=.pointer (some ⟨x.blk,0,none⟩)|8=>v=.pointer (some ⟨x.blk,0,none⟩)|9=>v=.pointer (some ⟨x.blk,1,none⟩)|10=>v=.string ⟨x.ty.name.toArray⟩|11=>v=.pointer (some ⟨z.blk,0,none⟩)|12=>v=.bool true|13=>v=.bool true|_=>True) (fun L U W=>∃q,W=(w2).drewN q) (fun _ _=>True) (fun _ _ _ _ _ h=>h) ⟨1,rfl⟩ ?_ ?_
      ·repeat (first|exact Aq.nil|(refine Aq.cons ?_ ?_;rotate_left))
       all_goals
        rintro L U W hL hpre ⟨q,rfl⟩ hun hdep K hK
        have hlq:=hlook q
        clear hun hdep
        first|(simp[Region.binds]at hpre;done)|simp[Region.binds]at hpre|clear hpre
        go_simp
        first|exact hK _ _ _ rfl Ab ⟨q,rfl⟩ rfl|exact hK _ _ _ rfl Ab ⟨q,rfl⟩ (by simp[Act.put,hpre])|exact hK undef _ _ Ab Ab ⟨q,rfl⟩ (by simp[Act.put,hpre])|exact hK _ _ _ Ab Ab ⟨q,rfl⟩ rfl|exact hK _ _ _ Ab Ab ⟨q,rfl⟩ (by simp[Act.put,hpre])
      rintro L U W hL hφ ⟨q,rfl⟩
      have e13:U 13=.bool true:=hφ 13 (by decide)
      simp only[e13]
      clear hφ hL
      go_wp2_with fail
      go_ret2
      exact Gn.no Hend.o rfl (below_drewN (hbr.o.trans (Hbo.o.mono (by omega))) _)
     |none=>
      have Hany:=Aa (Tf.1 hfp)
      have Hfp:=Aa hfp
      rw[hfp]at hlook
      unfold Rc at hlook
      clear hfp
      have Hlin3:=Aa (show Ez (s.length+1) s []=Ez fuel rest (Ag (xs++[x]))by
       rw[Hlin2.o]
       show (if _ then _ else _)=_
       rw[if_neg (by rw[Hany.o];decide)];simp[Ag])
      go_wp2_with fail
      refine Be [45,46,47,48,49,50,51,52,53,54,55,56,57,58] (by kernel_rfl) (by kernel_rfl) (by kernel_rfl) (fun u=>by dsimp only[Br,Bi,List.set,Nat.zero_add,Nat.reduceAdd])
       (fun i v W=>match i with|0=>v=.bool true|1=>v=.bool false|2=>v=.bool false|3=>v=.pointer (some ⟨w.heap.size+1,0,none⟩)|4=>v=.pointer (some ⟨w.heap.size+1,0,none⟩)|5=>v=.pointer (some ⟨w.heap.size+1,1,none⟩)|6=>v=.map (some w.heap.size)|7=>v=.pointer (some ⟨x.blk,0,none⟩)|8=>v=.pointer (some ⟨x.blk,0,none⟩)|9=>v=.pointer (some ⟨x.blk,1,none⟩)|10=>v=.string ⟨x.ty.name.toArray⟩|11=>v=.pointer none|12=>v=.bool false|13=>v=.bool false|_=>True) (fun L U W=>∃q,W=(w2).drewN q) (fun _ _=>True) (fun _ _ _ _ _ h=>h) ⟨1,rfl⟩ ?_ ?_
      ·repeat (first|exact Aq.nil|(refine Aq.cons ?_ ?_;rotate_left))
       all_goals
        rintro L U W hL hpre ⟨q,rfl⟩ hun hdep K hK
        have hlq:=hlook q
        clear hun hdep
        first|(simp[Region.binds]at hpre;done)|simp[Region.binds]at hpre|clear hpre
        go_simp
        first|exact hK _ _ _ rfl Ab ⟨q,rfl⟩ rfl|exact hK _ _ _ rfl Ab ⟨q,rfl⟩ (by simp[Act.put,hpre])|exact hK undef _ _ Ab Ab ⟨q,rfl⟩ (by simp[Act.put,hpre])|exact hK _ _ _ Ab Ab ⟨q,rfl⟩ rfl|exact hK _ _ _ Ab Ab ⟨q,rfl⟩ (by simp[Act.put,hpre])
      rintro L U W hL hφ ⟨q,rfl⟩
      have e13:U 13=.bool false:=hφ 13 (by decide)
      simp only[e13]
      clear hφ hL
      obtain⟨w3,hw3⟩:∃w3,w3=w2.drewN q:=⟨_,rfl⟩
      rw[<-hw3]
      have hb3:Below wo.heap.size wo w3:=by rw[hw3];exact below_drewN Hbo.o _
      have hb23:Below w2.heap.size w2 w3:=by rw[hw3];exact below_drewN (As _ _) _
      have Hx3:=Aa (Hxty.o.below hb23)
      have hown3:=Bf hown.o hb3
      have hT3:=Ar hT.o (show w.heap.size+1<wo.heap.size by omega) hb3
      have hK3:=At hK.o (show w.heap.size+1<wo.heap.size by omega) hb3
      have hz3:wo.heap.size<=w3.heap.size:=hb3.size
      have v0:w3.cell? ⟨w.heap.size+1,0,none⟩=some (.slice A xs.length cA):=by simpa using Ac hT3 0 rfl
      have Hb3:=Aa hb3
      have Hown3:=Aa hown3
      have HT3:=Aa hT3
      have HK3:=Aa hK3
      have Hnm3:=Aa (Di.below Hnm2.o hb23)
      have Hb23:=Aa hb23
      clear hlook hb3 hown3 hT3 hK3 hw3 hb23 u0 u1 y1
      go_wp2_with (at_builtin;refine Jq _ rfl _ _ 77 rfl (w.heap.size+2) 76 (.pointer none) 8 underlying77 Tryz.infoPt rfl w3 (.pointer (some ⟨x.blk,0,none⟩)) rfl rfl (.slice A xs.length cA) xs.length (xs.map (·.ptr)) rfl rfl Hown3.o (by unfold maxLen;omega) (by omega) (by omega) ?_;intro v5 w5 hown5 hg5 hwh;have hb5:Below (w.heap.size+2) w3 w5:=(As _ _).grown hg5 (by omega) (fun k hk=>(Hown3.o.lt k hk).1);have HT5:=Aa (Ar HT3.o (show w.heap.size+1<w.heap.size+2 by omega) hb5);have HK5:=Aa (At HK3.o (show w.heap.size+1<w.heap.size+2 by omega) hb5);have Hnm5:=Aa (Di.belowAt Hnm3.o (show w.heap.size<w.heap.size+2 by omega) hb5);have Hty5:=Aa (T2.push hty.o Hb3.o hown.o Hx3.o hxb2 (fun k hk=>(by have:=Hxf.o k hk;simpa using this)) (by omega) hg5 hwh);obtain⟨A5,n5,c5,e5⟩:=Vs hown5;subst e5;have Hown5:=Aa hown5;have Hb5:=Aa hb5;have p0:w5.cell? ⟨w.heap.size+1,0,none⟩=some (.slice A xs.length cA):=(by simpa using Ac HT5.o 0 rfl);have f0:w5.frozen? ⟨w.heap.size+1,0,none⟩=false:=(by simpa using(HK5.o 0 (by decide)).2);have hz5:w3.heap.size<=w5.heap.size:=hg5.size;clear hown5 hg5 hwh hb5 v0)
      obtain⟨w6,hw6⟩:∃w6,w6=w5.setCell ⟨w.heap.size+1,0,none⟩ (.slice A5 n5 c5):=⟨_,rfl⟩
      rw[<-hw6]
      have hg6:w5.grownBy w6 (some (w.heap.size+1)):=by rw[hw6];exact Qq _ _ _
      have hT6:w6.rangeAt (w.heap.size+1) 0 [.slice A5 n5 c5,.map (some w.heap.size)]:=by rw[hw6];exact Ct [] [.slice A xs.length cA] [.map (some w.heap.size)] [.slice A5 n5 c5] HT5.o rfl
      have hK6:w6.there (w.heap.size+1) 0 2:=by rw[hw6];exact World.there_setCells HK5.o (w.heap.size+1) 0 [.slice A5 n5 c5]
      have Hown6:=Aa (Hown5.o.kept hg6 (.inr (fun e=>by have:=(Hown5.o.lt _ e).1;omega)))
      have Hnm6:=Aa (Di.kept Hnm5.o hg6 (by simp))
      have Hty6:=Aa (Hty5.o.far hg6 (by omega))
      have Hb6:=Aa (show Below w.heap.size w w6 from((hbr.o.trans (Hb3.o.mono (by omega))).trans (Hb5.o.mono (by omega))).trans (by rw[hw6];exact(As _ _).setCell (by simp) _))
      have hz6:w.heap.size+2<=w6.heap.size:=Nat.le_trans (by omega) hg6.size
      have m1:w6.cell? ⟨w.heap.size+1,1,none⟩=some (.map (some w.heap.size)):=by simpa using Ac hT6 1 rfl
      have n1:w6.cell? ⟨x.blk,1,none⟩=some (.string ⟨x.ty.name.toArray⟩):=(Hty6.o.1 x (by simp)).1.2.2.2.1
      have HT6:=Aa hT6
      have HK6:=Aa hK6
      clear hw6 hg6 hT6 hK6 p0 f0
      refine Be [69,70,71,72,73,74,75,76,77,999] (by kernel_rfl) (by kernel_rfl) (by kernel_rfl) (fun u=>by dsimp only[Br,Bi,List.set,Nat.zero_add,Nat.reduceAdd])
       (fun i v W=>match i with|0=>v=.pointer (some ⟨w.heap.size+1,0,none⟩)|1=>v=.pointer (some ⟨w.heap.size+1,0,none⟩)|2=>v=.pointer (some ⟨w.heap.size+1,1,none⟩)|3=>v=.map (some w.heap.size)|4=>v=.pointer (some ⟨x.blk,0,none⟩)|5=>v=.pointer (some ⟨x.blk,0,none⟩)|6=>v=.pointer (some ⟨x.blk,1,none⟩)|7=>v=.string ⟨x.ty.name.toArray⟩|8=>v=.pointer (some ⟨x.blk,0,none⟩)|_=>True) (fun L U W=>∃q,(L 9=false->W=w6.drewN q)/\(L 9=true->(w6.drewN q).grownBy W (some w.heap.size)/\Nn W w.heap.size (xs++[x]))) (fun _ _=>True) (fun _ _ _ _ _ h=>h) ⟨1,fun _=>rfl,by simp⟩ ?_ ?_
      ·repeat (first|exact Aq.nil|(refine Aq.cons ?_ ?_;rotate_left))
       all_goals
        rintro L U W hL hpre ⟨q,hq1,hq2⟩ hun hdep K hK
        have Hdep:=Aa hdep
        have Hq2:=Aa hq2
        clear hun hdep hq2
        first|(simp[Region.binds]at hpre;done)|simp[Region.binds]at hpre|clear hpre
       ·obtain rfl:=hq1 (Bz Hdep.o 9 3 rfl (Bz Hdep.o 3 2 rfl (Bz Hdep.o 2 1 rfl (Bz Hdep.o 1 0 rfl hL))))
        go_simp
        first|exact hK _ _ _ rfl Ab ⟨q,fun _=>rfl,Hq2.o⟩ rfl|exact hK _ _ _ rfl Ab ⟨q,fun _=>rfl,Hq2.o⟩ (by simp[Act.put,hpre])
       ·obtain rfl:=hq1 (Bz Hdep.o 9 3 rfl (Bz Hdep.o 3 2 rfl (Bz Hdep.o 2 1 rfl hL)))
        go_simp
        first|exact hK _ _ _ rfl Ab ⟨q,fun _=>rfl,Hq2.o⟩ rfl|exact hK _ _ _ rfl Ab ⟨q,fun _=>rfl,Hq2.o⟩ (by simp[Act.put,hpre])
       ·obtain rfl:=hq1 (Bz Hdep.o 9 3 rfl (Bz Hdep.o 3 2 rfl hL))
        go_simp
        first|exact hK _ _ _ rfl Ab ⟨q,fun _=>rfl,Hq2.o⟩ rfl|exact hK _ _ _ rfl Ab ⟨q,fun _=>rfl,Hq2.o⟩ (by simp[Act.put,hpre])
       ·obtain rfl:=hq1 (Bz Hdep.o 9 3 rfl hL)
        go_simp
        first|exact hK _ _ _ rfl Ab ⟨q,fun _=>rfl,Hq2.o⟩ rfl|exact hK _ _ _ rfl Ab ⟨q,fun _=>rfl,Hq2.o⟩ (by simp[Act.put,hpre])
       ·obtain rfl:=hq1 (Bz Hdep.o 9 7 rfl (Bz Hdep.o 7 6 rfl (Bz Hdep.o 6 5 rfl (Bz Hdep.o 5 4 rfl hL))))
        go_simp
        first|exact hK _ _ _ rfl Ab ⟨q,fun _=>rfl,Hq2.o⟩ rfl|exact hK _ _ _ rfl Ab ⟨q,fun _=>rfl,Hq2.o⟩ (by simp[Act.put,hpre])
       ·obtain rfl:=hq1 (Bz Hdep.o 9 7 rfl (Bz Hdep.o 7 6 rfl (Bz Hdep.o 6 5 rfl hL)))
        go_simp
        first|exact hK _ _ _ rfl Ab ⟨q,fun _=>rfl,Hq2.o⟩ rfl|exact hK _ _ _ rfl Ab ⟨q,fun _=>rfl,Hq2.o⟩ (by simp[Act.put,hpre])
       ·obtain rfl:=hq1 (Bz Hdep.o 9 7 rfl (Bz Hdep.o 7 6 rfl hL))
        go_simp
        first|exact hK _ _ _ rfl Ab ⟨q,fun _=>rfl,Hq2.o⟩ rfl|exact hK _ _ _ rfl Ab ⟨q,fun _=>rfl,Hq2.o⟩ (by simp[Act.put,hpre])
       ·obtain rfl:=hq1 (Bz Hdep.o 9 7 rfl hL)
        go_simp
        first|exact hK _ _ _ rfl Ab ⟨q,fun _=>rfl,Hq2.o⟩ rfl|exact hK _ _ _ rfl Ab ⟨q,fun _=>rfl,Hq2.o⟩ (by simp[Act.put,hpre])
       ·obtain rfl:=hq1 (Bz Hdep.o 9 8 rfl hL)
        go_simp
        first|exact hK _ _ _ rfl Ab ⟨q,fun _=>rfl,Hq2.o⟩ rfl|exact hK _ _ _ rfl Ab ⟨q,fun _=>rfl,Hq2.o⟩ (by simp[Act.put,hpre])
       ·obtain rfl:=hq1 hL
        obtain⟨w7,hrun,r1,r2⟩:=Di.store (Di.below Hnm6.o (below_drewN (As _ _) q)) Tryz.keyStr underlying78 (by unfold maxLen;omega) (.pointer (some ⟨x.blk,0,none⟩)) (Qcx (n:=x.ty.name) (by omega))
        have hn7:Nn w7 w.heap.size (xs++[x]):=by
         unfold Nn
         rw[List.length_append]
         exact r1.of_eq (fun l hl=>Qah Hfp.o l hl)
        have R2:=Aa r2
        have Hn7:=Aa hn7
        clear r1 r2 hn7
        go_simp
        exact hK undef _ _ Ab Ab ⟨q,fun h=>by simp at h,fun _=>⟨R2.o,Hn7.o⟩⟩ (by simp[Act.put,hpre])
      rintro L U W hL hφ ⟨q,_,hq2⟩
      obtain⟨hg7,hn7⟩:=hq2 (hL 9 (by decide))
      have hzq:w6.heap.size<=W.heap.size:=by have:=hg7.size;simpa using this
      have hb7:Below w.heap.size w W:=(below_drewN Hb6.o q).grown hg7 (by simp;omega) (fun k hk=>by injection hk with hk;omega)
      have HT7:=Aa (Fz (Ar HT6.o (show w.heap.size+1<w6.heap.size by omega) (below_drewN (As _ _) q)) hg7 (by simp))
      have HK7:=Aa (Gq (At HK6.o (show w.heap.size+1<w6.heap.size by omega) (below_drewN (As _ _) q)) hg7 (by simp;omega) (by simp))
      have Hown7:=Aa ((Bf Hown6.o (below_drewN (As _ _) q)).kept hg7 (.inr (fun e=>by have:=(Hown6.o.lt _ e).1;omega)))
      have Hty7:=Aa ((Hty6.o.below (below_drewN (As _ _) q)).far hg7 (by omega))
      have Hn7:=Aa hn7
      have Hb7:=Aa hb7
      clear hL hφ hq2 hg7 hn7 hb7 m1 n1
      go_wp2_with fail
      go_roundw
      case rel=>exact⟨rest,fuel,xs++[x],.slice A5 n5 c5,rfl,by omega,by omega,Hlin3.o,by simp;omega,HT7.o,HK7.o,by rw[List.length_append,List.map_append];exact Hown7.o,Hn7.o,Hty7.o,Hb7.o,by omega⟩
      case measure=>rw[Jv,Jv];omega
theorem T9(s:List UInt8)(w:World)(hs:s.length<=4000000):
  Calls prog 52 #[.string ⟨s.toArray⟩] w (Gn (Ca s) w):=by
 by_cases h:400<s.length
 ·exact Xv s w hs h
 exact Qb5 s w (by omega)
theorem D3(b:Nat):∀(vs:List Value) (o:Nat) (w:World),w.grownBy (w.setCells b o vs) (some b)
 |[],_,w=>World.grownBy.refl _ _
 |v::r,o,w=>(Qq w ⟨b,o,none⟩ v).trans (D3 b r (o+1) _)
def Pr(o:Option (List Ty × Kd))(w:World)(e:Ending)(w':World):Prop:=
 (match o with
  |some x=>∃p xs,Ag xs=x.1/\e=.returned (.tuple #[p,Fv x.2,.bool true])/\T0 w.heap.size w' p xs
  |none=>∃(p:Option Addr) (a b c:ByteArray),e=.returned (.tuple #[.pointer p,.agg #[.string a,.string b,.string c],.bool false]))/\Below w.heap.size w w'
theorem Pr.no{w w':World}{e:Ending}{o:Option (List Ty × Kd)}(ho:o=none){p:Option Addr}{a b c:ByteArray}(he:e=.returned (.tuple #[.pointer p,.agg #[.string a,.string b,.string c],.bool false]))(hb:Below w.heap.size w w'):Pr o w e w':=by
 rw[ho];exact⟨⟨p,a,b,c,he⟩,hb⟩
theorem Qd5(s d:List UInt8)(w:World)(hs:s.length<=4000000)(hd:d.length<=4000000):
  Calls prog 23 #[.string ⟨s.toArray⟩,.string ⟨d.toArray⟩] w (Pr (C5 s d) w):=by
 have Hrs:=Aa (fun W=>T9 s W hs)
 have Hrk:=Aa (fun W=>Qd d W hd)
 have HF:=Aa (show C5 s d=(match Ca s with|none=>none|some S=>match Cg d with|none=>none|some k=>if Cb S k then some (S,k)else none)from rfl)
 have Hkok:=Aa (fun k (h:Cg d=some k)=>(Ee.1 h).1)
 generalize Ca s=oS at HF Hrs
 generalize Cg d=oK at HF Hrk Hkok
 go_enter func23,ntmps23
 go_wp2_with fail
 refine(Hrs.o _).mono ?_
 rintro e w1 ⟨hcase,hb1⟩
 have hz1:w.heap.size<w1.heap.size:=by have:=hb1.size;simp at this;omega
 have HT1:=Aa (show w1.there w.heap.size 0 3 from At (Cw w [.string ⟨#[]⟩,.string ⟨#[]⟩,.string ⟨#[]⟩] 39) (by simp) hb1)
 have Hb1:=Aa (show Below w.heap.size w w1 from((As _ _).alloc (Ap _) _).trans (hb1.mono (by simp)))
 clear hb1
 cases oS with
 |none=>
  obtain⟨p,rfl⟩:=hcase
  go_wp2_with ((with_reducible refine Ad (op:=⟨none,.store 39 _ _,_,_,_,none⟩) rfl 39 _ _ rfl w.heap.size 0 [.string ⟨#[]⟩,.string ⟨#[]⟩,.string ⟨#[]⟩] ?_ ?_ ?_ ?_ ?_ ?_);rfl;rfl;(exact HT1.o);kernel_rfl;(simp[Value.oneCell']);intro w9 HS9)
  have HZ:=Aa (show w9.rangeAt w.heap.size 0 [.string ⟨#[]⟩,.string ⟨#[]⟩,.string ⟨#[]⟩]from by rw[HS9.o];exact World.rangeAt_setCells_same _ _ _ _ HT1.o)
  refine bodyPost_ret (v:=.tuple #[.pointer none,.agg ([.string ⟨#[]⟩,.string ⟨#[]⟩,.string ⟨#[]⟩]:List Value).toArray,.bool false]) ?_ rfl ?_
  ·exact Fc results23 _ _ w.heap.size [.string ⟨#[]⟩,.string ⟨#[]⟩,.string ⟨#[]⟩] _ _ _ rfl rfl rfl HZ.o underlying39 rfl (by kernel_rfl)
  exact Pr.no HF.o rfl (by rw[HS9.o];exact Ah _ (Ap _) _ _ _ Hb1.o)
 |some S=>
  obtain⟨p,xs,hxs,rfl,hsl⟩:=hcase
  subst hxs
  have Hsl:=Aa (show T0 (w.heap.size+1) w1 p xs from by simpa using hsl)
  obtain⟨pb,_,_,_,hp,_⟩:=hsl
  subst hp
  go_wp2_with fail
  refine(Hrk.o _).mono ?_
  rintro e w2 ⟨hcase,hb2⟩
  cases oK with
  |none=>
   obtain⟨a1,a2,a3,rfl⟩:=hcase
   have hz4:w2.heap.size<(w2.alloc (.cells #[.string a1,.string a2,.string a3] 39)).heap.size:=by simp
   have hz2:w.heap.size<w2.heap.size:=by have:=hb2.size;omega
   have HT4:=Aa (show (w2.alloc (.cells #[.string a1,.string a2,.string a3] 39)).there w.heap.size 0 3 from World.there_alloc (At HT1.o hz1 hb2) _)
   have HX4:=Aa (show (w2.alloc (.cells #[.string a1,.string a2,.string a3] 39)).rangeAt w2.heap.size 0 [.string a1,.string a2,.string a3]from Ck w2 [.string a1,.string a2,.string a3] _)
   have Hsl4:=Aa (show T0 (w.heap.size+1) (w2.alloc (.cells #[.string a1,.string a2,.string a3] 39)) (.pointer (some ⟨pb,0,none⟩)) xs from(Hsl.o.below hb2).below ((As _ _).alloc (Ap _) _))
   have Hb4:=Aa (show Below w.heap.size w (w2.alloc (.cells #[.string a1,.string a2,.string a3] 39))from(Hb1.o.trans (hb2.mono Hb1.o.size)).alloc (by omega) _)
   clear hb2
   go_wp2_with fail
   refine Be [23,24,25,26,27,28,29,30,4,999,6] (by kernel_rfl) (by kernel_rfl) (by kernel_rfl) (fun u=>by dsimp only[Br,Bi,List.set,Nat.zero_add,Nat.reduceAdd])
    (fun i v W=>match i with|0=>v=.pointer (some ⟨pb,0,none⟩)|1=>v=.agg ([.string a1,.string a2,.string a3]:List Value).toArray|2=>v=.bool false|3=>v=.bool false|7=>v=.bool false|8=>v=.pointer (some ⟨pb,0,none⟩)|10=>v=.bool false|_=>True) (fun L U W=>Below w.heap.size w W/\w2.heap.size<W.heap.size/\W.there w.heap.size 0 3/\W.rangeAt w2.heap.size 0 [.string a1,.string a2,.string a3]/\T0 (w.heap.size+1) W (.pointer (some ⟨pb,0,none⟩)) xs/\(L 9=true->W.rangeAt w.heap.size 0 [.string a1,.string a2,.string a3])) (fun _ _=>True) (fun _ _ _ _ _ h=>h) ⟨Hb4.o.drew,by simp,by simpa using HT4.o,by simpa using HX4.o,Hsl4.o.below ((As _ _).drew),by simp⟩ ?_ ?_
   ·repeat (first|exact Aq.nil|(refine Aq.cons ?_ ?_;rotate_left))
    all_goals
     rintro L U W hL hpre hR hun hdep K hK
     have HR:=Aa hR
     obtain⟨_,_,_,hxr,_,_⟩:=hR
     have c0:W.cell? ⟨w2.heap.size,0,none⟩=some (.string a1):=by simpa using Ac hxr 0 rfl
     have c1:W.cell? ⟨w2.heap.size,1,none⟩=some (.string a2):=by simpa using Ac hxr 1 rfl
     have c2:W.cell? ⟨w2.heap.size,2,none⟩=some (.string a3):=by simpa using Ac hxr 2 rfl
     clear hun hdep hxr
     first|(simp[Region.binds]at hpre;done)|simp[Region.binds]at hpre|clear hpre
    ·go_simp
     first|exact hK _ _ _ rfl Ab HR.o rfl|exact kE hK HR.o|exact hK undef _ _ Ab Ab HR.o (by simp[Act.put,hpre])
    ·go_simp
     first|exact hK _ _ _ rfl Ab HR.o rfl|exact kE hK HR.o|exact hK undef _ _ Ab Ab HR.o (by simp[Act.put,hpre])
    ·go_simp
     first|exact hK _ _ _ rfl Ab HR.o rfl|exact kE hK HR.o|exact hK undef _ _ Ab Ab HR.o (by simp[Act.put,hpre])
    ·go_simp
     first|exact hK _ _ _ rfl Ab HR.o rfl|exact kE hK HR.o|exact hK undef _ _ Ab Ab HR.o (by simp[Act.put,hpre])
    ·go_simp
     first|exact hK _ _ _ rfl Ab HR.o rfl|exact kE hK HR.o|exact hK undef _ _ Ab Ab HR.o (by simp[Act.put,hpre])
    ·go_simp
     first|exact hK _ _ _ rfl Ab HR.o rfl|exact kE hK HR.o|exact hK undef _ _ Ab Ab HR.o (by simp[Act.put,hpre])
    ·go_simp
     first|exact hK _ _ _ rfl Ab HR.o rfl|exact kE hK HR.o|exact hK undef _ _ Ab Ab HR.o (by simp[Act.put,hpre])
    ·go_simp
     first|exact hK _ _ _ rfl Ab HR.o rfl|exact kE hK HR.o|exact hK undef _ _ Ab Ab HR.o (by simp[Act.put,hpre])
    ·go_simp
     first|exact hK _ _ _ rfl Ab HR.o rfl|exact kE hK HR.o|exact hK undef _ _ Ab Ab HR.o (by simp[Act.put,hpre])
    ·obtain⟨r1,r2,r3,r4,r5,r6⟩:=HR.o
     rw[if_pos (by rfl)]
     refine wp_store_mid 39 _ _ rfl w.heap.size 0 ([.string a1,.string a2,.string a3]:List Value).toArray rfl hpre.1.2 r3 (by kernel_rfl) (by simp[Value.oneCell']) ?_
     exact hK undef _ _ Ab Ab ⟨Ah _ (Ap _) _ _ _ r1,by rw[Cy];exact r2,World.there_setCells r3 _ _ _,World.rangeAt_setCells_apart r4 _ _ _ (.inl (show w2.heap.size≠w.heap.size by omega)),r5.far (D3 _ _ _ W) (by omega),fun _=>World.rangeAt_setCells_same _ _ _ _ r3⟩ rfl
    ·go_simp
     first|exact hK _ _ _ rfl Ab HR.o rfl|exact kE hK HR.o|exact hK undef _ _ Ab Ab HR.o (by simp[Act.put,hpre])
   rintro L U W hL hφ ⟨r1,r2,r3,r4,r5,r6⟩
   have e8:U 8=.pointer (some ⟨pb,0,none⟩):=hφ 8 (by decide)
   have e10:U 10=.bool false:=hφ 10 (by decide)
   have hr0:=r6 (hL 9 (by decide))
   simp only[e8,e10]
   have R1:=Aa r1
   have R5:=Aa r5
   have R0:=Aa hr0
   clear hL hφ r1 r2 r3 r4 r5 r6 hr0
   go_wp2_with fail
   refine bodyPost_ret (v:=.tuple #[.pointer (some ⟨pb,0,none⟩),.agg ([.string a1,.string a2,.string a3]:List Value).toArray,.bool false]) ?_ rfl ?_
   ·exact Fc results23 _ _ w.heap.size [.string a1,.string a2,.string a3] _ _ _ rfl rfl rfl R0.o underlying39 rfl (by kernel_rfl)
   exact Pr.no HF.o rfl R1.o
  |some k=>
   have hcase':e=.returned (.tuple #[.agg #[.string ⟨k.signs.toArray⟩,.string ⟨k.base.toArray⟩,.string ⟨k.name.toArray⟩],.bool true]):=hcase
   subst hcase'
   clear hcase
   have hkn:k.name.length<=100:=Nat.le_trans (Gp (Hkok.o k rfl)) (by decide)
   have hz4:w2.heap.size<(w2.alloc (.cells #[.string ⟨k.signs.toArray⟩,.string ⟨k.base.toArray⟩,.string ⟨k.name.toArray⟩] 39)).heap.size:=by simp
   have hz2:w.heap.size<w2.heap.size:=by have:=hb2.size;omega
   have HT4:=Aa (show (w2.alloc (.cells #[.string ⟨k.signs.toArray⟩,.string ⟨k.base.toArray⟩,.string ⟨k.name.toArray⟩] 39)).there w.heap.size 0 3 from World.there_alloc (At HT1.o hz1 hb2) _)
   have HX4:=Aa (show (w2.alloc (.cells #[.string ⟨k.signs.toArray⟩,.string ⟨k.base.toArray⟩,.string ⟨k.name.toArray⟩] 39)).rangeAt w2.heap.size 0 [.string ⟨k.signs.toArray⟩,.string ⟨k.base.toArray⟩,.string ⟨k.name.toArray⟩]from Ck w2 [.string ⟨k.signs.toArray⟩,.string ⟨k.base.toArray⟩,.string ⟨k.name.toArray⟩] _)
   have Hsl4:=Aa (show T0 (w.heap.size+1) (w2.alloc (.cells #[.string ⟨k.signs.toArray⟩,.string ⟨k.base.toArray⟩,.string ⟨k.name.toArray⟩] 39)) (.pointer (some ⟨pb,0,none⟩)) xs from(Hsl.o.below hb2).below ((As _ _).alloc (Ap _) _))
   have Hb4:=Aa (show Below w.heap.size w (w2.alloc (.cells #[.string ⟨k.signs.toArray⟩,.string ⟨k.base.toArray⟩,.string ⟨k.name.toArray⟩] 39))from(Hb1.o.trans (hb2.mono Hb1.o.size)).alloc (by omega) _)
   clear hb2
   go_wp2_with fail
   have HF3:=Aa (show C5 s d=if Cb (Ag xs) k then some (Ag xs,k)else none from HF.o)
   refine Be [23,24,25,26,27,28,29,30,4,999,6] (by kernel_rfl) (by kernel_rfl) (by kernel_rfl) (fun u=>by dsimp only[Br,Bi,List.set,Nat.zero_add,Nat.reduceAdd])
    (fun i v W=>match i with|0=>v=.pointer (some ⟨pb,0,none⟩)|1=>v=.agg ([.string ⟨k.signs.toArray⟩,.string ⟨k.base.toArray⟩,.string ⟨k.name.toArray⟩]:List Value).toArray|2=>v=.bool true|3=>v=.bool true|4=>v=.pointer (some ⟨pb,0,none⟩)|5=>v=.agg ([.string ⟨k.signs.toArray⟩,.string ⟨k.base.toArray⟩,.string ⟨k.name.toArray⟩]:List Value).toArray|6=>v=.bool (decide (Cb (Ag xs) k))|7=>v=.bool (decide (Cb (Ag xs) k))|8=>v=.pointer (some ⟨pb,0,none⟩)|10=>v=.bool (decide (Cb (Ag xs) k))|_=>True) (fun L U W=>Below w.heap.size w W/\w2.heap.size<W.heap.size/\W.there w.heap.size 0 3/\W.rangeAt w2.heap.size 0 [.string ⟨k.signs.toArray⟩,.string ⟨k.base.toArray⟩,.string ⟨k.name.toArray⟩]/\T0 (w.heap.size+1) W (.pointer (some ⟨pb,0,none⟩)) xs/\(L 9=true->W.rangeAt w.heap.size 0 [.string ⟨k.signs.toArray⟩,.string ⟨k.base.toArray⟩,.string ⟨k.name.toArray⟩])) (fun _ _=>True) (fun _ _ _ _ _ h=>h) ⟨Hb4.o.drew,by simp,by simpa using HT4.o,by simpa using HX4.o,Hsl4.o.below ((As _ _).drew),by simp⟩ ?_ ?_
   ·repeat (first|exact Aq.nil|(refine Aq.cons ?_ ?_;rotate_left))
    all_goals
     rintro L U W hL hpre hR hun hdep K hK
     have HR:=Aa hR
     obtain⟨_,_,_,hxr,_,_⟩:=hR
     have c0:W.cell? ⟨w2.heap.size,0,none⟩=some (.string ⟨k.signs.toArray⟩):=by simpa using Ac hxr 0 rfl
     have c1:W.cell? ⟨w2.heap.size,1,none⟩=some (.string ⟨k.base.toArray⟩):=by simpa using Ac hxr 1 rfl
     have c2:W.cell? ⟨w2.heap.size,2,none⟩=some (.string ⟨k.name.toArray⟩):=by simpa using Ac hxr 2 rfl
     clear hun hdep hxr
     first|(simp[Region.binds]at hpre;done)|simp[Region.binds]at hpre|clear hpre
    ·go_simp
     first|exact hK _ _ _ rfl Ab HR.o rfl|exact kE hK HR.o|exact hK undef _ _ Ab Ab HR.o (by simp[Act.put,hpre])
    ·go_simp
     first|exact hK _ _ _ rfl Ab HR.o rfl|exact kE hK HR.o|exact hK undef _ _ Ab Ab HR.o (by simp[Act.put,hpre])
    ·go_simp
     first|exact hK _ _ _ rfl Ab HR.o rfl|exact kE hK HR.o|exact hK undef _ _ Ab Ab HR.o (by simp[Act.put,hpre])
    ·go_simp
     first|exact hK _ _ _ rfl Ab HR.o rfl|exact kE hK HR.o|exact hK undef _ _ Ab Ab HR.o (by simp[Act.put,hpre])
    ·go_simp
     first|exact hK _ _ _ rfl Ab HR.o rfl|exact kE hK HR.o|exact hK undef _ _ Ab Ab HR.o (by simp[Act.put,hpre])
    ·go_simp
     first|exact hK _ _ _ rfl Ab HR.o rfl|exact kE hK HR.o|exact hK undef _ _ Ab Ab HR.o (by simp[Act.put,hpre])
    ·go_simp
     obtain⟨r1,r2,r3,r4,r5,r6⟩:=HR.o
     refine(Zz _ xs k W r5.isc.map hkn).mono ?_
     rintro e w5 ⟨rfl,hb5⟩
     exact hK (.bool (decide (Cb (Ag xs) k))) _ _ rfl Ab ⟨r1.trans (hb5.mono r1.size),Nat.lt_of_lt_of_le r2 hb5.size,At r3 (show w.heap.size<W.heap.size by omega) hb5,Ar r4 r2 hb5,r5.below hb5,fun h=>Ar (r6 h) (show w.heap.size<W.heap.size by omega) hb5⟩ (by simp[Act.put,hpre])
    ·go_simp
     first|exact hK _ _ _ rfl Ab HR.o rfl|exact kE hK HR.o|exact hK undef _ _ Ab Ab HR.o (by simp[Act.put,hpre])
    ·go_simp
     first|exact hK _ _ _ rfl Ab HR.o rfl|exact kE hK HR.o|exact hK undef _ _ Ab Ab HR.o (by simp[Act.put,hpre])
    ·obtain⟨r1,r2,r3,r4,r5,r6⟩:=HR.o
     rw[if_pos (by rfl)]
     refine wp_store_mid 39 _ _ rfl w.heap.size 0 ([.string ⟨k.signs.toArray⟩,.string ⟨k.base.toArray⟩,.string ⟨k.name.toArray⟩]:List Value).toArray rfl hpre.1.2 r3 (by kernel_rfl) (by simp[Value.oneCell']) ?_
     exact hK undef _ _ Ab Ab ⟨Ah _ (Ap _) _ _ _ r1,by rw[Cy];exact r2,World.there_setCells r3 _ _ _,World.rangeAt_setCells_apart r4 _ _ _ (.inl (show w2.heap.size≠w.heap.size by omega)),r5.far (D3 _ _ _ W) (by omega),fun _=>World.rangeAt_setCells_same _ _ _ _ r3⟩ rfl
    ·go_simp
     first|exact hK _ _ _ rfl Ab HR.o rfl|exact kE hK HR.o|exact hK undef _ _ Ab Ab HR.o (by simp[Act.put,hpre])
   rintro L U W hL hφ ⟨r1,r2,r3,r4,r5,r6⟩
   have e8:U 8=.pointer (some ⟨pb,0,none⟩):=hφ 8 (by decide)
   have e10:U 10=.bool (decide (Cb (Ag xs) k)):=hφ 10 (by decide)
   have hr0:=r6 (hL 9 (by decide))
   simp only[e8,e10]
   have R1:=Aa r1
   have R5:=Aa r5
   have R0:=Aa hr0
   clear hL hφ r1 r2 r3 r4 r5 r6 hr0
   go_wp2_with fail
   refine bodyPost_ret (v:=.tuple #[.pointer (some ⟨pb,0,none⟩),.agg ([.string ⟨k.signs.toArray⟩,.string ⟨k.base.toArray⟩,.string ⟨k.name.toArray⟩]:List Value).toArray,.bool (decide (Cb (Ag xs) k))]) ?_ rfl ?_
   ·exact Fc results23 _ _ w.heap.size [.string ⟨k.signs.toArray⟩,.string ⟨k.base.toArray⟩,.string ⟨k.name.toArray⟩] _ _ _ rfl rfl rfl R0.o underlying39 rfl (by kernel_rfl)
   by_cases hr:Cb (Ag xs) k
   ·rw[decide_eq_true hr]
    unfold Pr
    rw[HF3.o,if_pos hr]
    exact⟨⟨_,xs,rfl,rfl,by
     obtain⟨b,A,c,mb,q0,q1,q2,q3,q4,q5,q6,q7,l1,l2,l3,l4⟩:=R5.o
     exact⟨b,A,c,mb,q0,q1,q2,q3,q4,q5,q6,q7,by omega,by omega,fun g o h1 h2=>by have:=l3 g o h1 h2;omega,fun x hx=>⟨by have:=(l4 x hx).1;omega,fun k h1 h2=>by have:=(l4 x hx).2 k h1 h2;omega⟩⟩⟩,R1.o⟩
   rw[decide_eq_false hr]
   exact Pr.no (HF3.o.trans (if_neg hr)) rfl R1.o
def H5(B:Nat)(w:World)(v:Value):Option Fd->Prop
 |none=>v=.pointer none
 |some f=>∃b o,v=.pointer (some ⟨b,o,none⟩)/\b<B/\w.rangeAt b o (Qs f)
theorem H5.below{B:Nat}{w w':World}{v:Value}{o:Option Fd}(h:H5 B w v o)(hb:Below B w w'):H5 B w' v o:=by
 cases o with
 |none=>exact h
 |some f=>obtain⟨b,o,e,h1,h2⟩:=h;exact⟨b,o,e,h1,Ar h2 h1 hb⟩
def Qh1(B:Nat)(o:Option Fd)(w:World)(e:Ending)(w':World):Prop:=∃v,e=.returned v/\H5 B w v o/\w=w'
theorem Tk(w0:World)(x:PT)(hx:Qv w0 x)(n:Nat)(w:World)(hb:Below w0.heap.size w0 w)(hn:n<=1000000000):
  Calls prog 38 #[.pointer (some ⟨x.blk,0,none⟩),.int .i64 n] w (Qh1 w0.heap.size (Bg x.ty.fields n) w):=by
 obtain⟨z0,_,_,_,z3,_,A,c,hfv,hl,hr⟩:=hx
 rw[hfv]at z3
 have c2:w.cell? ⟨x.blk,2,none⟩=some (.slice A x.ty.fields.length c):=(hb.cell (p:=⟨x.blk,2,none⟩) z0).trans z3
 have Hr:=Aa hr
 have Hb:=Aa hb
 clear hr hfv z3 hb
 go_enter func38,ntmps38
 go_wp2_with fail
 go_loop [11] (fun i=>∃k:Nat,i=.int .i64 k/\k<=x.ty.fields.length/\Hid (∀f∈x.ty.fields.take k,decide (f.tag=n)=false)) (fun i=>x.ty.fields.length - (intOf i).toNat)
 case atStart=>exact⟨0,rfl,Nat.zero_le _,by intro f hf;simp at hf⟩
 case round=>
  obtain⟨k,rfl,hk,hin⟩:=hrel
  by_cases hlt:k<x.ty.fields.length
  ·obtain⟨b,off,rfl,hbl,hrg⟩:=Q7.range Hr.o hlt
   have hrw:=Ar hrg hbl Hb.o
   have Hts:=Aa (Bn x.ty.fields k hlt)
   have Hft:=Aa (Q6 (p:=fun f=>decide (f.tag=n)) hlt hin.o)
   generalize x.ty.fields[k]=f at hrg hrw Hts Hft
   have c0:w.cell? ⟨b,off+k*6,none⟩=some (.int .i64 (f.tag:Int)):=by simpa using Ac hrw 0 rfl
   have Hrw:=Aa hrw
   clear hrw hrg
   have k1:(0:Int)<=(k:Int):=by omega
   have k2:(k:Int)<(x.ty.fields.length:Int):=by omega
   by_cases he:f.tag=n
   ·have t1:((f.tag:Int) == (n:Int))=true:=by simp[he]
    have Hfin:=Aa (show Bg x.ty.fields n=some f by unfold Bg;rw[Hft.o,if_pos (by simpa using he)])
    clear he
    go_wp2_with fail
    go_ret
    exact⟨_,rfl,by rw[Hfin.o];exact⟨b,off+k*6,rfl,hbl,Hrw.o⟩,rfl⟩
   have t1:((f.tag:Int) == (n:Int))=false:=by rw[beq_eq_false_iff_ne];omega
   have Hin:=Aa (show ∀g∈x.ty.fields.take (k+1),decide (g.tag=n)=false by
    intro g hg
    rw[Hts.o]at hg
    rcases List.mem_append.1 hg with hg|hg
    ·exact hin.o g hg
    simp at hg;subst hg;simpa using he)
   clear he
   go_wp2_with fail
   go_round
   case rel=>exact⟨k+1,by go_num,by omega,Hin.o⟩
   case measure=>simp[intOf];omega
  ·have Hfin:=Aa (show Bg x.ty.fields n=none from Kz (fun f hf=>hin.o f (by rw[List.take_of_length_le (by omega)];exact hf)))
   go_wp2_with fail
   go_ret
   exact⟨_,rfl,by rw[Hfin.o];rfl,rfl⟩
theorem Xs(p:Value)(c:UInt8)(t:List UInt8)(b nm:ByteArray)(w:World)(hc:c=91\/c=63)(hl:t.length<=1000):
  Calls prog 162 #[p,.agg #[.string ⟨(c::t).toArray⟩,.string b,.string nm]] w (G0 (Qcq c) w):=by
 rcases hc with rfl|rfl
 ·go_enter func162,ntmps162
  go_wp2_with fail
  refine(Fm 91 t hl _ _ _).mono ?_
  rintro e w1 ⟨rfl,hb1⟩
  go_wp2_with fail
  go_ret
  exact⟨rfl,((As _ _).alloc (Ap _) _).trans (hb1.mono (by simp))⟩
 go_enter func162,ntmps162
 go_wp2_with fail
 refine(Fm 63 t hl _ _ _).mono ?_
 rintro e w1 ⟨rfl,hb1⟩
 go_wp2_with fail
 go_ret
 exact⟨rfl,((As _ _).alloc (Ap _) _).trans (hb1.mono (by simp))⟩
theorem Te(p:Value)(b:List UInt8)(nm:ByteArray)(w:World)(hb:b=[110]\/b=[116]\/b=[102]):
  Calls prog 162 #[p,.agg #[.string ⟨#[]⟩,.string ⟨b.toArray⟩,.string nm]] w (G0 (Tr b) w):=by
 rcases hb with rfl|rfl|rfl<;>
 ·go_enter func162,ntmps162
  go_wp2_with fail
  refine(D9 _ _ _).mono ?_
  rintro e w1 ⟨rfl,hb1⟩
  obtain⟨hc1,_,_⟩:=Bw hb1
  have y1:=hc1 w.heap.size 1 (by simp)
  simp at y1
  clear hc1
  have Hb1:=Aa (((As w.heap.size w).alloc (Ap _) _).trans (hb1.mono (by simp)))
  clear hb1
  go_wp2_with fail
  go_ret
  exact⟨rfl,Hb1.o⟩
def kcs(k:Kd):List Value:=[.string ⟨k.signs.toArray⟩,.string ⟨k.base.toArray⟩,.string ⟨k.name.toArray⟩]
def G6(v:Vl)(sl:Value):List Value:=[.int .u8 (v.what.toNat:Int),.string ⟨v.text.toArray⟩,.int .i64 (v.tag:Int),sl]
def J3(w:World)(b:Nat)(p:Value)(k:Kd)(t:List UInt8)(bad:Bool)(W:World):Prop:=
 C4 w b p t bad W/\W.rangeAt w.heap.size 0 (kcs k)/\W.there (w.heap.size+1) 0 4/\w.heap.size+1<W.heap.size
theorem J3.init{w:World}{b:Nat}{p:Value}{k:Kd}{t:List UInt8}{bad:Bool}(h:Fs w b p t bad){T U:TypeId}:J3 w b p k t bad ((w.alloc (.cells #[.string ⟨k.signs.toArray⟩,.string ⟨k.base.toArray⟩,.string ⟨k.name.toArray⟩] T)).alloc (.cells #[.int .u8 0,.string ⟨#[]⟩,.int .i64 0,.slice none 0 0] U)):=by
 have h1:Below w.heap.size w ((w.alloc (.cells #[.string ⟨k.signs.toArray⟩,.string ⟨k.base.toArray⟩,.string ⟨k.name.toArray⟩] T)).alloc (.cells #[.int .u8 0,.string ⟨#[]⟩,.int .i64 0,.slice none 0 0] U)):=((As _ _).alloc (Ap _) _).alloc (by simp) _
 refine⟨⟨h.grow h1,Cp h1 _⟩,?_,?_,by simp⟩
 ·have:=Ar (Ck w (kcs k) T) (show w.heap.size<(w.alloc (.cells (kcs k).toArray T)).heap.size by simp) ((As _ _).alloc (Ap _) (.cells #[.int .u8 0,.string ⟨#[]⟩,.int .i64 0,.slice none 0 0] U))
  exact this
 have:=Cw (w.alloc (.cells #[.string ⟨k.signs.toArray⟩,.string ⟨k.base.toArray⟩,.string ⟨k.name.toArray⟩] T)) [.int .u8 0,.string ⟨#[]⟩,.int .i64 0,.slice none 0 0] U
 simpa using this
theorem J3.post{w W W':World}{b:Nat}{p:Value}{k:Kd}{t:List UInt8}{bad:Bool}(h:J3 w b p k t bad W)(hb:Below W.heap.size W W'):J3 w b p k t bad W':=
 ⟨h.1.post hb,Ar h.2.1 (by have:=h.2.2.2;omega) hb,At h.2.2.1 h.2.2.2 hb,Nat.lt_of_lt_of_le h.2.2.2 hb.size⟩
theorem J3.step{w W W':World}{b:Nat}{p:Value}{k:Kd}{t t':List UInt8}{bad bad':Bool}(h:J3 w b p k t bad W)(hb:b<w.heap.size)(hs:C4 W b p t' bad' W'):J3 w b p k t' bad' W':=
 ⟨h.1.trans hs,Fz h.2.1 hs.2 (by simp;omega),Gq h.2.2.1 hs.2 h.2.2.2 (by simp;omega),Nat.lt_of_lt_of_le h.2.2.2 hs.2.size⟩
theorem J3.fin{w W w9:World}{b N:Nat}{p:Value}{k:Kd}{t t':List UInt8}{bad':Bool}{v:Vl}{sl:Value}{r:Option (Vl × List UInt8)}(F:J3 w b p k t' bad' W)(hb:b<w.heap.size)(HS:w9=W.setCells (w.heap.size+1) 0 (G6 v sl))
  (hv:D8 (fun c=>w.heap.size+2<=c) W sl v.kids) (hr:bad'=r.isNone) (hx:∀x,r=some x->v=x.1/\t'=x.2) (hB:Bd v) (hl:t'.length<=t.length) (hn:(Az v).length+t'.length<=t.length+8*N):
  J2 w b p t N r (.returned (.agg (G6 v sl).toArray)) w9/\w9.rangeAt (w.heap.size+1) 0 (G6 v sl):=by
 subst HS hr
 exact⟨⟨v,sl,t',rfl,(hv.set (B:=w.heap.size+1) (by omega) _).mono fun c hc _=>by omega,F.1.set (by omega) (by omega) _,hx,hB,hl,hn⟩,World.rangeAt_setCells_same _ _ _ _ F.2.2.1⟩
theorem Tx(b N:Nat)(p:Value)(t:List UInt8)(k:Kd)(w:World)(h:Fs w b p t true):
  Calls prog 57 #[.pointer (some ⟨b,0,none⟩),Fv k] w (J2 w b p t N none):=by
 have HS:=Aa h
 obtain⟨h0,h1,h2,h3,h4⟩:=h
 have hbn:¬(b=w.heap.size):=by omega
 have hbn2:¬(b=w.heap.size+1):=by omega
 unfold Fv
 clear h1 h2 h3
 go_enter func57,ntmps57
 go_wp2_with fail
 have F:=(J3.init (k:=k) HS.o (T:=39) (U:=42)).1
 refine bodyPost_ret (v:=.agg (G6 Fi (.slice none 0 0)).toArray) ?_ rfl ⟨Fi,.slice none 0 0,t,rfl,D8.nil _ _,F,(by simp),El (by decide) (by decide),Ap _,by simp[Fi,Az,Dx,E8]⟩
 refine Ay results57 _ _ (w.heap.size+1) _ _ rfl ?_ underlying42 rfl (by kernel_rfl)
 have:=Ck (w.alloc (.cells #[.string ⟨k.signs.toArray⟩,.string ⟨k.base.toArray⟩,.string ⟨k.name.toArray⟩] 39)) [.int .u8 0,.string ⟨#[]⟩,.int .i64 0,.slice none 0 0] 42
 simpa [G6,Fi,Vl.what,Vl.text,Vl.tag]using this
theorem Qal(t:List UInt8):Pt t=if Fy 999999 t then some (Gx t,t.dropWhile Ba)else none:=by
 unfold Pt Fy Gx
 cases h:Cf (t.takeWhile Ba)with
 |none=>simp
 |some n=>simp[(Bx.1 h).1]
theorem Yg(t:List UInt8):Gx t<=999999:=by
 unfold Gx
 cases h:Cf (t.takeWhile Ba)with
 |none=>simp
 |some n=>exact(Bx.1 h).1
theorem Yo(p:UInt8->Bool)(t:List UInt8):(t.dropWhile p).length<=t.length:=(P6 p t).2
theorem Qfi(b N:Nat)(p:Value)(t:List UInt8)(k:Kd)(w:World)(h:Fs w b p t false)(hl:t.length<=900)(hs:k.signs=[])(hb:k.base=[110])(q:Option (Vl × List UInt8))(hq:q=match Pt t with|some (n,r)=>some (.mk 110 (Aw n) 0 [],r)|none=>none):
  Calls prog 57 #[.pointer (some ⟨b,0,none⟩),Fv k] w (J2 w b p t (N+1) q):=by
 have HQ:=Aa hq
 have HS:=Aa h
 have hb0:=h.1
 have hbn:¬(b=w.heap.size):=by omega
 have hbn2:¬(b=w.heap.size+1):=by omega
 have c2:=h.2.2.2.2
 clear hq
 obtain⟨sg,bs,nm⟩:=k
 simp only at hs hb
 have HN:=Aa (Qal t)
 have hnn:=Yg t
 have Hn:=Aa (fun W (h:Fs W b p t false)=>Na b 999999 p t false W h (by omega) (by decide))
 have Hd:=Aa (fun W=>Nd (Gx t) (Gx t) W (Ap _) (by omega))
 have hdl:=Ds 5 (Gx t) (by have e:10 ^ (5+1)=1000000:=rfl;omega)
 have hdr:=Yo Ba t
 generalize Gx t=n at *
 generalize Fy 999999 t=ok at *
 generalize t.dropWhile Ba=r at *
 subst hs hb
 unfold Fv
 simp only
 clear h
 go_enter func57,ntmps57
 go_wp2_with fail
 refine(D9 _ _ _).mono ?_
 rintro e w2 ⟨rfl,hb2⟩
 have F2:=Aa ((J3.init (k:=⟨[],[110],nm⟩) HS.o).post hb2)
 clear hb2 c2
 have k0:=Ac F2.o.2.1 0 rfl
 have k1:=Ac F2.o.2.1 1 rfl
 have k2:=Ac F2.o.2.1 2 rfl
 simp only[Nat.zero_add]at k0 k1 k2
 have s2:=F2.o.1.1.2.2.2.2
 go_wp2_with fail
 refine(Hn.o _ F2.o.1.1).mono ?_
 rintro e w3 ⟨rfl,hs3⟩
 have F3:=Aa (F2.o.step hb0 hs3)
 clear hs3 k0 k1 k2 s2
 go_wp2_with fail
 refine(Hd.o _).mono ?_
 rintro e w4 ⟨rfl,hb4⟩
 have F4:=Aa (F3.o.post hb4)
 clear hb4
 go_wp2_with ((with_reducible refine Ad (op:=⟨none,.store 42 _ _,_,_,_,none⟩) rfl 42 _ _ rfl (w.heap.size+1) 0 [.int .u8 110,.string ⟨(Aw n).toArray⟩,.int .i64 0,.slice none 0 0] ?_ ?_ ?_ ?_ ?_ ?_);rfl;rfl;(exact F4.o.2.2.1);kernel_rfl;(simp[Value.oneCell']);intro w9 HS9)
 have HQ:=HQ.o
 rw[HN.o]at HQ
 have Z:=J3.fin (t:=t) (N:=N+1) (v:=.mk 110 (Aw n) 0 []) (sl:=.slice none 0 0) (r:=q) F4.o hb0 HS9.o (D8.nil _ _) (by rw[HQ];cases ok<;>rfl)
  (by rw[HQ];cases ok<;>simp) (El (by decide) (by omega)) hdr (by simp[Az,Dx,E8];omega)
 exact bodyPost_ret (v:=.agg (G6 (.mk 110 (Aw n) 0 []) (.slice none 0 0)).toArray) (Ay results57 _ _ (w.heap.size+1) _ _ rfl Z.2 underlying42 rfl (by kernel_rfl)) rfl Z.1
theorem Qew(b N:Nat)(p:Value)(t:List UInt8)(k:Kd)(w:World)(h:Fs w b p t false)(hl:t.length<=900)(hs:k.signs=[])(hb:k.base=[116])(q:Option (Vl × List UInt8))(hq:q=match Mn t with|some (x,r)=>some (.mk 116 x 0 [],r)|none=>none):
  Calls prog 57 #[.pointer (some ⟨b,0,none⟩),Fv k] w (J2 w b p t (N+1) q):=by
 have HQ:=Aa hq
 have HS:=Aa h
 have hb0:=h.1
 have hbn:¬(b=w.heap.size):=by omega
 have hbn2:¬(b=w.heap.size+1):=by omega
 have c2:=h.2.2.2.2
 clear hq
 obtain⟨sg,bs,nm⟩:=k
 simp only at hs hb
 have Hn:=Aa (fun W (h:Fs W b p t false)=>Qb6 b p t false W h (by omega))
 subst hs hb
 unfold Fv
 simp only
 clear h
 go_enter func57,ntmps57
 go_wp2_with fail
 refine(D9 _ _ _).mono ?_
 rintro e w2 ⟨rfl,hb2⟩
 have F2:=Aa ((J3.init (k:=⟨[],[116],nm⟩) HS.o).post hb2)
 clear hb2 c2
 have k0:=Ac F2.o.2.1 0 rfl
 have k1:=Ac F2.o.2.1 1 rfl
 have k2:=Ac F2.o.2.1 2 rfl
 simp only[Nat.zero_add]at k0 k1 k2
 have s2:=F2.o.1.1.2.2.2.2
 go_wp2_with fail
 refine(Hn.o _ F2.o.1.1).mono ?_
 rintro e w3 ⟨x,r,bad,rfl,hs3,hx,hxl⟩
 have F3:=Aa (F2.o.step hb0 hs3)
 have Hx:=Aa hx
 clear hs3 hx k0 k1 k2 s2
 go_wp2_with ((with_reducible refine Ad (op:=⟨none,.store 42 _ _,_,_,_,none⟩) rfl 42 _ _ rfl (w.heap.size+1) 0 [.int .u8 116,.string ⟨x.toArray⟩,.int .i64 0,.slice none 0 0] ?_ ?_ ?_ ?_ ?_ ?_);rfl;rfl;(exact F3.o.2.2.1);kernel_rfl;(simp[Value.oneCell']);intro w9 HS9)
 have HQ:=HQ.o
 rw[show Mn t=if bad then none else some (x,r)from Hx.o]at HQ
 have Z:=J3.fin (t:=t) (N:=N+1) (v:=.mk 116 x 0 []) (sl:=.slice none 0 0) (r:=q) F3.o hb0 HS9.o (D8.nil _ _) (by rw[HQ];cases bad<;>rfl)
  (by rw[HQ];cases bad<;>simp) (El (by decide) (by omega)) (by omega) (by simp[Az,Dx,E8];omega)
 exact bodyPost_ret (v:=.agg (G6 (.mk 116 x 0 []) (.slice none 0 0)).toArray) (Ay results57 _ _ (w.heap.size+1) _ _ rfl Z.2 underlying42 rfl (by kernel_rfl)) rfl Z.1
theorem Qf9(b N:Nat)(p:Value)(t:List UInt8)(k:Kd)(w:World)(h:Fs w b p t false)(hl:t.length<=900)(hs:k.signs=[])(hb:k.base=[102])(q:Option (Vl × List UInt8))(hq:q=match M6 t with|some (x,r)=>some (.mk 102 (if x then Eb else K0) 0 [],r)|none=>none):
  Calls prog 57 #[.pointer (some ⟨b,0,none⟩),Fv k] w (J2 w b p t (N+1) q):=by
 have HQ:=Aa hq
 have HS:=Aa h
 have hb0:=h.1
 have hbn:¬(b=w.heap.size):=by omega
 have hbn2:¬(b=w.heap.size+1):=by omega
 have c2:=h.2.2.2.2
 clear hq
 obtain⟨sg,bs,nm⟩:=k
 simp only at hs hb
 have HFL:=Aa (show M6 t=(match Ax Eb t false with|some r=>some (true,r)|none=>match Ax K0 t false with|some r=>some (false,r)|none=>none)from rfl)
 have Hy:=Aa (fun W (h:Fs W b p t false)=>Jb b p t Eb false W h (by omega))
 have Hw:=Aa (fun W (h:Fs W b p t false)=>C0 b p t K0 false W h (by omega))
 have Hl1:=Aa (fun r (h:Ax Eb t false=some r)=>(Fb (p:=Eb)).1 h)
 have Hl2:=Aa (fun r (h:Ax K0 t false=some r)=>(Fb (p:=K0)).1 h)
 subst hs hb
 unfold Fv
 simp only
 clear h
 rcases hy:Ax Eb t false with _|r
 ·rw[hy]at Hy HFL
  unfold Eb at Hy
  unfold K0 at Hw
  have HL:=Aa (show ((Ax K0 t false).getD t).length<=t.length from by
   cases h:Ax K0 t false with
   |none=>exact Ap _
   |some r=>rw[Hl2.o r h];simp)
  clear hy
  go_enter func57,ntmps57
  go_wp2_with fail
  refine(D9 _ _ _).mono ?_
  rintro e w2 ⟨rfl,hb2⟩
  have F2:=Aa ((J3.init (k:=⟨[],[102],nm⟩) HS.o).post hb2)
  clear hb2 c2
  have k0:=Ac F2.o.2.1 0 rfl
  have k1:=Ac F2.o.2.1 1 rfl
  have k2:=Ac F2.o.2.1 2 rfl
  simp only[Nat.zero_add]at k0 k1 k2
  have s2:=F2.o.1.1.2.2.2.2
  go_wp2_with fail
  refine(Hy.o _ F2.o.1.1).mono ?_
  rintro e w3 ⟨rfl,hs3⟩
  simp only[Option.getD_none]at hs3
  have F3:=Aa (F2.o.step hb0 hs3)
  clear hs3 k0 k1 k2 s2
  go_wp2_with fail
  refine(Hw.o _ F3.o.1.1).mono ?_
  rintro e w4 ⟨rfl,hs4⟩
  have F4:=Aa (F3.o.step hb0 hs4)
  clear hs4
  go_wp2_with ((with_reducible refine Ad (op:=⟨none,.store 42 _ _,_,_,_,none⟩) rfl 42 _ _ rfl (w.heap.size+1) 0 [.int .u8 102,.string ⟨#[110,111]⟩,.int .i64 0,.slice none 0 0] ?_ ?_ ?_ ?_ ?_ ?_);rfl;rfl;(exact F4.o.2.2.1);kernel_rfl;(simp[Value.oneCell']);intro w9 HS9)
  have HQ:=HQ.o
  rw[HFL.o]at HQ
  have hl2:=HL.o
  have Z:=J3.fin (t:=t) (N:=N+1) (v:=.mk 102 K0 0 []) (sl:=.slice none 0 0) (r:=q) F4.o hb0 HS9.o (D8.nil _ _) (by rw[HQ];unfold K0;cases Ax [110,111] t false<;>rfl)
   (by rw[HQ];unfold K0;cases Ax [110,111] t false<;>simp) (El (by decide) (by decide)) hl2 (by unfold K0 at hl2 ⊢;simp[Az,Dx,E8];omega)
  exact bodyPost_ret (v:=.agg (G6 (.mk 102 K0 0 []) (.slice none 0 0)).toArray) (Ay results57 _ _ (w.heap.size+1) _ _ rfl Z.2 underlying42 rfl (by kernel_rfl)) rfl Z.1
 rw[hy]at Hy HFL
 unfold Eb at Hy
 have hlr:=Hl1.o r hy
 have hlr2:t.length=3+r.length:=by rw[hlr];simp[Eb];omega
 clear hy hlr
 go_enter func57,ntmps57
 go_wp2_with fail
 refine(D9 _ _ _).mono ?_
 rintro e w2 ⟨rfl,hb2⟩
 have F2:=Aa ((J3.init (k:=⟨[],[102],nm⟩) HS.o).post hb2)
 clear hb2 c2
 have k0:=Ac F2.o.2.1 0 rfl
 have k1:=Ac F2.o.2.1 1 rfl
 have k2:=Ac F2.o.2.1 2 rfl
 simp only[Nat.zero_add]at k0 k1 k2
 have s2:=F2.o.1.1.2.2.2.2
 go_wp2_with fail
 refine(Hy.o _ F2.o.1.1).mono ?_
 rintro e w3 ⟨rfl,hs3⟩
 simp only[Option.getD_some]at hs3
 have F3:=Aa (F2.o.step hb0 hs3)
 clear hs3 k0 k1 k2 s2
 go_wp2_with ((with_reducible refine Ad (op:=⟨none,.store 42 _ _,_,_,_,none⟩) rfl 42 _ _ rfl (w.heap.size+1) 0 [.int .u8 102,.string ⟨#[121,101,115]⟩,.int .i64 0,.slice none 0 0] ?_ ?_ ?_ ?_ ?_ ?_);rfl;rfl;(exact F3.o.2.2.1);kernel_rfl;(simp[Value.oneCell']);intro w9 HS9)
 have HQ:=HQ.o
 rw[HFL.o]at HQ
 have Z:=J3.fin (t:=t) (N:=N+1) (v:=.mk 102 Eb 0 []) (sl:=.slice none 0 0) (r:=q) F3.o hb0 HS9.o (D8.nil _ _) (by rw[HQ];rfl)
  (by rw[HQ];simp) (El (by decide) (by decide)) (by omega) (by unfold Eb;simp[Az,Dx,E8];omega)
 exact bodyPost_ret (v:=.agg (G6 (.mk 102 Eb 0 []) (.slice none 0 0)).toArray) (Ay results57 _ _ (w.heap.size+1) _ _ rfl Z.2 underlying42 rfl (by kernel_rfl)) rfl Z.1
end
end Go.Proofs.YtkigmebejmmikaaGreatDoor
