/- Texts joined. Conditions: as each theorem names them. -/
import Derived.Test.YtkigmebejmmikaaGreatDoorQ10
import Derived.Test.YtkigmebejmmikaaGreatDoorQ21
import Derived.Test.YtkigmebejmmikaaGreatDoorQ25
import Derived.Test.YtkigmebejmmikaaGreatDoorQ29
set_option maxRecDepth 100000
set_option maxHeartbeats 32000000
set_option linter.unusedVariables false
set_option linter.unusedSimpArgs false
namespace Go.Proofs.YtkigmebejmmikaaGreatDoor
open Go.RowKit Go.Proofs.Tryz
section
attribute [local go_sem] Qja Qit Qib Qgw ByteArray.mk_append_mk
def Km(o:Option (Fd × List UInt8))(s:List UInt8)(w:World)(e:Ending)(w':World):Prop:=
 ∃(n:Nat) (a b c r:List UInt8),e=.returned (.tuple #[.agg #[.int .i64 (n:Int),.string ⟨a.toArray⟩,.string ⟨b.toArray⟩,.string ⟨c.toArray⟩],.string ⟨r.toArray⟩,.bool o.isSome])/\Below w.heap.size w w'/\r.length<=s.length/\n<=1000000000 /\
  ∀f q,o=some (f,q)->n=f.tag/\a=f.name/\b=Bq f.kind/\c=f.given/\r=q
theorem Qg4(fs:List Fd)(s:List UInt8):Fh fs s=if Dj (s.takeWhile Ba) 200 then(match Cf (s.takeWhile Ba)with|some n=>(Bg fs n).map (fun f=>(f,s.dropWhile Ba))|none=>none)else none:=by
 unfold Fh Pt Dj
 cases h:Cf (s.takeWhile Ba)with
 |none=>rfl
 |some n=>
  simp only
  by_cases hn:n<=200
  ·simp only[hn,if_true,decide_true]
   cases Bg fs n<;>rfl
  simp[hn]
theorem Tp(xv st nm fv:Value)(hxv:xv.oneCell'=true)(hst:st.oneCell'=true)(hnm:nm.oneCell'=true)(fs:List Fd)(s:List UInt8)(w:World)(h:Fg w fv fs)(htg:∀f∈fs,f.tag<=200)(hs:s.length<=4000000):
  Calls prog 108 #[.agg #[xv],.string ⟨s.toArray⟩,.agg #[st,nm,fv]] w (Km (Fh fs s) s w):=by
 obtain⟨A9,c9,rfl,hl9,hr9⟩:=h
 have Hfs:=Aa (show Fg w (.slice A9 fs.length c9) fs from⟨A9,c9,rfl,hl9,hr9⟩)
 have HQ:=Aa (Qg4 fs s)
 obtain⟨e1,e2,hle⟩:=Qc Ba s
 have Hd:=Aa (fun W=>Rx s W hs)
 have Hn:=Aa (fun W=>Db (s.takeWhile Ba) 200 W (by omega) (by decide))
 have E1:=Aa e1
 have E2:=Aa e2
 have k1:((s.takeWhile Ba).length:Int)<=(s.length:Int):=by omega
 have Hdl:=Aa (show (s.dropWhile Ba).length<=s.length by rw[<-e2];simp)
 generalize (s.takeWhile Ba).length=n at *
 generalize s.takeWhile Ba=tw at *
 generalize s.dropWhile Ba=dw at *
 have k2:(0:Int)<=(n:Int):=by omega
 have k3:((n:Int)).toNat=n:=by omega
 have hn8:n<=4000000:=by omega
 have Htg:=Aa htg
 clear e1 e2 hr9 htg
 go_enter func108,ntmps108
 go_wp2_with fail
 refine(Hd.o _).mono ?_
 rintro e w1 ⟨rfl,rfl⟩
 go_wp2_with fail
 rw[E1.o]
 refine(Hn.o _).mono ?_
 rintro e w2 ⟨m,hm,rfl,hdm,hb2⟩
 have Hdm:=Aa hdm
 have Hb2:=Aa ((((As w.heap.size w).alloc (Ap _) (.cells #[xv] 35)).alloc (by simp) (.cells #[st,nm,.slice A9 fs.length c9] 95)).alloc (by simp;omega) (.cells #[.int .i64 0,.string ⟨#[]⟩,.string ⟨#[]⟩,.string ⟨#[]⟩] 118) |>.trans (hb2.mono (by simp;omega)))
 obtain⟨hc2,hfz2,hzz2⟩:=Bw hb2
 have hz2:=hb2.size
 simp only[World.size_alloc]at hz2
 have Hf2:=Aa (fun W (hW:Below w.heap.size w W)=>Sr st nm (.slice A9 fs.length c9) fs m W (Hfs.o.below hW) (by omega))
 generalize hok0:Dj tw 200=ok at *
 have Hok:=Aa hok0
 clear hok0
 clear hdm hb2
 go_wp2_with fail
 refine(Hf2.o _ Hb2.o).mono ?_
 rintro e w3 ⟨rfl,hb3⟩
 have Hb3:=Aa (Hb2.o.trans (hb3.mono Hb2.o.size))
 obtain⟨hc3,hfz3,hzz3⟩:=Bw hb3
 have hz3:=hb3.size
 have hcc:∀b o,b<w.heap.size+3->w3.cell? ⟨b,o,none⟩=w2.cell? ⟨b,o,none⟩:=fun b o h=>hc3 b o (by omega)
 clear hb3 Hf2 hzz2 hzz3
 obtain⟨n0,a,b,c,is,hsf,hn0,his,hfd⟩:∃(n0:Nat) (a b c:List UInt8) (is:Bool),sfR (Bg fs m)=.tuple #[.agg #[.int .i64 (n0:Int),.string ⟨a.toArray⟩,.string ⟨b.toArray⟩,.string ⟨c.toArray⟩],.bool is]/\n0<=1000000000/\(Bg fs m).isSome=is/\∀f,Bg fs m=some f->n0=f.tag/\a=f.name/\b=Bq f.kind/\c=f.given:=by
  cases hf:Bg fs m with
  |none=>exact⟨0,[],[],[],false,rfl,by omega,rfl,fun f h=>by cases h⟩
  |some f=>exact⟨f.tag,f.name,Bq f.kind,f.given,true,rfl,by have:=Htg.o f (List.mem_of_find?_eq_some hf);omega,rfl,fun g h=>by injection h with h;subst h;exact⟨rfl,rfl,rfl,rfl⟩⟩
 rw[hsf]
 have Hfd:=Aa (And.intro his hfd)
 clear hsf his hfd
 go_wp2_with fail
 have F0:w3.cell? ⟨w.heap.size+1+1,0,none⟩=some (.int .i64 0):=by rw[hcc _ _ (by omega),hc2 _ _ (by simp)];go_simp
 have F1:w3.cell? ⟨w.heap.size+1+1,1,none⟩=some (.string ⟨#[]⟩):=by rw[hcc _ _ (by omega),hc2 _ _ (by simp)];go_simp
 have F2:w3.cell? ⟨w.heap.size+1+1,2,none⟩=some (.string ⟨#[]⟩):=by rw[hcc _ _ (by omega),hc2 _ _ (by simp)];go_simp
 have F3:w3.cell? ⟨w.heap.size+1+1,3,none⟩=some (.string ⟨#[]⟩):=by rw[hcc _ _ (by omega),hc2 _ _ (by simp)];go_simp
 have Z0:w3.frozen? ⟨w.heap.size+1+1,0,none⟩=false:=by rw[hfz3 _ _ (by omega),hfz2 _ _ (by simp)];go_simp
 have Z1:w3.frozen? ⟨w.heap.size+1+1,1,none⟩=false:=by rw[hfz3 _ _ (by omega),hfz2 _ _ (by simp)];go_simp
 have Z2:w3.frozen? ⟨w.heap.size+1+1,2,none⟩=false:=by rw[hfz3 _ _ (by omega),hfz2 _ _ (by simp)];go_simp
 have Z3:w3.frozen? ⟨w.heap.size+1+1,3,none⟩=false:=by rw[hfz3 _ _ (by omega),hfz2 _ _ (by simp)];go_simp
 have hb6:w.heap.size+1+1<w3.heap.size:=by omega
 clear hc2 hfz2 hc3 hfz3 hcc
 cases ok with
 |true=>
  refine P3 [29,30,31,32,33,34,35,36,999,7,8]
   (fun ix v W=>match ix with|0=>v=.agg #[.int .i64 (n0:Int),.string ⟨a.toArray⟩,.string ⟨b.toArray⟩,.string ⟨c.toArray⟩]|1=>v=.string ⟨(s:List UInt8).toArray⟩|2=>v=.int .i64 (n:Int)|3=>v=.string ⟨(dw:List UInt8).toArray⟩|4=>v=.bool true|5=>v=.bool true|6=>v=.bool is|7=>v=.bool is|9=>v=.string ⟨(dw:List UInt8).toArray⟩|10=>v=.bool is|_=>True)
   (fun L U W=>(L 8=false->W=(w3.alloc (.cells #[.int .i64 (n0:Int),.string ⟨a.toArray⟩,.string ⟨b.toArray⟩,.string ⟨c.toArray⟩] 118)).drew)/\(L 8=true->Below w.heap.size w W/\W.cell? ⟨w.heap.size+1+1,0,none⟩=some (.int .i64 (n0:Int))/\W.cell? ⟨w.heap.size+1+1,1,none⟩=some (.string ⟨a.toArray⟩)/\W.cell? ⟨w.heap.size+1+1,2,none⟩=some (.string ⟨b.toArray⟩)/\W.cell? ⟨w.heap.size+1+1,3,none⟩=some (.string ⟨c.toArray⟩))) (⟨fun _=>rfl,fun h=>Bool.noConfusion h⟩) ?_ ?_
  ·repeat (first|exact Aq.nil|(refine Aq.cons ?_ ?_;rotate_left))
   all_goals
    rintro L U W hL hpre HR Hdep K hK
    first|(simp[Region.binds]at hpre;done)|simp[Region.binds]at hpre|clear hpre
   ·have h8:L 8=false:=Bz Hdep.o 8 0 rfl hL
    have hW:=HR.o.1 h8
    subst hW
    go_simp
    first|exact hK _ _ _ rfl Ab HR.o rfl|exact kE hK HR.o
   iterate 2
    ·go_simp
     first|exact hK _ _ _ rfl Ab HR.o rfl|exact kE hK HR.o|exact hK undef _ _ Ab Ab HR.o (by simp[Act.put,hpre])|exact hK _ _ _ Ab Ab HR.o rfl|exact kE hK HR.o
   ·go_simp
    rw[E2.o]
    first|exact hK _ _ _ rfl Ab HR.o rfl|exact kE hK HR.o
   iterate 4
    ·go_simp
     first|exact hK _ _ _ rfl Ab HR.o rfl|exact kE hK HR.o|exact hK undef _ _ Ab Ab HR.o (by simp[Act.put,hpre])|exact hK _ _ _ Ab Ab HR.o rfl|exact kE hK HR.o
   ·have hW:=HR.o.1 hL
    subst hW
    go_simp
    have HB6:=((((((Hb3.o.setCell (p:=⟨w.heap.size+1+1,0,none⟩) (by simp;omega) (.int .i64 (n0:Int))).setCell (p:=⟨w.heap.size+1+1,1,none⟩) (by simp;omega) (.string ⟨a.toArray⟩)).setCell (p:=⟨w.heap.size+1+1,2,none⟩) (by simp;omega) (.string ⟨b.toArray⟩)).setCell (p:=⟨w.heap.size+1+1,3,none⟩) (by simp;omega) (.string ⟨c.toArray⟩)).alloc (by simp;omega) (.cells #[.int .i64 (n0:Int),.string ⟨a.toArray⟩,.string ⟨b.toArray⟩,.string ⟨c.toArray⟩] 118)).drew)
    refine hK undef _ _ Ab Ab ⟨fun h=>by simp at h,fun _=>⟨HB6,?_,?_,?_,?_⟩⟩ (by simp[Act.put,hpre])
    all_goals go_simp
   iterate 2
    ·go_simp
     first|exact hK _ _ _ rfl Ab HR.o rfl|exact kE hK HR.o|exact hK undef _ _ Ab Ab HR.o (by simp[Act.put,hpre])|exact hK _ _ _ Ab Ab HR.o rfl|exact kE hK HR.o
  rintro L U W hL hφ hR
  have e9:U 9=.string ⟨(dw:List UInt8).toArray⟩:=hφ 9 (by decide)
  have e10:U 10=.bool is:=hφ 10 (by decide)
  clear hφ
  obtain⟨Hbw,c0,c1,c2,c3⟩:=hR.2 (hL 8 (by decide))
  have HBW:=Aa Hbw
  clear hL hR Hbw
  simp only[e9,e10]
  go_wp2_with fail
  refine bodyPost_ret (v:=.tuple #[.agg #[.int .i64 (n0:Int),.string ⟨a.toArray⟩,.string ⟨b.toArray⟩,.string ⟨c.toArray⟩],.string ⟨dw.toArray⟩,.bool is]) (by simp[results,results108,go_sem,c0,c1,c2,c3]) rfl ?_
  obtain⟨his,hfd⟩:=Hfd.o
  have HQ:=HQ.o
  have hok:=Hok.o
  cases hdm:Cf tw with
  |none=>rw[Md hdm]at hok;cases hok
  |some m'=>
   rw[hdm]at HQ
   simp only[if_true]at HQ
   have hm':=Hdm.o m' hdm
   subst hm'
   rw[HQ]
   refine⟨n0,a,b,c,dw,by rw[Option.isSome_map,his],HBW.o,Hdl.o,hn0,fun f q h=>?_⟩
   cases hf:Bg fs m' with
   |none=>rw[hf]at h;cases h
   |some g=>
    rw[hf]at h
    injection h with h
    injection h with h1 h2
    subst h1 h2
    obtain⟨q1,q2,q3,q4⟩:=hfd g hf
    exact⟨q1,q2,q3,q4,rfl⟩
 |false=>
  refine P3 [29,30,31,32,33,34,35,36,999,7,8]
   (fun ix v W=>match ix with|0=>v=.agg #[.int .i64 (n0:Int),.string ⟨a.toArray⟩,.string ⟨b.toArray⟩,.string ⟨c.toArray⟩]|1=>v=.string ⟨(s:List UInt8).toArray⟩|2=>v=.int .i64 (n:Int)|3=>v=.string ⟨(dw:List UInt8).toArray⟩|4=>v=.bool false|5=>v=.bool false|7=>v=.bool false|9=>v=.string ⟨(dw:List UInt8).toArray⟩|10=>v=.bool false|_=>True)
   (fun L U W=>(L 8=false->W=(w3.alloc (.cells #[.int .i64 (n0:Int),.string ⟨a.toArray⟩,.string ⟨b.toArray⟩,.string ⟨c.toArray⟩] 118)).drew)/\(L 8=true->Below w.heap.size w W/\W.cell? ⟨w.heap.size+1+1,0,none⟩=some (.int .i64 (n0:Int))/\W.cell? ⟨w.heap.size+1+1,1,none⟩=some (.string ⟨a.toArray⟩)/\W.cell? ⟨w.heap.size+1+1,2,none⟩=some (.string ⟨b.toArray⟩)/\W.cell? ⟨w.heap.size+1+1,3,none⟩=some (.string ⟨c.toArray⟩))) (⟨fun _=>rfl,fun h=>Bool.noConfusion h⟩) ?_ ?_
  ·repeat (first|exact Aq.nil|(refine Aq.cons ?_ ?_;rotate_left))
   all_goals
    rintro L U W hL hpre HR Hdep K hK
    first|(simp[Region.binds]at hpre;done)|simp[Region.binds]at hpre|clear hpre
   ·have h8:L 8=false:=Bz Hdep.o 8 0 rfl hL
    have hW:=HR.o.1 h8
    subst hW
    go_simp
    first|exact hK _ _ _ rfl Ab HR.o rfl|exact kE hK HR.o
   iterate 2
    ·go_simp
     first|exact hK _ _ _ rfl Ab HR.o rfl|exact kE hK HR.o|exact hK undef _ _ Ab Ab HR.o (by simp[Act.put,hpre])|exact hK _ _ _ Ab Ab HR.o rfl|exact kE hK HR.o
   ·go_simp
    rw[E2.o]
    first|exact hK _ _ _ rfl Ab HR.o rfl|exact kE hK HR.o
   iterate 4
    ·go_simp
     first|exact hK _ _ _ rfl Ab HR.o rfl|exact kE hK HR.o|exact hK undef _ _ Ab Ab HR.o (by simp[Act.put,hpre])|exact hK _ _ _ Ab Ab HR.o rfl|exact kE hK HR.o
   ·have hW:=HR.o.1 hL
    subst hW
    go_simp
    have HB6:=((((((Hb3.o.setCell (p:=⟨w.heap.size+1+1,0,none⟩) (by simp;omega) (.int .i64 (n0:Int))).setCell (p:=⟨w.heap.size+1+1,1,none⟩) (by simp;omega) (.string ⟨a.toArray⟩)).setCell (p:=⟨w.heap.size+1+1,2,none⟩) (by simp;omega) (.string ⟨b.toArray⟩)).setCell (p:=⟨w.heap.size+1+1,3,none⟩) (by simp;omega) (.string ⟨c.toArray⟩)).alloc (by simp;omega) (.cells #[.int .i64 (n0:Int),.string ⟨a.toArray⟩,.string ⟨b.toArray⟩,.string ⟨c.toArray⟩] 118)).drew)
    refine hK undef _ _ Ab Ab ⟨fun h=>by simp at h,fun _=>⟨HB6,?_,?_,?_,?_⟩⟩ (by simp[Act.put,hpre])
    all_goals go_simp
   iterate 2
    ·go_simp
     first|exact hK _ _ _ rfl Ab HR.o rfl|exact kE hK HR.o|exact hK undef _ _ Ab Ab HR.o (by simp[Act.put,hpre])|exact hK _ _ _ Ab Ab HR.o rfl|exact kE hK HR.o
  rintro L U W hL hφ hR
  have e9:U 9=.string ⟨(dw:List UInt8).toArray⟩:=hφ 9 (by decide)
  have e10:U 10=.bool false:=hφ 10 (by decide)
  clear hφ
  obtain⟨Hbw,c0,c1,c2,c3⟩:=hR.2 (hL 8 (by decide))
  have HBW:=Aa Hbw
  clear hL hR Hbw
  simp only[e9,e10]
  go_wp2_with fail
  refine bodyPost_ret (v:=.tuple #[.agg #[.int .i64 (n0:Int),.string ⟨a.toArray⟩,.string ⟨b.toArray⟩,.string ⟨c.toArray⟩],.string ⟨dw.toArray⟩,.bool false]) (by simp[results,results108,go_sem,c0,c1,c2,c3]) rfl ?_
  obtain⟨his,hfd⟩:=Hfd.o
  have HQ:=HQ.o
  have hok:=Hok.o
  simp only[Bool.false_eq_true,if_false]at HQ
  rw[HQ]
  exact⟨n0,a,b,c,dw,rfl,HBW.o,Hdl.o,hn0,fun f q h=>by cases h⟩
end
def enL(o:Option (Fd × List UInt8)):Option (Vl × List UInt8):=match o with|some (f,q)=>some (.mk 69 [] f.tag [],q)|none=>none
def unL(R:Kd->List UInt8->Option (Vl × List UInt8))(o:Option (Fd × List UInt8)):Option (Vl × List UInt8):=match o with
 |none=>none
 |some (f,r)=>match Am 61 r with
  |none=>none
  |some q=>match R f.kind q with
   |none=>none
   |some (v,q)=>match Am 62 q with|some z'=>some (.mk 85 [] f.tag [v],z')|none=>none
def StF(o:Option (Fd × List UInt8))(s:List UInt8)(n:Nat)(a b c r:List UInt8):Prop:=
 r.length<=s.length/\n<=1000000000/\∀f q,o=some (f,q)->n=f.tag/\a=f.name/\b=Bq f.kind/\c=f.given/\r=q
theorem Km.q{o:Option (Fd × List UInt8)}{s:List UInt8}{w w':World}{e:Ending}(h:Km o s w e w'):∃(n:Nat) (a b c r:List UInt8),e=.returned (.tuple #[.agg #[.int .i64 (n:Int),.string ⟨a.toArray⟩,.string ⟨b.toArray⟩,.string ⟨c.toArray⟩],.string ⟨r.toArray⟩,.bool o.isSome])/\StF o s n a b c r/\Below w.heap.size w w':=by
 obtain⟨n,a,b,c,r,h1,h2,h3,h4,h5⟩:=h
 exact⟨n,a,b,c,r,h1,⟨h3,h4,h5⟩,h2⟩
structure Gl(w1:World)(o:Option (Fd × List UInt8))(s:List UInt8)(l m x y z al st p q:Bool)(ul um ux uy uz ual up uq:Value)(W:World):Prop where
 be:Below w1.heap.size w1 W
 yes:l=true->∃(n:Nat) (a b c r:List UInt8),StF o s n a b c r/\ul=.tuple #[.agg #[.int .i64 (n:Int),.string ⟨a.toArray⟩,.string ⟨b.toArray⟩,.string ⟨c.toArray⟩],.string ⟨r.toArray⟩,.bool o.isSome] /\
  (m=true->um=.tuple #[.agg #[.int .i64 (n:Int),.string ⟨a.toArray⟩,.string ⟨b.toArray⟩,.string ⟨c.toArray⟩],.string ⟨r.toArray⟩,.bool o.isSome]) /\
  (x=true->ux=.agg #[.int .i64 (n:Int),.string ⟨a.toArray⟩,.string ⟨b.toArray⟩,.string ⟨c.toArray⟩])/\(y=true->uy=.string ⟨r.toArray⟩)/\(z=true->uz=.bool o.isSome)/\(p=true->up=.string ⟨r.toArray⟩)/\(q=true->uq=.bool o.isSome)
 al:al=true->∃B,ual=.pointer (some ⟨B,0,none⟩)/\w1.heap.size<=B/\B<W.heap.size/\W.there B 0 4/\(st=true->∃cs:List Value,ux=.agg cs.toArray/\W.rangeAt B 0 cs)
section
variable {w1 W W':World} {o:Option (Fd × List UInt8)} {s:List UInt8} {l m x y z al st p q:Bool} {ul um ux uy uz ual up uq:Value} {n:Nat} {a b c r:List UInt8} {B:Nat}
theorem Gl.start:Gl w1 o s false m x y z false st p q ul um ux uy uz ual up uq w1:=⟨As _ _,fun h=>Bool.noConfusion h,fun h=>Bool.noConfusion h⟩
theorem Gl.call(h:Gl w1 o s l m x y z al st p q ul um ux uy uz ual up uq W)(hm:m=false)(hx:x=false)(hy:y=false)(hz:z=false)(hst:st=false)(hp:p=false)(hq:q=false)(hF:StF o s n a b c r)(hb:Below W.heap.size W W'):
  Gl w1 o s true m x y z al st p q (.tuple #[.agg #[.int .i64 (n:Int),.string ⟨a.toArray⟩,.string ⟨b.toArray⟩,.string ⟨c.toArray⟩],.string ⟨r.toArray⟩,.bool o.isSome]) um ux uy uz ual up uq W':=by
 subst hm hx hy hz hst hp hq
 refine⟨h.be.trans (hb.mono h.be.size),fun _=>⟨n,a,b,c,r,hF,rfl,fun h=>Bool.noConfusion h,fun h=>Bool.noConfusion h,fun h=>Bool.noConfusion h,fun h=>Bool.noConfusion h,fun h=>Bool.noConfusion h,fun h=>Bool.noConfusion h⟩,fun ha=>?_⟩
 obtain⟨B,h1,h2,h3,h4,_⟩:=h.al ha
 exact⟨B,h1,h2,Nat.lt_of_lt_of_le h3 hb.size,At h4 h3 hb,fun h=>Bool.noConfusion h⟩
theorem Gl.move(h:Gl w1 o s l m x y z al st p q ul um ux uy uz ual up uq W)(hl:l=true):Gl w1 o s l true x y z al st p q ul ul ux uy uz ual up uq W:=
 ⟨h.be,fun hl=>by obtain⟨n,a,b,c,r,h1,h2,_,h4⟩:=h.yes hl;exact⟨n,a,b,c,r,h1,h2,fun _=>h2,h4⟩,h.al⟩
theorem Gl.get(h:Gl w1 o s l m x y z al st p q ul um ux uy uz ual up uq W)(hl:l=true)(hm:m=true)(hst:x=false->st=false):∃(n:Nat) (a b c r:List UInt8),um=.tuple #[.agg #[.int .i64 (n:Int),.string ⟨a.toArray⟩,.string ⟨b.toArray⟩,.string ⟨c.toArray⟩],.string ⟨r.toArray⟩,.bool o.isSome] /\
  (x=false->Gl w1 o s l m true y z al st p q ul um (.agg #[.int .i64 (n:Int),.string ⟨a.toArray⟩,.string ⟨b.toArray⟩,.string ⟨c.toArray⟩]) uy uz ual up uq W)/\Gl w1 o s l m x true z al st p q ul um ux (.string ⟨r.toArray⟩) uz ual up uq W/\Gl w1 o s l m x y true al st p q ul um ux uy (.bool o.isSome) ual up uq W:=by
 obtain⟨n,a,b,c,r,h1,h2,h3,h4,h5,h6,h7⟩:=h.yes hl
 refine⟨n,a,b,c,r,h3 hm,fun hx=>⟨h.be,fun _=>⟨n,a,b,c,r,h1,h2,h3,fun _=>rfl,h5,h6,h7⟩,fun ha=>?_⟩,⟨h.be,fun _=>⟨n,a,b,c,r,h1,h2,h3,h4,fun _=>rfl,h6,h7⟩,h.al⟩,⟨h.be,fun _=>⟨n,a,b,c,r,h1,h2,h3,h4,h5,fun _=>rfl,h7⟩,h.al⟩⟩
 obtain⟨B,g1,g2,g3,g4,_⟩:=h.al ha
 exact⟨B,g1,g2,g3,g4,fun hs=>absurd ((hst hx).symm.trans hs) (by decide)⟩
theorem Gl.as1(h:Gl w1 o s l m x y z al st p q ul um ux uy uz ual up uq W)(hy:y=true):Gl w1 o s l m x y z al st true q ul um ux uy uz ual uy uq W:=
 ⟨h.be,fun hl=>by obtain⟨n,a,b,c,r,h1,h2,h3,h4,h5,h6,_,h7⟩:=h.yes hl;exact⟨n,a,b,c,r,h1,h2,h3,h4,h5,h6,fun _=>h5 hy,h7⟩,h.al⟩
theorem Gl.as2(h:Gl w1 o s l m x y z al st p q ul um ux uy uz ual up uq W)(hz:z=true):Gl w1 o s l m x y z al st p true ul um ux uy uz ual up uz W:=
 ⟨h.be,fun hl=>by obtain⟨n,a,b,c,r,h1,h2,h3,h4,h5,h6,h7,_⟩:=h.yes hl;exact⟨n,a,b,c,r,h1,h2,h3,h4,h5,h6,h7,fun _=>h6 hz⟩,h.al⟩
theorem Gl.alloc(h:Gl w1 o s l m x y z al st p q ul um ux uy uz ual up uq W)(hst:st=false)(T:TypeId):Gl w1 o s l m x y z true st p q ul um ux uy uz (.pointer (some ⟨W.heap.size,0,none⟩)) up uq (W.alloc (.cells #[.int .i64 0,.string ⟨#[]⟩,.string ⟨#[]⟩,.string ⟨#[]⟩] T)):=
 ⟨h.be.alloc h.be.size _,h.yes,fun _=>⟨_,rfl,h.be.size,by simp,Cw W [.int .i64 0,.string ⟨#[]⟩,.string ⟨#[]⟩,.string ⟨#[]⟩] T,fun h=>absurd (hst.symm.trans h) (by decide)⟩⟩
theorem Gl.store(h:Gl w1 o s l m x y z al st p q ul um ux uy uz ual up uq W)(ha:al=true)(ex:ux=.agg #[.int .i64 (n:Int),.string ⟨a.toArray⟩,.string ⟨b.toArray⟩,.string ⟨c.toArray⟩])(el:ual=.pointer (some ⟨B,0,none⟩)):
  W.there B 0 4/\Gl w1 o s l m x y z al true p q ul um ux uy uz ual up uq (W.setCells B 0 [.int .i64 (n:Int),.string ⟨a.toArray⟩,.string ⟨b.toArray⟩,.string ⟨c.toArray⟩]):=by
 obtain⟨B',g1,g2,g3,g4,_⟩:=h.al ha
 rw[el]at g1
 injection g1 with g1;injection g1 with g1;injection g1 with g1;subst g1
 exact⟨g4,Ah _ g2 _ _ _ h.be,h.yes,fun _=>⟨B,el,g2,by rw[Cy];exact g3,World.there_setCells g4 _ _ _,fun _=>⟨_,ex,World.rangeAt_setCells_same _ _ _ _ g4⟩⟩⟩
theorem Gl.fin(h:Gl w1 o s l m x y z al st p q ul um ux uy uz ual up uq W)(hl:l=true)(hx:x=true)(ha:al=true)(hs:st=true)(hp:p=true)(hq:q=true):
  ∃(n:Nat) (a b c r:List UInt8) (B:Nat),StF o s n a b c r/\ual=.pointer (some ⟨B,0,none⟩)/\up=.string ⟨r.toArray⟩/\uq=.bool o.isSome/\w1.heap.size<=B/\B<W.heap.size/\W.rangeAt B 0 [.int .i64 (n:Int),.string ⟨a.toArray⟩,.string ⟨b.toArray⟩,.string ⟨c.toArray⟩]/\Below w1.heap.size w1 W:=by
 obtain⟨n,a,b,c,r,h1,h2,h3,h4,h5,h6,h7,h8⟩:=h.yes hl
 obtain⟨B,g1,g2,g3,g4,g5⟩:=h.al ha
 obtain⟨cs,e1,e2⟩:=g5 hs
 have e3:=h4 hx
 rw[e1]at e3
 injection e3 with e3
 have e4:cs=[.int .i64 (n:Int),.string ⟨a.toArray⟩,.string ⟨b.toArray⟩,.string ⟨c.toArray⟩]:=by simpa using e3
 exact⟨n,a,b,c,r,B,h1,g1,h7 hp,h8 hq,g2,g3,e4 ▸ e2,h.be⟩
end
section
variable {Q:World->Value->Value->Value->Prop} {w1 W W':World} {l m x y z a b e:Bool} {ul um ux uy uz ua ub ue vp vr vk:Value}
theorem Gc.call(hm:m=false)(hx:x=false)(hy:y=false)(hz:z=false)(ha:a=false)(hb:b=false)(he:e=false)(h:Q W vp vr vk):Gc Q w1 true m x y z a b e (.tuple #[vp,vr,vk]) um ux uy uz ua ub ue W:=by
 subst hm hx hy hz ha hb he
 exact⟨fun h=>Bool.noConfusion h,fun _=>⟨vp,vr,vk,h,rfl,fun h=>Bool.noConfusion h,fun h=>Bool.noConfusion h,fun h=>Bool.noConfusion h,fun h=>Bool.noConfusion h,fun h=>Bool.noConfusion h,fun h=>Bool.noConfusion h,fun h=>Bool.noConfusion h⟩⟩
theorem Gc.call2(hx:x=false)(hy:y=false)(hz:z=false)(ha:a=false)(hb:b=false)(he:e=false)(h:Q W vp vr vk):Gc Q w1 true true x y z a b e (.tuple #[vp,vr,vk]) (.tuple #[vp,vr,vk]) ux uy uz ua ub ue W:=by
 subst hx hy hz ha hb he
 exact⟨fun h=>Bool.noConfusion h,fun _=>⟨vp,vr,vk,h,rfl,fun _=>rfl,fun h=>Bool.noConfusion h,fun h=>Bool.noConfusion h,fun h=>Bool.noConfusion h,fun h=>Bool.noConfusion h,fun h=>Bool.noConfusion h,fun h=>Bool.noConfusion h⟩⟩
theorem Gc.move(h:Gc Q w1 l m x y z a b e ul um ux uy uz ua ub ue W)(hl:l=true):Gc Q w1 l true x y z a b e ul ul ux uy uz ua ub ue W:=
 ⟨h.no,fun hl=>by obtain⟨p,r,k,h1,h2,_,h3⟩:=h.yes hl;exact⟨p,r,k,h1,h2,fun _=>h2,h3⟩⟩
theorem Gc.get(h:Gc Q w1 l m x y z a b e ul um ux uy uz ua ub ue W)(hl:l=true)(hm:m=true):∃vp vr vk,um=.tuple #[vp,vr,vk]/\Gc Q w1 l m true y z a b e ul um vp uy uz ua ub ue W/\Gc Q w1 l m x true z a b e ul um ux vr uz ua ub ue W/\Gc Q w1 l m x y true a b e ul um ux uy vk ua ub ue W:=by
 obtain⟨p,r,k,h1,h2,h3,h4,h5,h6,h7⟩:=h.yes hl
 exact⟨p,r,k,h3 hm,⟨h.no,fun _=>⟨p,r,k,h1,h2,h3,fun _=>rfl,h5,h6,h7⟩⟩,⟨h.no,fun _=>⟨p,r,k,h1,h2,h3,h4,fun _=>rfl,h6,h7⟩⟩,⟨h.no,fun _=>⟨p,r,k,h1,h2,h3,h4,h5,fun _=>rfl,h7⟩⟩⟩
theorem Gc.as0(h:Gc Q w1 l m x y z a b e ul um ux uy uz ua ub ue W)(hx:x=true):Gc Q w1 l m x y z true b e ul um ux uy uz ux ub ue W:=
 ⟨h.no,fun hl=>by obtain⟨p,r,k,h1,h2,h3,h4,h5,h6,_,h8,h9⟩:=h.yes hl;exact⟨p,r,k,h1,h2,h3,h4,h5,h6,fun _=>h4 hx,h8,h9⟩⟩
theorem Gc.as1(h:Gc Q w1 l m x y z a b e ul um ux uy uz ua ub ue W)(hy:y=true):Gc Q w1 l m x y z a true e ul um ux uy uz ua uy ue W:=
 ⟨h.no,fun hl=>by obtain⟨p,r,k,h1,h2,h3,h4,h5,h6,h7,_,h9⟩:=h.yes hl;exact⟨p,r,k,h1,h2,h3,h4,h5,h6,h7,fun _=>h5 hy,h9⟩⟩
theorem Gc.as2(h:Gc Q w1 l m x y z a b e ul um ux uy uz ua ub ue W)(hz:z=true):Gc Q w1 l m x y z a b true ul um ux uy uz ua ub uz W:=
 ⟨h.no,fun hl=>by obtain⟨p,r,k,h1,h2,h3,h4,h5,h6,h7,h8,_⟩:=h.yes hl;exact⟨p,r,k,h1,h2,h3,h4,h5,h6,h7,h8,fun _=>h6 hz⟩⟩
theorem Gc.fin(h:Gc Q w1 l m x y z a b e ul um ux uy uz ua ub ue W)(hl:l=true)(ha:a=true)(hb:b=true)(he:e=true):∃vp vr vk,Q W vp vr vk/\ua=vp/\ub=vr/\ue=vk:=by
 obtain⟨p,r,k,h1,_,_,_,_,_,h7,h8,h9⟩:=h.yes hl
 exact⟨p,r,k,h1,h7 ha,h8 hb,h9 he⟩
end
structure E3(w1:World)(kb:List UInt8)(n x:Nat)(l3 l5 l6 l7 l10:Bool)(u3 u5 u6 u7 u10:Value)(W:World):Prop where
 be:Below w1.heap.size w1 W
 a3:l3=true->∃B,u3=.slice (some ⟨B,0,none⟩) 1 1/\w1.heap.size<=B/\B<W.heap.size/\W.cell? ⟨B,0,none⟩=some (.int .i64 (n:Int))
 a5:l5=true->∃B,u5=.slice (some ⟨B,0,none⟩) 1 1/\w1.heap.size<=B/\B<W.heap.size/\W.cell? ⟨B,0,none⟩=some (.pointer (some ⟨x,0,none⟩))
 a6:l6=true->l3=true/\l5=true/\u6=.agg #[.string ⟨kb.toArray⟩,.string ⟨#[85]⟩,u3,u5]
 a7:l7=true->l3=true/\l5=true/\∃B,u7=.pointer (some ⟨B,0,none⟩)/\w1.heap.size<=B/\B<W.heap.size/\W.cell? ⟨B,0,none⟩=some (.string ⟨kb.toArray⟩)/\W.cell? ⟨B,1,none⟩=some (.string ⟨#[85]⟩)/\W.cell? ⟨B,2,none⟩=some u3/\W.cell? ⟨B,3,none⟩=some u5
 a10:l10=true->u10=u7
section
variable {w1 W:World} {kb:List UInt8} {n x:Nat} {l3 l5 l6 l7 l10:Bool} {u3 u5 u6 u7 u10:Value}
theorem Er{w:World}{b o:Nat}{v:Value}{B:Obj}(hb:b<w.heap.size)(h:w.cell? ⟨b,o,none⟩=some v):(w.alloc B).cell? ⟨b,o,none⟩=some v:=
 ((As w.heap.size w).alloc (Ap _) B |>.cell (p:=⟨b,o,none⟩) hb).trans h
theorem E3.start:E3 w1 kb n x false false false false false u3 u5 u6 u7 u10 w1:=
 ⟨As _ _,fun h=>Bool.noConfusion h,fun h=>Bool.noConfusion h,fun h=>Bool.noConfusion h,fun h=>Bool.noConfusion h,fun h=>Bool.noConfusion h⟩
theorem E3.grow(h:E3 w1 kb n x l3 l5 l6 l7 l10 u3 u5 u6 u7 u10 W)(B:Obj):E3 w1 kb n x l3 l5 l6 l7 l10 u3 u5 u6 u7 u10 (W.alloc B):=by
 refine⟨h.be.alloc h.be.size _,fun q=>?_,fun q=>?_,h.a6,fun q=>?_,h.a10⟩
 ·obtain⟨b,e,h1,h2,h3⟩:=h.a3 q;exact⟨b,e,h1,by simp;omega,Er h2 h3⟩
 ·obtain⟨b,e,h1,h2,h3⟩:=h.a5 q;exact⟨b,e,h1,by simp;omega,Er h2 h3⟩
 obtain⟨q3,q5,b,e,h1,h2,c0,c1,c2,c3⟩:=h.a7 q;exact⟨q3,q5,b,e,h1,by simp;omega,Er h2 c0,Er h2 c1,Er h2 c2,Er h2 c3⟩
theorem E3.put3(h:E3 w1 kb n x l3 l5 l6 l7 l10 u3 u5 u6 u7 u10 W)(h6:l6=false)(h7:l7=false)(T:TypeId):E3 w1 kb n x true l5 l6 l7 l10 (.slice (some ⟨W.heap.size,0,none⟩) 1 1) u5 u6 u7 u10 (W.alloc (.cells #[.int .i64 (n:Int)] T)):=by
 have g:=h.grow (.cells #[.int .i64 (n:Int)] T)
 exact⟨g.be,fun _=>⟨_,rfl,h.be.size,by simp,by simp[go_sem]⟩,g.a5,fun q=>absurd (h6.symm.trans q) (by decide),fun q=>absurd (h7.symm.trans q) (by decide),g.a10⟩
theorem E3.put5(h:E3 w1 kb n x l3 l5 l6 l7 l10 u3 u5 u6 u7 u10 W)(h6:l6=false)(h7:l7=false)(T:TypeId):E3 w1 kb n x l3 true l6 l7 l10 u3 (.slice (some ⟨W.heap.size,0,none⟩) 1 1) u6 u7 u10 (W.alloc (.cells #[.pointer (some ⟨x,0,none⟩)] T)):=by
 have g:=h.grow (.cells #[.pointer (some ⟨x,0,none⟩)] T)
 exact⟨g.be,g.a3,fun _=>⟨_,rfl,h.be.size,by simp,by simp[go_sem]⟩,fun q=>absurd (h6.symm.trans q) (by decide),fun q=>absurd (h7.symm.trans q) (by decide),g.a10⟩
theorem E3.put6(h:E3 w1 kb n x l3 l5 l6 l7 l10 u3 u5 u6 u7 u10 W)(h3:l3=true)(h5:l5=true){u:Value}(hu:u=.agg #[.string ⟨kb.toArray⟩,.string ⟨#[85]⟩,u3,u5]):E3 w1 kb n x l3 l5 true l7 l10 u3 u5 u u7 u10 W:=
 ⟨h.be,h.a3,h.a5,fun _=>⟨h3,h5,hu⟩,h.a7,h.a10⟩
theorem E3.put7(h:E3 w1 kb n x l3 l5 l6 l7 l10 u3 u5 u6 u7 u10 W)(h6:l6=true)(h10:l10=false){T:TypeId}{W':World}(hW:W'=W.alloc (.cells #[.string ⟨kb.toArray⟩,.string ⟨#[85]⟩,u3,u5] T)):E3 w1 kb n x l3 l5 l6 true l10 u3 u5 u6 (.pointer (some ⟨W.heap.size,0,none⟩)) u10 W':=by
 subst hW
 have g:=h.grow (.cells #[.string ⟨kb.toArray⟩,.string ⟨#[85]⟩,u3,u5] T)
 obtain⟨h3,h5,_⟩:=h.a6 h6
 exact⟨g.be,g.a3,g.a5,g.a6,fun _=>⟨h3,h5,_,rfl,h.be.size,by simp,by simp[go_sem],by simp[go_sem],by simp[go_sem],by simp[go_sem]⟩,fun q=>absurd (h10.symm.trans q) (by decide)⟩
theorem E3.put10(h:E3 w1 kb n x l3 l5 l6 l7 l10 u3 u5 u6 u7 u10 W):E3 w1 kb n x l3 l5 l6 l7 true u3 u5 u6 u7 u7 W:=⟨h.be,h.a3,h.a5,h.a6,h.a7,fun _=>rfl⟩
theorem E3.fin(h:E3 w1 kb n x l3 l5 l6 l7 l10 u3 u5 u6 u7 u10 W)(h7:l7=true)(h10:l10=true){lo:Nat}(hlo:lo<=w1.heap.size){y:SV}(hy:Ga (fun c=>lo<=c) w1 x y):∃B,u10=.pointer (some ⟨B,0,none⟩)/\Ga (fun c=>lo<=c) W B (.mk kb [85] [n] [y]):=by
 obtain⟨h3,h5,B,e,h1,h2,c0,c1,c2,c3⟩:=h.a7 h7
 obtain⟨B3,e3,p1,p2,p3⟩:=h.a3 h3
 obtain⟨B5,e5,r1,r2,r3⟩:=h.a5 h5
 refine⟨B,(h.a10 h10).trans e,?_⟩
 rw[e3]at c2
 rw[e5]at c3
 refine .mk kb [85] [n] (some ⟨B3,0,none⟩) (some ⟨B5,0,none⟩) 1 1 [(x,y)] rfl h2 (Nat.le_trans hlo h1) c0 c1 c2 c3 ⟨rfl,by simp[maxLen],fun _=>⟨B3,0,rfl,p2,fun j u hu=>?_⟩⟩ ⟨rfl,by simp[maxLen],fun _=>⟨B5,0,rfl,r2,fun j u hu=>?_⟩⟩ (by simp) (by simp) (fun g o _ e=>?_) (fun g o _ e=>?_) (fun p hp=>?_)
 ·match j,hu with
  |0,hu=>simp[En]at hu;subst hu;simpa using p3
  |j+1,hu=>simp[En]at hu
 ·match j,hu with
  |0,hu=>simp[Ep]at hu;subst hu;simpa using r3
  |j+1,hu=>simp[Ep]at hu
 ·injection e with e;injection e with e;subst e;omega
 ·injection e with e;injection e with e;subst e;omega
 simp at hp
 subst hp
 exact hy.after h.be
end
section
attribute [local go_sem] Qja Qit Qib Qgw ByteArray.mk_append_mk
theorem Qi0(w0:World)(xs:List (Ty × Value))(xv:Value)(hxv:xv.oneCell'=true)(hsc:Kf w0 xv xs)(k:Kd)(hk:Co k)(hsg:k.signs=[])(hbs:k.base=[64])(nm:List UInt8)(fs:List Fd)(tv:Value)(hx:Ew xs k.name=some (⟨69,nm,fs⟩,tv))(hfs:Fg w0 tv fs)(htg:∀f∈fs,f.tag<=200)
  (d:Nat) (hd:d<=1000) (z:List UInt8) (w:World) (hw:Below w0.heap.size w0 w) (hz:z.length<=1000000) (o:Option (Fd × List UInt8)) (ho:o=Fh fs z):
  Calls prog 67 #[.agg #[xv],.string ⟨(35::z:List UInt8).toArray⟩,.string ⟨(Bq k).toArray⟩,.int .i64 ((d+1:Nat):Int)] w (Bj (Al xs) k (enL o) w):=by
 have hkd:∀g,Cq (Al xs) k (.mk 69 [] g [])=.mk (Bq k) [69] [g] []:=S5 (Al xs) k
 generalize (((d+1:Nat):Int))=dd at *
 obtain⟨A9,c9,rfl,hl9,_⟩:=hfs
 have HFs:=Aa (show ∀W,Below w0.heap.size w0 W->Fg W (.slice A9 fs.length c9) fs from fun W hW=>Fg.below (show Fg w0 (.slice A9 fs.length c9) fs from⟨A9,c9,rfl,hl9,by assumption⟩) hW)
 have Hr:=Aa (show ∀W,Below w0.heap.size w0 W->Calls prog 47 #[xv,.string ⟨(Bq k).toArray⟩] W fun e w'=>e=.returned (.tuple #[.agg #[.int .u8 69,.string ⟨nm.toArray⟩,.slice A9 fs.length c9],.bool true])/\Below W.heap.size W w' from fun W hW=>by
  have h:=Gv xv xs k W (hsc.below hW) hk
  rw[show Ki xs k=some (⟨69,nm,fs⟩,.slice A9 fs.length c9)from by unfold Ki;rw[if_pos ⟨hsg,hbs⟩];exact hx]at h
  exact h)
 have HT:=Aa (show ∀W,Below w0.heap.size w0 W->Calls prog 108 #[.agg #[xv],.string ⟨z.toArray⟩,.agg #[.int .u8 69,.string ⟨nm.toArray⟩,.slice A9 fs.length c9]] W (Km (Fh fs z) z W)from fun W hW=>Tp xv (.int .u8 69) (.string ⟨nm.toArray⟩) _ hxv rfl rfl fs z W (HFs.o W hW) htg (by omega))
 have hkl:(Bq k).length<=100:=by have:=hk.2.2;omega
 have hzl:z.length<=1000000:=hz
 have Ho:=Aa ho
 rw[<-ho]at HT
 have Hw:=Aa hw
 have Hkd:=Aa hkd
 generalize Bq k=kb at *
 clear hw hx hsc htg ho
 go_enter func67,ntmps67
 go_wp2_with fail
 refine(Hr.o _ (Hw.o.alloc Hw.o.size _)).mono ?_
 rintro e w1 ⟨rfl,hb1⟩
 have hz1:=hb1.size
 simp only[World.size_alloc]at hz1
 have Hb1:=Aa (((As w.heap.size w).alloc (Ap _) _).trans (hb1.mono (by simp)))
 have X0:=Aa (show w1.cell? ⟨w.heap.size,0,none⟩=some xv from by rw[(Bw hb1).1 _ _ (by simp)];go_simp)
 clear hb1
 go_upto_region 5 with fail
 obtain⟨w2,hw2⟩:∃w2,w2=w1.alloc (.cells #[.int .u8 69,.string ⟨nm.toArray⟩,.slice A9 fs.length c9] 95):=⟨_,rfl⟩
 have Hb2:=Aa (show Below w.heap.size w w2 from by rw[hw2];exact Hb1.o.alloc Hb1.o.size _)
 have Hl0:=Aa (show w.heap.size<w2.drew.heap.size from by rw[hw2];simp;omega)
 have Hl1:=Aa (show w1.heap.size<w2.drew.heap.size from by rw[hw2];simp)
 have X0:=Aa (show w2.drew.cell? ⟨w.heap.size,0,none⟩=some xv from by rw[hw2,World.cell?_drew];exact Er (by omega) X0.o)
 have X1:=Aa (show w2.drew.cell? ⟨w1.heap.size,0,none⟩=some (.int .u8 69)from by rw[hw2];go_simp)
 have X2:=Aa (show w2.drew.cell? ⟨w1.heap.size,1,none⟩=some (.string ⟨nm.toArray⟩)from by rw[hw2];go_simp)
 have X3:=Aa (show w2.drew.cell? ⟨w1.heap.size,2,none⟩=some (.slice A9 fs.length c9)from by rw[hw2];go_simp)
 have HC:=Aa (show ∀W,Below w2.drew.heap.size w2.drew W->Calls prog 108 #[.agg #[xv],.string ⟨z.toArray⟩,.agg #[.int .u8 69,.string ⟨nm.toArray⟩,.slice A9 fs.length c9]] W (Km o z W)from fun W hW=>HT.o W ((Hw.o.trans (Hb2.o.mono Hw.o.size)).trans ((As _ _).drew.trans (hW.mono (by simp)) |>.mono (Nat.le_trans Hw.o.size Hb2.o.size))))
 rw[<-hw2]
 clear hw2
 refine P3 [58,59,60,61,62,57,63,64,65,13,999,14,15]
  (fun ix v W=>match ix with|0=>v=.agg #[xv]|1=>v=.string ⟨(35::z:List UInt8).toArray⟩|2=>v=.string ⟨(z:List UInt8).toArray⟩|3=>v=.agg #[.int .u8 69,.string ⟨nm.toArray⟩,.slice A9 fs.length c9]|_=>True)
  (fun L U W=>Gl w2.drew o z (L 4) (L 5) (L 6) (L 7) (L 8) (L 9) (L 10) (L 11) (L 12) (U 4) (U 5) (U 6) (U 7) (U 8) (U 9) (U 11) (U 12) W) (Gl.start) ?_ ?_
 ·repeat (first|exact Aq.nil|(refine Aq.cons ?_ ?_;rotate_left))
  all_goals
   rintro L U W hL hpre HR Hdep K hK
   have q0:=(HR.o.be.cell (p:=⟨w.heap.size,0,none⟩) Hl0.o).trans X0.o
   have q1:=(HR.o.be.cell (p:=⟨w1.heap.size,0,none⟩) Hl1.o).trans X1.o
   have q2:=(HR.o.be.cell (p:=⟨w1.heap.size,1,none⟩) Hl1.o).trans X2.o
   have q3:=(HR.o.be.cell (p:=⟨w1.heap.size,2,none⟩) Hl1.o).trans X3.o
   first|(simp[Region.binds]at hpre;done)|simp[Region.binds]at hpre|clear hpre
  iterate 2
   ·go_simp
    first|exact hK _ _ _ rfl Ab HR.o rfl|exact kE hK HR.o|exact hK undef _ _ Ab Ab HR.o (by simp[Act.put,hpre])|exact hK _ _ _ Ab Ab HR.o rfl|exact kE hK HR.o
  ·go_simp
   rw[if_pos (by omega)]
   go_simp
   exact hK (.string ⟨(z:List UInt8).toArray⟩) _ _ rfl Ab HR.o (by simp[Act.put,hpre])
  ·go_simp
   first|exact hK _ _ _ rfl Ab HR.o rfl|exact kE hK HR.o|exact hK undef _ _ Ab Ab HR.o (by simp[Act.put,hpre])|exact hK _ _ _ Ab Ab HR.o rfl|exact kE hK HR.o
  ·have h5:L 5=false:=Bz Hdep.o 5 4 rfl hL
   have h6:L 6=false:=Bz Hdep.o 6 5 rfl h5
   have h7:L 7=false:=Bz Hdep.o 7 5 rfl h5
   have h8:L 8=false:=Bz Hdep.o 8 5 rfl h5
   have h10:L 10=false:=Bz Hdep.o 10 6 rfl h6
   have h11:L 11=false:=Bz Hdep.o 11 7 rfl h7
   have h12:L 12=false:=Bz Hdep.o 12 8 rfl h8
   go_simp
   refine(HC.o _ HR.o.be).mono ?_
   rintro e w5 hp
   obtain⟨n,a,b,c,r,rfl,hF,hb⟩:=hp.q
   go_simp
   exact hK _ _ _ Ab Ab (HR.o.call h5 h6 h7 h8 h10 h11 h12 hF hb) (by simp[Act.put,hpre])
  ·have l4:L 4=true:=by first|exact hpre|exact hpre.1|exact hpre.2|exact hpre.2.1|exact hpre.1.1|exact hpre.2.2.1
   go_simp
   exact hK (U 4) _ _ Ab Ab (HR.o.move l4) (by simp[Act.put,hpre])
  ·have l5:L 5=true:=by first|exact hpre|exact hpre.1|exact hpre.2|exact hpre.2.1|exact hpre.1.1|exact hpre.2.2.1
   have l4:L 4=true:=Mz (Bz Hdep.o 5 4 rfl) l5
   obtain⟨n,a,b,c,r,u5,g0,g1,g2⟩:=HR.o.get l4 l5 (fun h=>Bz Hdep.o 10 6 rfl h)
   simp only[u5]
   go_simp
   exact hK _ _ _ Ab Ab (g0 hL) (by simp[Act.put,hpre,u5])
  ·have l5:L 5=true:=by first|exact hpre|exact hpre.1|exact hpre.2|exact hpre.2.1|exact hpre.1.1|exact hpre.2.2.1
   have l4:L 4=true:=Mz (Bz Hdep.o 5 4 rfl) l5
   obtain⟨n,a,b,c,r,u5,g0,g1,g2⟩:=HR.o.get l4 l5 (fun h=>Bz Hdep.o 10 6 rfl h)
   simp only[u5]
   go_simp
   exact hK _ _ _ Ab Ab (g1) (by simp[Act.put,hpre,u5])
  ·have l5:L 5=true:=by first|exact hpre|exact hpre.1|exact hpre.2|exact hpre.2.1|exact hpre.1.1|exact hpre.2.2.1
   have l4:L 4=true:=Mz (Bz Hdep.o 5 4 rfl) l5
   obtain⟨n,a,b,c,r,u5,g0,g1,g2⟩:=HR.o.get l4 l5 (fun h=>Bz Hdep.o 10 6 rfl h)
   simp only[u5]
   go_simp
   exact hK _ _ _ Ab Ab (g2) (by simp[Act.put,hpre,u5])
  ·have h10:L 10=false:=Bz Hdep.o 10 9 rfl hL
   go_simp
   exact hK (.pointer (some ⟨W.heap.size,0,none⟩)) _ _ Ab Ab (HR.o.alloc h10 _) (by simp[Act.put,hpre])
  ·have l9:L 9=true:=by first|exact hpre|exact hpre.1|exact hpre.2|exact hpre.2.1|exact hpre.1.1|exact hpre.2.2.1
   have l6:L 6=true:=by first|exact hpre|exact hpre.1|exact hpre.2|exact hpre.2.1|exact hpre.1.1|exact hpre.2.2.1
   have l5:L 5=true:=Mz (Bz Hdep.o 6 5 rfl) l6
   have l4:L 4=true:=Mz (Bz Hdep.o 5 4 rfl) l5
   obtain⟨n,a,b,c,r,_,_,_,k6,_⟩:=HR.o.yes l4
   obtain⟨B,k9,_⟩:=HR.o.al l9
   have u6:=k6 l6
   obtain⟨g1,g2⟩:=HR.o.store l9 u6 k9
   rw[if_pos (by rfl)]
   refine wp_store_mid 118 _ _ rfl B 0 ([.int .i64 (n:Int),.string ⟨a.toArray⟩,.string ⟨b.toArray⟩,.string ⟨c.toArray⟩]:List Value).toArray k9 u6 g1 (by kernel_rfl) (by simp[Value.oneCell']) ?_
   exact hK undef _ _ Ab Ab g2 rfl
  ·have l7:L 7=true:=by first|exact hpre|exact hpre.1|exact hpre.2|exact hpre.2.1|exact hpre.1.1|exact hpre.2.2.1
   go_simp
   exact hK (U 7) _ _ Ab Ab (HR.o.as1 l7) (by simp[Act.put,hpre])
  ·have l8:L 8=true:=by first|exact hpre|exact hpre.1|exact hpre.2|exact hpre.2.1|exact hpre.1.1|exact hpre.2.2.1
   go_simp
   exact hK (U 8) _ _ Ab Ab (HR.o.as2 l8) (by simp[Act.put,hpre])
 rintro L U W hL hφ hR
 clear hφ
 obtain⟨n,a,b,c,r,B,hF,u9,u11,u12,hB1,hB2,hrg,hbe⟩:=hR.fin (hL 4 (by decide)) (hL 6 (by decide)) (hL 9 (by decide)) (hL 10 (by decide)) (hL 11 (by decide)) (hL 12 (by decide))
 simp only[u9,u11,u12]
 clear hR hL u9 u11 u12
 have y0:W.cell? ⟨B,0,none⟩=some (.int .i64 (n:Int)):=by simpa using Ac hrg 0 rfl
 have HF:=Aa hF
 have HB:=Aa (show Below w.heap.size w W from Hb2.o.trans (((As _ _).drew.trans (hbe.mono (by simp))).mono Hb2.o.size))
 clear hbe hrg hF
 go_wp2_with fail
 refine bodyPost_ret (v:=.tuple #[.pointer (some ⟨W.heap.size+1,0,none⟩),.string ⟨r.toArray⟩,.bool o.isSome]) (by simp[results,results67,go_sem]) rfl ?_
 have hbf:=(HB.o.alloc HB.o.size (.cells #[.int .i64 (n:Int)] 3)).alloc (by simp;have:=HB.o.size;omega) (.cells #[.string ⟨kb.toArray⟩,.string ⟨#[69]⟩,.slice (some ⟨W.heap.size,0,none⟩) 1 1,.slice none 0 0] 68)
 cases o with
 |none=>exact Bj.no rfl rfl hbf
 |some y=>
  obtain⟨f,q⟩:=y
  obtain⟨rfl,_,_,_,rfl⟩:=HF.o.2.2 f q rfl
  refine⟨⟨W.heap.size+1,rfl,?_⟩,hbf⟩
  have hsz:=HB.o.size
  rw[Hkd.o]
  refine .mk kb [69] [f.tag] (some ⟨W.heap.size,0,none⟩) none 1 0 [] rfl (by simp) (by show w.heap.size<=W.heap.size+1;omega) (by go_simp) (by go_simp) (by go_simp) (by go_simp) ⟨rfl,by simp[maxLen],fun _=>⟨W.heap.size,0,rfl,by simp;omega,fun j u hu=>?_⟩⟩ ⟨rfl,Nat.zero_le _,fun h=>absurd h (by simp)⟩ (by simp) (by simp) (fun g o _ e=>?_) (fun _ _ h=>absurd h (by simp)) (fun x hx=>?_)
  ·match j,hu with
   |0,hu=>
    simp[En]at hu
    subst hu
    go_simp
   |j+1,hu=>simp[En]at hu
  ·injection e with e;injection e with e;subst e;exact hsz
  simp at hx
theorem Qi2(w0:World)(xs:List (Ty × Value))(xv:Value)(hxv:xv.oneCell'=true)(hsc:Kf w0 xv xs)(k:Kd)(hk:Co k)(hsg:k.signs=[])(hbs:k.base=[64])(nm:List UInt8)(fs:List Fd)(tv:Value)(hx:Ew xs k.name=some (⟨85,nm,fs⟩,tv))(hfs:Fg w0 tv fs)(htg:∀f∈fs,f.tag<=200)
  (d:Nat) (hd:d<=1000) (z:List UInt8) (w:World) (hw:Below w0.heap.size w0 w) (hz:z.length<=1000000) (o:Option (Fd × List UInt8)) (ho:o=Fh fs z) (H:∀k',Co k'->SrC w0 (Al xs) xv k' d) (hfd:∀f∈fs,Co f.kind) (htf:By (Al xs) k.name=some ⟨85,nm,fs⟩)
  (R:Kd->List UInt8->Option (Vl × List UInt8)) (hR0:R=Ai (Al xs) 20 d):
  Calls prog 67 #[.agg #[xv],.string ⟨(60::z:List UInt8).toArray⟩,.string ⟨(Bq k).toArray⟩,.int .i64 ((d+1:Nat):Int)] w (Bj (Al xs) k (unL R o) w):=by
 have hkd:∀f v,Bg fs f.tag=some f->Cq (Al xs) k (.mk 85 [] f.tag [v])=.mk (Bq k) [85] [f.tag] [Cq (Al xs) f.kind v]:=fun f v hf=>by rw[Tn,Dn htf hf]
 have HRd:=Aa (show ∀k',Co k'->∀(s:List UInt8) (W:World),Below w0.heap.size w0 W->s.length<=1000000->Calls prog 30 #[.agg #[xv],.string ⟨s.toArray⟩,.string ⟨(Bq k').toArray⟩,.int .i64 (d:Int)] W (Bj (Al xs) k' (R k' s) W)from fun k' hk' s W hW hs=>by rw[hR0];exact H k' hk' s W hW hs)
 have HFd:=Aa (show ∀f r,o=some (f,r)->Co f.kind/\(Bq f.kind).length<=100/\Bg fs f.tag=some f from fun f r h=>by
  obtain⟨_,h2,_⟩:=H7 (ho ▸ h)
  have:=hfd f (Pp h2).1
  exact⟨this,by have:=this.2.2;omega,h2⟩)
 clear H hR0 hfd htf
 have d1:(((d+1:Nat):Int)) - 1=(d:Int):=by omega
 have d4:(0:Int)<=(d:Int):=by omega
 have d5:(d:Int)<=1000:=by omega
 have hwd:IntKind.i64.wrap (d:Int)=(d:Int):=IntWalk.i64_in _ (by omega)
 generalize (((d+1:Nat):Int))=dd at *
 obtain⟨A9,c9,rfl,hl9,_⟩:=hfs
 have HFs:=Aa (show ∀W,Below w0.heap.size w0 W->Fg W (.slice A9 fs.length c9) fs from fun W hW=>Fg.below (show Fg w0 (.slice A9 fs.length c9) fs from⟨A9,c9,rfl,hl9,by assumption⟩) hW)
 have Hr:=Aa (show ∀W,Below w0.heap.size w0 W->Calls prog 47 #[xv,.string ⟨(Bq k).toArray⟩] W fun e w'=>e=.returned (.tuple #[.agg #[.int .u8 85,.string ⟨nm.toArray⟩,.slice A9 fs.length c9],.bool true])/\Below W.heap.size W w' from fun W hW=>by
  have h:=Gv xv xs k W (hsc.below hW) hk
  rw[show Ki xs k=some (⟨85,nm,fs⟩,.slice A9 fs.length c9)from by unfold Ki;rw[if_pos ⟨hsg,hbs⟩];exact hx]at h
  exact h)
 have HT:=Aa (show ∀W,Below w0.heap.size w0 W->Calls prog 108 #[.agg #[xv],.string ⟨z.toArray⟩,.agg #[.int .u8 85,.string ⟨nm.toArray⟩,.slice A9 fs.length c9]] W (Km (Fh fs z) z W)from fun W hW=>Tp xv (.int .u8 85) (.string ⟨nm.toArray⟩) _ hxv rfl rfl fs z W (HFs.o W hW) htg (by omega))
 have hkl:(Bq k).length<=100:=by have:=hk.2.2;omega
 have hzl:z.length<=1000000:=hz
 have Ho:=Aa ho
 rw[<-ho]at HT
 have Hw:=Aa hw
 have Hkd:=Aa hkd
 generalize Bq k=kb at *
 clear hw hx hsc htg ho
 go_enter func67,ntmps67
 go_wp2_with fail
 refine(Hr.o _ (Hw.o.alloc Hw.o.size _)).mono ?_
 rintro e w1 ⟨rfl,hb1⟩
 have hz1:=hb1.size
 simp only[World.size_alloc]at hz1
 have Hb1:=Aa (((As w.heap.size w).alloc (Ap _) _).trans (hb1.mono (by simp)))
 have X0:=Aa (show w1.cell? ⟨w.heap.size,0,none⟩=some xv from by rw[(Bw hb1).1 _ _ (by simp)];go_simp)
 clear hb1
 go_upto_region 8 with fail
 obtain⟨w2,hw2⟩:∃w2,w2=w1.alloc (.cells #[.int .u8 85,.string ⟨nm.toArray⟩,.slice A9 fs.length c9] 95):=⟨_,rfl⟩
 have Hb2:=Aa (show Below w.heap.size w w2 from by rw[hw2];exact Hb1.o.alloc Hb1.o.size _)
 have Hl0:=Aa (show w.heap.size<w2.drew.heap.size from by rw[hw2];simp;omega)
 have Hl1:=Aa (show w1.heap.size<w2.drew.heap.size from by rw[hw2];simp)
 have X0:=Aa (show w2.drew.cell? ⟨w.heap.size,0,none⟩=some xv from by rw[hw2,World.cell?_drew];exact Er (by omega) X0.o)
 have X1:=Aa (show w2.drew.cell? ⟨w1.heap.size,0,none⟩=some (.int .u8 85)from by rw[hw2];go_simp)
 have X2:=Aa (show w2.drew.cell? ⟨w1.heap.size,1,none⟩=some (.string ⟨nm.toArray⟩)from by rw[hw2];go_simp)
 have X3:=Aa (show w2.drew.cell? ⟨w1.heap.size,2,none⟩=some (.slice A9 fs.length c9)from by rw[hw2];go_simp)
 have HC:=Aa (show ∀W,Below w2.drew.heap.size w2.drew W->Calls prog 108 #[.agg #[xv],.string ⟨z.toArray⟩,.agg #[.int .u8 85,.string ⟨nm.toArray⟩,.slice A9 fs.length c9]] W (Km o z W)from fun W hW=>HT.o W ((Hw.o.trans (Hb2.o.mono Hw.o.size)).trans ((As _ _).drew.trans (hW.mono (by simp)) |>.mono (Nat.le_trans Hw.o.size Hb2.o.size))))
 rw[<-hw2]
 clear hw2
 refine P3 [84,85,86,87,88,83,89,90,91,16,999,17,18]
  (fun ix v W=>match ix with|0=>v=.agg #[xv]|1=>v=.string ⟨(60::z:List UInt8).toArray⟩|2=>v=.string ⟨(z:List UInt8).toArray⟩|3=>v=.agg #[.int .u8 85,.string ⟨nm.toArray⟩,.slice A9 fs.length c9]|_=>True)
  (fun L U W=>Gl w2.drew o z (L 4) (L 5) (L 6) (L 7) (L 8) (L 9) (L 10) (L 11) (L 12) (U 4) (U 5) (U 6) (U 7) (U 8) (U 9) (U 11) (U 12) W) (Gl.start) ?_ ?_
 ·repeat (first|exact Aq.nil|(refine Aq.cons ?_ ?_;rotate_left))
  all_goals
   rintro L U W hL hpre HR Hdep K hK
   have q0:=(HR.o.be.cell (p:=⟨w.heap.size,0,none⟩) Hl0.o).trans X0.o
   have q1:=(HR.o.be.cell (p:=⟨w1.heap.size,0,none⟩) Hl1.o).trans X1.o
   have q2:=(HR.o.be.cell (p:=⟨w1.heap.size,1,none⟩) Hl1.o).trans X2.o
   have q3:=(HR.o.be.cell (p:=⟨w1.heap.size,2,none⟩) Hl1.o).trans X3.o
   first|(simp[Region.binds]at hpre;done)|simp[Region.binds]at hpre|clear hpre
  iterate 2
   ·go_simp
    first|exact hK _ _ _ rfl Ab HR.o rfl|exact kE hK HR.o|exact hK undef _ _ Ab Ab HR.o (by simp[Act.put,hpre])|exact hK _ _ _ Ab Ab HR.o rfl|exact kE hK HR.o
  ·go_simp
   rw[if_pos (by omega)]
   go_simp
   exact hK (.string ⟨(z:List UInt8).toArray⟩) _ _ rfl Ab HR.o (by simp[Act.put,hpre])
  ·go_simp
   first|exact hK _ _ _ rfl Ab HR.o rfl|exact kE hK HR.o|exact hK undef _ _ Ab Ab HR.o (by simp[Act.put,hpre])|exact hK _ _ _ Ab Ab HR.o rfl|exact kE hK HR.o
  ·have h5:L 5=false:=Bz Hdep.o 5 4 rfl hL
   have h6:L 6=false:=Bz Hdep.o 6 5 rfl h5
   have h7:L 7=false:=Bz Hdep.o 7 5 rfl h5
   have h8:L 8=false:=Bz Hdep.o 8 5 rfl h5
   have h10:L 10=false:=Bz Hdep.o 10 6 rfl h6
   have h11:L 11=false:=Bz Hdep.o 11 7 rfl h7
   have h12:L 12=false:=Bz Hdep.o 12 8 rfl h8
   go_simp
   refine(HC.o _ HR.o.be).mono ?_
   rintro e w5 hp
   obtain⟨n,a,b,c,r,rfl,hF,hb⟩:=hp.q
   go_simp
   exact hK _ _ _ Ab Ab (HR.o.call h5 h6 h7 h8 h10 h11 h12 hF hb) (by simp[Act.put,hpre])
  ·have l4:L 4=true:=by first|exact hpre|exact hpre.1|exact hpre.2|exact hpre.2.1|exact hpre.1.1|exact hpre.2.2.1
   go_simp
   exact hK (U 4) _ _ Ab Ab (HR.o.move l4) (by simp[Act.put,hpre])
  ·have l5:L 5=true:=by first|exact hpre|exact hpre.1|exact hpre.2|exact hpre.2.1|exact hpre.1.1|exact hpre.2.2.1
   have l4:L 4=true:=Mz (Bz Hdep.o 5 4 rfl) l5
   obtain⟨n,a,b,c,r,u5,g0,g1,g2⟩:=HR.o.get l4 l5 (fun h=>Bz Hdep.o 10 6 rfl h)
   simp only[u5]
   go_simp
   exact hK _ _ _ Ab Ab (g0 hL) (by simp[Act.put,hpre,u5])
  ·have l5:L 5=true:=by first|exact hpre|exact hpre.1|exact hpre.2|exact hpre.2.1|exact hpre.1.1|exact hpre.2.2.1
   have l4:L 4=true:=Mz (Bz Hdep.o 5 4 rfl) l5
   obtain⟨n,a,b,c,r,u5,g0,g1,g2⟩:=HR.o.get l4 l5 (fun h=>Bz Hdep.o 10 6 rfl h)
   simp only[u5]
   go_simp
   exact hK _ _ _ Ab Ab (g1) (by simp[Act.put,hpre,u5])
  ·have l5:L 5=true:=by first|exact hpre|exact hpre.1|exact hpre.2|exact hpre.2.1|exact hpre.1.1|exact hpre.2.2.1
   have l4:L 4=true:=Mz (Bz Hdep.o 5 4 rfl) l5
   obtain⟨n,a,b,c,r,u5,g0,g1,g2⟩:=HR.o.get l4 l5 (fun h=>Bz Hdep.o 10 6 rfl h)
   simp only[u5]
   go_simp
   exact hK _ _ _ Ab Ab (g2) (by simp[Act.put,hpre,u5])
  ·have h10:L 10=false:=Bz Hdep.o 10 9 rfl hL
   go_simp
   exact hK (.pointer (some ⟨W.heap.size,0,none⟩)) _ _ Ab Ab (HR.o.alloc h10 _) (by simp[Act.put,hpre])
  ·have l9:L 9=true:=by first|exact hpre|exact hpre.1|exact hpre.2|exact hpre.2.1|exact hpre.1.1|exact hpre.2.2.1
   have l6:L 6=true:=by first|exact hpre|exact hpre.1|exact hpre.2|exact hpre.2.1|exact hpre.1.1|exact hpre.2.2.1
   have l5:L 5=true:=Mz (Bz Hdep.o 6 5 rfl) l6
   have l4:L 4=true:=Mz (Bz Hdep.o 5 4 rfl) l5
   obtain⟨n,a,b,c,r,_,_,_,k6,_⟩:=HR.o.yes l4
   obtain⟨B,k9,_⟩:=HR.o.al l9
   have u6:=k6 l6
   obtain⟨g1,g2⟩:=HR.o.store l9 u6 k9
   rw[if_pos (by rfl)]
   refine wp_store_mid 118 _ _ rfl B 0 ([.int .i64 (n:Int),.string ⟨a.toArray⟩,.string ⟨b.toArray⟩,.string ⟨c.toArray⟩]:List Value).toArray k9 u6 g1 (by kernel_rfl) (by simp[Value.oneCell']) ?_
   exact hK undef _ _ Ab Ab g2 rfl
  ·have l7:L 7=true:=by first|exact hpre|exact hpre.1|exact hpre.2|exact hpre.2.1|exact hpre.1.1|exact hpre.2.2.1
   go_simp
   exact hK (U 7) _ _ Ab Ab (HR.o.as1 l7) (by simp[Act.put,hpre])
  ·have l8:L 8=true:=by first|exact hpre|exact hpre.1|exact hpre.2|exact hpre.2.1|exact hpre.1.1|exact hpre.2.2.1
   go_simp
   exact hK (U 8) _ _ Ab Ab (HR.o.as2 l8) (by simp[Act.put,hpre])
 rintro L U W hL hφ hR
 clear hφ
 obtain⟨n,a,b,c,r,B,hF,u9,u11,u12,hB1,hB2,hrg,hbe⟩:=hR.fin (hL 4 (by decide)) (hL 6 (by decide)) (hL 9 (by decide)) (hL 10 (by decide)) (hL 11 (by decide)) (hL 12 (by decide))
 simp only[u9,u11,u12]
 clear hR hL u9 u11 u12
 have HF:=Aa hF
 have HB:=Aa (show Below w.heap.size w W from Hb2.o.trans (((As _ _).drew.trans (hbe.mono (by simp))).mono Hb2.o.size))
 have hl0:w.heap.size<W.heap.size:=by have:=Hl0.o;have:=hbe.size;omega
 have q0:W.cell? ⟨w.heap.size,0,none⟩=some xv:=(hbe.cell (p:=⟨w.heap.size,0,none⟩) Hl0.o).trans X0.o
 have hBw:w.heap.size<=B:=by have:=Hl0.o;omega
 clear hbe hF
 cases o with
 |none=>
  simp only[Option.isSome_none]
  clear hrg
  go_wp2_with fail
  refine bodyPost_ret (v:=.tuple #[.pointer none,.string ⟨(60::z:List UInt8).toArray⟩,.bool false]) (by simp[results,results67,go_sem]) rfl ?_
  exact Bj.no rfl rfl HB.o
 |some y=>
  obtain⟨f,q⟩:=y
  obtain⟨rfl,rfl,rfl,rfl,rfl⟩:=HF.o.2.2 f q rfl
  simp only[Option.isSome_some]
  have hrl:=HF.o.1
  obtain⟨hkf,hkfl,hft⟩:=HFd.o f r rfl
  have y0:W.cell? ⟨B,0,none⟩=some (.int .i64 (f.tag:Int)):=by simpa using Ac hrg 0 rfl
  have y2:W.cell? ⟨B,2,none⟩=some (.string ⟨(Bq f.kind).toArray⟩):=by simpa using Ac hrg 2 rfl
  have HRd:=Aa (fun(s:List UInt8) (W:World) h1 h2=>HRd.o f.kind hkf s W h1 h2)
  have Hft:=Aa hft
  generalize hkb2:Bq f.kind=kf at *
  clear hrg hkf hft
  cases r with
  |nil=>
   go_wp2_with fail
   refine bodyPost_ret (v:=.tuple #[.pointer none,.string ⟨(60::z:List UInt8).toArray⟩,.bool false]) (by simp[results,results67,go_sem]) rfl ?_
   exact Bj.no rfl rfl HB.o
  |cons c9 q1=>
   by_cases h61:c9=61
   ·subst h61
    have HU:=Aa (show unL R (some (f,61::q1))=match R f.kind q1 with|none=>none|some (v,q)=>(match Am 62 q with|some z'=>some (.mk 85 [] f.tag [v],z')|none=>none)from by first|(simp only[unL,Bm];done)|(simp only[unL,Bm];rfl))
    have t61:((((61:UInt8).toNat:Nat):Int) != 61)=false:=rfl
    have HW9:=Aa (show Below w0.heap.size w0 W.drew from(Hw.o.trans (HB.o.mono Hw.o.size)).drew)
    have hq1:q1.length<=1000000:=by simp at hrl;omega
    have HCR:=Aa (HRd.o q1 W.drew HW9.o hq1)
    generalize R f.kind q1=oq at *
    simp only[List.length_cons]at hrl
    go_wp2_with fail
    refine Be [105,106,107,108,109,110,111,112,104,113,114,115,19,20,21] (by kernel_rfl) (by kernel_rfl) (by kernel_rfl) (fun u=>by dsimp only[Br,Bi,List.set,Nat.zero_add,Nat.reduceAdd])
     (fun ix v W5=>match ix with|0=>v=.agg #[xv]|1=>v=.string ⟨(61::q1:List UInt8).toArray⟩|2=>v=.string ⟨(q1:List UInt8).toArray⟩|3=>v=.pointer (some ⟨B,2,none⟩)|4=>v=.string ⟨(kf:List UInt8).toArray⟩|5=>v=.int .i64 dd|6=>v=.int .i64 (d:Int)|_=>True)
     (fun L U W5=>Gc (SrQ W.drew (Al xs) f.kind oq) (W.drew) (L 7) (L 8) (L 9) (L 10) (L 11) (L 12) (L 13) (L 14) (U 7) (U 8) (U 9) (U 10) (U 11) (U 12) (U 13) (U 14) W5) (fun _ _=>True) (fun _ _ _ _ _ h=>h) (⟨fun _=>rfl,fun h=>Bool.noConfusion h⟩) ?_ ?_
    ·repeat (first|exact Aq.nil|(refine Aq.cons ?_ ?_;rotate_left))
     all_goals
      rintro L U W5 hL hpre hR hun hdep K hK
      have HR:=Aa hR
      have Hdep:=Aa hdep
      clear hun hdep hR
      first|(simp[Region.binds]at hpre;done)|simp[Region.binds]at hpre|clear hpre
     ·have h7:L 7=false:=Bz Hdep.o 7 0 rfl hL
      have hW:=HR.o.no h7
      subst hW
      go_simp
      first|exact hK _ _ _ rfl Ab HR.o rfl|exact kE hK HR.o
     ·go_simp
      first|exact hK _ _ _ rfl Ab HR.o rfl|exact kE hK HR.o|exact hK undef _ _ Ab Ab HR.o (by simp[Act.put,hpre])|exact hK _ _ _ Ab Ab HR.o rfl|exact kE hK HR.o
     ·go_simp
      rw[if_pos (by omega)]
      go_simp
      exact hK (.string ⟨q1.toArray⟩) _ _ rfl Ab HR.o (by simp[Act.put,hpre])
     ·go_simp
      first|exact hK _ _ _ rfl Ab HR.o rfl|exact kE hK HR.o|exact hK undef _ _ Ab Ab HR.o (by simp[Act.put,hpre])|exact hK _ _ _ Ab Ab HR.o rfl|exact kE hK HR.o
     ·have h7:L 7=false:=Bz Hdep.o 7 4 rfl hL
      have hW:=HR.o.no h7
      subst hW
      go_simp
      first|exact hK _ _ _ rfl Ab HR.o rfl|exact kE hK HR.o
     ·go_simp
      first|exact hK _ _ _ rfl Ab HR.o rfl|exact kE hK HR.o|exact hK undef _ _ Ab Ab HR.o (by simp[Act.put,hpre])|exact hK _ _ _ Ab Ab HR.o rfl|exact kE hK HR.o
     ·go_simp
      exact hK (.int .i64 (d:Int)) _ _ rfl Ab HR.o (by simp[Act.put,hpre,hwd])
     ·have h8:L 8=false:=Bz Hdep.o 8 7 rfl hL
      have h9:L 9=false:=Bz Hdep.o 9 8 rfl h8
      have h10:L 10=false:=Bz Hdep.o 10 8 rfl h8
      have h11:L 11=false:=Bz Hdep.o 11 8 rfl h8
      have h12:L 12=false:=Bz Hdep.o 12 9 rfl h9
      have h13:L 13=false:=Bz Hdep.o 13 10 rfl h10
      have h14:L 14=false:=Bz Hdep.o 14 11 rfl h11
      have hW:=HR.o.no hL
      subst hW
      go_simp
      refine HCR.o.mono ?_
      rintro e w5 hp
      obtain⟨vp,vr,vk,rfl,hq⟩:=hp.q
      go_simp
      exact hK _ _ _ Ab Ab (Gc.call h8 h9 h10 h11 h12 h13 h14 hq) (by simp[Act.put,hpre])
     ·have l7:L 7=true:=by first|exact hpre|exact hpre.1|exact hpre.2|exact hpre.2.1|exact hpre.1.1|exact hpre.2.2.1
      go_simp
      exact hK _ _ _ Ab Ab (HR.o.move l7) (by simp[Act.put,hpre])
     ·have l8:L 8=true:=by first|exact hpre|exact hpre.1|exact hpre.2|exact hpre.2.1|exact hpre.1.1|exact hpre.2.2.1
      have l7:L 7=true:=Mz (Bz Hdep.o 8 7 rfl) l8
      obtain⟨vp,vr,vk,um,g0,g1,g2⟩:=HR.o.get l7 l8
      simp only[um]
      go_simp
      exact hK _ _ _ Ab Ab g0 (by simp[Act.put,hpre,um])
     ·have l8:L 8=true:=by first|exact hpre|exact hpre.1|exact hpre.2|exact hpre.2.1|exact hpre.1.1|exact hpre.2.2.1
      have l7:L 7=true:=Mz (Bz Hdep.o 8 7 rfl) l8
      obtain⟨vp,vr,vk,um,g0,g1,g2⟩:=HR.o.get l7 l8
      simp only[um]
      go_simp
      exact hK _ _ _ Ab Ab g1 (by simp[Act.put,hpre,um])
     ·have l8:L 8=true:=by first|exact hpre|exact hpre.1|exact hpre.2|exact hpre.2.1|exact hpre.1.1|exact hpre.2.2.1
      have l7:L 7=true:=Mz (Bz Hdep.o 8 7 rfl) l8
      obtain⟨vp,vr,vk,um,g0,g1,g2⟩:=HR.o.get l7 l8
      simp only[um]
      go_simp
      exact hK _ _ _ Ab Ab g2 (by simp[Act.put,hpre,um])
     ·have l9:L 9=true:=by first|exact hpre|exact hpre.1|exact hpre.2|exact hpre.2.1|exact hpre.1.1|exact hpre.2.2.1
      go_simp
      exact hK (U 9) _ _ Ab Ab (HR.o.as0 l9) (by simp[Act.put,hpre])
     ·have l10:L 10=true:=by first|exact hpre|exact hpre.1|exact hpre.2|exact hpre.2.1|exact hpre.1.1|exact hpre.2.2.1
      go_simp
      exact hK (U 10) _ _ Ab Ab (HR.o.as1 l10) (by simp[Act.put,hpre])
     ·have l11:L 11=true:=by first|exact hpre|exact hpre.1|exact hpre.2|exact hpre.2.1|exact hpre.1.1|exact hpre.2.2.1
      go_simp
      exact hK (U 11) _ _ Ab Ab (HR.o.as2 l11) (by simp[Act.put,hpre])
    rintro L U W5 hL hφ hR
    clear hφ
    obtain⟨vp,vr,vk,hq,ua,ub,ue⟩:=hR.fin (hL 7 (by decide)) (hL 12 (by decide)) (hL 13 (by decide)) (hL 14 (by decide))
    simp only[ua,ub,ue]
    clear hR hL ua ub ue
    have HB5:=Aa (show Below w.heap.size w W5 from(HB.o.drew).trans (hq.1.mono (by simp;exact HB.o.size)))
    have y05:W5.cell? ⟨B,0,none⟩=some (.int .i64 (f.tag:Int)):=(hq.1.cell (p:=⟨B,0,none⟩) (by simpa using hB2)).trans y0
    have hz5:=hq.1.size
    simp only[World.size_drew]at hz5
    obtain⟨_,hm⟩:=hq
    cases oq with
    |none=>
     obtain⟨⟨q0,rfl⟩,⟨r0,rfl⟩,rfl⟩:=hm
     have HN:=Aa HU.o
     go_wp2_with fail
     refine bodyPost_ret (v:=.tuple #[.pointer none,.string ⟨(60::z:List UInt8).toArray⟩,.bool false]) (by simp[results,results67,go_sem]) rfl ?_
     exact Bj.no HN.o rfl HB5.o
    |some y=>
     obtain⟨v,r1⟩:=y
     obtain⟨⟨b5,rfl,hsv⟩,rfl,rfl⟩:=hm
     have Hsv:=Aa hsv
     clear hsv
     cases r1 with
     |nil=>
      have HN:=Aa HU.o
      go_wp2_with fail
      refine bodyPost_ret (v:=.tuple #[.pointer none,.string ⟨(60::z:List UInt8).toArray⟩,.bool false]) (by simp[results,results67,go_sem]) rfl ?_
      exact Bj.no HN.o rfl HB5.o
     |cons c8 z8=>
      by_cases h62:c8=62
      ·subst h62
       have HY:=Aa (show unL R (some (f,61::q1))=some (.mk 85 [] f.tag [v],z8)from by rw[HU.o];simp only[Bm])
       have t62:((((62:UInt8).toNat:Nat):Int) != 62)=false:=rfl
       go_wp2_with fail
       refine P3 [128,129,130,131,132,133,134,135,136,137,8,9,10]
        (fun ix v W=>match ix with|0=>v=.string ⟨(kb:List UInt8).toArray⟩|1=>v=.pointer (some ⟨B,0,none⟩)|2=>v=.int .i64 (f.tag:Int)|4=>v=.pointer (some ⟨b5,0,none⟩)|8=>v=.string ⟨(62::z8:List UInt8).toArray⟩|9=>v=.string ⟨(z8:List UInt8).toArray⟩|11=>v=.string ⟨(z8:List UInt8).toArray⟩|12=>v=.bool true|_=>True)
        (fun L U W=>E3 W5.drew kb f.tag b5 (L 3) (L 5) (L 6) (L 7) (L 10) (U 3) (U 5) (U 6) (U 7) (U 10) W) (E3.start) ?_ ?_
       ·repeat (first|exact Aq.nil|(refine Aq.cons ?_ ?_;rotate_left))
        all_goals
         rintro L U W hL hpre HR Hdep K hK
         first|(simp[Region.binds]at hpre;done)|simp[Region.binds]at hpre|clear hpre
        iterate 2
         ·go_simp
          first|exact hK _ _ _ rfl Ab HR.o rfl|exact kE hK HR.o|exact hK undef _ _ Ab Ab HR.o (by simp[Act.put,hpre])|exact hK _ _ _ Ab Ab HR.o rfl|exact kE hK HR.o
        ·have y06:=(HR.o.be.cell (p:=⟨B,0,none⟩) (by simp;omega)).trans ((World.cell?_drew _ _).trans y05)
         go_simp
         first|exact hK _ _ _ rfl Ab HR.o rfl|exact kE hK HR.o
        ·have h6:L 6=false:=Bz Hdep.o 6 3 rfl hL
         have h7:L 7=false:=Bz Hdep.o 7 6 rfl h6
         go_simp
         exact hK _ _ _ Ab Ab (HR.o.put3 h6 h7 _) (by simp[Act.put,hpre])
        ·go_simp
         first|exact hK _ _ _ rfl Ab HR.o rfl|exact kE hK HR.o|exact hK undef _ _ Ab Ab HR.o (by simp[Act.put,hpre])|exact hK _ _ _ Ab Ab HR.o rfl|exact kE hK HR.o
        ·have h6:L 6=false:=Bz Hdep.o 6 5 rfl hL
         have h7:L 7=false:=Bz Hdep.o 7 6 rfl h6
         go_simp
         exact hK _ _ _ Ab Ab (HR.o.put5 h6 h7 _) (by simp[Act.put,hpre])
        ·have l3:=hpre.2.1
         have l5:=hpre.2.2
         obtain⟨B3,u3,_⟩:=HR.o.a3 l3
         obtain⟨B5,u5,_⟩:=HR.o.a5 l5
         simp only[u3,u5]
         go_simp
         exact hK (.agg #[.string ⟨kb.toArray⟩,.string ⟨#[85]⟩,.slice (some ⟨B3,0,none⟩) 1 1,.slice (some ⟨B5,0,none⟩) 1 1]) _ _ Ab Ab (HR.o.put6 l3 l5 (by simp[u3,u5])) (by simp[Act.put,hpre,u3,u5])
        ·have l6:L 6=true:=by first|exact hpre|exact hpre.1|exact hpre.2|exact hpre.2.1|exact hpre.1.1|exact hpre.2.2.1
         have u6:=(HR.o.a6 l6).2.2
         have h10:L 10=false:=Bz Hdep.o 10 7 rfl hL
         obtain⟨B3,u3,_⟩:=HR.o.a3 (HR.o.a6 l6).1
         obtain⟨B5,u5,_⟩:=HR.o.a5 (HR.o.a6 l6).2.1
         rw[u3,u5]at u6
         simp only[u6]
         go_simp
         exact hK _ _ _ Ab Ab (HR.o.put7 l6 h10 (by rw[u3,u5])) (by simp[Act.put,hpre,u6,u3,u5])
        ·go_simp
         first|exact hK _ _ _ rfl Ab HR.o rfl|exact kE hK HR.o|exact hK undef _ _ Ab Ab HR.o (by simp[Act.put,hpre])|exact hK _ _ _ Ab Ab HR.o rfl|exact kE hK HR.o
        ·go_simp
         rw[if_pos (by omega)]
         go_simp
         exact hK (.string ⟨z8.toArray⟩) _ _ rfl Ab HR.o (by simp[Act.put,hpre])
        ·go_simp
         exact hK _ _ _ Ab Ab HR.o.put10 (by simp[Act.put,hpre])
        iterate 2
         ·go_simp
          first|exact hK _ _ _ rfl Ab HR.o rfl|exact kE hK HR.o|exact hK undef _ _ Ab Ab HR.o (by simp[Act.put,hpre])|exact hK _ _ _ Ab Ab HR.o rfl|exact kE hK HR.o
       rintro L U W hL hφ hR
       obtain⟨B7,u10,hS⟩:=hR.fin (hL 7 (by decide)) (hL 10 (by decide)) (lo:=w.heap.size) (by simp;exact HB5.o.size) ((Hsv.o.mono (fun c hc _=>Nat.le_trans (by simp;exact HB.o.size) hc)).after (As _ _).drew)
       have u11:U 11=.string ⟨(z8:List UInt8).toArray⟩:=hφ 11 (by decide)
       have u12:U 12=.bool true:=hφ 12 (by decide)
       have hbe:=hR.be
       simp only[u10,u11,u12]
       clear hR hL hφ u10 u11 u12
       go_wp2_with fail
       refine bodyPost_ret (v:=.tuple #[.pointer (some ⟨B7,0,none⟩),.string ⟨z8.toArray⟩,.bool true]) (by simp[results,results67,go_sem]) rfl ?_
       rw[HY.o]
       refine⟨⟨B7,rfl,?_⟩,HB5.o.trans ((((As _ _).drew).trans (hbe.mono (by simp))).mono HB5.o.size)⟩
       rw[Hkd.o f v Hft.o]
       exact hS
      have t62:((c8.toNat:Int) != 62)=true:=by have:=An h62;simpa using this
      have HN:=Aa (show unL R (some (f,61::q1))=none from by rw[HU.o];simp only[Df h62])
      clear h62
      go_wp2_with fail
      refine bodyPost_ret (v:=.tuple #[.pointer none,.string ⟨(60::z:List UInt8).toArray⟩,.bool false]) (by simp[results,results67,go_sem]) rfl ?_
      exact Bj.no HN.o rfl HB5.o
   have t61:((c9.toNat:Int) != 61)=true:=by have:=An h61;simpa using this
   have HN:=Aa (show unL R (some (f,c9::q1))=none from by simp only[unL,Df h61])
   clear h61
   go_wp2_with fail
   refine bodyPost_ret (v:=.tuple #[.pointer none,.string ⟨(60::z:List UInt8).toArray⟩,.bool false]) (by simp[results,results67,go_sem]) rfl ?_
   exact Bj.no HN.o rfl HB.o
theorem Qiz(w0:World)(xs:List (Ty × Value))(xv:Value)(hxv:xv.oneCell'=true)(hsc:Kf w0 xv xs)(k:Kd)(hk:Co k)(hsg:k.signs=[])(hbs:k.base=[64])(nm:List UInt8)(fs:List Fd)(tv:Value)(hx:Ew xs k.name=some (⟨82,nm,fs⟩,tv))(hfs:Fg w0 tv fs)(htg:∀f∈fs,f.tag<=200)
  (d:Nat) (hd:d<=1000) (z:List UInt8) (w:World) (hw:Below w0.heap.size w0 w) (hz:z.length<=1000000) (o:Option (Fd × List UInt8)) (ho:o=Fh fs z) (q:Option (Vl × List UInt8))
  (HC:∀W,Below w0.heap.size w0 W->Calls prog 107 #[.agg #[xv],.string ⟨z.toArray⟩,.string ⟨(Bq k).toArray⟩,.agg #[.int .u8 82,.string ⟨nm.toArray⟩,tv],.int .i64 ((d+1:Nat):Int)] W (Bj (Al xs) k q W)):
  Calls prog 67 #[.agg #[xv],.string ⟨(123::z:List UInt8).toArray⟩,.string ⟨(Bq k).toArray⟩,.int .i64 ((d+1:Nat):Int)] w (Bj (Al xs) k q w):=by
 have hkd:True:=Ab
 have d2:(((d+1:Nat):Int))<=1001:=by omega
 generalize (((d+1:Nat):Int))=dd at *
 have HC:=Aa HC
 obtain⟨A9,c9,rfl,hl9,_⟩:=hfs
 have HFs:=Aa (show ∀W,Below w0.heap.size w0 W->Fg W (.slice A9 fs.length c9) fs from fun W hW=>Fg.below (show Fg w0 (.slice A9 fs.length c9) fs from⟨A9,c9,rfl,hl9,by assumption⟩) hW)
 have Hr:=Aa (show ∀W,Below w0.heap.size w0 W->Calls prog 47 #[xv,.string ⟨(Bq k).toArray⟩] W fun e w'=>e=.returned (.tuple #[.agg #[.int .u8 82,.string ⟨nm.toArray⟩,.slice A9 fs.length c9],.bool true])/\Below W.heap.size W w' from fun W hW=>by
  have h:=Gv xv xs k W (hsc.below hW) hk
  rw[show Ki xs k=some (⟨82,nm,fs⟩,.slice A9 fs.length c9)from by unfold Ki;rw[if_pos ⟨hsg,hbs⟩];exact hx]at h
  exact h)
 have hkl:(Bq k).length<=100:=by have:=hk.2.2;omega
 have hzl:z.length<=1000000:=hz
 have Hw:=Aa hw
 have Hkd:=Aa hkd
 generalize Bq k=kb at *
 clear hw hx hsc htg ho
 go_enter func67,ntmps67
 go_wp2_with fail
 refine(Hr.o _ (Hw.o.alloc Hw.o.size _)).mono ?_
 rintro e w1 ⟨rfl,hb1⟩
 have hz1:=hb1.size
 simp only[World.size_alloc]at hz1
 have Hb1:=Aa (((As w.heap.size w).alloc (Ap _) _).trans (hb1.mono (by simp)))
 have X0:=Aa (show w1.cell? ⟨w.heap.size,0,none⟩=some xv from by rw[(Bw hb1).1 _ _ (by simp)];go_simp)
 clear hb1
 go_upto_region 3 with fail
 obtain⟨w2,hw2⟩:∃w2,w2=w1.alloc (.cells #[.int .u8 82,.string ⟨nm.toArray⟩,.slice A9 fs.length c9] 95):=⟨_,rfl⟩
 have Hb2:=Aa (show Below w.heap.size w w2 from by rw[hw2];exact Hb1.o.alloc Hb1.o.size _)
 have Hl0:=Aa (show w.heap.size<w2.drew.heap.size from by rw[hw2];simp;omega)
 have Hl1:=Aa (show w1.heap.size<w2.drew.heap.size from by rw[hw2];simp)
 have X0:=Aa (show w2.drew.cell? ⟨w.heap.size,0,none⟩=some xv from by rw[hw2,World.cell?_drew];exact Er (by omega) X0.o)
 have X1:=Aa (show w2.drew.cell? ⟨w1.heap.size,0,none⟩=some (.int .u8 82)from by rw[hw2];go_simp)
 have X2:=Aa (show w2.drew.cell? ⟨w1.heap.size,1,none⟩=some (.string ⟨nm.toArray⟩)from by rw[hw2];go_simp)
 have X3:=Aa (show w2.drew.cell? ⟨w1.heap.size,2,none⟩=some (.slice A9 fs.length c9)from by rw[hw2];go_simp)
 rw[<-hw2]
 clear hw2
 have HC9:=Aa (HC.o w2.drew (Hw.o.trans (Hb2.o.mono Hw.o.size)).drew)
 refine P3 [38,39,40,41,42,43,44,45,46,47,8,9,10]
  (fun ix v W=>match ix with|0=>v=.agg #[xv]|1=>v=.string ⟨(123::z:List UInt8).toArray⟩|2=>v=.string ⟨(z:List UInt8).toArray⟩|3=>v=.string ⟨(kb:List UInt8).toArray⟩|4=>v=.agg #[.int .u8 82,.string ⟨nm.toArray⟩,.slice A9 fs.length c9]|5=>v=.int .i64 dd|_=>True)
  (fun L U W=>Gc (SrQ w2.drew (Al xs) k q) (w2.drew) (L 6) (L 6) (L 7) (L 8) (L 9) (L 10) (L 11) (L 12) (U 6) (U 6) (U 7) (U 8) (U 9) (U 10) (U 11) (U 12) W) (⟨fun _=>rfl,fun h=>Bool.noConfusion h⟩) ?_ ?_
 ·repeat (first|exact Aq.nil|(refine Aq.cons ?_ ?_;rotate_left))
  all_goals
   rintro L U W hL hpre HR Hdep K hK
   first|(simp[Region.binds]at hpre;done)|simp[Region.binds]at hpre|clear hpre
  ·have h6:L 6=false:=Bz Hdep.o 6 0 rfl hL
   have hW:=HR.o.no h6
   subst hW
   have q0:=X0.o
   go_simp
   first|exact hK _ _ _ rfl Ab HR.o rfl|exact kE hK HR.o
  ·go_simp
   first|exact hK _ _ _ rfl Ab HR.o rfl|exact kE hK HR.o|exact hK undef _ _ Ab Ab HR.o (by simp[Act.put,hpre])|exact hK _ _ _ Ab Ab HR.o rfl|exact kE hK HR.o
  ·go_simp
   rw[if_pos (by omega)]
   go_simp
   exact hK (.string ⟨(z:List UInt8).toArray⟩) _ _ rfl Ab HR.o (by simp[Act.put,hpre])
  ·go_simp
   first|exact hK _ _ _ rfl Ab HR.o rfl|exact kE hK HR.o|exact hK undef _ _ Ab Ab HR.o (by simp[Act.put,hpre])|exact hK _ _ _ Ab Ab HR.o rfl|exact kE hK HR.o
  ·have h6:L 6=false:=Bz Hdep.o 6 4 rfl hL
   have hW:=HR.o.no h6
   subst hW
   have q1:=X1.o
   have q2:=X2.o
   have q3:=X3.o
   go_simp
   first|exact hK _ _ _ rfl Ab HR.o rfl|exact kE hK HR.o
  ·go_simp
   first|exact hK _ _ _ rfl Ab HR.o rfl|exact kE hK HR.o|exact hK undef _ _ Ab Ab HR.o (by simp[Act.put,hpre])|exact hK _ _ _ Ab Ab HR.o rfl|exact kE hK HR.o
  ·have h7:L 7=false:=Bz Hdep.o 7 6 rfl hL
   have h8:L 8=false:=Bz Hdep.o 8 6 rfl hL
   have h9:L 9=false:=Bz Hdep.o 9 6 rfl hL
   have h10:L 10=false:=Bz Hdep.o 10 7 rfl h7
   have h11:L 11=false:=Bz Hdep.o 11 8 rfl h8
   have h12:L 12=false:=Bz Hdep.o 12 9 rfl h9
   have hW:=HR.o.no hL
   subst hW
   go_simp
   refine HC9.o.mono ?_
   rintro e w5 hp
   obtain⟨vp,vr,vk,rfl,hq⟩:=hp.q
   go_simp
   exact hK _ _ _ Ab Ab (Gc.call2 h7 h8 h9 h10 h11 h12 hq) (by simp[Act.put,hpre])
  ·have l6:L 6=true:=by first|exact hpre|exact hpre.1|exact hpre.2|exact hpre.2.1|exact hpre.1.1|exact hpre.2.2.1
   obtain⟨vp,vr,vk,um,g0,g1,g2⟩:=HR.o.get l6 l6
   simp only[um]
   go_simp
   exact hK _ _ _ Ab Ab g0 (by simp[Act.put,hpre,um])
  ·have l6:L 6=true:=by first|exact hpre|exact hpre.1|exact hpre.2|exact hpre.2.1|exact hpre.1.1|exact hpre.2.2.1
   obtain⟨vp,vr,vk,um,g0,g1,g2⟩:=HR.o.get l6 l6
   simp only[um]
   go_simp
   exact hK _ _ _ Ab Ab g1 (by simp[Act.put,hpre,um])
  ·have l6:L 6=true:=by first|exact hpre|exact hpre.1|exact hpre.2|exact hpre.2.1|exact hpre.1.1|exact hpre.2.2.1
   obtain⟨vp,vr,vk,um,g0,g1,g2⟩:=HR.o.get l6 l6
   simp only[um]
   go_simp
   exact hK _ _ _ Ab Ab g2 (by simp[Act.put,hpre,um])
  ·have l7:L 7=true:=by first|exact hpre|exact hpre.1|exact hpre.2|exact hpre.2.1|exact hpre.1.1|exact hpre.2.2.1
   go_simp
   exact hK (U 7) _ _ Ab Ab (HR.o.as0 l7) (by simp[Act.put,hpre])
  ·have l8:L 8=true:=by first|exact hpre|exact hpre.1|exact hpre.2|exact hpre.2.1|exact hpre.1.1|exact hpre.2.2.1
   go_simp
   exact hK (U 8) _ _ Ab Ab (HR.o.as1 l8) (by simp[Act.put,hpre])
  ·have l9:L 9=true:=by first|exact hpre|exact hpre.1|exact hpre.2|exact hpre.2.1|exact hpre.1.1|exact hpre.2.2.1
   go_simp
   exact hK (U 9) _ _ Ab Ab (HR.o.as2 l9) (by simp[Act.put,hpre])
 rintro L U W hL hφ hR
 clear hφ
 obtain⟨vp,vr,vk,hq,ua,ub,ue⟩:=hR.fin (hL 6 (by decide)) (hL 10 (by decide)) (hL 11 (by decide)) (hL 12 (by decide))
 simp only[ua,ub,ue]
 clear hR hL ua ub ue
 go_wp2_with fail
 refine bodyPost_ret (v:=.tuple #[vp,vr,vk]) (by simp[results,results67,go_sem]) rfl ?_
 exact hq.post Hb2.o.drew
theorem Qh8(S:List Ty)(k:Kd)(w0:World)(xv:Value)(hxv:xv.oneCell'=true)(kb:List UInt8)(hkl:kb.length<=100)(st:Int)(nm:ByteArray)(A:Option Addr)(n c:Nat)(b:Bool)(c0:UInt8)(z:List UInt8)(dd:Int)(w:World)(hw:Below w0.heap.size w0 w)(hz:z.length<=1000000)
  (hr:∀W,Below w0.heap.size w0 W->Calls prog 47 #[xv,.string ⟨kb.toArray⟩] W fun e w'=>e=.returned (.tuple #[.agg #[.int .u8 st,.string nm,.slice A n c],.bool b])/\Below W.heap.size W w')
  (hc:((st == 82)=true/\((c0.toNat:Int) == 123)=false/\(st == 69)=false/\(st == 85)=false)\/((st == 82)=false/\(st == 69)=true/\((c0.toNat:Int) == 35)=false/\(st == 85)=false)\/((st == 82)=false/\(st == 69)=false/\(st == 85)=true/\((c0.toNat:Int) == 60)=false)\/((st == 82)=false/\(st == 69)=false/\(st == 85)=false)):
  Calls prog 67 #[.agg #[xv],.string ⟨(c0::z:List UInt8).toArray⟩,.string ⟨kb.toArray⟩,.int .i64 dd] w (Bj S k none w):=by
 have Hr:=Aa hr
 have Hw:=Aa hw
 clear hr hw
 have key:∀w1,Below (w.alloc (.cells #[xv] 35)).heap.size (w.alloc (.cells #[xv] 35)) w1->Below w.heap.size w (w1.alloc (.cells #[.int .u8 st,.string nm,.slice A n c] 95)):=fun w1 hb=>by
  have h1:=((As w.heap.size w).alloc (Ap _) (.cells #[xv] 35)).trans (hb.mono (by simp))
  exact h1.alloc h1.size _
 have Hkey:=Aa key
 clear key
 rcases hc with⟨h1,h2,h3,h4⟩|⟨h1,h2,h3,h4⟩|⟨h1,h2,h3,h4⟩|⟨h1,h2,h3⟩
 all_goals
  go_enter func67,ntmps67
  go_wp2_with fail
  refine(Hr.o _ (Hw.o.alloc Hw.o.size _)).mono ?_
  rintro e w1 ⟨rfl,hb1⟩
  have Hb2:=Aa (Hkey.o w1 hb1)
  clear hb1
  go_wp2_with fail
  refine bodyPost_ret (v:=.tuple #[.pointer none,.string ⟨(c0::z:List UInt8).toArray⟩,.bool false]) (by simp[results,results67,go_sem]) rfl ?_
  exact Bj.no rfl rfl Hb2.o
structure RS(S:List Ty)(K:Kd->List UInt8->Option (Vl × List UInt8))(fs:List Fd)(s:List UInt8)(ps:List (Fd × Vl))(last:Nat)(tt:List UInt8):Prop where
 eq:Dr S K fs 201 0 s=Nw ps (Dr S K fs (201 - ps.length) last tt)
 lo:ps.length<=last
 hi:last<=200
 la:last=(ps.map (·.1.tag)).getLastD 0
 fd:∀p∈ps,Bg fs p.1.tag=some p.1
 le:tt.length<=s.length
section
variable {S:List Ty} {K:Kd->List UInt8->Option (Vl × List UInt8)} {fs:List Fd} {s tt r q z z':List UInt8} {ps:List (Fd × Vl)} {last:Nat} {f:Fd} {v:Vl}
theorem RS.init:RS S K fs s [] 0 s:=⟨by cases h:Dr S K fs 201 0 s<;>simp[Nw,h],Ap _,by omega,rfl,by simp,Ap _⟩
theorem RS.one(h:RS S K fs s ps last tt):∃m,201 - ps.length=m+1/\Dr S K fs 201 0 s=Nw ps (match Cr K fs tt with
  |none=>none
  |some (p,r)=>if p.1.tag<=last\/Az p.2=Re S p.1 then none else match Am 44 r with
   |some q=>(match Dr S K fs m p.1.tag q with|some (ps,z)=>some (p::ps,z)|none=>none)
   |none=>match Am 125 r with|some q=>some ([p],q)|none=>none):=
 ⟨200 - ps.length,by have:=h.lo;have:=h.hi;omega,by rw[h.eq,show 201 - ps.length=(200 - ps.length)+1 by have:=h.lo;have:=h.hi;omega];rfl⟩
theorem RS.tagN(h:RS S K fs s ps last tt)(h1:Fh fs tt=none):Dr S K fs 201 0 s=none:=by
 obtain⟨m,_,e⟩:=h.one;rw[e];simp[Cr,h1,Nw]
theorem RS.sign(h:RS S K fs s ps last tt)(h1:Fh fs tt=some (f,r))(h2:Am 61 r=none):Dr S K fs 201 0 s=none:=by
 obtain⟨m,_,e⟩:=h.one;rw[e];simp[Cr,h1,h2,Nw]
theorem RS.ord(h:RS S K fs s ps last tt)(h1:Fh fs tt=some (f,r))(h3:f.tag<=last):Dr S K fs 201 0 s=none:=by
 obtain⟨m,_,e⟩:=h.one;rw[e]
 cases h2:Am 61 r with
 |none=>simp[Cr,h1,h2,Nw]
 |some q=>
  cases hk:K f.kind q with
  |none=>simp[Cr,h1,h2,hk,Nw]
  |some x=>simp[Cr,h1,h2,hk,Nw,h3]
theorem RS.rd(h:RS S K fs s ps last tt)(h1:Fh fs tt=some (f,r))(h2:Am 61 r=some q)(hk:K f.kind q=none):Dr S K fs 201 0 s=none:=by
 obtain⟨m,_,e⟩:=h.one;rw[e];simp[Cr,h1,h2,hk,Nw]
theorem RS.sam(h:RS S K fs s ps last tt)(h1:Fh fs tt=some (f,r))(h2:Am 61 r=some q)(hk:K f.kind q=some (v,z))(h4:Az v=Re S f):Dr S K fs 201 0 s=none:=by
 obtain⟨m,_,e⟩:=h.one;rw[e];simp[Cr,h1,h2,hk,Nw,h4]
theorem RS.sep(h:RS S K fs s ps last tt)(h1:Fh fs tt=some (f,r))(h2:Am 61 r=some q)(hk:K f.kind q=some (v,z))(h5:Am 44 z=none)(h6:Am 125 z=none):Dr S K fs 201 0 s=none:=by
 obtain⟨m,_,e⟩:=h.one;rw[e];simp[Cr,h1,h2,hk,Nw,h5,h6]
theorem RS.go(h:RS S K fs s ps last tt)(h1:Fh fs tt=some (f,r))(h2:Am 61 r=some q)(h3:last<f.tag)(hk:K f.kind q=some (v,z))(h4:Az v≠Re S f)(h5:Am 44 z=some z')(hl:z'.length<=tt.length):
  RS S K fs s (ps++[(f,v)]) f.tag z':=by
 obtain⟨m,hm,e⟩:=h.one
 obtain⟨g1,g2,_,_⟩:=H7 h1
 refine⟨?_,by have:=h.lo;simp;omega,g1,by simp,fun p hp=>?_,Nat.le_trans hl h.le⟩
 ·rw[e,show 201 - (ps++[(f,v)]).length=m by simp;omega]
  simp only[Cr,h1,h2,hk,h5]
  rw[if_neg (by intro h;rcases h with h|h;omega;exact h4 h)]
  cases Dr S K fs m f.tag z'<;>simp[Nw]
 rcases List.mem_append.1 hp with hp|hp
 ·exact h.fd p hp
 rw[List.mem_singleton]at hp;subst hp;exact g2
theorem RS.fin(h:RS S K fs s ps last tt)(h1:Fh fs tt=some (f,r))(h2:Am 61 r=some q)(h3:last<f.tag)(hk:K f.kind q=some (v,z))(h4:Az v≠Re S f)(h5:Am 44 z=none)(h6:Am 125 z=some z'):
  Dr S K fs 201 0 s=some (ps++[(f,v)],z')/\∀p∈ps++[(f,v)],Bg fs p.1.tag=some p.1:=by
 obtain⟨m,hm,e⟩:=h.one
 obtain⟨g1,g2,_,_⟩:=H7 h1
 refine⟨?_,fun p hp=>?_⟩
 ·rw[e]
  simp only[Cr,h1,h2,hk,h5,h6]
  rw[if_neg (by intro h;rcases h with h|h;omega;exact h4 h)]
  simp[Nw]
 rcases List.mem_append.1 hp with hp|hp
 ·exact h.fd p hp
 rw[List.mem_singleton]at hp;subst hp;exact g2
end
end
end Go.Proofs.YtkigmebejmmikaaGreatDoor
