/- Texts joined. Conditions: as each theorem names them. -/
import Derived.Test.YtmmhmlmfhpfgbaaGreatDoorF18
set_option maxRecDepth 100000
set_option maxHeartbeats 32000000
set_option linter.unusedVariables false
set_option linter.unusedSimpArgs false
namespace Go.Proofs.YtmmhmlmfhpfgbaaGreatDoor
open Go.RowKit Go.Proofs.Tryz
section
attribute [local go_sem] Qoe Qnf Qmu Qk2 ByteArray.mk_append_mk
def Gu(st:UInt8)(f:Fd):Prop:=f.tag<=200/\f.name.length<=100/\(Ax f.kind).length<=100/\f.given.length<=100/\(st=69->f.given=[])
theorem Qb1{st:UInt8}{f:Fd}(h:Gu st f):(Kr st f).length<=400:=by
 obtain⟨h1,h2,h3,h4,_⟩:=h;have hd:=Da 2 f.tag bU;unfold Kr Jv;split
 ·simp;omega
 split
 ·simp;omega
 simp;omega
theorem Qft(t:Ty)(fv:Value)(w:World)(hf:Dq w fv t.fields)(h8:t.fields.length<=20)(hnm:t.name.length<=100)(hs:∀f∈t.fields,Gu t.sort f):
  Calls prog 112 #[Kx t fv] w fun e w'=>e=.returned (.string ⟨(V8 t++[10]).toArray⟩)/\Below w w w':=by
 obtain⟨A,c,rfl,_,hrow⟩:=hf;have Hrow:=Aa hrow;have Hs:=Aa hs;have HF:Hid (V8 t++[10]=t.sort::(t.name++61::(Aw 44 (t.fields.map (Kr t.sort))++[10]))):=by unfold V8 Hid;simp
 have hcl:=t.sort.toNat_lt;unfold Kx;clear hrow hs;go_enter func112,ntmps112;go_wp2_with fail;obtain⟨w2,hw2⟩:∃w2,w2=(w.alloc (.cells #[.int .u8 (t.sort.toNat:Int),t.name,.slice A t.fields.length c] 143)).alloc (.cells #[] 9):=⟨_,rfl⟩
 rw[<-hw2];have T0:=@Aa (w2.cell? (w,0)=some (.int .u8 (t.sort.toNat:Int))) fV;have T1:=@Aa (w2.cell? (w,1)=t.name) fV;have T2:=@Aa (w2.cell? (w,2)=some (.slice A t.fields.length c)) fV;have Hb2:=@Aa (Below w w w2) (by rw[hw2];exact((Ao _ _).alloc (An _) _).alloc aK _);have hz2:w2.heap.size=w.heap.size+2:=ge;have Hown2:=@Aa (w2.ownsRow (w.heap.size+1) 9 1 (.slice (w,1,0) 0 0) 0 []) ⟨rfl,.inr ⟨w.heap.size+1,0,#[],rfl,An _,by rw[hw2];have:=heap_alloc_new (w.alloc (.cells #[.int .u8 (t.sort.toNat:Int),t.name,.slice A t.fields.length c] 143)) (.cells #[] 9);simpa using this,An _,ag _,rfl,rfl⟩⟩;clear hw2;go_loopw [4,3] (fun i lv wr=>∃k:Nat,i=.int .i64 k/\k<=t.fields.length/\Hid (wr.ownsRow (w.heap.size+1) 9 1 lv k (By ((t.fields.take k).map (Kr t.sort))))/\Hid (Below (w.heap.size+1) w2 wr)) (fun i _ _=>t.fields.length - (intOf i).toNat)
 case atStart=>exact⟨0,rfl,ag _,Hown2.o,Ao _ _⟩
 case round=>
  obtain⟨k,rfl,hk,hown,hbr⟩:=hrel;have k1:(0:Int)<=(k:Int):=aH;have hzr:w2.heap.size<=wr.heap.size:=hbr.o.size;have t0:wr.cell? (w,0)=some (.int .u8 (t.sort.toNat:Int)):=(hbr.o.cell (p:=⟨w.heap.size,0,none⟩) (Nat.lt_succ_self _)).trans T0.o;have t1:wr.cell? (w,1)=t.name:=(hbr.o.cell (p:=⟨w.heap.size,1,none⟩) (Nat.lt_succ_self _)).trans T1.o;have t2:wr.cell? (w,2)=some (.slice A t.fields.length c):=(hbr.o.cell (p:=⟨w.heap.size,2,none⟩) (Nat.lt_succ_self _)).trans T2.o;have Hbw:=@Aa (Below w w wr) (Hb2.o.trans (hbr.o.mono aH));obtain⟨A3,n3,c3,hlv⟩:=Ed hown.o;subst hlv;by_cases hlt:k<t.fields.length
  ·have k2:(k:Int)<(t.fields.length:Int):=aH;obtain⟨b,off,rfl,hbl,g0,g1,g2,g3⟩:=Dq.at_ (Hrow.o.below Hbw.o) hlt;have Hts:=Aa (Cb t.fields k hlt);have Hfs:=Aa (Hs.o _ (ae hlt));generalize t.fields[k]=f at g0 g1 g2 g3 Hts Hfs;obtain⟨f1,f2,f3,f4,f5⟩:=Hfs.o;have Hf5:=Aa f5;have hdl:=Da 2 f.tag bU;have Hd:=Aa (fun W=>Gj f.tag f.tag W (An _) aH);have hbn:¬(b=wr.heap.size):=aH;clear f5;go_wp2_with fail;obtain⟨W5,hW5⟩:∃W5,W5=wr.alloc (.cells #[(f.tag:Int),f.name,.string ⟨(Ax f.kind).toArray⟩,f.given] 157):=⟨_,rfl⟩
   rw[<-hW5];have hb5:Below wr wr W5:=ep;have F0:=@Aa (W5.cell? (wr,0)=(f.tag:Int)) da;have F1:=@Aa (W5.cell? (wr,1)=f.name) da;have F2:=@Aa (W5.cell? (wr,2)=some (.string ⟨(Ax f.kind).toArray⟩)) da;have F3:=@Aa (W5.cell? (wr,3)=f.given) da;have L5:=@Aa (wr.heap.size<W5.heap.size) da;have Hb5:=@Aa (Below (w.heap.size+1) w2 W5) (hbr.o.trans (hb5.mono aH));have Hown5:=Aa (Ct hown.o hb5);have h5w:w.heap.size+1<wr.heap.size:=aH;generalize wr.heap.size=B5 at *;clear hW5 hb5 g0 g1 g2 g3 t0 t1 t2;refine Jd [20,21,22,23,24,25,26,6]
    (fun ix v W=>match ix with|0=>v=B5|1=>v=(f.tag:Int)|2=>v=(Ba f.tag:List UInt8)|3=>v=(Ba f.tag++[58]:List UInt8)|4=>v=(B5,1)|5=>v=(f.name:List UInt8)|6=>v=(Ba f.tag++58::f.name:List UInt8)|7=>v=(Ba f.tag++58::f.name:List UInt8)|_=>True)
    (fun L U W=>Below W5 W5 W) ((Ao _ _).drew) ?_ ?_
   ·repeat (first|exact Ak.nil|(refine Ak.cons ?_ ?_;rotate_left))
    all_goals
     rintro L U W hL hpre HR Hdep K hK;have hB:=HR.o;have a0:W.cell? (B5,0)=(f.tag:Int):=(hB.cell (p:=⟨B5,0,none⟩) L5.o).trans F0.o;have a1:W.cell? (B5,1)=f.name:=(hB.cell (p:=⟨B5,1,none⟩) L5.o).trans F1.o;first|(simp[Region.binds]at hpre;done)|simp[Region.binds]at hpre|clear hpre
    iterate 2
     ·exact hD
    ·go_simp;refine(Hd.o W).mono ?_;rintro e w5 ⟨rfl,hb5⟩;exact kA
    ·exact hY
    iterate 2
     ·exact hD
    ·exact hY
    ·exact hD
   rintro L U W hL hφ hR;have e7:U 7=(Ba f.tag++58::f.name:List UInt8):=hφ 7 aJ;simp only[e7];clear hφ;have Hb6:=Aa (Hb5.o.trans (hR.mono (by have:=L5.o;omega)));have Hown6:=Aa (Ct Hown5.o hR);have t0:W.cell? (w,0)=some (.int .u8 (t.sort.toNat:Int)):=(Hb6.o.cell (p:=⟨w.heap.size,0,none⟩) (Nat.lt_succ_self _)).trans T0.o;have a2:W.cell? (B5,2)=some (.string ⟨(Ax f.kind).toArray⟩):=(hR.cell (p:=⟨B5,2,none⟩) L5.o).trans F2.o;have a3:W.cell? (B5,3)=f.given:=(hR.cell (p:=⟨B5,3,none⟩) L5.o).trans F3.o;have hzw:w.heap.size+1<=W.heap.size:=by have:=hR.size;have:=L5.o;omega
   clear hL hR;by_cases h69:t.sort=69
   ·have t69:((t.sort.toNat:Int) != 69)=false:=cD;have hgv:=Hf5.o h69;rw[hgv]at a3;have Hrest2:=@Aa (Kr t.sort f=Ba f.tag++58::f.name) (by unfold Kr Jv;rw[if_pos h69];simp);clear h69 hgv;go_wp2_with (at_builtin;refine Ff _ rfl _ _ 57 rfl (w.heap.size+1) 9 a6 16 underlying57 Po rfl W (Ba f.tag++58::f.name:List UInt8) rfl rfl (.slice A3 n3 c3) k (By ((t.fields.take k).map (Kr t.sort))) rfl rfl Hown6.o aU aH aH ?_;intro v7 w7 hown7 hg7 _;have Hown7:=Aa hown7;have Hg7:=Aa hg7;clear hown7 hg7)
    go_roundw
    case rel=>
     refine⟨k+1,by go_num,by omega,?_,Hb6.o.grown Hg7.o hzw (fun j hj=>(Hown6.o.lt j hj).1)⟩;exact kB
    case measure=>simp[intOf];omega
   have t69:((t.sort.toNat:Int) != 69)=true:=cC;by_cases hg:f.given=[]
   ·rw[hg]at a3;have Hrest2:=@Aa (Kr t.sort f=Ba f.tag++58::(f.name++58::Ax f.kind)) (by unfold Kr Jv;rw[if_neg h69,if_pos hg];simp);clear h69 hg;go_wp2_with (at_builtin;refine Ff _ rfl _ _ 57 rfl (w.heap.size+1) 9 a6 16 underlying57 Po rfl W (.string ⟨(Ba f.tag++58::(f.name++58::Ax f.kind):List UInt8).toArray⟩) rfl rfl (.slice A3 n3 c3) k (By ((t.fields.take k).map (Kr t.sort))) rfl rfl Hown6.o aU aH aH ?_;intro v7 w7 hown7 hg7 _;have Hown7:=Aa hown7;have Hg7:=Aa hg7;clear hown7 hg7)
    go_roundw
    case rel=>
     refine⟨k+1,by go_num,by omega,?_,Hb6.o.grown Hg7.o hzw (fun j hj=>(Hown6.o.lt j hj).1)⟩;exact kB
    case measure=>simp[intOf];omega
   have s1:f.given.isEmpty=false:=by simpa using hg
   have s2:(!f.given.isEmpty)=true:=by simp[s1]
   have Hrest2:=@Aa (Kr t.sort f=Ba f.tag++58::(f.name++58::(Ax f.kind++61::f.given))) (by unfold Kr Jv;rw[if_neg h69,if_neg hg]);clear h69 hg;go_wp2_with (at_builtin;refine Ff _ rfl _ _ 57 rfl (w.heap.size+1) 9 a6 16 underlying57 Po rfl W (.string ⟨(Ba f.tag++58::(f.name++58::(Ax f.kind++61::f.given)):List UInt8).toArray⟩) rfl rfl (.slice A3 n3 c3) k (By ((t.fields.take k).map (Kr t.sort))) rfl rfl Hown6.o aU aH aH ?_;intro v7 w7 hown7 hg7 _;have Hown7:=Aa hown7;have Hg7:=Aa hg7;clear hown7 hg7)
   go_roundw
   case rel=>
    refine⟨k+1,by go_num,by omega,?_,Hb6.o.grown Hg7.o hzw (fun j hj=>(Hown6.o.lt j hj).1)⟩;exact kB
   case measure=>simp[intOf];omega
  ·obtain rfl:k=t.fields.length:=aH;have Hjl:=Aa (Rp 44 400 (t.fields.map (Kr t.sort)) (fun p hp=>by obtain⟨f,hf,rfl⟩:=ax.1 hp;exact Qb1 (Hs.o f hf)));have hjl:=Hjl.o;rw[List.length_map]at hjl;have Hw:=Aa hown.o;rw[List.take_length]at Hw;obtain⟨A9,c9,e9,hr9⟩:=B0.own Hw.o;injection e9 with e9 e10 e11;subst e9 e10 e11
   have Hjoin:=Aa (fun W (h:Below wr wr W)=>show Calls prog 133 #[.slice A3 t.fields.length c3] W fun e w'=>e=.returned (.string ⟨(Aw 44 (t.fields.map (Kr t.sort))).toArray⟩)/\W=w' from by
    have:=Qhg A3 c3 (t.fields.map (Kr t.sort)) W (by simpa using hr9.below h) (by rw[List.length_map];omega) (fun p hp=>by obtain⟨f,hf,rfl⟩:=ax.1 hp;have:=Qb1 (Hs.o f hf);omega);rwa [List.length_map]at this)
   have W0e:∃W0,W0=wr:=⟨_,rfl⟩
   obtain⟨W0,hW0⟩:=W0e;have Lw:=Aa (show w.heap.size<wr.heap.size by omega);have T0':=Aa t0;have T1':=Aa t1;clear T0 T1;have T0:=T0';have T1:=T1';generalize Aw 44 (t.fields.map (Kr t.sort))=js at *;clear t0 t1 hr9 Hw;go_wp2_with fail;subst hW0;refine Jd [47,48,49,50,51,52,53,54,55,56,57,58,2]
    (fun ix v W=>match ix with|0=>v=w.heap.size|1=>v=.int .u8 (t.sort.toNat:Int)|2=>∃g,v=.slice (some ⟨g,0,none⟩) 1 1|3=>v=([t.sort]:List UInt8)|4=>v=(w,1)|5=>v=(t.name:List UInt8)|6=>v=(t.sort::t.name:List UInt8)|7=>v=.string ⟨(t.sort::(t.name++[61]):List UInt8).toArray⟩|8=>v=.slice A3 t.fields.length c3|9=>v=(js:List UInt8)|10=>v=.string ⟨(t.sort::(t.name++61::js):List UInt8).toArray⟩|11=>v=.string ⟨(t.sort::(t.name++61::(js++[10])):List UInt8).toArray⟩|12=>v=.string ⟨(t.sort::(t.name++61::(js++[10])):List UInt8).toArray⟩|_=>True)
    (fun L U W=>Below W0 W0 W/\(L 2=true->∃g,U 2=.slice (some ⟨g,0,none⟩) 1 1/\g<W.heap.size/\W.cell? ⟨g,0,none⟩=some (.int .u8 (t.sort.toNat:Int)))) (⟨(Ao _ _).drew,fun h=>Bool.noConfusion h⟩) ?_ ?_
   ·repeat (first|exact Ak.nil|(refine Ak.cons ?_ ?_;rotate_left))
    all_goals
     rintro L U W hL hpre HR Hdep K hK;obtain⟨hB,R2⟩:=HR.o;have a0:W.cell? (w,0)=some (.int .u8 (t.sort.toNat:Int)):=(hB.cell (p:=⟨w.heap.size,0,none⟩) Lw.o).trans T0.o;have a1:W.cell? (w,1)=t.name:=(hB.cell (p:=⟨w.heap.size,1,none⟩) Lw.o).trans T1.o;first|(simp[Region.binds]at hpre;done)|simp[Region.binds]at hpre|clear hpre
    iterate 2
     ·exact hD
    ·go_simp;exact hK _ _ _ ⟨_,rfl⟩ Ac ⟨hB.alloc hB.size _,fun _=>⟨W.heap.size,rfl,by simp,by simp⟩⟩ aI
    ·have l2:L 2=true:=by first|exact hpre.1|exact hpre.2.1
     obtain⟨g,u2,hg,hc⟩:=R2 l2;have hcv:=Kz W g 1 t.sort hc;go_simp;exact hK _ _ _ rfl Ac HR.o (by simp[Act.put,hpre,u2])
    iterate 2
     ·exact hD
    ·exact hY
    ·exact hY
    ·exact hD
    ·go_simp;refine(Hjoin.o W hB).mono ?_;rintro e w5 ⟨rfl,rfl⟩;exact kC
    ·exact hY
    ·exact hY
    ·exact hD
   rintro L U W hL hφ hR;have e12:U 12=.string ⟨(t.sort::(t.name++61::(js++[10])):List UInt8).toArray⟩:=hφ 12 aJ;simp only[e12];clear hφ;have Hb9:=Aa (Hbw.o.trans (hR.1.mono Hbw.o.size));clear hL hR;go_wp2_with fail;go_ret;exact⟨by rw[HF.o];rfl,Hb9.o⟩
theorem Sz(S:List Ty)(hT:∀t∈S,Fi t):∀(n:Nat) (k:Kd),(Do S n k).length<=6*n
 |0,_=>by simp[Do]
 |n+1,k=>by
  unfold Do;split
  ·simp;omega
  split
  ·simp;omega
  split
  ·simp;omega
  split
  ·simp;omega
  split
  ·simp;omega
  cases hf:Bk S k.name with
  |none=>simp
  |some t=>
   simp only;split
   ·simp;omega
   cases hfs:t.fields with
   |nil=>simp
   |cons f fs=>
    have h1:=((hT t (Cf hf).1).2.2.1.1 f cV).2.1;have h2:=Da 2 f.tag bU;have ih:=Sz S hT n f.kind;simp only;split
    ·simp;omega
    simp;omega
def Zo(b:List UInt8):List UInt8:=if b=[110]then[48]else if b=[116]then[39,39]else[110,111]
theorem Qcc(b:List UInt8)(w:World)(hb:b=[110]\/b=[116]\/b=[102]):
  Calls prog 230 #[b] w fun e w'=>e=.returned (.string ⟨(Zo b).toArray⟩)/\w=w':=by
 rcases hb with rfl|rfl|rfl
 ·exact jr
 ·exact jr
 go_enter func230,ntmps230;go_wp2_with fail;exact jJ
def Qg3(c:UInt8):List UInt8:=if c=91 then[91,93]else[45]
theorem Ta(v:Value)(c:UInt8)(t:List UInt8)(w:World)(hc:c=91\/c=63)(hl:t.length<=1000):
  Calls prog 205 #[v,.string ⟨(c::t).toArray⟩] w fun e w'=>e=.returned (.string ⟨(Qg3 c).toArray⟩)/\w=w':=by
 rcases hc with rfl|rfl
 ·go_enter func205,ntmps205;go_wp2_with fail;exact jJ
 go_enter func205,ntmps205;go_wp2_with fail;exact jJ
theorem N3{k:Kd}(h:Ck k)(hs:k.signs=[])(hb:k.base≠[64]):Ax k=k.base/\(k.base=[110]\/k.base=[116]\/k.base=[102]):=by
 refine⟨by unfold Ax Bu;rw[hs,if_neg hb];rfl,?_⟩;rcases h.2.1 with h|h
 ·exact absurd h.1 hb
 exact h.1
theorem Qm(v:Value)(xs:List (Ty × Value))(k:Kd)(w:World)(hsc:Gb w v xs)(hk:Ck k)(hs:k.signs=[])(hb:k.base≠[64]):
  Calls prog 205 #[v,.string ⟨(Ax k).toArray⟩] w fun e w'=>e=.returned (.string ⟨(Zo k.base).toArray⟩)/\Below w w w':=by
 have Hr:=Aa (fun W h=>Ey v xs k W h hk);have hx:Jq xs k=none:=if_neg (fun h=>hb h.2);rw[hx]at Hr;obtain⟨e1,e2⟩:=N3 hk hs hb;rw[e1]at Hr ⊢;have Hsc:=Aa hsc;have Hp:=Aa (fun W=>Qcc k.base W e2);have He2:=Aa e2;unfold Vn P6 at Hr;generalize k.base=b at *;clear hs hb e1 hsc hx;obtain⟨c,hc,t1,t2⟩:∃c,b=[c]/\((c.toNat:Int) == 91)=false/\((c.toNat:Int) == 63)=false:=by
  rcases e2 with rfl|rfl|rfl
  ·exact⟨110,rfl,by decide,by decide⟩
  ·exact⟨116,rfl,by decide,by decide⟩
  exact⟨102,rfl,by decide,by decide⟩
 clear e2;subst hc;go_enter func205,ntmps205;go_wp2_with fail;refine(Hr.o _ Hsc.o).mono ?_;rintro e w1 ⟨rfl,hb1⟩;go_wp2_with fail;refine(Hp.o _).mono ?_;rintro e w2 ⟨rfl,rfl⟩;go_wp2_with fail;go_ret;exact⟨rfl,hb1.alloc hb1.size _⟩
def Fz(l:List UInt8)(w:World)(e:Ending)(w':World):Prop:=e=.returned l/\Below w w w'
theorem Qcn(xv:Value)(xs:List (Ty × Value))(hok:∀x∈xs,Fi x.1)(n:Nat)(k:Kd)(w:World)(hsc:Gb w xv xs)(hk:Ck k)(hs:k.signs=[])(hb:k.base=[64])(t:Ty)(fv:Value)(hx:Dy xs k.name=some (t,fv))
  (hn:n<=9) (ih:t.sort=85->∀f fs,t.fields=f::fs->∀W,Gb W xv xs->Calls prog 205 #[xv,.string ⟨(Ax f.kind).toArray⟩] W (Fz (Do (Ad xs) n f.kind) W)):
  Calls prog 205 #[xv,.string ⟨(Ax k).toArray⟩] w (Fz (Do (Ad xs) (n+1) k) w):=by
 have Hr:=Aa (fun W h=>Ey xv xs k W h hk);have Hlen:=Aa (Sz (Ad xs) (fun t ht=>by obtain⟨x,hx,rfl⟩:=ax.1 ht;exact hok x hx));have hrx:Jq xs k=some (t,fv):=(if_pos ⟨hs,hb⟩).trans hx
 have HF:=Aa (show Do (Ad xs) (n+1) k=if t.sort=82 then[123,125]else match t.fields with|[]=>[]|f::_=>if t.sort=69 then 35::Ba f.tag else 60::(Ba f.tag++61::(Do (Ad xs) n f.kind++[62]))from by
  rw[Do,if_neg ey,if_neg ey,if_neg bS,if_neg bS,if_neg bS,G6,hx];rfl)
 have hto:=hok _ (Cp hx).1;have hkb:Ax k=64::(k.name++[59]):=dn;have hnl:k.name.length<=3:=by
  rcases hk.2.1 with h|h
  ·exact(Ds.1 h.2).2.1
  rw[hb]at h;exact absurd h.1 aJ
 have hfd:Dq w fv t.fields:=by obtain⟨_,_,_,_,_,hf⟩:=hsc;exact hf _ (Cp hx).1
 rw[hrx]at Hr;rw[hkb]at Hr ⊢;obtain⟨A,c,rfl,hfl,hrow⟩:=hfd;have Hsc:=Aa hsc;have Hrow:=Aa hrow;have Hto:=Aa hto;have Ih:=Aa ih;unfold Vn Kx at Hr;simp only[]at hto;clear hsc hk hs hb hx hkb hrow hto hrx ih hok;by_cases h82:t.sort=82
 ·have t82:((t.sort.toNat:Int) == 82)=true:=Bj (d:=82) h82;have HF2:=Aa (HF.o.trans (if_pos h82));clear h82 HF;go_enter func205,ntmps205;go_wp2_with fail;refine(Hr.o _ Hsc.o).mono ?_;rintro e w1 ⟨rfl,hb1⟩;go_wp2_with fail;go_ret;exact⟨by rw[HF2.o];rfl,hb1.alloc hb1.size _⟩
 have t82:((t.sort.toNat:Int) == 82)=false:=Ap (d:=82) h82;have HF2:=Aa (HF.o.trans (if_neg h82));have hne:t.fields≠[]:=fun h=>h82 (Hto.o.2.2.2.2 h);obtain⟨f,fs,hfs⟩:∃f fs,t.fields=f::fs:=by
  cases h:t.fields with
  |nil=>exact absurd h hne
  |cons f fs=>exact⟨f,fs,rfl⟩
 have hf0:0<t.fields.length:=cV;have hge:t.fields[0]=f:=by simp[hfs]
 have hft:=Hto.o.2.2.1.1 f cV;have htag:f.tag<=200:=hft.2.1;have hdl:=Da 2 f.tag bU;have Hd:=Aa (fun W=>Gj f.tag f.tag W (An _) aH);have hi0:(0:Int)<(t.fields.length:Int):=aH;have HF3:=@Aa (Do (Ad xs) (n+1) k=if t.sort=69 then 35::Ba f.tag else 60::(Ba f.tag++61::(Do (Ad xs) n f.kind++[62]))) (by rw[HF2.o,hfs]);have Hfs:=Aa hfs;have Hge:=Aa hge;obtain⟨b,off,rfl,hbl,g0,g1,g2,g3⟩:=Dq.at_ Hrow.o hf0;rw[hge]at g0 g1 g2 g3;simp only[Nat.zero_mul,Nat.add_zero]at g0 g1 g2 g3;have H82:=Aa h82;clear HF2 HF h82 hne hfs hge hft g1 g3;by_cases h69:t.sort=69
 ·have t69:((t.sort.toNat:Int) == 69)=true:=Bj (d:=69) h69;have HF4:=Aa (HF3.o.trans (if_pos h69));clear h69 HF3;go_enter func205,ntmps205;go_wp2_with fail;refine(Hr.o _ Hsc.o).mono ?_;rintro e w1 ⟨rfl,hb1⟩;have g0':=(hb1.cell (p:=⟨b,off,none⟩) hbl).trans g0;have hbl1:b<w1.heap.size:=ac hbl hb1.size;have hbn:¬(b=w1.heap.size):=aH;have Hb1:=Aa hb1;clear hb1 g0 g2;go_wp2_with fail;refine(Hd.o _).mono ?_;rintro e w2 ⟨rfl,hb2⟩;go_wp2_with fail;go_ret;exact⟨by rw[HF4.o];simp,(Hb1.o.alloc Hb1.o.size _).trans (hb2.mono (by have:=Hb1.o.size;simp;omega))⟩
 have t69:((t.sort.toNat:Int) == 69)=false:=Ap (d:=69) h69;have HF4:=Aa (HF3.o.trans (if_neg h69));have h85:t.sort=85:=by
  rcases Hto.o.1 with h|h|h
  ·exact absurd h H82.o
  ·exact h
  exact absurd h h69
 have Ih2:=Aa (Ih.o h85 f fs Hfs.o);have hsl:=Hlen.o n f.kind;generalize Do (Ad xs) n f.kind=sl at *;generalize Ax f.kind=kd at *;clear h69 HF3 h85 Ih;go_enter func205,ntmps205;go_wp2_with fail;refine(Hr.o _ Hsc.o).mono ?_;rintro e w1 ⟨rfl,hb1⟩;have g0':=(hb1.cell (p:=⟨b,off,none⟩) hbl).trans g0;have g2':=(hb1.cell (p:=⟨b,off+2,none⟩) hbl).trans g2;have hbl1:b<w1.heap.size:=ac hbl hb1.size;have hbn:¬(b=w1.heap.size):=aH;have Hb1:=Aa hb1;clear hb1 g0 g2;go_wp2_with fail;obtain⟨W0,hW0⟩:∃W0,W0=w1.alloc (.cells #[.int .u8 (t.sort.toNat:Int),t.name,.slice (some ⟨b,off,none⟩) t.fields.length c] 143):=⟨_,rfl⟩
 rw[<-hW0];have y2:W0.cell? (w1,2)=some (.slice (some ⟨b,off,none⟩) t.fields.length c):=by rw[hW0];simp
 have y0:W0.cell? ⟨b,off,none⟩=(f.tag:Int):=by rw[hW0,World.cell?_alloc_old _ _ _ hbn];exact g0'
 have y3:W0.cell? ⟨b,off+2,none⟩=kd:=by rw[hW0,World.cell?_alloc_old _ _ _ hbn];exact g2'
 have hz0:W0.heap.size=w1.heap.size+1:=by rw[hW0];simp
 have hB5:w1.heap.size<W0.heap.size:=aH;have hb5:b<W0.heap.size:=aH;have Hb0:=@Aa (Below w w W0) (by rw[hW0];exact Hb1.o.alloc Hb1.o.size _);have Hsc0:=Aa (Hsc.o.below Hb0.o);generalize w1.heap.size=B5 at *;clear hW0 hz0 g0' g2';refine Jd [39,40,41,42,43,44,45,46,47,48,49,50,51,52,53,54,55,4]
  (fun i v W=>match i with|0=>v=(B5,2)|1=>v=.slice (some ⟨b,off,none⟩) t.fields.length c|2=>v=.pointer (some ⟨b,off,none⟩)|3=>v=.pointer (some ⟨b,off,none⟩)|4=>v=(f.tag:Int)|5=>v=.string ⟨(Ba f.tag).toArray⟩|6=>v=.string ⟨(60::Ba f.tag).toArray⟩|7=>v=.string ⟨(60::(Ba f.tag++[61])).toArray⟩|8=>v=xv|9=>v=(B5,2)|10=>v=.slice (some ⟨b,off,none⟩) t.fields.length c|11=>v=.pointer (some ⟨b,off,none⟩)|12=>v=.pointer (some ⟨b,off+2,none⟩)|13=>v=kd|14=>v=sl|15=>v=.string ⟨(60::(Ba f.tag++61::sl)).toArray⟩|16=>v=.string ⟨(60::(Ba f.tag++61::(sl++[62]))).toArray⟩|17=>v=.string ⟨(60::(Ba f.tag++61::(sl++[62]))).toArray⟩|_=>True)
  (fun L U W=>Below W0 W0 W) ((Ao _ _).drew) ?_ ?_
 ·repeat (first|exact Ak.nil|(refine Ak.cons ?_ ?_;rotate_left))
  all_goals
   rintro L U W hL hpre HR Hdep K hK;have hB:=HR.o;have c2:=(hB.cell (p:=⟨B5,2,none⟩) hB5).trans y2;have c0:=(hB.cell (p:=⟨b,off,none⟩) hb5).trans y0;have c3:=(hB.cell (p:=⟨b,off+2,none⟩) hb5).trans y3;first|(simp[Region.binds]at hpre;done)|simp[Region.binds]at hpre|clear hpre
  iterate 5
   ·exact hD
  ·exact je
  ·exact hY
  ·exact hY
  iterate 6
   ·exact hD
  ·exact j8
  ·exact hY
  ·exact hY
  ·exact hD
 rintro L U W hL hφ hR;have e17:U 17=.string ⟨(60::(Ba f.tag++61::(sl++[62]))).toArray⟩:=hφ 17 aJ;simp only[e17];clear hφ;have Hb9:=Aa (Hb0.o.trans (hR.mono Hb0.o.size));clear hR;go_wp2_with fail;go_ret;exact⟨by rw[HF4.o];rfl,Hb9.o⟩
theorem Qz(S:List Ty)(n:Nat)(k:Kd)(c:UInt8)(t:List UInt8)(h:k.signs=c::t)(hc:c=91\/c=63):Do S (n+1) k=Qg3 c:=by
 unfold Do Qg3;rw[h];rcases hc with rfl|rfl
 ·rfl
 rfl
theorem No(S:List Ty)(n:Nat)(k:Kd)(h:k.signs=[])(hb:k.base=[110]\/k.base=[116]\/k.base=[102]):Do S (n+1) k=Zo k.base:=by
 unfold Do Zo;rw[h];rcases hb with hb|hb|hb<;>rw[hb]<;>rfl
theorem Sj{k:Kd}(h:Ck k){c:UInt8}{t:List UInt8}(hs:k.signs=c::t):c=91\/c=63:=by
 have:=h.1;rw[hs,List.all_cons,aw]at this;have:=this.1;unfold Bn at this;simpa using this
theorem Qc1(xv:Value)(xs:List (Ty × Value))(hok:∀x∈xs,Fi x.1)(hS:H8 (Ad xs)):∀(n:Nat),n<=9->∀(k:Kd) (w:World),Gb w xv xs->Ck k->B6 (Ad xs) k->Tu (Ad xs) n k ->
  Calls prog 205 #[xv,.string ⟨(Ax k).toArray⟩] w (Fz (Do (Ad xs) (n+1) k) w):=by
 intro n;induction n with
 |zero=>
  intro _ k w hsc hk hr he;cases hs:k.signs with
  |cons c t=>
   have hc:=Sj hk hs;have hkb:Ax k=c::(t++Bu k):=dK;have hl:=hk.2.2;rw[hkb]at hl ⊢;rw[Qz _ _ k c t hs hc];refine(Ta xv c (t++Bu k) w hc fW).mono ?_;rintro e w' ⟨rfl,rfl⟩;exact kD
  |nil=>
   by_cases hb:k.base=[64]
   ·obtain⟨t,_,h⟩:=he hs hb;exact absurd h (by simp[Ca])
   exact kE
 |succ n ih=>
  intro hn k w hsc hk hr he;cases hs:k.signs with
  |cons c t=>
   have hc:=Sj hk hs;have hkb:Ax k=c::(t++Bu k):=dK;have hl:=hk.2.2;rw[hkb]at hl ⊢;rw[Qz _ _ k c t hs hc];refine(Ta xv c (t++Bu k) w hc fW).mono ?_;rintro e w' ⟨rfl,rfl⟩;exact kD
  |nil=>
   by_cases hb:k.base=[64]
   ·have h1:=hr hb;rw[G6]at h1;cases hx:Dy xs k.name with
    |none=>rw[hx]at h1;cases h1
    |some x=>
     obtain⟨t,fv⟩:=x;have hft:Bk (Ad xs) k.name=some t:=(Cp hx).2.2;have hto:Fi t:=hok _ (Cp hx).1;refine Qcn xv xs hok (n+1) k w hsc hk hs hb t fv hx hn (fun h85 f fs hfs W hW=>?_);have hrf:B6 (Ad xs) f.kind:=hS t (Cf hft).1 dX f cV;exact kG
   exact kE
theorem Tr{S:List Ty}(h:G7 S){k:Kd}(hr:B6 S k):Tu S 9 k:=by
 intro hs hb;have h1:=hr hb;cases hf:Bk S k.name with
 |none=>rw[hf]at h1;cases h1
 |some t=>exact⟨t,rfl,h.2.2 t (Cf hf).1⟩
theorem Qel(xv:Value)(xs:List (Ty × Value))(h:G7 (Ad xs))(k:Kd)(w:World)(hsc:Gb w xv xs)(hk:Ck k)(hr:B6 (Ad xs) k):
  Calls prog 205 #[xv,.string ⟨(Ax k).toArray⟩] w (Fz (Vp (Ad xs) k) w):=
 Qc1 xv xs (fun x hx=>h.1.1 x.1 (ap hx)) h.2.1 9 (An _) k w hsc hk hr (Tr h hr)
theorem Mr(xv:Value)(xs:List (Ty × Value))(h:G7 (Ad xs))(f:Fd)(w:World)(hsc:Gb w xv xs)(hk:Ck f.kind)(hr:B6 (Ad xs) f.kind)(hl:f.given.length<=1000):
  Calls prog 155 #[xv,sfV f] w (Fz (G9 (Ad xs) f) w):=by
 have HF:=@Aa (G9 (Ad xs) f=if f.given=[]then Vp (Ad xs) f.kind else f.given) rfl;have Hs:=Aa (fun W (h1:Gb W xv xs)=>Qel xv xs h f.kind W h1 hk hr);have Hsc:=Aa hsc;unfold sfV;generalize Ax f.kind=kd at *;clear h hk hr hsc;by_cases hg:f.given=[]
 ·have HF2:=Aa (HF.o.trans (if_pos hg));rw[hg];clear hg HF;go_enter func155,ntmps155;go_wp2_with fail;refine(Hs.o _ (Hsc.o.below ((Ao _ _).alloc (An _) _))).mono ?_;rintro e w1 ⟨rfl,hb1⟩;go_wp2_with fail;go_ret;exact⟨by rw[HF2.o];rfl,((Ao _ _).alloc (An _) _).trans (hb1.mono aK)⟩
 have HF2:=Aa (HF.o.trans (if_neg hg));have t1:f.given.isEmpty=false:=by simpa using hg
 have t2:(!f.given.isEmpty)=true:=by simp[t1]
 clear hg HF;go_enter func155,ntmps155;go_wp2_with fail;go_ret;exact⟨by rw[HF2.o];rfl,(Ao _ _).alloc (An _) _⟩
end
def Qf(p:C9):List Value:=[p.1,p.2]
theorem Qhn(p:C9):(Qf p).length=2:=rfl
theorem Tryz.infoPair:(prog.info? 247).map (fun i=>(i.zero,i.size,i.bytes))=some (some (.agg #[a6,a6]),2,32):=aN
def Gp(w0:World)(v1 v2:Value)(w:World)(m:List C9)(mv:Value):Prop:=
 Below w0 w0 w/\w0.heap.size+1<=w.heap.size/\w.cell? (w0,0)=some v1/\w.cell? (w0,1)=some v2/\w.cell? (w0,2)=some mv/\w.there w0 0 3 /\
  w.ownsRow (w0.heap.size+1) 247 2 mv m.length (m.flatMap Qf)
structure Ex(ab:Nat)(mv:Value)(w w':World)(mv':Value):Prop where
 size:w.heap.size<=w'.heap.size
 block:∀b,b<w.heap.size->b≠ab->some b≠mv.ownBlock->w'.heap[b]?=w.heap[b]?
 own:mv'.ownBlock=mv.ownBlock\/∃k,mv'.ownBlock=some k/\w.heap.size<=k
theorem Ex.refl(ab:Nat)(mv:Value)(w:World):Ex ab mv w w mv:=⟨An _,fun _ _ _ _=>rfl,.inl rfl⟩
theorem Ex.trans{ab:Nat}{v1 v2 v3:Value}{a b c:World}(h:Ex ab v1 a b v2)(k:Ex ab v2 b c v3):Ex ab v1 a c v3:=by
 refine⟨ad h.size k.size,fun x hx h1 h2=>(k.block x (ac hx h.size) h1 ?_).trans (h.block x hx h1 h2),?_⟩
 ·rcases h.own with e|⟨y,e,hy⟩
  ·rw[e];exact h2
  rw[e];intro he;injection he with he;omega
 rcases k.own with e|⟨y,e,hy⟩
 ·rw[e];exact h.own
 exact .inr ⟨y,e,ad h.size hy⟩
theorem Ex.of_below{ab:Nat}{mv:Value}{w w':World}(h:Below w w w'):Ex ab mv w w' mv:=⟨h.size,fun b hb _ _=>h.block b hb,.inl rfl⟩
theorem Ex.cell{ab:Nat}{mv mv':Value}{w w':World}(h:Ex ab mv w w' mv'){b o:Nat}(hb:b<w.heap.size)(h1:b≠ab)(h2:some b≠mv.ownBlock):w'.cell? ⟨b,o,none⟩=w.cell? ⟨b,o,none⟩:=World.cell?_of_block (h.block b hb h1 h2)
theorem Ex.range{ab:Nat}{mv mv':Value}{w w':World}(h:Ex ab mv w w' mv'){b o:Nat}{cs:List Value}(hr:w.rangeAt b o cs)(hb:b<w.heap.size)(h1:b≠ab)(h2:some b≠mv.ownBlock):w'.rangeAt b o cs:=fun j v hv=>(h.cell hb h1 h2).trans (hr j v hv)
theorem Gp.size{w0 w:World}{v1 v2 mv:Value}{m:List C9}(h:Gp w0 v1 v2 w m mv):w0.heap.size<w.heap.size:=h.2.1
theorem Gp.far{w0 w:World}{v1 v2 mv:Value}{m:List C9}(h:Gp w0 v1 v2 w m mv):∀b,w.heap.size<=b->some b≠mv.ownBlock:=fun b hb e=>by
 have:=(h.2.2.2.2.2.2.lt b e.symm).2;omega
theorem Gp.below{w0 w w':World}{v1 v2 mv:Value}{m:List C9}(h:Gp w0 v1 v2 w m mv)(hb:Below w w w'):Gp w0 v1 v2 w' m mv:=by
 obtain⟨h1,h2,h3,h4,h5,h6,h7⟩:=h
 exact⟨h1.trans (hb.mono aH),ad h2 hb.size,(hb.cell (p:=⟨w0.heap.size,0,none⟩) (show w0.heap.size<_ by omega)).trans h3,(hb.cell (p:=⟨w0.heap.size,1,none⟩) (show w0.heap.size<_ by omega)).trans h4,
  (hb.cell (p:=⟨w0.heap.size,2,none⟩) (show w0.heap.size<_ by omega)).trans h5,Aj h6 aH hb,Ct h7 hb⟩
theorem Gp.push{w0 w w5:World}{v1 v2 mv mv5:Value}{m:List C9}{p:C9}(h:Gp w0 v1 v2 w m mv)(hown:w5.ownsRow (w0.heap.size+1) 247 2 mv5 (m.length+1) (m.flatMap Qf++Qf p))(hg:w.grownBy w5 mv.ownBlock)
  (hwh:mv5.ownBlock=mv.ownBlock\/∃k,mv5.ownBlock=some k/\w.heap.size<=k):
  Gp w0 v1 v2 (w5.setCell ⟨w0.heap.size,2,none⟩ mv5) (m++[p]) mv5/\Ex w0.heap.size mv w (w5.setCell ⟨w0.heap.size,2,none⟩ mv5) mv5:=by
 obtain⟨h1,h2,h3,h4,h5,h6,h7⟩:=h;have hb:Below (w0.heap.size+1) w w5:=(Ao _ _).grown hg h2 (fun k hk=>(h7.lt k hk).1);have h6':w5.there w0 0 3:=Aj h6 (show w0.heap.size<w0.heap.size+1 by omega) hb;have hc:∀j,j≠2->(w5.setCell ⟨w0.heap.size,2,none⟩ mv5).cell? ⟨w0.heap.size,j,none⟩=w.cell? ⟨w0.heap.size,j,none⟩:=fun j hj=>by
  rw[World.cell?_setCell_other _ _ _ _ (by intro e;injection e with e1 e2;omega)];exact hb.cell (p:=⟨w0.heap.size,j,none⟩) (show w0.heap.size<_ by omega)
 refine⟨⟨(h1.trans (hb.mono aH)).setCell (An _) _,by simp;exact ad h2 hb.size,(hc 0 aJ).trans h3,(hc 1 aJ).trans h4,?_,ai h6' w0.heap.size 2 [_],?_⟩,?_⟩
 ·have:=aa w5 w0 2 [mv5] (Mg h6' 2 1 aJ aJ);exact(by simpa using Ab this 0 rfl:(w5.setCells w0 2 [mv5]).cell? (w0,2)=some mv5)
 ·rw[ah,List.flatMap_append];refine World.ownsRow.kept (show w5.ownsRow (w0.heap.size+1) 247 2 mv5 (m.length+[p].length) (m.flatMap Qf++[p].flatMap Qf)from by simpa using hown) (Mk w5 _ _) (.inr (fun e=>absurd (show w0.heap.size+1<=w0.heap.size from(hown.lt _ e).1) aH))
 refine⟨by simp;exact hg.size,fun b hb h1 h2=>?_,hwh⟩;rw[Below.heap_setCell _ _ _ _ h1];exact hg.block b hb h2
def Z7(w0:World)(v1 v2:Value)(r:Bool × List C9)(w:World)(mv:Value)(e:Ending)(w':World):Prop:=e=.returned (.bool r.1)/\∃mv',Gp w0 v1 v2 w' r.2 mv'/\Ex w0.heap.size mv w w' mv'
section
attribute [local go_sem] Qoe Qnf Qmu Qk2 ByteArray.mk_append_mk
theorem Yf{k:Kd}(h:Ck k):Ck k.core/\Ax k.core=Bu k:=by
 refine⟨⟨by simp[Kd.core],h.2.1,?_⟩,by simp[Ax,Kd.core];rfl⟩;have:=h.2.2;unfold Ax Kd.core Bu at *;simp at *;omega
theorem Qh5(xs:List (Ty × Value))(k:Kd):Jq xs k.core=if k.base=[64]then Dy xs k.name else none:=by
 unfold Jq Kd.core;simp
theorem Qcy{w:World}{v:Value}{xs:List (Ty × Value)}(h:Gb w v xs){o:Option (Ty × Value)}(ho:∀x,o=some x->x∈xs):
  ∃(s:Int) (nm:ByteArray) (A:Option Addr) (n c:Nat),Vn o=.tuple #[.agg #[.int .u8 s,.string nm,.slice A n c],.bool o.isSome]/\∀x,o=some x->Kx x.1 x.2=.agg #[.int .u8 s,.string nm,.slice A n c]/\nm=⟨x.1.name.toArray⟩:=by
 obtain⟨_,_,_,_,_,hf⟩:=h;cases o with
 |none=>exact⟨0,⟨#[]⟩,none,0,0,rfl,fun x h=>by cases h⟩
 |some x=>
  obtain⟨A,c,e,_,_⟩:=hf x (ho x rfl);refine⟨(x.1.sort.toNat:Int),⟨x.1.name.toArray⟩,A,x.1.fields.length,c,?_,fun y hy=>?_⟩
  ·show Value.tuple #[.agg #[_,_,x.2],.bool true]=_;rw[e];rfl
  injection hy with hy;subst hy;unfold Kx;rw[e];exact jM
theorem Qim{S T:List Ty}{n:Nat}{a b:Kd}{m:List C9}(hs:a.signs=b.signs)(ha:Ck a)(hb:Ck b)(h:¬(a.base=[64]/\b.base=[64])):
  J2 S T (n+1) a b m=((Bu a == Bu b) && (!decide (a.base=[64]) && !decide (b.base=[64])),m):=by
 unfold J2;by_cases h1:a.base=[64]
 ·have h2:b.base≠[64]:=fun h2=>h ⟨h1,h2⟩;rw[if_pos (.inr (by rw[h1];exact fun e=>h2 e.symm))];simp[h1]
 by_cases h2:b.base=[64]
 ·rw[if_pos (.inr (by rw[h2];exact h1))];simp[h2]
 have e1:Bu a=a.base:=if_neg h1;have e2:Bu b=b.base:=if_neg h2;by_cases h3:a.base=b.base
 ·rw[if_neg (by simp[hs,h3]),if_pos h1,e1,e2,h3];simp[h2]
 rw[if_pos (.inr h3),e1,e2];simp[h3]
theorem Qfs(w0:World)(v1 v2:Value)(xs ys:List (Ty × Value))(hx:Gb w0 v1 xs)(hy:Gb w0 v2 ys)(n:Nat)(a b:Kd)(m:List C9)(w:World)(mv:Value)
  (ha:Ck a) (hb:Ck b) (hra:B6 (Ad xs) a) (hrb:B6 (Ad ys) b) (hm:m.length<=64) (hst:Gp w0 v1 v2 w m mv)
  (ih:∀t fv u gv W mv',(t,fv)∈xs->(u,gv)∈ys->Gp w0 v1 v2 W (m++[(a.name,b.name)]) mv'->Bk (Ad xs) a.name=some t->Bk (Ad ys) b.name=some u->(a.name,b.name)∉m ->
   Calls prog 212 #[w0.heap.size,Kx t fv,Kx u gv] W (Z7 w0 v1 v2 (evT (Ad xs) (Ad ys) (J2 (Ad xs) (Ad ys) n) t u (m++[(a.name,b.name)])) W mv')):
  Calls prog 170 #[w0.heap.size,.string ⟨(Ax a).toArray⟩,.string ⟨(Ax b).toArray⟩] w (Z7 w0 v1 v2 (J2 (Ad xs) (Ad ys) (n+1) a b m) w mv):=by
 have HF:=Aa (show J2 (Ad xs) (Ad ys) (n+1) a b m=(if a.signs≠b.signs\/a.base≠b.base then(false,m)
  else if a.base≠[64]then(true,m)
  else match Bk (Ad xs) a.name,Bk (Ad ys) b.name with
   |some t,some u=>if (a.name,b.name)∈m then(true,m)else evT (Ad xs) (Ad ys) (J2 (Ad xs) (Ad ys) n) t u (m++[(a.name,b.name)])
   |_,_=>(false,m))from by rw[J2]<;>rfl)
 have Hca:=Aa (fun W=>Nk a ha W);have Hcb:=Aa (fun W=>Nk b hb W);have Hst:=Aa hst;have Hx:=Aa hx;have Hy:=Aa hy;have Ih:=Aa ih;obtain⟨A1,c1,rfl,hxl,_⟩:=hx;obtain⟨A2,c2,rfl,hyl,_⟩:=hy;obtain⟨A3,n3,c3,rfl⟩:=Ed hst.2.2.2.2.2.2;have hla:=ha.2.2;have hlb:=hb.2.2;have ea:Ax a=a.signs++Bu a:=rfl;have eb:Ax b=b.signs++Bu b:=rfl;rw[ea]at Hca hla ⊢;rw[eb]at Hcb hlb ⊢;simp only[ah]at hla hlb;have hw1:IntKind.i64.wrap (a.signs.length:Int)=a.signs.length:=IntWalk.i64_in _ ⟨by omega,by omega⟩;have hw2:IntKind.i64.wrap (b.signs.length:Int)=b.signs.length:=IntWalk.i64_in _ ⟨by omega,by omega⟩;clear hst ih ea eb;go_enter func170,ntmps170;go_wp2_with fail;refine(Hca.o _).mono ?_;rintro e w1 ⟨rfl,rfl⟩;go_wp2_with fail;refine(Hcb.o _).mono ?_;rintro e w1 ⟨rfl,rfl⟩;go_wp2_with fail;obtain⟨sb,hsb⟩:∃sb,(!(a.signs == b.signs))=sb:=⟨_,rfl⟩
 refine Jd [19,20,21,22,23,24,25,26,27,28,29,30,31,32,33]
  (fun i v W=>match i with|0=>v=.string ⟨(a.signs++Bu a).toArray⟩|1=>v=.string ⟨(a.signs++Bu a).toArray⟩|2=>v=.int .i64 ((a.signs.length:Int)+((Bu a).length:Int))|3=>v=.string ⟨(Bu a).toArray⟩|4=>v=.int .i64 ((Bu a).length:Int)|5=>v=(a.signs.length:Int)|6=>v=a.signs|7=>v=.string ⟨(b.signs++Bu b).toArray⟩|8=>v=.string ⟨(b.signs++Bu b).toArray⟩|9=>v=.int .i64 ((b.signs.length:Int)+((Bu b).length:Int))|10=>v=.string ⟨(Bu b).toArray⟩|11=>v=.int .i64 ((Bu b).length:Int)|12=>v=(b.signs.length:Int)|13=>v=b.signs|14=>v=.bool sb|_=>True)
  (fun L U W=>∃q,W=w.drewN q) (⟨1,rfl⟩) ?_ ?_
 ·repeat (first|exact Ak.nil|(refine Ak.cons ?_ ?_;rotate_left))
  all_goals
   rintro L U W hL hpre HR Hdep K hK;obtain⟨q,rfl⟩:=HR.o;first|(simp[Region.binds]at hpre;done)|simp[Region.binds]at hpre|clear hpre
  iterate 6
   ·exact iJ
  ·exact iN
  iterate 6
   ·exact iJ
  ·exact iN
  ·exact iJ
 rintro L U W hL hφ hR;have e14:U 14=.bool sb:=hφ 14 aJ;simp only[e14];clear hφ;obtain⟨q,rfl⟩:=hR;have Hstq:=Aa (Hst.o.below (below_drewN (Ao _ _) q));have Hkq:=Aa (Ex.of_below (ab:=w0.heap.size) (mv:=.slice A3 n3 c3) (below_drewN (Ao w.heap.size w) q));obtain⟨_,hsz,y0,y1,y2,_,_⟩:=Hstq.o;clear hL;have Hsb:=Aa hsb;clear hsb;cases sb with
 |true=>
  have HF1:=Aa (HF.o.trans (if_pos (.inl (by have:=Hsb.o;simpa using this))));go_wp2_with fail;go_ret;rw[HF1.o];exact⟨rfl,_,Hstq.o,Hkq.o⟩
 |false=>
  have hsg:a.signs=b.signs:=by have:=Hsb.o;simpa using this
  have Hsg:=Aa hsg;have Hra:=Aa (fun W (h:Gb W (.slice A1 xs.length c1) xs)=>(Yf ha).2 ▸ Ey _ xs a.core W h (Yf ha).1);have Hrb:=Aa (fun W (h:Gb W (.slice A2 ys.length c2) ys)=>(Yf hb).2 ▸ Ey _ ys b.core W h (Yf hb).1);rw[Qh5]at Hra Hrb;clear hsg;go_wp2_with fail
  have Hoa:=Aa (show ((if a.base=[64]then Dy xs a.name else none).isSome=decide (a.base=[64]))/\∀x,(if a.base=[64]then Dy xs a.name else none)=some x->a.base=[64]/\Dy xs a.name=some x from by
   by_cases h:a.base=[64]
   ·have:=hra h;exact kH
   rw[if_neg h];exact⟨by simp[h],fun x hx=>by cases hx⟩)
  have Hob:=Aa (show ((if b.base=[64]then Dy ys b.name else none).isSome=decide (b.base=[64]))/\∀x,(if b.base=[64]then Dy ys b.name else none)=some x->b.base=[64]/\Dy ys b.name=some x from by
   by_cases h:b.base=[64]
   ·have:=hrb h;exact kH
   rw[if_neg h];exact⟨by simp[h],fun x hx=>by cases hx⟩)
  generalize (if a.base=[64]then Dy xs a.name else none)=oa at Hra Hoa;generalize (if b.base=[64]then Dy ys b.name else none)=ob at Hrb Hob;obtain⟨s1,nm1,A4,n4,c4,e1,f1⟩:=Qcy Hx.o (o:=oa) (fun x h=>(Cp (Hoa.o.2 x h).2).1);obtain⟨s2,nm2,A5,n5,c5,e2,f2⟩:=Qcy Hy.o (o:=ob) (fun x h=>(Cp (Hob.o.2 x h).2).1);have F1:=Aa f1;have F2:=Aa f2;rw[e1,Hoa.o.1]at Hra;rw[e2,Hob.o.1]at Hrb;have Hpl:=Aa (fun(h:¬(a.base=[64]/\b.base=[64]))=>Qim (S:=Ad xs) (T:=Ad ys) (n:=n) (m:=m) Hsg.o ha hb h);have Hpab:=Aa (fun h1 h2=>(⟨of_decide_eq_true h1,of_decide_eq_true h2⟩:a.base=[64]/\b.base=[64]));have Hpno:=Aa (fun(h:decide (a.base=[64])=false\/decide (b.base=[64])=false)=>show ¬(a.base=[64]/\b.base=[64])from fun e=>by rcases h with h|h<;>simp[e.1,e.2]at h);clear f1 f2 e1 e2;generalize decide (a.base=[64])=pa at *;generalize decide (b.base=[64])=pb at *;obtain⟨xy,hxy⟩:∃xy,(Bu a == Bu b)=xy:=⟨_,rfl⟩
  rw[hxy]at Hpl;go_wp2_with fail;refine(Hra.o _ (Hx.o.below Hstq.o.1)).mono ?_;rintro e w2 ⟨rfl,hb2⟩;have Hst2:=Aa (Hstq.o.below hb2);have Hk2:=Aa (Hkq.o.trans (Ex.of_below (ab:=w0.heap.size) (mv:=.slice A3 n3 c3) hb2));have z0:w2.cell? (w0,0)=some (.slice A1 xs.length c1):=Hst2.o.2.2.1;have z1:w2.cell? (w0,1)=some (.slice A2 ys.length c2):=Hst2.o.2.2.2.1;have hz2:w0.heap.size<w2.heap.size:=Hst2.o.size;have hn2:¬(w0.heap.size=w2.heap.size):=aH;clear hb2;go_wp2_with fail;refine(Hrb.o _ (Hy.o.below (Hst2.o.1.alloc aH _))).mono ?_;rintro e w4 ⟨rfl,hb4⟩;have Hst4:=Aa ((Hst2.o.below ((Ao _ _).alloc (An _) _)).below hb4);have Hk4:=Aa ((Hk2.o.trans (Ex.of_below (ab:=w0.heap.size) (mv:=.slice A3 n3 c3) ((Ao _ _).alloc (An _) _))).trans (Ex.of_below (ab:=w0.heap.size) (mv:=.slice A3 n3 c3) hb4));have hz4:w2.heap.size<w4.heap.size:=eH;have n0:w4.cell? (w2,1)=some (.string nm1):=by rw[hb4.cell (p:=⟨w2.heap.size,1,none⟩) aK];simp
  have hn4:¬(w0.heap.size=w4.heap.size):=aH;have hn5:¬(w2.heap.size=w4.heap.size):=aH;have Hwz:=Aa Hk2.o.size;have X9:=@Aa (w4.rangeAt w2 0 [.int .u8 s1,.string nm1,.slice A4 n4 c4]) (Ah (Bo w2 [.int .u8 s1,.string nm1,.slice A4 n4 c4] _) aK hb4);clear hb4 z0 z1;cases pa with
  |false=>
   have HF2:=Aa (Hpl.o (Hpno.o (.inl rfl)));cases xy with
   |false=>
    go_wp2_with fail;exact kI
   |true=>cases pb with
    |false=>
     go_wp2_with fail;exact kI
    |true=>
     go_wp2_with fail;exact kI
  |true=>cases pb with
   |false=>
    have HF2:=Aa (Hpl.o (Hpno.o (.inr rfl)));cases xy with
    |false=>
     go_wp2_with fail;exact kI
    |true=>
     go_wp2_with fail;exact kI
   |true=>
    go_wp2_with fail;have hab:=(by first|exact Hpab.o rfl rfl|exact Hpab.o Ac Ac:a.base=[64]/\b.base=[64])
    obtain⟨x,hxo⟩:∃x,oa=some x:=by
     have:=Hoa.o.1;cases oa with
     |none=>cases this
     |some x=>exact⟨x,rfl⟩
    obtain⟨y,hyo⟩:∃y,ob=some y:=by
     have:=Hob.o.1;cases ob with
     |none=>cases this
     |some y=>exact⟨y,rfl⟩
    obtain⟨t,tv⟩:=x;obtain⟨u,uv⟩:=y;obtain⟨g1,g2⟩:=F1.o _ hxo;obtain⟨g3,g4⟩:=F2.o _ hyo;simp only[]at g1 g2 g3 g4;have hxf:=(Hoa.o.2 _ hxo).2;have hyf:=(Hob.o.2 _ hyo).2;have Hxm:=Aa (Cp hxf);have Hym:=Aa (Cp hyf);rw[show t.name=a.name from Hxm.o.2.1]at g2;rw[show u.name=b.name from Hym.o.2.1]at g4;subst g2 g4;have G1:=Aa g1;have G3:=Aa g3
    have HF2:=Aa (show J2 (Ad xs) (Ad ys) (n+1) a b m=if (a.name,b.name)∈m then(true,m)else evT (Ad xs) (Ad ys) (J2 (Ad xs) (Ad ys) n) t u (m++[(a.name,b.name)])from by
     rw[HF.o,if_neg (by rw[hab.1,hab.2];simp[Hsg.o]),if_neg (by rw[hab.1];simp),Hxm.o.2.2,Hym.o.2.2])
    clear g1 g3 hxo hyo hxf hyf hab;obtain⟨W6,hW6⟩:∃W6,W6=(w4.alloc (.cells #[.int .u8 s2,b.name,.slice A5 n5 c5] 143)).alloc (.cells #[a.name,b.name] 247):=⟨_,rfl⟩
    rw[<-hW6];have Hb6:=@Aa (Below w4 w4 W6) (by rw[hW6];exact((Ao _ _).alloc (An _) _).alloc aK _);have Hst6:=Aa (Hst4.o.below Hb6.o);have Hk6:=Aa (Hk4.o.trans (Ex.of_below (ab:=w0.heap.size) (mv:=.slice A3 n3 c3) Hb6.o));have X9':=Aa (Ah X9.o hz4 Hb6.o);have X11:=@Aa (W6.rangeAt w4 0 [.int .u8 s2,b.name,.slice A5 n5 c5]) (by rw[hW6];exact Ah (Bo w4 [.int .u8 s2,b.name,.slice A5 n5 c5] _) (Nat.lt_succ_self _) ((Ao _ _).alloc aK _));have p0:W6.cell? (w4,1,0)=a.name:=by rw[hW6];simp[go_sem]
    have p1:W6.cell? (w4,1,1)=b.name:=by rw[hW6];simp[go_sem]
    have hz6:w4.heap.size+1<W6.heap.size:=by rw[hW6];simp
    have Hrow:=Aa (B0.ownK Hst6.o.2.2.2.2.2.2 aU);have y2':W6.cell? (w0,2)=some (.slice A3 n3 c3):=Hst6.o.2.2.2.2.1;obtain rfl:n3=m.length:=by
     obtain⟨A,c,e,_⟩:=Hrow.o;injection e
    clear hW6 y0 y1 y2 n0;go_loopw [14] (fun i wr=>∃j:Nat,i=.int .i64 j/\j<=m.length/\(∃q,wr=W6.drewN q)/\Hid ((a.name,b.name)∉m.take j)) (fun i _=>m.length - (intOf i).toNat)
    case atStart=>exact⟨0,rfl,ag _,⟨0,rfl⟩,by simp[Hid]⟩
    case round=>
     obtain⟨j,rfl,hj,⟨q6,rfl⟩,hin⟩:=hrel;have j1:(0:Int)<=(j:Int):=aH;by_cases hlt:j<m.length
     ·have j2:(j:Int)<(m.length:Int):=aH;obtain⟨A,c,e3,hra⟩:=Hrow.o;have hA:A3=A:=by injection e3
      have hc:c3=c:=by injection e3
      subst hA hc;clear e3;obtain⟨bb,off,rfl,hbb,hcc⟩:=B0.elem Qhn aJ hra hlt;have r0:=hcc 0 _ rfl;have r1:=hcc 1 _ rfl;simp only[Nat.add_zero,<-Nat.add_assoc]at r0 r1;have Hts:=Aa (Cb m j hlt);have Hpm:=Aa (ae hlt);generalize m[j]=pj at r0 r1 Hts Hpm;clear hra hcc;obtain⟨be,hbe⟩:∃be,decide (pj=(a.name,b.name))=be:=⟨_,rfl⟩
      go_wp2_with fail;refine Jd [83,84,85,86,87,88,89,90,91]
       (fun i v W=>match i with|0=>v=w0.heap.size|1=>v=w0.heap.size|2=>v=(w0,2)|3=>v=.slice (some ⟨bb,off,none⟩) m.length c3|4=>v=.int .i64 j|5=>v=.pointer (some ⟨bb,off+j*2,none⟩)|6=>v=.agg #[pj.1,pj.2]|7=>v=.agg #[a.name,b.name]|8=>v=.bool be|_=>True)
       (fun L U W=>∃q,W=W6.drewN q) (⟨q6+1,rfl⟩) ?_ ?_
      ·repeat (first|exact Ak.nil|(refine Ak.cons ?_ ?_;rotate_left))
       all_goals
        rintro L U W hL hpre HR Hdep K hK;obtain⟨q,rfl⟩:=HR.o;first|(simp[Region.binds]at hpre;done)|simp[Region.binds]at hpre|clear hpre
       iterate 8
        ·exact hD
       ·go_simp;by_cases h1:pj.1=a.name
        ·by_cases h2:pj.2=b.name
         ·obtain rfl:be=true:=by rw[<-hbe];exact aD (Prod.ext h1 h2)
          rw[if_pos h1,if_pos h2];go_simp;exact hK _ _ _ rfl Ac HR.o (by simp[Act.put,hpre,h1,h2])
         obtain rfl:be=false:=by rw[<-hbe];exact aC (fun e=>h2 (by rw[e]))
         rw[if_pos h1,if_neg h2];go_simp;exact hK _ _ _ rfl Ac HR.o (by simp[Act.put,hpre,h1])
        obtain rfl:be=false:=by rw[<-hbe];exact aC (fun e=>h1 (by rw[e]))
        rw[if_neg h1];exact kJ
      rintro L U W hL hφ hR;have e8:U 8=.bool be:=hφ 8 aJ;simp only[e8];clear hφ;obtain⟨q7,rfl⟩:=hR;have Hbe:=Aa hbe;clear hL hbe;cases be with
      |true=>
       have Hmem:=@Aa ((a.name,b.name)∈m) (by have:=of_decide_eq_true Hbe.o;rw[<-this];exact Hpm.o);have Hfin:=Aa (HF2.o.trans (if_pos Hmem.o));go_wp2_with fail;go_ret;rw[Hfin.o];exact⟨rfl,_,Hst6.o.below (below_drewN (Ao _ _) q7),Hk6.o.trans (Ex.of_below (below_drewN (Ao _ _) q7))⟩
      |false=>
       have Hnin:=Aa (show (a.name,b.name)∉m.take (j+1)from by
        rw[Hts.o];intro h;rcases af.1 h with h|h
        ·exact hin.o h
        exact of_decide_eq_false Hbe.o (aq.1 h).symm)
       go_wp2_with fail;go_roundw
       case rel=>exact⟨j+1,by go_num,by omega,⟨q7,rfl⟩,Hnin.o⟩
       case measure=>simp[intOf];omega
     ·have Hnin:=@Aa ((a.name,b.name)∉m) (by have:=hin.o;rwa [au aH]at this);have Hfin:=Aa (HF2.o.trans (if_neg Hnin.o));go_wp2_with fail;obtain⟨W7,hW7⟩:∃W7,W7=(W6.drewN q6).drew:=⟨_,rfl⟩
      have Hb7:=@Aa (Below W6 W6 W7) (by rw[hW7];exact(below_drewN (Ao _ _) q6).drew);have Hst7:=Aa (Hst6.o.below Hb7.o);have Hk7:=Aa (Hk6.o.trans (Ex.of_below Hb7.o));have y27:W7.cell? (w0,2)=some (.slice A3 m.length c3):=Hst7.o.2.2.2.2.1;have p07:W7.cell? (w4,1,0)=a.name:=(Hb7.o.cell (p:=⟨w4.heap.size+1,0,none⟩) hz6).trans p0;have p17:W7.cell? (w4,1,1)=b.name:=(Hb7.o.cell (p:=⟨w4.heap.size+1,1,none⟩) hz6).trans p1;have hz7:W6.heap.size<=W7.heap.size:=Hb7.o.size;have X9b:=Aa (Ah X9'.out (show w2.heap.size<W6.heap.size by omega) Hb7.o);have X11b:=Aa (Ah X11.o (show w4.heap.size<W6.heap.size by omega) Hb7.o);have HW7:=Aa hW7;clear y2' p0 p1 hW7;refine Bp [92,93,94,95,96,97,98,99,100,101,999] aN aN aN (fun u=>by dsimp only[Bt,Bq,List.set,am,Nat.reduceAdd])
       (fun i v W=>match i with|0=>v=w0.heap.size|1=>v=w0.heap.size|2=>v=w0.heap.size|3=>v=(w0,2)|4=>v=.slice A3 m.length c3|5=>v=.agg #[a.name,b.name]|6=>v=.slice (some ⟨W7.heap.size,0,none⟩) 1 1|7=>∃A n c,v=.slice A n c|8=>v=w0.heap.size|9=>v=(w0,2)|_=>True)
       (fun L U W=>(L 6=false->W=W7)/\(L 6=true->L 7=false->W=W7.alloc (.cells ([a.name,b.name]:List Value).toArray 247)) /\
      (L 7=true->L 10=false->W.ownsRow (w0.heap.size+1) 247 2 (U 7) (m.length+1) (m.flatMap Qf++Qf (a.name,b.name))/\W7.grownBy W (Value.slice A3 m.length c3).ownBlock/\((U 7).ownBlock=(Value.slice A3 m.length c3).ownBlock\/∃k,(U 7).ownBlock=some k/\W7.heap.size<=k)) /\
      (L 10=true->∃mv5,Gp w0 (.slice A1 xs.length c1) (.slice A2 ys.length c2) W (m++[(a.name,b.name)]) mv5/\Ex w0.heap.size (.slice A3 m.length c3) W7 W mv5)) (fun _ _=>True) (fun _ _ _ _ _ h=>h) (⟨fun _=>HW7.o.symm,(fun h=>Bool.noConfusion h),(fun h=>Bool.noConfusion h),(fun h=>Bool.noConfusion h)⟩) ?_ ?_
      ·repeat (first|exact Ak.nil|(refine Ak.cons ?_ ?_;rotate_left))
       all_goals
        rintro L U W hL hpre hR hun hdep K hK;have HR:=Aa hR;obtain⟨R1,R2,R3,R4⟩:=HR.o;have Hdep:=Aa hdep;clear hun hdep hR;first|(simp[Region.binds]at hpre;done)|simp[Region.binds]at hpre|clear hpre
       iterate 4
        ·exact hD
       ·have h7:L 7=false:=Bb Hdep.o 7 4 rfl hL;cases h6:L 6 with
        |false=>
         exact kK
        |true=>
         obtain rfl:=R2 h6 h7;have y2a:(W7.alloc (.cells ([a.name,b.name]:List Value).toArray 247)).cell? (w0,2)=some (.slice A3 m.length c3):=by rw[World.cell?_alloc_old _ _ _ (show w0.heap.size≠W7.heap.size by omega)];exact y27
         exact kL
       ·have h6:L 6=false:=Bb Hdep.o 6 5 rfl hL;exact kK
       ·have h7:L 7=false:=Bb Hdep.o 7 6 rfl hL;obtain rfl:=R1 hL;go_simp;refine hK _ _ _ rfl Ac ⟨fun h=>by simp at h,fun _ _=>rfl,fun h=>absurd (h7.symm.trans aR) aJ,fun h=>?_⟩ aI;exact absurd ((Hdep.o 10 _ rfl {on:=6,ground:=Ground.phase} aK cr hL).symm.trans aR) aJ
       ·obtain⟨⟨l4,u4⟩,l6,u6⟩:=hpre;obtain rfl:=R2 l6 hL;rw[if_pos cr];refine Fp W7 (.tmp 96) (.tmp 98) 214 rfl (w0.heap.size+1) 247 (.agg #[a6,a6]) 2 32 underlying214 Tryz.infoPair rfl aJ (Qf (a.name,b.name)) rfl (by intro y hy;simp[Qf]at hy;rcases hy with rfl|rfl<;>rfl) (.slice A3 m.length c3) m.length (m.flatMap Qf) u4 u6 Hst7.o.2.2.2.2.2.2 aU aH aH ?_;intro v' w' hown hg hwh;obtain⟨A5',n5',c5',rfl⟩:=Ed hown;refine hK _ _ _ ⟨A5',n5',c5',rfl⟩ Ac ⟨fun h=>absurd (l6.symm.trans aR) aJ,fun _ h=>by simp at h,fun _ _=>⟨hown,hg,hwh⟩,fun h=>?_⟩ rfl;exact absurd ((Hdep.o 10 _ rfl {on:=7,ground:=Ground.phase} aK cr hL).symm.trans aR) aJ
       iterate 2
        ·exact hD
       ·obtain⟨l7,A5',n5',c5',u7⟩:L 7=true/\∃A n c,U 7=.slice A n c:=by
         first|exact hpre.1|exact hpre.2.1|exact⟨hpre.1.1,hpre.1.2⟩|exact⟨hpre.2.1.1,hpre.2.1.2⟩
        have hpre6:L 6=true:=by
         cases h6:L 6 with
         |true=>rfl
         |false=>
          have:=Bb Hdep.o 7 6 rfl h6;rw[l7]at this;cases this
        obtain⟨hown,hg,hwh⟩:=R3 l7 hL;rw[u7]at hown hwh;have hb8:Below (w0.heap.size+1) W7 W:=(Ao _ _).grown hg aH (fun k hk=>(Hst7.o.2.2.2.2.2.2.lt k hk).1);have hT8:=Aj Hst7.o.2.2.2.2.2.1 (show w0.heap.size<w0.heap.size+1 by omega) hb8;have f8:W.frozen? (w0,2)=false:=(by simpa using(hT8 2 aJ).2)
        obtain⟨x8,hx8⟩:=Option.isSome_iff_exists.1 ((by simpa using(hT8 2 aJ).1:(W.cell? (w0,2)).isSome=true));have HP:=Aa (Gp.push (p:=(a.name,b.name)) Hst7.o hown hg hwh);clear hown hg hwh hb8 hT8 R1 R2 R3 R4;go_simp;refine hK undef _ _ Ac Ac ⟨fun h=>absurd (hpre6.symm.trans aR) aJ,fun _ h=>absurd (l7.symm.trans aR) aJ,fun _ h=>by simp at h,fun _=>⟨_,HP.o⟩⟩ (by simp[Act.put,hpre,u7])
      rintro L U W hL hφ hR;clear hφ;obtain⟨mv5,hst8,hk8⟩:=hR.2.2.2 (hL 10 aJ);have x9:=Ex.range hk8 X9b.o (show w2.heap.size<W7.heap.size by omega) (show w2.heap.size≠w0.heap.size by omega) (Hst.o.far _ Hwz.o);have x11:=Ex.range hk8 X11b.o (show w4.heap.size<W7.heap.size by omega) (show w4.heap.size≠w0.heap.size by omega) (Hst.o.far _ (by have:=Hwz.o;omega));have a0:W.cell? (w2,0)=some (.int .u8 s1):=by simpa using Ab x9 0 rfl
      have a1:W.cell? (w2,1)=a.name:=by simpa using Ab x9 1 rfl
      have a2:W.cell? (w2,2)=some (.slice A4 n4 c4):=by simpa using Ab x9 2 rfl
      have d0:W.cell? (w4,0)=some (.int .u8 s2):=by simpa using Ab x11 0 rfl
      have d1:W.cell? (w4,1)=b.name:=by simpa using Ab x11 1 rfl
      have d2:W.cell? (w4,2)=some (.slice A5 n5 c5):=by simpa using Ab x11 2 rfl
      have Hcall:=Ih.o t tv u uv W mv5 Hxm.o.1 Hym.o.1 hst8 Hxm.o.2.2 Hym.o.2.2 Hnin.o;rw[G1.o,G3.o]at Hcall;generalize evT (Ad xs) (Ad ys) (J2 (Ad xs) (Ad ys) n) t u (m++[(a.name,b.name)])=r at *;have Hc:=Aa Hcall;have Hk8:=Aa (Hk7.o.trans hk8);clear hL hR hst8 hk8 x9 x11 Hcall;go_wp2_with fail;refine Hc.o.mono ?_;rintro e w9 ⟨rfl,mv9,hst9,hk9⟩;have Hst9:=Aa hst9;have Hk9:=Aa (Hk8.o.trans hk9);clear hst9 hk9;go_wp2_with fail;go_ret;rw[Hfin.o];exact⟨rfl,mv9,Hst9.o,Hk9.o⟩
end
end Go.Proofs.YtmmhmlmfhpfgbaaGreatDoor
