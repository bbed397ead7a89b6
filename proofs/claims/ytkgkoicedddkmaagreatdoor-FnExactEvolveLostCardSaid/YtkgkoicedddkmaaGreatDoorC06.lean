/- Texts joined. Conditions: as each theorem names them. -/
import Derived.Test.YtkgkoicedddkmaaGreatDoorC02
import Derived.Test.YtkgkoicedddkmaaGreatDoorC03
import Derived.Test.YtkgkoicedddkmaaGreatDoorC07
set_option maxRecDepth 100000
set_option maxHeartbeats 32000000
set_option linter.unusedVariables false
set_option linter.unusedSimpArgs false
namespace Go.Proofs.YtkgkoicedddkmaaGreatDoor
open Go.RowKit Go.Proofs.Tryz
section
attribute [local go_sem] Qiz Qii Qib Qgw ByteArray.mk_append_mk
theorem Qf(S:List Ty)(hT:∀t∈S,Ep t):∀(n:Nat) (k:Kd),(C9 S n k).length<=6*n
 |0,_=>by simp[C9]
 |n+1,k=>by
  unfold C9
  split
  ·simp;omega
  split
  ·simp;omega
  split
  ·simp;omega
  split
  ·simp;omega
  split
  ·simp;omega
  cases hf:Bp S k.name with
  |none=>simp
  |some t=>
   simp only
   split
   ·simp;omega
   cases hfs:t.fields with
   |nil=>simp
   |cons f fs=>
    have h1:=((hT t (Cu hf).1).2.2.1.1 f (by rw[hfs];simp)).2.1
    have h2:=Qe5 2 f.tag (by have e:10 ^ (2+1)=1000:=rfl;omega)
    have ih:=Qf S hT n f.kind
    simp only
    split
    ·simp;omega
    simp;omega
def Tp(b:List UInt8):List UInt8:=if b=[110]then[48]else if b=[116]then[39,39]else[110,111]
theorem Za(b:List UInt8)(w:World)(hb:b=[110]\/b=[116]\/b=[102]):
  Calls prog 96 #[.string ⟨b.toArray⟩] w fun e w'=>e=.returned (.string ⟨(Tp b).toArray⟩)/\w=w':=by
 rcases hb with rfl|rfl|rfl
 ·go_enter func96,ntmps96
  go_wp2_with fail
  go_ret
  exact⟨rfl,rfl⟩
 ·go_enter func96,ntmps96
  go_wp2_with fail
  go_ret
  exact⟨rfl,rfl⟩
 go_enter func96,ntmps96
 go_wp2_with fail
 go_ret
 exact⟨rfl,rfl⟩
def Qc4(c:UInt8):List UInt8:=if c=91 then[91,93]else[45]
theorem Rl(v:Value)(c:UInt8)(t:List UInt8)(w:World)(hc:c=91\/c=63)(hl:t.length<=1000):
  Calls prog 70 #[v,.string ⟨(c::t).toArray⟩] w fun e w'=>e=.returned (.string ⟨(Qc4 c).toArray⟩)/\w=w':=by
 rcases hc with rfl|rfl
 ·go_enter func70,ntmps70
  go_wp2_with fail
  go_ret
  exact⟨rfl,rfl⟩
 go_enter func70,ntmps70
 go_wp2_with fail
 go_ret
 exact⟨rfl,rfl⟩
theorem Mt{k:Kd}(h:Cw k)(hs:k.signs=[])(hb:k.base≠[64]):Bj k=k.base/\(k.base=[110]\/k.base=[116]\/k.base=[102]):=by
 refine⟨by unfold Bj Bs;rw[hs,if_neg hb];rfl,?_⟩
 rcases h.2.1 with h|h
 ·exact absurd h.1 hb
 exact h.1
theorem N3(v:Value)(xs:List (Ty × Value))(k:Kd)(w:World)(hsc:Jq w v xs)(hk:Cw k)(hs:k.signs=[])(hb:k.base≠[64]):
  Calls prog 70 #[v,.string ⟨(Bj k).toArray⟩] w fun e w'=>e=.returned (.string ⟨(Tp k.base).toArray⟩)/\Below w.heap.size w w':=by
 have Hr:=Aa (fun W h=>Fu v xs k W h hk)
 have hx:Kz xs k=none:=if_neg (fun h=>hb h.2)
 rw[hx]at Hr
 obtain⟨e1,e2⟩:=Mt hk hs hb
 rw[e1]at Hr ⊢
 have Hsc:=Aa hsc
 have Hp:=Aa (fun W=>Za k.base W e2)
 have He2:=Aa e2
 unfold Rn Nq at Hr
 generalize k.base=b at *
 clear hs hb e1 hsc hx
 obtain⟨c,hc,t1,t2⟩:∃c,b=[c]/\((c.toNat:Int) == 91)=false/\((c.toNat:Int) == 63)=false:=by
  rcases e2 with rfl|rfl|rfl
  ·exact⟨110,rfl,by decide,by decide⟩
  ·exact⟨116,rfl,by decide,by decide⟩
  exact⟨102,rfl,by decide,by decide⟩
 clear e2
 subst hc
 go_enter func70,ntmps70
 go_wp2_with fail
 refine(Hr.o _ Hsc.o).mono ?_
 rintro e w1 ⟨rfl,hb1⟩
 go_wp2_with fail
 refine(Hp.o _).mono ?_
 rintro e w2 ⟨rfl,rfl⟩
 go_wp2_with fail
 go_ret
 exact⟨rfl,hb1.alloc hb1.size _⟩
def Gc(l:List UInt8)(w:World)(e:Ending)(w':World):Prop:=e=.returned (.string ⟨l.toArray⟩)/\Below w.heap.size w w'
theorem Yy(xv:Value)(xs:List (Ty × Value))(hok:∀x∈xs,Ep x.1)(n:Nat)(k:Kd)(w:World)(hsc:Jq w xv xs)(hk:Cw k)(hs:k.signs=[])(hb:k.base=[64])(t:Ty)(fv:Value)(hx:Dq xs k.name=some (t,fv))
  (hn:n<=9) (ih:t.sort=85->∀f fs,t.fields=f::fs->∀W,Jq W xv xs->Calls prog 70 #[xv,.string ⟨(Bj f.kind).toArray⟩] W (Gc (C9 (Af xs) n f.kind) W)):
  Calls prog 70 #[xv,.string ⟨(Bj k).toArray⟩] w (Gc (C9 (Af xs) (n+1) k) w):=by
 have Hr:=Aa (fun W h=>Fu xv xs k W h hk)
 have Hlen:=Aa (Qf (Af xs) (fun t ht=>by obtain⟨x,hx,rfl⟩:=List.mem_map.1 ht;exact hok x hx))
 have hrx:Kz xs k=some (t,fv):=(if_pos ⟨hs,hb⟩).trans hx
 have HF:=Aa (show C9 (Af xs) (n+1) k=if t.sort=82 then[123,125]else match t.fields with|[]=>[]|f::_=>if t.sort=69 then 35::Bb f.tag else 60::(Bb f.tag++61::(C9 (Af xs) n f.kind++[62]))from by
  rw[C9,if_neg (by rw[hs];decide),if_neg (by rw[hs];decide),if_neg (by rw[hb];decide),if_neg (by rw[hb];decide),if_neg (by rw[hb];decide),G6,hx];rfl)
 have hto:=hok _ (Dj hx).1
 have hkb:Bj k=64::(k.name++[59]):=by unfold Bj Bs;rw[hs,if_pos hb];rfl
 have hnl:k.name.length<=3:=by
  rcases hk.2.1 with h|h
  ·exact(Dk.1 h.2).2.1
  rw[hb]at h;exact absurd h.1 (by decide)
 have hfd:Er w fv t.fields:=by obtain⟨_,_,_,_,_,hf⟩:=hsc;exact hf _ (Dj hx).1
 rw[hrx]at Hr
 rw[hkb]at Hr ⊢
 obtain⟨A,c,rfl,hfl,hrow⟩:=hfd
 have Hsc:=Aa hsc
 have Hrow:=Aa hrow
 have Hto:=Aa hto
 have Ih:=Aa ih
 unfold Rn Kx at Hr
 simp only[]at hto
 clear hsc hk hs hb hx hkb hrow hto hrx ih hok
 by_cases h82:t.sort=82
 ·have t82:((t.sort.toNat:Int) == 82)=true:=Be (d:=82) h82
  have HF2:=Aa (HF.o.trans (if_pos h82))
  clear h82 HF
  go_enter func70,ntmps70
  go_wp2_with fail
  refine(Hr.o _ Hsc.o).mono ?_
  rintro e w1 ⟨rfl,hb1⟩
  go_wp2_with fail
  go_ret
  exact⟨by rw[HF2.o];rfl,hb1.alloc hb1.size _⟩
 have t82:((t.sort.toNat:Int) == 82)=false:=Am (d:=82) h82
 have HF2:=Aa (HF.o.trans (if_neg h82))
 have hne:t.fields≠[]:=fun h=>h82 (Hto.o.2.2.2.2 h)
 obtain⟨f,fs,hfs⟩:∃f fs,t.fields=f::fs:=by
  cases h:t.fields with
  |nil=>exact absurd h hne
  |cons f fs=>exact⟨f,fs,rfl⟩
 have hf0:0<t.fields.length:=by rw[hfs];simp
 have hge:t.fields[0]=f:=by simp[hfs]
 have hft:=Hto.o.2.2.1.1 f (by rw[hfs];simp)
 have htag:f.tag<=200:=hft.2.1
 have hdl:=Qe5 2 f.tag (by have e:10 ^ (2+1)=1000:=rfl;omega)
 have Hd:=Aa (fun W=>Jh f.tag f.tag W (Ap _) (by omega))
 have hi0:(0:Int)<(t.fields.length:Int):=by omega
 have HF3:=Aa (show C9 (Af xs) (n+1) k=if t.sort=69 then 35::Bb f.tag else 60::(Bb f.tag++61::(C9 (Af xs) n f.kind++[62]))from by rw[HF2.o,hfs])
 have Hfs:=Aa hfs
 have Hge:=Aa hge
 obtain⟨b,off,rfl,hbl,g0,g1,g2,g3⟩:=Er.at_ Hrow.o hf0
 rw[hge]at g0 g1 g2 g3
 simp only[Nat.zero_mul,Nat.add_zero]at g0 g1 g2 g3
 have H82:=Aa h82
 clear HF2 HF h82 hne hfs hge hft g1 g3
 by_cases h69:t.sort=69
 ·have t69:((t.sort.toNat:Int) == 69)=true:=Be (d:=69) h69
  have HF4:=Aa (HF3.o.trans (if_pos h69))
  clear h69 HF3
  go_enter func70,ntmps70
  go_wp2_with fail
  refine(Hr.o _ Hsc.o).mono ?_
  rintro e w1 ⟨rfl,hb1⟩
  have g0':=(hb1.cell (p:=⟨b,off,none⟩) hbl).trans g0
  have hbl1:b<w1.heap.size:=Nat.lt_of_lt_of_le hbl hb1.size
  have hbn:¬(b=w1.heap.size):=by omega
  have Hb1:=Aa hb1
  clear hb1 g0 g2
  go_wp2_with fail
  refine(Hd.o _).mono ?_
  rintro e w2 ⟨rfl,hb2⟩
  go_wp2_with fail
  go_ret
  exact⟨by rw[HF4.o];simp,(Hb1.o.alloc Hb1.o.size _).trans (hb2.mono (by have:=Hb1.o.size;simp;omega))⟩
 have t69:((t.sort.toNat:Int) == 69)=false:=Am (d:=69) h69
 have HF4:=Aa (HF3.o.trans (if_neg h69))
 have h85:t.sort=85:=by
  rcases Hto.o.1 with h|h|h
  ·exact absurd h H82.o
  ·exact h
  exact absurd h h69
 have Ih2:=Aa (Ih.o h85 f fs Hfs.o)
 have hsl:=Hlen.o n f.kind
 generalize C9 (Af xs) n f.kind=sl at *
 generalize Bj f.kind=kd at *
 clear h69 HF3 h85 Ih
 go_enter func70,ntmps70
 go_wp2_with fail
 refine(Hr.o _ Hsc.o).mono ?_
 rintro e w1 ⟨rfl,hb1⟩
 have g0':=(hb1.cell (p:=⟨b,off,none⟩) hbl).trans g0
 have g2':=(hb1.cell (p:=⟨b,off+2,none⟩) hbl).trans g2
 have hbl1:b<w1.heap.size:=Nat.lt_of_lt_of_le hbl hb1.size
 have hbn:¬(b=w1.heap.size):=by omega
 have Hb1:=Aa hb1
 clear hb1 g0 g2
 go_wp2_with fail
 obtain⟨W0,hW0⟩:∃W0,W0=w1.alloc (.cells #[.int .u8 (t.sort.toNat:Int),.string ⟨t.name.toArray⟩,.slice (some ⟨b,off,none⟩) t.fields.length c] 100):=⟨_,rfl⟩
 rw[<-hW0]
 have y2:W0.cell? ⟨w1.heap.size,2,none⟩=some (.slice (some ⟨b,off,none⟩) t.fields.length c):=by rw[hW0];simp
 have y0:W0.cell? ⟨b,off,none⟩=some (.int .i64 (f.tag:Int)):=by rw[hW0,World.cell?_alloc_old _ _ _ hbn];exact g0'
 have y3:W0.cell? ⟨b,off+2,none⟩=some (.string ⟨kd.toArray⟩):=by rw[hW0,World.cell?_alloc_old _ _ _ hbn];exact g2'
 have hz0:W0.heap.size=w1.heap.size+1:=by rw[hW0];simp
 have hB5:w1.heap.size<W0.heap.size:=by omega
 have hb5:b<W0.heap.size:=by omega
 have Hb0:=Aa (show Below w.heap.size w W0 from by rw[hW0];exact Hb1.o.alloc Hb1.o.size _)
 have Hsc0:=Aa (Hsc.o.below Hb0.o)
 generalize w1.heap.size=B5 at *
 clear hW0 hz0 g0' g2'
 refine Ge [39,40,41,42,43,44,45,46,47,48,49,50,51,52,53,54,55,4]
  (fun i v W=>match i with|0=>v=.pointer (some ⟨B5,2,none⟩)|1=>v=.slice (some ⟨b,off,none⟩) t.fields.length c|2=>v=.pointer (some ⟨b,off,none⟩)|3=>v=.pointer (some ⟨b,off,none⟩)|4=>v=.int .i64 (f.tag:Int)|5=>v=.string ⟨(Bb f.tag).toArray⟩|6=>v=.string ⟨(60::Bb f.tag).toArray⟩|7=>v=.string ⟨(60::(Bb f.tag++[61])).toArray⟩|8=>v=xv|9=>v=.pointer (some ⟨B5,2,none⟩)|10=>v=.slice (some ⟨b,off,none⟩) t.fields.length c|11=>v=.pointer (some ⟨b,off,none⟩)|12=>v=.pointer (some ⟨b,off+2,none⟩)|13=>v=.string ⟨kd.toArray⟩|14=>v=.string ⟨sl.toArray⟩|15=>v=.string ⟨(60::(Bb f.tag++61::sl)).toArray⟩|16=>v=.string ⟨(60::(Bb f.tag++61::(sl++[62]))).toArray⟩|17=>v=.string ⟨(60::(Bb f.tag++61::(sl++[62]))).toArray⟩|_=>True)
  (fun L U W=>Below W0.heap.size W0 W) ((Aq _ _).drew) ?_ ?_
 ·repeat (first|exact Ah.nil|(refine Ah.cons ?_ ?_;rotate_left))
  all_goals
   rintro L U W hL hpre HR Hdep K hK
   have hB:=HR.o
   have c2:=(hB.cell (p:=⟨B5,2,none⟩) hB5).trans y2
   have c0:=(hB.cell (p:=⟨b,off,none⟩) hb5).trans y0
   have c3:=(hB.cell (p:=⟨b,off+2,none⟩) hb5).trans y3
   first|(simp[Region.binds]at hpre;done)|simp[Region.binds]at hpre|clear hpre
  iterate 5
   ·go_simp
    exact kE hK HR.o
  ·go_simp
   refine(Hd.o _).mono ?_
   rintro e w3 ⟨rfl,hb3⟩
   exact hK _ _ _ rfl Ac (hB.trans (hb3.mono hB.size)) (by simp[Act.put,hpre])
  ·go_simp
   rw[if_neg (by first|omega|(simp;omega))]
   go_simp
   exact kE hK HR.o
  ·go_simp
   rw[if_neg (by first|omega|(simp;omega))]
   go_simp
   exact kE hK HR.o
  iterate 6
   ·go_simp
    exact kE hK HR.o
  ·go_simp
   refine(Ih2.o _ (Hsc0.o.below hB)).mono ?_
   rintro e w3 ⟨rfl,hb3⟩
   exact hK _ _ _ rfl Ac (hB.trans (hb3.mono hB.size)) (by simp[Act.put,hpre])
  ·go_simp
   rw[if_neg (by first|omega|(simp;omega))]
   go_simp
   exact kE hK HR.o
  ·go_simp
   rw[if_neg (by first|omega|(simp;omega))]
   go_simp
   exact kE hK HR.o
  ·go_simp
   exact kE hK HR.o
 rintro L U W hL hφ hR
 have e17:U 17=.string ⟨(60::(Bb f.tag++61::(sl++[62]))).toArray⟩:=hφ 17 (by decide)
 simp only[e17]
 clear hφ
 have Hb9:=Aa (Hb0.o.trans (hR.mono Hb0.o.size))
 clear hR
 go_wp2_with fail
 go_ret
 exact⟨by rw[HF4.o];rfl,Hb9.o⟩
theorem Ny(S:List Ty)(n:Nat)(k:Kd)(c:UInt8)(t:List UInt8)(h:k.signs=c::t)(hc:c=91\/c=63):C9 S (n+1) k=Qc4 c:=by
 unfold C9 Qc4
 rw[h]
 rcases hc with rfl|rfl
 ·rfl
 rfl
theorem Mj(S:List Ty)(n:Nat)(k:Kd)(h:k.signs=[])(hb:k.base=[110]\/k.base=[116]\/k.base=[102]):C9 S (n+1) k=Tp k.base:=by
 unfold C9 Tp
 rw[h]
 rcases hb with hb|hb|hb<;>rw[hb]<;>rfl
theorem Qk{k:Kd}(h:Cw k){c:UInt8}{t:List UInt8}(hs:k.signs=c::t):c=91\/c=63:=by
 have:=h.1
 rw[hs,List.all_cons,Bool.and_eq_true]at this
 have:=this.1
 unfold Bo at this
 simpa using this
theorem Qap(xv:Value)(xs:List (Ty × Value))(hok:∀x∈xs,Ep x.1)(hS:Fw (Af xs)):∀(n:Nat),n<=9->∀(k:Kd) (w:World),Jq w xv xs->Cw k->Bx (Af xs) k->Tv (Af xs) n k ->
  Calls prog 70 #[xv,.string ⟨(Bj k).toArray⟩] w (Gc (C9 (Af xs) (n+1) k) w):=by
 intro n
 induction n with
 |zero=>
  intro _ k w hsc hk hr he
  cases hs:k.signs with
  |cons c t=>
   have hc:=Qk hk hs
   have hkb:Bj k=c::(t++Bs k):=by unfold Bj;rw[hs];rfl
   have hl:=hk.2.2
   rw[hkb]at hl ⊢
   rw[Ny _ _ k c t hs hc]
   refine(Rl xv c (t++Bs k) w hc (by simp at hl ⊢;omega)).mono ?_
   rintro e w' ⟨rfl,rfl⟩
   exact⟨rfl,Aq _ _⟩
  |nil=>
   by_cases hb:k.base=[64]
   ·obtain⟨t,_,h⟩:=he hs hb
    exact absurd h (by simp[Bv])
   rw[Mj _ _ k hs (Mt hk hs hb).2]
   exact N3 xv xs k w hsc hk hs hb
 |succ n ih=>
  intro hn k w hsc hk hr he
  cases hs:k.signs with
  |cons c t=>
   have hc:=Qk hk hs
   have hkb:Bj k=c::(t++Bs k):=by unfold Bj;rw[hs];rfl
   have hl:=hk.2.2
   rw[hkb]at hl ⊢
   rw[Ny _ _ k c t hs hc]
   refine(Rl xv c (t++Bs k) w hc (by simp at hl ⊢;omega)).mono ?_
   rintro e w' ⟨rfl,rfl⟩
   exact⟨rfl,Aq _ _⟩
  |nil=>
   by_cases hb:k.base=[64]
   ·have h1:=hr hb
    rw[G6]at h1
    cases hx:Dq xs k.name with
    |none=>rw[hx]at h1;cases h1
    |some x=>
     obtain⟨t,fv⟩:=x
     have hft:Bp (Af xs) k.name=some t:=(Dj hx).2.2
     have hto:Ep t:=hok _ (Dj hx).1
     refine Yy xv xs hok (n+1) k w hsc hk hs hb t fv hx hn (fun h85 f fs hfs W hW=>?_)
     have hrf:Bx (Af xs) f.kind:=hS t (Cu hft).1 (by rw[h85];decide) f (by rw[hfs];simp)
     have hkf:Cw f.kind:=((hto.2.2.1.1 f (by rw[hfs];simp)).2.2.2.2 (by rw[h85];decide)).1
     exact ih (by omega) f.kind W hW hkf hrf (Sq he hs hb hft h85 hfs hrf)
   rw[Mj _ _ k hs (Mt hk hs hb).2]
   exact N3 xv xs k w hsc hk hs hb
theorem Yi{S:List Ty}(h:Jc S){k:Kd}(hr:Bx S k):Tv S 9 k:=by
 intro hs hb
 have h1:=hr hb
 cases hf:Bp S k.name with
 |none=>rw[hf]at h1;cases h1
 |some t=>exact⟨t,rfl,h.2.2 t (Cu hf).1⟩
theorem Qa5(xv:Value)(xs:List (Ty × Value))(h:Jc (Af xs))(k:Kd)(w:World)(hsc:Jq w xv xs)(hk:Cw k)(hr:Bx (Af xs) k):
  Calls prog 70 #[xv,.string ⟨(Bj k).toArray⟩] w (Gc (Ry (Af xs) k) w):=
 Qap xv xs (fun x hx=>h.1.1 x.1 (List.mem_map_of_mem hx)) h.2.1 9 (Ap _) k w hsc hk hr (Yi h hr)
theorem Nc(xv:Value)(xs:List (Ty × Value))(h:Jc (Af xs))(f:Fd)(w:World)(hsc:Jq w xv xs)(hk:Cw f.kind)(hr:Bx (Af xs) f.kind)(hl:f.given.length<=1000):
  Calls prog 46 #[xv,sfV f] w (Gc (Jp (Af xs) f) w):=by
 have HF:=Aa (show Jp (Af xs) f=if f.given=[]then Ry (Af xs) f.kind else f.given from rfl)
 have Hs:=Aa (fun W (h1:Jq W xv xs)=>Qa5 xv xs h f.kind W h1 hk hr)
 have Hsc:=Aa hsc
 unfold sfV
 generalize Bj f.kind=kd at *
 clear h hk hr hsc
 by_cases hg:f.given=[]
 ·have HF2:=Aa (HF.o.trans (if_pos hg))
  rw[hg]
  clear hg HF
  go_enter func46,ntmps46
  go_wp2_with fail
  refine(Hs.o _ (Hsc.o.below ((Aq _ _).alloc (Ap _) _))).mono ?_
  rintro e w1 ⟨rfl,hb1⟩
  go_wp2_with fail
  go_ret
  exact⟨by rw[HF2.o];rfl,((Aq _ _).alloc (Ap _) _).trans (hb1.mono (by simp))⟩
 have HF2:=Aa (HF.o.trans (if_neg hg))
 have t1:f.given.isEmpty=false:=by simpa using hg
 have t2:(!f.given.isEmpty)=true:=by simp[t1]
 clear hg HF
 go_enter func46,ntmps46
 go_wp2_with fail
 go_ret
 exact⟨by rw[HF2.o];rfl,(Aq _ _).alloc (Ap _) _⟩
theorem Tk(s:List UInt8)(f k:Nat)(hf:f<=k)(hk:k<s.length):(s.drop f).take (k+1 - f)=(s.drop f).take (k - f)++[s[k]]:=by
 have h1:k - f<(s.drop f).length:=by simp;omega
 rw[show k+1 - f=(k - f)+1 by omega,Ch _ _ h1]
 simp[show f+(k - f)=k by omega]
theorem Qbc(s:List UInt8)(f k:Nat)(hf:f<=k)(hk:k<s.length):s.drop f=(s.drop f).take (k - f)++s[k]::s.drop (k+1):=by
 have e1:(s.drop f).drop (k - f)=s[k]::s.drop (k+1):=by
  rw[List.drop_drop,show f+(k - f)=k by omega];exact List.drop_eq_getElem_cons hk
 rw[<-e1,List.take_append_drop]
theorem Cg(s:List UInt8)(c:UInt8)(m:Int)(hm:m=(c.toNat:Int))(w:World)(hs:s.length<=4000000):
  Calls prog 87 #[.string ⟨s.toArray⟩,.int .u8 m] w fun e w'=>
   ∃v,e=.returned v/\w'.ownsRow w.heap.size 9 1 v (Ai c s).length (Bt (Ai c s))/\Below w.heap.size w w':=by
 have Hm:=Aa hm
 have Hlen:=Aa (E7 c s)
 clear hm
 go_enter func87,ntmps87
 go_wp2_with fail
 go_loopw [5,6,7] (fun v y i wr=>∃(ps:List (List UInt8)) (f k:Nat),i=.int .i64 k/\k<=s.length/\y=.int .i64 f/\f<=k/\ps.length<=k/\Hid (Ai c s=ps++Ai c (s.drop f))/\Hid (c∉(s.drop f).take (k - f)) /\
   Hid (wr.ownsRow w.heap.size 9 1 v ps.length (Bt ps))/\Hid (Below w.heap.size w wr)) (fun _ _ i _=>s.length - (intOf i).toNat)
 case atStart=>exact⟨[],0,0,rfl,Nat.zero_le _,rfl,Ap _,by simp,rfl,by simp[Hid],World.ownsRow_lit (base:=w.heap.size) (e:=9) (size:=1) w #[] 0 (Ap _) (Nat.zero_le _) rfl,(Aq _ _).alloc (Ap _) _⟩
 case round=>
  obtain⟨ps,f,k,rfl,hk,rfl,hf,hps,hsp,hno,hown,hb⟩:=hrel
  by_cases hlt:k<s.length
  ·have hc:=(s[k]).toNat_lt
   by_cases he:s[k]=c
   ·have t1:(((s[k]).toNat:Int) == m)=true:=by rw[Hm.o];exact Be he
    have Hsp:=Aa (show Ai c s=(ps++[(s.drop f).take (k - f)])++Ai c (s.drop (k+1))by
     rw[hsp.o,Qbc s f k hf hlt,he,Kh c _ _ hno.o]
     simp only[List.append_assoc,List.singleton_append]
     have e2:=Qbc s f k hf hlt
     rw[he]at e2
     rw[<-e2])
    have Hz:=Aa hb.o.size
    clear he
    have k1:(0:Int)<=(f:Int):=by omega
    have k2:(f:Int)<=(k:Int):=by omega
    have k3:(k:Int)<=(s.length:Int):=by omega
    go_wp2_with (at_builtin;refine Pi _ rfl _ _ 72 rfl w.heap.size 9 (.string ⟨#[]⟩) 16 underlying72 Ta rfl wr _ rfl rfl _ _ _ rfl rfl hown.o (by unfold maxLen;omega) (by omega) Hz.o ?_;intro v' w' hown' hb';have Ho:=Aa (show w'.ownsRow w.heap.size 9 1 v' (ps++[(s.drop f).take (k - f)]).length (Bt (ps++[(s.drop f).take (k - f)]))by rw[N5,List.length_append];exact hown');have Hb:=Aa (hb.o.trans hb');clear hown' hb')
    go_roundw
    case rel=>exact⟨ps++[(s.drop f).take (k - f)],k+1,k+1,by go_num,by omega,by go_num,Ap _,by rw[List.length_append];simp;omega,Hsp.o,by simp[Hid],Ho.o,Hb.o⟩
    case measure=>simp[intOf];omega
   have t1:(((s[k]).toNat:Int) == m)=false:=by rw[Hm.o];exact Am he
   have Hno:=Aa (show c∉(s.drop f).take (k+1 - f)by
    rw[Tk s f k hf hlt]
    simp only[List.mem_append,List.mem_singleton,not_or]
    exact⟨hno.o,fun h=>he h.symm⟩)
   clear he
   go_wp2_with fail
   go_roundw
   case rel=>exact⟨ps,f,k+1,by go_num,by omega,rfl,by omega,by omega,hsp.o,Hno.o,hown.o,hb.o⟩
   case measure=>simp[intOf];omega
  ·obtain rfl:k=s.length:=by omega
   have Hsp:=Aa (show Ai c s=ps++[s.drop f]by
    have h:=hno.o
    rw[List.take_of_length_le (by simp)]at h
    rw[hsp.o,Fx c _ h])
   have Hz:=Aa hb.o.size
   have k1:(0:Int)<=(f:Int):=by omega
   have k2:(f:Int)<=(s.length:Int):=by omega
   go_wp2_with (at_builtin;refine Pi _ rfl _ _ 72 rfl w.heap.size 9 (.string ⟨#[]⟩) 16 underlying72 Ta rfl wr _ rfl rfl _ _ _ rfl rfl hown.o (by unfold maxLen;omega) (by omega) Hz.o ?_;intro v' w' hown' hb';have Ho:=Aa (show w'.ownsRow w.heap.size 9 1 v' (ps++[s.drop f]).length (Bt (ps++[s.drop f]))by rw[N5,List.length_append];exact hown');have Hb:=Aa (hb.o.trans hb');clear hown' hb')
   go_ret
   refine⟨_,rfl,?_,Hb.o⟩
   rw[Hsp.o];exact Ho.o
theorem Xi{b s:List UInt8}(h1:b≠[110])(h2:b≠[116])(h3:b≠[102]):Bz b s=false:=by
 unfold Bz;rw[if_neg h1,if_neg h2,if_neg h3]
theorem Qic(s:List UInt8):Bz [116] s=(Fk s && !(s == [39,39])):=by
 show (decide (2<s.length) && decide (s.head?=some 39) && decide (s.getLast?=some 39) && Dl (s.drop 1).dropLast)=((decide (2<=s.length) && decide (s.head?=some 39) && decide (s.getLast?=some 39) && Dl (s.drop 1).dropLast) && !(s == [39,39]))
 rcases Nat.lt_or_ge 2 s.length with h|h
 ·have e1:decide (2<s.length)=true:=by simpa using h
  have e2:decide (2<=s.length)=true:=by simp;omega
  have e3:(s == [39,39])=false:=by
   rw[beq_eq_false_iff_ne];rintro rfl;simp at h
  rw[e1,e2,e3];simp
 have e1:decide (2<s.length)=false:=by simp;omega
 rw[e1]
 match s,h with
 |[],_=>rfl
 |[_],_=>rfl
 |[a,b],_=>
  by_cases ha:a=39
  ·by_cases hb:b=39
   ·subst ha;subst hb;rfl
   simp[hb]
  simp[ha]
theorem Sl(b s:List UInt8)(w:World)(hs:s.length<=4000000):
  Calls prog 123 #[.string ⟨b.toArray⟩,.string ⟨s.toArray⟩] w fun e w'=>e=.returned (.bool (Bz b s))/\Below w.heap.size w w':=by
 by_cases h1:b=[110]
 ·subst h1
  have Hp:=Aa (fun W=>Dg s 999999 W hs (by omega))
  have hf:Bz [110] s=(match Cn s with|some n=>decide (0<n)|none=>false):=rfl
  have hv:(Dp s 999999 && (s != [48]))=Bz [110] s:=by
   rw[hf]
   cases hd:Cn s with
   |none=>rw[Mr hd];rfl
   |some n=>
    obtain⟨h9,e⟩:=Ca.1 hd
    rw[Mn hd]
    have e1:decide (n<=999999)=true:=by simpa using h9
    rw[e1,Bool.true_and]
    by_cases h0:n=0
    ·subst h0
     rw[e,Eb (by omega)];decide
    have hne:s≠[48]:=by
     intro h
     rw[e]at h
     have:Bb n=Bb 0:=by rw[h,Eb (n:=0) (by omega)];decide
     exact h0 (Qf6 this)
    have e2:(s != [48])=true:=by simpa using hne
    rw[e2];simp;omega
  have Hv:=Aa hv
  clear hf hv
  go_enter func123,ntmps123
  go_wp2_with fail
  refine(Hp.o _).mono ?_
  rintro e w' ⟨n,hn,rfl,_,hb⟩
  have Hb:=Aa hb
  clear hb
  rcases Bool.eq_false_or_eq_true (Dp s 999999)with ho|ho
  ·have Ho:=Aa ho
   rw[ho]
   clear ho
   go_wp2_with fail
   go_ret
   exact⟨Ea (Cs (by rw[<-Hv.o,Ho.o];rfl)),Hb.o⟩
  have Ho:=Aa ho
  rw[ho]
  clear ho
  go_wp2_with fail
  go_ret
  exact⟨Ea (Cs (by rw[<-Hv.o,Ho.o];rfl)),Hb.o⟩
 by_cases h2:b=[116]
 ·subst h2
  have Hp:=Aa (fun W=>Vg s W hs)
  have Hv:=Aa (Qic s)
  clear h1
  go_enter func123,ntmps123
  go_wp2_with fail
  refine(Hp.o _).mono ?_
  rintro e w' ⟨rfl,rfl⟩
  rcases Bool.eq_false_or_eq_true (Fk s)with ho|ho
  ·have Ho:=Aa ho
   rw[ho]
   clear ho
   rcases Bool.eq_false_or_eq_true (s == [39,39])with hq|hq
   ·have Hq:=Aa hq
    have hq2:(s != [39,39])=false:=by simp[bne,hq]
    go_wp2_with fail
    go_ret
    exact⟨Ea (Cs (by rw[Hv.o,Ho.o,Hq.o];rfl)),Aq _ _⟩
   have Hq:=Aa hq
   have hq2:(s != [39,39])=true:=by simp[bne,hq]
   go_wp2_with fail
   go_ret
   exact⟨Ea (Cs (by rw[Hv.o,Ho.o,Hq.o];rfl)),Aq _ _⟩
  have Ho:=Aa ho
  rw[ho]
  clear ho
  go_wp2_with fail
  go_ret
  exact⟨Ea (Cs (by rw[Hv.o,Ho.o];rfl)),Aq _ _⟩
 by_cases h3:b=[102]
 ·subst h3
  have Hv:=Aa (show Bz [102] s=(s == [121,101,115])by show decide (s=[121,101,115])=_;by_cases h:s=[121,101,115]<;>simp[h])
  clear h1 h2
  go_enter func123,ntmps123
  go_wp2_with fail
  go_ret
  exact⟨Ea (Cs Hv.o.symm),Aq _ _⟩
 have Hv:=Aa (Xi (s:=s) h1 h2 h3)
 have q1:(b == [110])=false:=by simpa using h1
 have q2:(b == [116])=false:=by simpa using h2
 have q3:(b == [102])=false:=by simpa using h3
 clear h1 h2 h3
 go_enter func123,ntmps123
 go_wp2_with fail
 go_ret
 exact⟨Ea (Cs Hv.o.symm),Aq _ _⟩
end
end Go.Proofs.YtkgkoicedddkmaaGreatDoor
