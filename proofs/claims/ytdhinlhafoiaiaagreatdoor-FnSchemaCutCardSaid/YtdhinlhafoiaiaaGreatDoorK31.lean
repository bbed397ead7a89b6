/- Texts joined: SL8, SL9, SL10, SL11, SL12. Conditions: as each theorem names them. -/
import Derived.Test.YtdhinlhafoiaiaaGreatDoorK18
import Derived.Test.YtdhinlhafoiaiaaGreatDoorK24
/- Plain laws of evolution as a relation of names; schemas that are the same but for names. No program in sight. -/
namespace Go.Proofs.YtdhinlhafoiaiaaGreatDoor
set_option linter.unusedVariables false

def KRel (R : Name → Name → Prop) (a b : Kd) : Prop := a.signs = b.signs ∧ a.base = b.base ∧ (a.base = [64] → R a.name b.name)
def FRel (S T : List Ty) (R : Name → Name → Prop) (t : Ty) (st : UInt8) (g : Fd) : Prop :=
  match fieldT t.fields g.tag with
  | none => st = 82
  | some f => st = 69 ∨ (KRel R f.kind g.kind ∧ (st = 82 → ofL S f = ofL T g))
def PairOk (S T : List Ty) (R : Name → Name → Prop) (a b : Name) : Prop := ∃ t u, findTy S a = some t ∧ findTy T b = some u ∧ t.sort = u.sort ∧ ∀ g ∈ u.fields, FRel S T R t u.sort g
/-- Types that are related read each other, where what they speak of is related. -/
def RelOk (S T : List Ty) (R : Name → Name → Prop) : Prop := ∀ a b, R a b → PairOk S T R a b

theorem evF_of_rel {S T : List Ty} {R : Name → Name → Prop} {K : Kd → Kd → List Pair → Bool × List Pair} (hK : ∀ a b m, KRel R a b → (K a b m).1 = true) (t : Ty) (st : UInt8) :
    ∀ (gs : List Fd), (∀ g ∈ gs, FRel S T R t st g) → ∀ m, (evF S T K t st gs m).1 = true
  | [], _, m => rfl
  | g :: gs, h, m => by
    have hg := h g (by simp)
    have ih := evF_of_rel hK t st gs (fun x hx => h x (by simp [hx]))
    unfold FRel at hg
    unfold evF
    cases hf : fieldT t.fields g.tag with
    | none => rw [hf] at hg; simp only at hg ⊢; rw [if_pos hg]; exact ih m
    | some f =>
      rw [hf] at hg; simp only at hg ⊢
      split
      · exact ih m
      · rename_i h69
        rcases hg with h | ⟨h1, h2⟩
        · exact absurd h h69
        · rw [if_neg (by rw [hK _ _ m h1]; decide), if_neg (by rintro ⟨e, ne⟩; exact ne (h2 e))]
          exact ih _
theorem evK_of_rel {S T : List Ty} {R : Name → Name → Prop} (hR : RelOk S T R) : ∀ (n : Nat) (a b : Kd) (m : List Pair), KRel R a b → (evK S T n a b m).1 = true
  | 0, _, _, _, _ => rfl
  | n + 1, a, b, m, h => by
    obtain ⟨h1, h2, h3⟩ := h
    unfold evK
    rw [if_neg (by simp [h1, h2])]
    split
    · rfl
    · rename_i hb
      have hb' : a.base = [64] := by simpa using hb
      obtain ⟨t, u, e1, e2, e3, e4⟩ := hR _ _ (h3 hb')
      rw [e1, e2]
      simp only
      split
      · rfl
      · unfold evT
        rw [if_neg (by simp [e3])]
        exact evF_of_rel (fun a b m h => evK_of_rel hR n a b m h) t u.sort u.fields e4 _
theorem reads_of_rel {S T : List Ty} {R : Name → Name → Prop} (hR : RelOk S T R) {a b : Kd} (h : KRel R a b) : readsK S T a b = true := evK_of_rel hR 65 a b [] h

/-! ### what reads is related -/
abbrev inM (m : List Pair) (a b : Name) : Prop := (a, b) ∈ m
theorem KRel.mono {R Q : Name → Name → Prop} (h : ∀ a b, R a b → Q a b) {a b : Kd} (hk : KRel R a b) : KRel Q a b := ⟨hk.1, hk.2.1, fun e => h _ _ (hk.2.2 e)⟩
theorem FRel.mono {S T : List Ty} {R Q : Name → Name → Prop} (h : ∀ a b, R a b → Q a b) {t : Ty} {st : UInt8} {g : Fd} (hk : FRel S T R t st g) : FRel S T Q t st g := by
  unfold FRel at hk ⊢
  cases hf : fieldT t.fields g.tag with
  | none => rw [hf] at hk; exact hk
  | some f =>
    rw [hf] at hk
    rcases hk with hk | ⟨x, y⟩
    · exact .inl hk
    · exact .inr ⟨x.mono h, y⟩
theorem PairOk.mono {S T : List Ty} {R Q : Name → Name → Prop} (h : ∀ a b, R a b → Q a b) {a b : Name} (hk : PairOk S T R a b) : PairOk S T Q a b := by
  obtain ⟨t, u, e1, e2, e3, e4⟩ := hk
  exact ⟨t, u, e1, e2, e3, fun g hg => (e4 g hg).mono h⟩
def NewOk (S T : List Ty) (m m' : List Pair) : Prop := ∀ a b, (a, b) ∈ m' → (a, b) ∉ m → PairOk S T (inM m') a b
theorem NewOk.trans {S T : List Ty} {m1 m2 m3 : List Pair} (h1 : NewOk S T m1 m2) (h2 : NewOk S T m2 m3) (hs : ∀ p ∈ m2, p ∈ m3) : NewOk S T m1 m3 := by
  intro a b h3 hn
  by_cases h : (a, b) ∈ m2
  · exact (h1 a b h hn).mono fun x y hxy => hs _ hxy
  · exact h2 a b h3 h
def Tells (S T : List Ty) (n : Nat) (K : Kd → Kd → List Pair → Bool × List Pair) : Prop :=
  ∀ a b m, Asks S T m → 64 < n + m.length → (K a b m).1 = true → KRel (inM (K a b m).2) a b ∧ NewOk S T m (K a b m).2
theorem evF_tells {S T : List Ty} {n : Nat} {K : Kd → Kd → List Pair → Bool × List Pair} (hg : Grows S T K) (hK : Tells S T n K) (t : Ty) (st : UInt8) :
    ∀ (gs : List Fd) (m : List Pair), Asks S T m → 64 < n + m.length → (evF S T K t st gs m).1 = true → (∀ g ∈ gs, FRel S T (inM (evF S T K t st gs m).2) t st g) ∧ NewOk S T m (evF S T K t st gs m).2
  | [], m, _, _, _ => ⟨by simp, fun a b h hn => absurd h hn⟩
  | g :: gs, m, hm, hn, h => by
    unfold evF at h ⊢
    cases hf : fieldT t.fields g.tag with
    | none =>
      rw [hf] at h
      simp only at h ⊢
      split at h
      · rename_i h82
        rw [if_pos h82]
        obtain ⟨i1, i2⟩ := evF_tells hg hK t st gs m hm hn h
        refine ⟨fun x hx => ?_, i2⟩
        rcases List.mem_cons.1 hx with rfl | hx
        · unfold FRel; rw [hf]; exact h82
        · exact i1 x hx
      · cases h
    | some f =>
      rw [hf] at h
      simp only at h ⊢
      split at h
      · rename_i h69
        rw [if_pos h69]
        obtain ⟨i1, i2⟩ := evF_tells hg hK t st gs m hm hn h
        refine ⟨fun x hx => ?_, i2⟩
        rcases List.mem_cons.1 hx with rfl | hx
        · unfold FRel; rw [hf]; exact .inl h69
        · exact i1 x hx
      · rename_i h69
        rw [if_neg h69]
        split at h
        · cases h
        · rename_i hk1
          rw [if_neg hk1]
          split at h
          · cases h
          · rename_i hk2
            rw [if_neg hk2]
            have hk1' : (K f.kind g.kind m).1 = true := by simpa using hk1
            obtain ⟨k1, k2⟩ := hK _ _ m hm hn hk1'
            obtain ⟨g1, l, g2⟩ := hg f.kind g.kind m hm
            have hn2 : 64 < n + (K f.kind g.kind m).2.length := by rw [g2, List.length_append]; omega
            obtain ⟨i1, i2⟩ := evF_tells hg hK t st gs _ g1 hn2 h
            obtain ⟨j1, l2, j2⟩ := evF_grows hg t st gs _ g1
            have hsub : ∀ p ∈ (K f.kind g.kind m).2, p ∈ (evF S T K t st gs (K f.kind g.kind m).2).2 := fun p hp => by rw [j2]; simp [hp]
            refine ⟨fun x hx => ?_, k2.trans i2 hsub⟩
            rcases List.mem_cons.1 hx with rfl | hx
            · unfold FRel; rw [hf]
              exact .inr ⟨k1.mono fun a b hab => hsub _ hab, fun h82 => Decidable.byContradiction fun hne => hk2 ⟨h82, hne⟩⟩
            · exact i1 x hx
theorem evK_tells {S T : List Ty} (hS : S.length ≤ 8) (hT : T.length ≤ 8) : ∀ n, Tells S T n (evK S T n)
  | 0 => fun a b m hm hn h => by
    have := hm.len
    have : S.length * T.length ≤ 8 * 8 := Nat.mul_le_mul hS hT
    omega
  | n + 1 => fun a b m hm hn h => by
    unfold evK at h ⊢
    split at h
    · cases h
    · rename_i hsb
      rw [if_neg hsb]
      have hs1 : a.signs = b.signs := Decidable.byContradiction fun hh => hsb (.inl hh)
      have hs2 : a.base = b.base := Decidable.byContradiction fun hh => hsb (.inr hh)
      split at h
      · rename_i hb
        rw [if_pos hb]
        exact ⟨⟨hs1, hs2, fun e => absurd e hb⟩, fun a b h hn => absurd h hn⟩
      · rename_i hb
        rw [if_neg hb]
        cases h1 : findTy S a.name with
        | none => rw [h1] at h; cases h
        | some t => cases h2 : findTy T b.name with
          | none => rw [h1, h2] at h; cases h
          | some u =>
            rw [h1, h2] at h
            simp only at h ⊢
            split at h
            · rename_i hin
              rw [if_pos hin]
              exact ⟨⟨hs1, hs2, fun _ => hin⟩, fun a b h hn => absurd h hn⟩
            · rename_i hin
              rw [if_neg hin]
              have hm2 := hm.snoc (findTy_isSome.1 (by rw [h1]; rfl)) (findTy_isSome.1 (by rw [h2]; rfl)) hin
              unfold evT at h ⊢
              split at h
              · cases h
              · rename_i hso
                rw [if_neg hso]
                obtain ⟨i1, i2⟩ := evF_tells (evK_grows S T n) (evK_tells hS hT n) t u.sort u.fields _ hm2 (by simp; omega) h
                obtain ⟨j1, l2, j2⟩ := evF_grows (evK_grows S T n) t u.sort u.fields _ hm2
                have hab : (a.name, b.name) ∈ (evF S T (evK S T n) t u.sort u.fields (m ++ [(a.name, b.name)])).2 := by rw [j2]; simp
                refine ⟨⟨hs1, hs2, fun _ => hab⟩, fun x y hxy hn2 => ?_⟩
                by_cases he : (x, y) = (a.name, b.name)
                · injection he with e1 e2
                  subst e1; subst e2
                  exact ⟨t, u, h1, h2, by simpa using hso, i1⟩
                · exact i2 x y hxy (by simp only [List.mem_append, List.mem_singleton, not_or]; exact ⟨hn2, he⟩)
theorem rel_of_reads {S T : List Ty} (hS : S.length ≤ 8) (hT : T.length ≤ 8) {a b : Kd} (h : readsK S T a b = true) : ∃ R, RelOk S T R ∧ KRel R a b := by
  obtain ⟨h1, h2⟩ := evK_tells hS hT 65 a b [] (Asks.nil S T) (by simp) h
  exact ⟨_, fun x y hxy => h2 x y hxy (by simp), h1⟩

/-! ### the same but for names -/
def renK (ρ : Name → Name) (k : Kd) : Kd := if k.base = [64] then { k with name := ρ k.name } else k
def renF (ρ : Name → Name) (st : UInt8) (f : Fd) : Fd := if st = 69 then f else { f with kind := renK ρ f.kind }
def renY (ρ : Name → Name) (t : Ty) : Ty := { t with name := ρ t.name, fields := t.fields.map (renF ρ t.sort) }
theorem formY_ren (ns : List Name) (t : Ty) : formY ns t = renY (newN ns) t := rfl
theorem formK_ren (ns : List Name) (k : Kd) : formK ns k = renK (newN ns) k := rfl
theorem renK_signs (ρ : Name → Name) (k : Kd) : (renK ρ k).signs = k.signs := by unfold renK; split <;> rfl
theorem renK_base (ρ : Name → Name) (k : Kd) : (renK ρ k).base = k.base := by unfold renK; split <;> rfl
theorem renK_name {ρ : Name → Name} {k : Kd} (h : k.base = [64]) : (renK ρ k).name = ρ k.name := by unfold renK; rw [if_pos h]
theorem renF_tag (ρ : Name → Name) (st : UInt8) (f : Fd) : (renF ρ st f).tag = f.tag := by unfold renF; split <;> rfl
theorem renF_given (ρ : Name → Name) (st : UInt8) (f : Fd) : (renF ρ st f).given = f.given := by unfold renF; split <;> rfl
theorem renF_kind {ρ : Name → Name} {st : UInt8} (h : st ≠ 69) (f : Fd) : (renF ρ st f).kind = renK ρ f.kind := by unfold renF; rw [if_neg h]
theorem renK_id (k : Kd) : renK id k = k := by unfold renK; split <;> rfl
theorem renF_id (st : UInt8) (f : Fd) : renF id st f = f := by unfold renF; split; rfl; rw [renK_id]
theorem renY_id (t : Ty) : renY id t = t := by
  unfold renY
  have : t.fields.map (renF id t.sort) = t.fields := by
    rw [show renF id t.sort = id from funext fun f => renF_id _ f]; simp
  rw [this]; rfl

def inN (ns : List Name) (k : Kd) : Prop := k.base = [64] → k.name ∈ ns
structure Ren (S T : List Ty) (ns : List Name) (ρ : Name → Name) : Prop where
  get : ∀ n ∈ ns, ∃ t, findTy S n = some t ∧ findTy T (ρ n) = some (renY ρ t) ∧ tyOk t ∧ (t.sort ≠ 69 → ∀ f ∈ t.fields, inN ns f.kind)
  inj : ∀ a ∈ ns, ∀ b ∈ ns, ρ a = ρ b → a = b

theorem Ren.met {S T : List Ty} {ns : List Name} {ρ : Name → Name} (h : Ren S T ns ρ) : ∀ (n : Nat) (k : Kd) (out : List Name), inN ns k → (∀ x ∈ out, x ∈ ns) →
    metN T n (renK ρ k) (out.map ρ) = (metN S n k out).map ρ ∧ ∀ x ∈ metN S n k out, x ∈ ns
  | 0, k, out, _, ho => ⟨rfl, ho⟩
  | n + 1, k, out, hk, ho => by
    by_cases hb : k.base = [64]
    · have hkn := hk hb
      have hmem : ρ k.name ∈ out.map ρ ↔ k.name ∈ out := by
        rw [List.mem_map]
        exact ⟨fun ⟨y, hy, e⟩ => by rw [← h.inj y (ho y hy) k.name hkn e]; exact hy, fun hy => ⟨_, hy, rfl⟩⟩
      by_cases hin : k.name ∈ out
      · rw [metN, metN, if_neg (by rw [renK_name hb]; exact fun hh => hh.2 (hmem.2 hin)), if_neg (fun hh => hh.2 hin)]
        exact ⟨rfl, ho⟩
      · obtain ⟨t, e1, e2, e3, e4⟩ := h.get _ hkn
        have ho2 : ∀ x ∈ out ++ [k.name], x ∈ ns := fun x hx => by
          rcases List.mem_append.1 hx with hx | hx
          · exact ho x hx
          · simp at hx; subst hx; exact hkn
        rw [metN, metN, if_pos ⟨by rw [renK_base]; exact hb, by rw [renK_name hb]; exact fun hh => hin (hmem.1 hh)⟩, if_pos ⟨hb, hin⟩, renK_name hb, e1, e2]
        simp only
        rw [show (renY ρ t).sort = t.sort from rfl, show (renY ρ t).fields = t.fields.map (renF ρ t.sort) from rfl]
        have em : out.map ρ ++ [ρ k.name] = (out ++ [k.name]).map ρ := by simp
        by_cases h69 : t.sort = 69
        · rw [if_pos h69, if_pos h69]; exact ⟨em, ho2⟩
        · rw [if_neg h69, if_neg h69, em]
          have key : ∀ (fs : List Fd), (∀ f ∈ fs, inN ns f.kind) → ∀ (o : List Name), (∀ x ∈ o, x ∈ ns) →
              (fs.map (renF ρ t.sort)).foldl (fun o f => metN T n f.kind o) (o.map ρ) = (fs.foldl (fun o f => metN S n f.kind o) o).map ρ ∧ ∀ x ∈ fs.foldl (fun o f => metN S n f.kind o) o, x ∈ ns := by
            intro fs
            induction fs with
            | nil => intro _ o ho; exact ⟨rfl, ho⟩
            | cons f fs ih =>
              intro hfs o ho
              obtain ⟨m1, m2⟩ := h.met n f.kind o (hfs f (by simp)) ho
              simp only [List.map_cons, List.foldl_cons]
              rw [renF_kind h69, m1]
              exact ih (fun g hg => hfs g (by simp [hg])) _ m2
          exact key t.fields (e4 h69) _ ho2
    · rw [metN, metN, if_neg (fun hh => hb (by rw [renK_base] at hh; exact hh.1)), if_neg (fun hh => hb hh.1)]
      exact ⟨rfl, ho⟩

theorem Ren.used {S T : List Ty} {ns : List Name} (h : Ren S T ns id) : ∀ (n : Nat) (k : Kd) (out : List Name), inN ns k → usedN T n k out = usedN S n k out
  | 0, k, out, _ => rfl
  | n + 1, k, out, hk => by
    by_cases hc : k.base = [64] ∧ hasS k.name out = false
    · obtain ⟨t, e1, e2, e3, e4⟩ := h.get _ (hk hc.1)
      rw [renY_id] at e2
      rw [usedN, usedN, if_pos hc, if_pos hc, e1, show findTy T k.name = some t from e2]
      simp only
      split
      · rfl
      · rename_i h69
        have key : ∀ (fs : List Fd), (∀ f ∈ fs, inN ns f.kind) → ∀ (o : List Name), fs.foldl (fun o f => usedN T n f.kind o) o = fs.foldl (fun o f => usedN S n f.kind o) o := by
          intro fs
          induction fs with
          | nil => intro _ o; rfl
          | cons f fs ih =>
            intro hfs o
            simp only [List.foldl_cons]
            rw [h.used n f.kind o (hfs f (by simp))]
            exact ih (fun g hg => hfs g (by simp [hg])) _
        exact key _ (e4 h69) _
    · rw [usedN, usedN, if_neg hc, if_neg hc]

theorem Ren.stand {S T : List Ty} {ns : List Name} {ρ : Name → Name} (h : Ren S T ns ρ) : ∀ (n : Nat) (k : Kd), inN ns k → baseOk k → standN T n (renK ρ k) = standN S n k
  | 0, _, _, _ => rfl
  | n + 1, k, hk, hb => by
    rw [standN, standN, renK_signs, renK_base]
    split
    · rfl
    · split
      · rfl
      · split
        · rfl
        · rename_i h1
          split
          · rfl
          · rename_i h2
            split
            · rfl
            · rename_i h3
              have hb64 : k.base = [64] := by
                rcases hb with ⟨hb, _⟩ | ⟨hb | hb | hb, _⟩
                · exact hb
                · exact absurd hb h1
                · exact absurd hb h2
                · exact absurd hb h3
              obtain ⟨t, e1, e2, e3, e4⟩ := h.get _ (hk hb64)
              rw [renK_name hb64, e1, e2]
              simp only
              rw [show (renY ρ t).sort = t.sort from rfl, show (renY ρ t).fields = t.fields.map (renF ρ t.sort) from rfl]
              split
              · rfl
              · cases hf : t.fields with
                | nil => rfl
                | cons f fs =>
                  simp only [List.map_cons]
                  rw [renF_tag]
                  split
                  · rfl
                  · rename_i h69
                    rw [renF_kind h69, h.stand n f.kind (e4 h69 f (by rw [hf]; simp)) ((e3.2.2.1.1 f (by rw [hf]; simp)).2.2.2.2 h69).1.2.1]

theorem Ren.of {S T : List Ty} {ns : List Name} {ρ : Name → Name} (h : Ren S T ns ρ) {st : UInt8} {f : Fd} (h69 : st ≠ 69) (hf : fdOk st f) (hk : inN ns f.kind) : ofL T (renF ρ st f) = ofL S f := by
  unfold ofL
  rw [renF_given, renF_kind h69]
  unfold standL
  rw [h.stand 10 f.kind hk (hf.2.2.2.2 h69).1.2.1]

theorem fieldT_self {t : Ty} (hd : t.fields.Pairwise fun g f => g.name ≠ f.name ∧ g.tag < f.tag) {g : Fd} (hgm : g ∈ t.fields) : fieldT t.fields g.tag = some g := by
  cases h : fieldT t.fields g.tag with
  | none =>
    have := List.find?_eq_none.1 h g hgm
    simp at this
  | some f =>
    have hm := List.mem_of_find?_eq_some h
    have ht := List.find?_some h
    simp only [decide_eq_true_eq] at ht
    obtain ⟨i, hi, rfl⟩ := List.mem_iff_getElem.1 hm
    obtain ⟨j, hj, rfl⟩ := List.mem_iff_getElem.1 hgm
    rw [List.pairwise_iff_getElem] at hd
    rcases Nat.lt_trichotomy i j with hij | hij | hij
    · have := (hd i j hi hj hij).2; omega
    · subst hij; rfl
    · have := (hd j i hj hi hij).2; omega
theorem fieldT_map (ρ : Name → Name) (st : UInt8) (fs : List Fd) (n : Nat) : fieldT (fs.map (renF ρ st)) n = (fieldT fs n).map (renF ρ st) := by
  unfold fieldT
  rw [List.find?_map]
  congr 1
  congr 1
  funext f
  simp [renF_tag]

/-- Two schemas that are a third one but for names: what has one name there reads each other. -/
theorem Ren.rel2 {S T F : List Ty} {ns ms : List Name} {ρ σ : Name → Name} (h1 : Ren S F ns ρ) (h2 : Ren T F ms σ) : RelOk S T (fun a b => a ∈ ns ∧ b ∈ ms ∧ ρ a = σ b) := by
  rintro a b ⟨ha, hb, hab⟩
  obtain ⟨t, a1, a2, a3, a4⟩ := h1.get a ha
  obtain ⟨u, b1, b2, b3, b4⟩ := h2.get b hb
  rw [hab, b2] at a2
  have hy : renY σ u = renY ρ t := by injection a2
  have hso : u.sort = t.sort := show (renY σ u).sort = (renY ρ t).sort by rw [hy]
  have hfs : u.fields.map (renF σ u.sort) = t.fields.map (renF ρ t.sort) := show (renY σ u).fields = (renY ρ t).fields by rw [hy]
  refine ⟨t, u, a1, b1, hso.symm, fun g hg => ?_⟩
  have hgm : renF σ u.sort g ∈ t.fields.map (renF ρ t.sort) := by rw [← hfs]; exact List.mem_map.2 ⟨g, hg, rfl⟩
  obtain ⟨f, hf, e⟩ := List.mem_map.1 hgm
  have htag : f.tag = g.tag := by have := congrArg Fd.tag e; rwa [renF_tag, renF_tag] at this
  unfold FRel
  rw [← htag, fieldT_self a3.2.2.1.2 hf]
  simp only
  by_cases h69 : u.sort = 69
  · exact .inl h69
  · have h69' : t.sort ≠ 69 := by rw [← hso]; exact h69
    refine .inr ⟨?_, fun _ => ?_⟩
    · have ek : renK ρ f.kind = renK σ g.kind := by
        have := congrArg Fd.kind e
        rwa [renF_kind h69', renF_kind h69] at this
      have e1 : f.kind.signs = g.kind.signs := by have := congrArg Kd.signs ek; rwa [renK_signs, renK_signs] at this
      have e2 : f.kind.base = g.kind.base := by have := congrArg Kd.base ek; rwa [renK_base, renK_base] at this
      refine ⟨e1, e2, fun e64 => ?_⟩
      have g64 : g.kind.base = [64] := by rw [← e2]; exact e64
      have en := congrArg Kd.name ek
      rw [renK_name e64, renK_name g64] at en
      exact ⟨a4 h69' f hf e64, b4 h69 g hg g64, en⟩
    · rw [← h1.of h69' (a3.2.2.1.1 f hf) (a4 h69' f hf), ← h2.of h69 (b3.2.2.1.1 g hg) (b4 h69 g hg), e]

theorem Ren.ends {S T : List Ty} {ns : List Name} {ρ : Name → Name} (h : Ren S T ns ρ) : ∀ (n : Nat) (t : Ty), (t.sort ≠ 69 → ∀ f ∈ t.fields, inN ns f.kind) → endsN T n (renY ρ t) = endsN S n t
  | 0, _, _ => rfl
  | n + 1, t, ht => by
    unfold endsN
    by_cases h85 : t.sort = 85
    · have h69 : t.sort ≠ 69 := by rw [h85]; decide
      unfold nextTy
      rw [show (renY ρ t).sort = t.sort from rfl, show (renY ρ t).fields = t.fields.map (renF ρ t.sort) from rfl, if_pos h85, if_pos h85]
      cases hf : t.fields with
      | nil => rfl
      | cons f fs =>
        simp only [List.map_cons]
        rw [renF_kind h69, renK_signs, renK_base]
        by_cases hc : f.kind.signs = [] ∧ f.kind.base = [64]
        · rw [if_pos hc, if_pos hc, renK_name hc.2]
          obtain ⟨u, e1, e2, e3, e4⟩ := h.get _ (ht h69 f (by rw [hf]; simp) hc.2)
          rw [e1, e2]
          exact h.ends n u e4
        · rw [if_neg hc, if_neg hc]
    · have e1 : nextTy T (renY ρ t) = none := if_neg h85
      have e2 : nextTy S t = none := if_neg h85
      rw [e1, e2]
end Go.Proofs.YtdhinlhafoiaiaaGreatDoor
/- Plain laws of forms: a form is the form of itself, has as many types and fields, and is read by what it is of; what is alike reads each other. No program in sight. -/
namespace Go.Proofs.YtdhinlhafoiaiaaGreatDoor
set_option linter.unusedVariables false

/-! ### types of names, named anew -/
def renS (S : List Ty) (ρ : Name → Name) (l : List Name) : List Ty := l.filterMap fun m => (findTy S m).map (renY ρ)
theorem formS_ren (S : List Ty) (ns : List Name) : formS S ns = renS S (newN ns) ns := rfl
theorem renS_cons {S : List Ty} {ρ : Name → Name} {m : Name} {l : List Name} {t : Ty} (h : findTy S m = some t) : renS S ρ (m :: l) = renY ρ t :: renS S ρ l := by
  unfold renS; rw [List.filterMap_cons, h]; rfl
theorem findTy_cons (t : Ty) (S : List Ty) (n : Name) : findTy (t :: S) n = if t.name = n then some t else findTy S n := by
  unfold findTy
  rw [List.find?_cons]
  by_cases h : t.name = n
  · rw [if_pos h]; simp [h]
  · rw [if_neg h]; simp [h]
theorem mem_names {S : List Ty} {x : Name} (h : x ∈ namesOf S) : ∃ t, findTy S x = some t := Option.isSome_iff_exists.1 (findTy_isSome.2 h)
theorem findTy_ren {S : List Ty} {ρ : Name → Name} {ns : List Name} (hinj : ∀ a ∈ ns, ∀ b ∈ ns, ρ a = ρ b → a = b) : ∀ (l : List Name), (∀ m ∈ l, m ∈ ns ∧ m ∈ namesOf S) → ∀ n ∈ l, findTy (renS S ρ l) (ρ n) = (findTy S n).map (renY ρ)
  | [], _, _, hn => by cases hn
  | m :: l, hl, n, hn => by
    obtain ⟨t, ht⟩ := mem_names (hl m (by simp)).2
    have htn := (findTy_some ht).2
    rw [renS_cons ht, findTy_cons, show (renY ρ t).name = ρ t.name from rfl, htn]
    by_cases h : m = n
    · subst h; rw [if_pos rfl, ht]; rfl
    · have hnl : n ∈ l := by rcases List.mem_cons.1 hn with e | e; exact absurd e.symm h; exact e
      rw [if_neg (fun e => h (hinj m (hl m (by simp)).1 n (hl n (by simp [hnl])).1 e))]
      exact findTy_ren hinj l (fun x hx => hl x (by simp [hx])) n hnl
theorem ren_of {S : List Ty} (hS : ∀ t ∈ S, tyOk t) {ns : List Name} {ρ : Name → Name} (hinj : ∀ a ∈ ns, ∀ b ∈ ns, ρ a = ρ b → a = b) (hin : ∀ x ∈ ns, x ∈ namesOf S)
    (hcl : ∀ x ∈ ns, ∀ t, findTy S x = some t → t.sort ≠ 69 → ∀ f ∈ t.fields, inN ns f.kind) : Ren S (renS S ρ ns) ns ρ := by
  refine ⟨fun n hn => ?_, hinj⟩
  obtain ⟨t, ht⟩ := mem_names (hin n hn)
  refine ⟨t, ht, ?_, hS t (findTy_some ht).1, hcl n hn t ht⟩
  rw [findTy_ren hinj ns (fun m hm => ⟨hm, hin m hm⟩) n hn, ht]; rfl
theorem renS_len {S : List Ty} {ρ : Name → Name} : ∀ {l : List Name}, (∀ x ∈ l, x ∈ namesOf S) → (renS S ρ l).length = l.length
  | [], _ => rfl
  | m :: l, h => by
    obtain ⟨t, ht⟩ := mem_names (h m (by simp))
    rw [renS_cons ht, List.length_cons, List.length_cons, renS_len (fun x hx => h x (by simp [hx]))]
theorem renS_names {S : List Ty} {ρ : Name → Name} : ∀ {l : List Name}, (∀ x ∈ l, x ∈ namesOf S) → namesOf (renS S ρ l) = l.map ρ
  | [], _ => rfl
  | m :: l, h => by
    obtain ⟨t, ht⟩ := mem_names (h m (by simp))
    have ih := renS_names (ρ := ρ) (l := l) (fun x hx => h x (by simp [hx]))
    unfold namesOf at ih ⊢
    rw [renS_cons ht, List.map_cons, ih, List.map_cons]
    rw [show (renY ρ t).name = ρ t.name from rfl, (findTy_some ht).2]
theorem renS_mem {S : List Ty} {ρ : Name → Name} {l : List Name} {u : Ty} (h : u ∈ renS S ρ l) : ∃ m ∈ l, ∃ t, findTy S m = some t ∧ u = renY ρ t := by
  unfold renS at h
  obtain ⟨m, hm, e⟩ := List.mem_filterMap.1 h
  obtain ⟨t, ht, rfl⟩ := Option.map_eq_some_iff.1 e
  exact ⟨m, hm, t, ht, rfl⟩

/-! ### new names -/
theorem placeN_get {ns : List Name} {n : Name} (h : n ∈ ns) : ns[placeN ns n]'(placeN_lt h) = n := by
  have := List.findIdx_getElem (xs := ns) (p := fun m => decide (m = n)) (w := placeN_lt h)
  exact of_decide_eq_true this
theorem newN_inj {ns : List Name} (h8 : ns.length ≤ 8) {a b : Name} (ha : a ∈ ns) (hb : b ∈ ns) (h : newN ns a = newN ns b) : a = b := by
  unfold newN at h
  have e : byteOf (97 + placeN ns a) = byteOf (97 + placeN ns b) := by injection h with _ h; injection h
  have la := placeN_lt ha
  have lb := placeN_lt hb
  have e2 := congrArg UInt8.toNat e
  rw [byteOf_toNat (by omega), byteOf_toNat (by omega)] at e2
  have ep : placeN ns a = placeN ns b := by omega
  rw [← placeN_get ha, ← placeN_get hb]
  simp only [ep]
theorem newN_ok {ns : List Name} (h8 : ns.length ≤ 8) (n : Name) : nameOk (newN ns n) = true := by
  have := placeN_le ns n
  rw [nameOk_iff]
  refine ⟨by simp [newN], by simp [newN], fun c hc => ?_⟩
  unfold newN at hc
  rw [isLow_iff]
  rcases List.mem_cons.1 hc with rfl | hc
  · decide
  · simp at hc; subst hc
    rw [byteOf_toNat (by omega)]; omega
theorem nodup_map {ns : List Name} {ρ : Name → Name} (hn : ns.Nodup) (hinj : ∀ a ∈ ns, ∀ b ∈ ns, ρ a = ρ b → a = b) : (ns.map ρ).Nodup := by
  rw [List.nodup_iff_pairwise_ne, List.pairwise_map]
  exact (List.nodup_iff_pairwise_ne.1 hn).imp_of_mem fun {a b} ha hb hne e => hne (hinj a ha b hb e)
theorem placeN_map {ns : List Name} {ρ : Name → Name} (hn : ns.Nodup) (hinj : ∀ a ∈ ns, ∀ b ∈ ns, ρ a = ρ b → a = b) {n : Name} (h : n ∈ ns) : placeN (ns.map ρ) (ρ n) = placeN ns n := by
  obtain ⟨i, hi, rfl⟩ := List.mem_iff_getElem.1 h
  rw [placeN_nodup hn hi]
  have := placeN_nodup (nodup_map hn hinj) (i := i) (by simpa using hi)
  simpa using this
theorem newN_map {ns : List Name} {ρ : Name → Name} (hn : ns.Nodup) (hinj : ∀ a ∈ ns, ∀ b ∈ ns, ρ a = ρ b → a = b) {n : Name} (h : n ∈ ns) : newN (ns.map ρ) (ρ n) = newN ns n := by
  unfold newN; rw [placeN_map hn hinj h]

/-! ### a schema and its form -/
section
variable {S : List Ty} {k : Kd}
theorem met_mets (hS : scOk S) (hr : refOk S k) : Mets S (metL S k) := (metN_mets hS.2.1 9 k [] hr (Mets.nil S)).1
theorem met_len (hS : scOk S) (hr : refOk S k) : (metL S k).length ≤ 8 := Nat.le_trans (met_mets hS hr).len hS.1.2.1
theorem form_inj (hS : scOk S) (hr : refOk S k) : ∀ a ∈ metL S k, ∀ b ∈ metL S k, newN (metL S k) a = newN (metL S k) b → a = b := fun a ha b hb e => newN_inj (met_len hS hr) ha hb e
theorem form_ren (hS : scOk S) (hr : refOk S k) : Ren S (formS S (metL S k)) (metL S k) (newN (metL S k)) := by
  obtain ⟨c1, c2⟩ := metL_closed hS.2.1 hS.1.2.1 hr
  exact ren_of hS.1.1 (form_inj hS hr) (met_mets hS hr).2 (fun x hx t ht h69 f hf => c2 x hx t ht h69 f hf)
theorem form_in (hS : scOk S) (hr : refOk S k) : inN (metL S k) k := (metL_closed hS.2.1 hS.1.2.1 hr).1
theorem form_met (hS : scOk S) (hr : refOk S k) : metL (formS S (metL S k)) (formK (metL S k) k) = (metL S k).map (newN (metL S k)) := by
  have := ((form_ren hS hr).met 9 k [] (form_in hS hr) (by simp)).1
  exact this
theorem renK_twice {ns : List Name} {ρ : Name → Name} (hn : ns.Nodup) (hinj : ∀ a ∈ ns, ∀ b ∈ ns, ρ a = ρ b → a = b) {q : Kd} (h : inN ns q) : formK (ns.map ρ) (renK ρ q) = formK ns q := by
  unfold formK
  rw [renK_base]
  by_cases hb : q.base = [64]
  · rw [if_pos hb, if_pos hb, renK_name hb, newN_map hn hinj (h hb)]
    unfold renK; rw [if_pos hb]
  · rw [if_neg hb, if_neg hb]; unfold renK; rw [if_neg hb]
theorem formY_twice {ns : List Name} {ρ : Name → Name} (hn : ns.Nodup) (hinj : ∀ a ∈ ns, ∀ b ∈ ns, ρ a = ρ b → a = b) {t : Ty} (ht : t.name ∈ ns) (hf : t.sort ≠ 69 → ∀ f ∈ t.fields, inN ns f.kind) : formY (ns.map ρ) (renY ρ t) = formY ns t := by
  unfold formY
  rw [show (renY ρ t).name = ρ t.name from rfl, newN_map hn hinj ht]
  have e : (renY ρ t).fields.map (formF (ns.map ρ) (renY ρ t).sort) = t.fields.map (formF ns t.sort) := by
    show (t.fields.map (renF ρ t.sort)).map (formF (ns.map ρ) t.sort) = _
    rw [List.map_map]
    refine List.map_congr_left fun f hfm => ?_
    show formF (ns.map ρ) t.sort (renF ρ t.sort f) = formF ns t.sort f
    unfold formF renF
    by_cases h69 : t.sort = 69
    · rw [if_pos h69, if_pos h69, if_pos h69]
    · rw [if_neg h69, if_neg h69, if_neg h69]
      simp only
      rw [renK_twice hn hinj (hf h69 f hfm)]
  rw [e]; rfl
theorem form_form (hS : scOk S) (hr : refOk S k) : formS (formS S (metL S k)) ((metL S k).map (newN (metL S k))) = formS S (metL S k) := by
  obtain ⟨c1, c2⟩ := metL_closed hS.2.1 hS.1.2.1 hr
  have hren := form_ren hS hr
  have hinj := form_inj hS hr
  have hnd := (met_mets hS hr).1
  have hin := (met_mets hS hr).2
  generalize metL S k = ns at *
  show ((ns.map (newN ns)).filterMap fun m => (findTy (formS S ns) m).map (formY (ns.map (newN ns)))) = ns.filterMap fun n => (findTy S n).map (formY ns)
  rw [List.filterMap_map]
  have key : ∀ l : List Name, (∀ x ∈ l, x ∈ ns) → l.filterMap ((fun m => (findTy (formS S ns) m).map (formY (ns.map (newN ns)))) ∘ newN ns) = l.filterMap fun n => (findTy S n).map (formY ns) := by
    intro l
    induction l with
    | nil => intro _; rfl
    | cons x l ih =>
      intro hl
      obtain ⟨t, e1, e2, e3, e4⟩ := hren.get x (hl x (by simp))
      have htn : t.name ∈ ns := by rw [(findTy_some e1).2]; exact hl x (by simp)
      rw [List.filterMap_cons, List.filterMap_cons, ih (fun y hy => hl y (by simp [hy]))]
      simp only [Function.comp]
      rw [e1, e2]
      simp only [Option.map_some]
      rw [formY_twice hnd hinj htn e4]
  exact key ns (fun x hx => hx)
theorem form_kind (hS : scOk S) (hr : refOk S k) : formK ((metL S k).map (newN (metL S k))) (formK (metL S k) k) = formK (metL S k) k :=
  renK_twice (met_mets hS hr).1 (form_inj hS hr) (form_in hS hr)
end

/-! ### the text of a form is read as the form -/
theorem app_inj {c : UInt8} {p q s u : List UInt8} (h : c ∉ p) (h' : c ∉ q) (e : p ++ c :: s = q ++ c :: u) : p = q ∧ s = u := by
  have h1 := cutL_app (s := s) h
  rw [e, cutL_app h'] at h1
  injection h1 with e1 e2
  injection e2 with e2 _
  exact ⟨e1.symm, e2.symm⟩
/-- A kind, but for its length. -/
def kdW (k : Kd) : Prop := k.signs.all isSign = true ∧ baseOk k
theorem plain_kindW {k : Kd} (h : kdW k) : ∀ c ∈ kdB k, plainCh c := by
  intro c hc
  rcases List.mem_append.1 hc with hc | hc
  · exact plain_sign (List.all_eq_true.1 h.1 c hc)
  · refine plain_kind (k := ⟨[], k.base, k.name⟩) ⟨rfl, h.2, ?_⟩ c hc
    show (coreB k).length ≤ 12
    unfold coreB
    rcases h.2 with ⟨hb, hn⟩ | ⟨hb, hn⟩
    · rw [if_pos hb]
      have := (nameOk_iff.1 hn).2.1
      simp; omega
    · rw [if_neg (by rcases hb with h | h | h <;> rw [h] <;> decide)]
      rcases hb with h | h | h <;> rw [h] <;> decide
def fdW (st : UInt8) (f : Fd) : Prop :=
  1 ≤ f.tag ∧ f.tag ≤ 200 ∧ nameOk f.name = true ∧ (st = 69 → f.kind = Kd.nil ∧ f.given = []) ∧
  (st ≠ 69 → kdW f.kind ∧ (f.given ≠ [] → st = 82 ∧ f.kind.signs = [] ∧ standOk f.kind.base f.given = true))
theorem fdW_plain {st : UInt8} {f : Fd} (h : fdW st f) : 10 ∉ fdB st f ∧ 44 ∉ fdB st f ∧ fdB st f ≠ [] := by
  obtain ⟨h1, h2, h3, h4, h5⟩ := h
  refine ⟨?_, ?_, by unfold fdB; simp⟩
  all_goals
    unfold fdB tailB
    simp only [List.mem_append, List.mem_cons, not_or]
    refine ⟨?_, by decide, ?_, ?_⟩
    · first | exact (notin (plain_decB f.tag)).1 | exact (notin (plain_decB f.tag)).2.1
    · first | exact (notin (plain_name h3)).1 | exact (notin (plain_name h3)).2.1
    · by_cases hst : st = 69
      · rw [if_pos hst]; simp
      · rw [if_neg hst]
        obtain ⟨hk, hg⟩ := h5 hst
        simp only [List.mem_append, List.mem_cons, not_or]
        refine ⟨by decide, ?_, ?_⟩
        · first | exact (notin (plain_kindW hk)).1 | exact (notin (plain_kindW hk)).2.1
        · by_cases hgv : f.given = []
          · rw [if_pos hgv]; simp
          · rw [if_neg hgv]
            have hp := (plain_stand (hg hgv).2.2).2
            simp only [List.mem_cons, not_or]
            refine ⟨by decide, ?_⟩
            first | exact (notin hp).1 | exact (notin hp).2.1
theorem cut_given {k : List UInt8} (h : 61 ∉ k) (g : List UInt8) : (cutL 61 (k ++ if g = [] then [] else 61 :: g)).1 = k := by
  by_cases hg : g = []
  · rw [if_pos hg, List.append_nil, cutL_no h]
  · rw [if_neg hg, cutL_app h]
theorem fdW_ok {st : UInt8} {f g : Fd} (hf : fdW st f) (hg : fdOk st g) (h : fdB st f = fdB st g) : fdOk st f := by
  refine ⟨hf.1, hf.2.1, hf.2.2.1, hf.2.2.2.1, fun h69 => ?_⟩
  obtain ⟨hk, hgv⟩ := hf.2.2.2.2 h69
  refine ⟨⟨hk.1, hk.2, ?_⟩, hgv⟩
  unfold fdB at h
  obtain ⟨_, e⟩ := app_inj (notin (plain_decB f.tag)).2.2.1 (notin (plain_decB g.tag)).2.2.1 h
  unfold tailB at e
  rw [if_neg h69, if_neg h69] at e
  obtain ⟨_, e⟩ := app_inj (notin (plain_name hf.2.2.1)).2.2.1 (notin (plain_name hg.2.2.1)).2.2.1 e
  have e1 := cut_given (notin (plain_kindW hk)).2.2.2 f.given
  have gk := (hg.2.2.2.2 h69).1
  rw [e, cut_given (notin (plain_kind gk)).2.2.2 g.given] at e1
  rw [← e1]
  exact gk.2.2
def tyW (t : Ty) : Prop := sortOk t.sort ∧ nameOk t.name = true ∧ ((∀ f ∈ t.fields, fdW t.sort f) ∧ t.fields.Pairwise fun g f => g.name ≠ f.name ∧ g.tag < f.tag) ∧ t.fields.length ≤ 8 ∧ (t.fields = [] → t.sort = 82)
theorem joinL_no {c d : UInt8} (hcd : c ≠ d) : ∀ ps : List (List UInt8), (∀ p ∈ ps, c ∉ p) → c ∉ joinL d ps
  | [], _ => by simp [joinL]
  | [p], h => h p (by simp)
  | p :: q :: ps, h => by
    rw [joinL_cons d p (by simp)]
    simp only [List.mem_append, List.mem_cons, not_or]
    exact ⟨h p (by simp), hcd, joinL_no hcd (q :: ps) (fun x hx => h x (by simp only [List.mem_cons] at hx ⊢; exact .inr hx))⟩
theorem tyW_plain {t : Ty} (h : tyW t) : 10 ∉ tyB t := by
  obtain ⟨h1, h2, h3, _, _⟩ := h
  unfold tyB
  simp only [List.mem_append, List.mem_cons, not_or]
  refine ⟨fun e => (sortOk_ne h1).2 e.symm, (notin (plain_name h2)).1, by decide, joinL_no (by decide) _ fun p hp => ?_⟩
  obtain ⟨f, hf', rfl⟩ := List.mem_map.1 hp
  exact (fdW_plain (h3.1 f hf')).1
theorem tyW_ok {t u : Ty} (ht : tyW t) (hu : tyOk u) (h : tyB t = tyB u) : tyOk t := by
  refine ⟨ht.1, ht.2.1, ⟨fun f hf => ?_, ht.2.2.1.2⟩, ht.2.2.2.1, ht.2.2.2.2⟩
  unfold tyB at h
  injection h with hs h
  obtain ⟨_, e⟩ := app_inj (notin (plain_name ht.2.1)).2.2.2 (notin (plain_name hu.2.1)).2.2.2 h
  have hne : t.fields.map (fdB t.sort) ≠ [] := by
    intro e0
    have : t.fields = [] := by simpa using e0
    rw [this] at hf; cases hf
  have n1 : ∀ p ∈ t.fields.map (fdB t.sort), (44 : UInt8) ∉ p := fun p hp => by
    obtain ⟨g, hg, rfl⟩ := List.mem_map.1 hp
    exact (fdW_plain (ht.2.2.1.1 g hg)).2.1
  have n2 : ∀ p ∈ u.fields.map (fdB u.sort), (44 : UInt8) ∉ p := fun p hp => by
    obtain ⟨g, hg, rfl⟩ := List.mem_map.1 hp
    exact (fdB_plain (hu.2.2.1.1 g hg)).2.1
  have hj := joinL_ne hne (c := 44) (fun p hp => by
    obtain ⟨g, hg, rfl⟩ := List.mem_map.1 hp
    exact (fdW_plain (ht.2.2.1.1 g hg)).2.2)
  have hne2 : u.fields.map (fdB u.sort) ≠ [] := by
    intro e0
    rw [e0] at e
    exact hj e
  have s1 := splitL_join 44 _ hne n1
  rw [e, splitL_join 44 _ hne2 n2] at s1
  have : fdB t.sort f ∈ u.fields.map (fdB u.sort) := by rw [s1]; exact List.mem_map.2 ⟨f, hf, rfl⟩
  obtain ⟨g, hg, eg⟩ := List.mem_map.1 this
  rw [← hs] at eg
  have hgo := hu.2.2.1.1 g hg
  rw [← hs] at hgo
  exact fdW_ok (ht.2.2.1.1 f hf) hgo eg.symm
theorem scB_ok : ∀ (F U : List Ty), (∀ t ∈ F, tyW t) → (∀ u ∈ U, tyOk u) → scB F = scB U → ∀ t ∈ F, tyOk t
  | [], _, _, _, _ => by simp
  | t :: F, [], _, _, h => by rw [scB_cons] at h; simp [scB] at h
  | t :: F, u :: U, hF, hU, h => by
    rw [scB_cons, scB_cons] at h
    obtain ⟨e1, e2⟩ := app_inj (tyW_plain (hF t (by simp))) (tyB_plain (hU u (by simp))).1 h
    intro x hx
    rcases List.mem_cons.1 hx with rfl | hx
    · exact tyW_ok (hF x (by simp)) (hU u (by simp)) e1
    · exact scB_ok F U (fun y hy => hF y (by simp [hy])) (fun y hy => hU y (by simp [hy])) e2 x hx
theorem formK_W {ns : List Name} (h8 : ns.length ≤ 8) {k : Kd} (h : kdW k) : kdW (formK ns k) := by
  unfold formK
  split
  · rename_i hb
    exact ⟨h.1, .inl ⟨hb, newN_ok h8 _⟩⟩
  · exact h
theorem formY_W {ns : List Name} (h8 : ns.length ≤ 8) {t : Ty} (h : tyOk t) : tyW (formY ns t) := by
  obtain ⟨h1, h2, h3, h4, h5⟩ := h
  refine ⟨h1, newN_ok h8 _, ⟨fun f hf => ?_, ?_⟩, by show (t.fields.map _).length ≤ 8; rw [List.length_map]; exact h4, fun e => h5 (by simpa [formY] using e)⟩
  · obtain ⟨g, hg, rfl⟩ := List.mem_map.1 hf
    obtain ⟨g1, g2, g3, g4, g5⟩ := h3.1 g hg
    show fdW t.sort (formF ns t.sort g)
    unfold formF
    by_cases h69 : t.sort = 69
    · rw [if_pos h69]
      exact ⟨g1, g2, g3, g4, fun e => absurd h69 e⟩
    · rw [if_neg h69]
      obtain ⟨k1, k2⟩ := g5 h69
      refine ⟨g1, g2, g3, fun e => absurd e h69, fun _ => ⟨formK_W h8 ⟨k1.1, k1.2.1⟩, fun hgv => ?_⟩⟩
      obtain ⟨q1, q2, q3⟩ := k2 hgv
      exact ⟨q1, by show (formK ns g.kind).signs = []; rw [formK_ren, renK_signs]; exact q2, by show standOk (formK ns g.kind).base g.given = true; rw [formK_ren, renK_base]; exact q3⟩
  · show (t.fields.map (formF ns t.sort)).Pairwise _
    rw [List.pairwise_map]
    exact h3.2.imp fun {a b} hab => by
      have ea : ∀ f : Fd, (formF ns t.sort f).name = f.name ∧ (formF ns t.sort f).tag = f.tag := fun f => by unfold formF; split <;> exact ⟨rfl, rfl⟩
      rw [(ea a).1, (ea b).1, (ea a).2, (ea b).2]; exact hab
theorem form_back {S : List Ty} {k : Kd} (hS : scOk S) (hk : kdOk k) (hr : refOk S k) (h : (bothL (scB (formS S (metL S k))) (kdB (formK (metL S k) k))).isSome = true) :
    bothL (scB (formS S (metL S k))) (kdB (formK (metL S k) k)) = some (formS S (metL S k), formK (metL S k) k) := by
  obtain ⟨⟨U, q⟩, hb⟩ := Option.isSome_iff_exists.1 h
  obtain ⟨b1, b2, b3⟩ := bothL_some hb
  obtain ⟨s1, s2, s3⟩ := schemaL_some.1 b1
  have h8 := met_len hS hr
  have hW : ∀ t ∈ formS S (metL S k), tyW t := fun t ht => by
    obtain ⟨m, hm, t0, e1, rfl⟩ := renS_mem (by rw [formS_ren] at ht; exact ht)
    exact formY_W h8 (hS.1.1 t0 (findTy_some e1).1)
  have hok := scB_ok _ U hW s1.1.1 s3.symm
  have hl : (formS S (metL S k)).length ≤ 8 := by rw [formS_ren, renS_len (met_mets hS hr).2]; exact h8
  have l1 := linesS_some.2 ⟨hok, hl, rfl⟩
  have l2 := (schemaL_ref.1 b1).2.1
  rw [l1] at l2
  injection l2 with l2
  obtain ⟨k1, k2⟩ := kindL_some.1 b2
  have hkW := formK_W h8 (k := k) ⟨hk.1, hk.2.1⟩
  have hk' : kdOk (formK (metL S k) k) := ⟨hkW.1, hkW.2, by rw [← k2]; exact k1.2.2⟩
  have hq := kdB_inj k1 hk' k2
  rw [hb, l2, hq]

/-! ### the laws -/
theorem form_of {s d : List UInt8} {a : List UInt8 × List UInt8} (h : formL (bothL s d) = some a) : ∃ S k, bothL s d = some (S, k) ∧ scOk S ∧ kdOk k ∧ refOk S k ∧ a = (scB (formS S (metL S k)), kdB (formK (metL S k) k)) ∧ bothL a.1 a.2 = some (formS S (metL S k), formK (metL S k) k) := by
  cases hb : bothL s d with
  | none => rw [hb] at h; cases h
  | some x =>
    obtain ⟨S, k⟩ := x
    obtain ⟨g1, _, _, g4, _, g6⟩ := bothL_good hb
    rw [hb] at h
    simp only [formL] at h
    split at h
    · rename_i hs
      injection h with h
      subst h
      exact ⟨S, k, rfl, g1, g4, g6, rfl, form_back g1 g4 g6 hs⟩
    · cases h
theorem form_twice {s d : List UInt8} {a : List UInt8 × List UInt8} (h : formL (bothL s d) = some a) : formL (bothL a.1 a.2) = some a := by
  obtain ⟨S, k, _, g1, g2, g3, ea, eb⟩ := form_of h
  rw [eb]
  simp only [formL]
  rw [form_met g1 g3, form_form g1 g3, form_kind g1 g3]
  subst ea
  simp only at eb
  rw [eb]; rfl
theorem form_reads {s d t e : List UInt8} {a : List UInt8 × List UInt8} (h : formL (bothL s d) = some a) (h2 : formL (bothL t e) = some a) : evolveL (bothL s d) (bothL t e) = true := by
  obtain ⟨S, k, eb, g1, g2, g3, _, ea⟩ := form_of h
  obtain ⟨T, m, fb, f1, f2, f3, _, fa⟩ := form_of h2
  rw [ea] at fa
  injection fa with fa
  injection fa with fs fk
  rw [eb, fb]
  have r1 := form_ren g1 g3
  have r2 := form_ren f1 f3
  rw [← fs] at r2
  refine reads_of_rel (Ren.rel2 r1 r2) ?_
  have e1 : k.signs = m.signs := by have := congrArg Kd.signs fk; rwa [formK_ren, formK_ren, renK_signs, renK_signs] at this
  have e2 : k.base = m.base := by have := congrArg Kd.base fk; rwa [formK_ren, formK_ren, renK_base, renK_base] at this
  refine ⟨e1, e2, fun e64 => ?_⟩
  have m64 : m.base = [64] := by rw [← e2]; exact e64
  have en := congrArg Kd.name fk
  rw [formK_ren, formK_ren, renK_name e64, renK_name m64] at en
  exact ⟨form_in g1 g3 e64, form_in f1 f3 m64, en⟩
theorem alikeB_symm (x y : Option (List UInt8 × List UInt8)) : alikeB x y = alikeB y x := by
  cases x with
  | none => cases y <;> rfl
  | some a => cases y with
    | none => rfl
    | some b =>
      show (a.1 == b.1 && a.2 == b.2) = (b.1 == a.1 && b.2 == a.2)
      rw [BEq.comm (a := a.1), BEq.comm (a := a.2)]
theorem alike_reads {s d t e : List UInt8} (h : alikeB (formL (bothL s d)) (formL (bothL t e)) = true) : evolveL (bothL s d) (bothL t e) = true ∧ evolveL (bothL t e) (bothL s d) = true := by
  cases h1 : formL (bothL s d) with
  | none => rw [h1] at h; cases h
  | some a => cases h2 : formL (bothL t e) with
    | none => rw [h1, h2] at h; cases h
    | some b =>
      rw [h1, h2] at h
      have hab : a = b := by
        obtain ⟨a1, a2⟩ := a
        obtain ⟨b1, b2⟩ := b
        simp [alikeB] at h
        rw [h.1, h.2]
      subst hab
      exact ⟨form_reads h1 h2, form_reads h2 h1⟩
theorem countF_ren {S T : List Ty} {ns : List Name} {ρ : Name → Name} (h : Ren S T ns ρ) : ∀ l : List Name, (∀ x ∈ l, x ∈ ns) → countF T (l.map ρ) = countF S l
  | [], _ => rfl
  | x :: l, hl => by
    obtain ⟨t, e1, e2, _, _⟩ := h.get x (hl x (by simp))
    have ih := countF_ren h l (fun y hy => hl y (by simp [hy]))
    unfold countF at ih ⊢
    simp only [List.map_cons, List.sum_cons]
    rw [ih, e1, e2]
    simp [renY]
theorem form_cnt {s d : List UInt8} {a : List UInt8 × List UInt8} (h : formL (bothL s d) = some a) : cntL (bothL a.1 a.2) = cntL (bothL s d) := by
  obtain ⟨S, k, eb, g1, g2, g3, _, ea⟩ := form_of h
  rw [eb, ea]
  simp only [cntL]
  have p1 := (used_perm S k).2
  have p2 := (used_perm (formS S (metL S k)) (formK (metL S k) k)).2
  rw [p1.length_eq, p2.length_eq, countF_perm S p1, countF_perm _ p2, form_met g1 g3, List.length_map, countF_ren (form_ren g1 g3) _ (fun x hx => hx)]
end Go.Proofs.YtdhinlhafoiaiaaGreatDoor
/- Plain laws: a schema cut down to what is met; types in another order. No program in sight. -/
namespace Go.Proofs.YtdhinlhafoiaiaaGreatDoor
set_option linter.unusedVariables false

/-- The types of names. -/
def cutS (S : List Ty) (ns : List Name) : List Ty := ns.filterMap (findTy S)
theorem cutS_ren (S : List Ty) (ns : List Name) : cutS S ns = renS S id ns := by
  unfold cutS renS
  congr 1
  funext m
  rw [show renY id = id from funext fun t => renY_id t]; simp
/-- The text of a schema cut down. -/
def cutL' (o : Option (List Ty × Kd)) : Option (List UInt8) := match o with
  | none => none
  | some (S, k) => some (scB (cutS S (usedL S k)))

/-- A part of a schema, closed, in any order. -/
theorem sub_ok {S T : List Ty} (hS : scOk S) {ns : List Name} (h : Ren S T ns id) (hT : namesOf T = ns) (hn : ns.Nodup) (h8 : ns.length ≤ 8) : scOk T := by
  have hmem : ∀ t ∈ T, t.name ∈ ns ∧ findTy S t.name = some t ∧ tyOk t ∧ (t.sort ≠ 69 → ∀ f ∈ t.fields, inN ns f.kind) := fun t ht => by
    have h1 : t.name ∈ ns := by rw [← hT]; exact List.mem_map.2 ⟨t, ht, rfl⟩
    obtain ⟨u, e1, e2, e3, e4⟩ := h.get _ h1
    rw [renY_id] at e2
    have hp : T.Pairwise fun t u => t.name ≠ u.name := by
      have : (namesOf T).Nodup := by rw [hT]; exact hn
      unfold namesOf at this
      rw [List.nodup_iff_pairwise_ne, List.pairwise_map] at this
      exact this
    have := findTy_mem hp ht
    rw [show findTy T t.name = some u from e2] at this
    injection this with this
    subst this
    exact ⟨h1, e1, e3, e4⟩
  refine ⟨⟨fun t ht => (hmem t ht).2.2.1, ?_, ?_⟩, fun t ht h69 f hf hb => ?_, fun t ht => ?_⟩
  · rw [← hT] at h8; simpa [namesOf] using h8
  · have : (namesOf T).Nodup := by rw [hT]; exact hn
    unfold namesOf at this
    rw [List.nodup_iff_pairwise_ne, List.pairwise_map] at this
    exact this
  · obtain ⟨u, _, e2, _, _⟩ := h.get _ ((hmem t ht).2.2.2 h69 f hf hb)
    rw [show findTy T f.kind.name = some (renY id u) from e2]; rfl
  · have := h.ends 9 t (hmem t ht).2.2.2
    rw [renY_id] at this
    rw [this]
    exact hS.2.2 t (findTy_some (hmem t ht).2.1).1

theorem sum_sub {α : Type} [DecidableEq α] (f : α → Nat) : ∀ (l m : List α), l.Nodup → (∀ x ∈ l, x ∈ m) → (l.map f).sum ≤ (m.map f).sum
  | [], m, _, _ => by simp
  | x :: l, m, hn, hs => by
    obtain ⟨h1, h2⟩ := List.nodup_cons.1 hn
    have hx := hs x (by simp)
    have ih := sum_sub f l (m.erase x) h2 (fun y hy => by
      have hne : y ≠ x := by rintro rfl; exact h1 hy
      exact (List.mem_erase_of_ne hne).2 (hs y (by simp [hy])))
    have hp := ((List.perm_cons_erase hx).map f).sum_nat
    simp only [List.map_cons, List.sum_cons] at hp ⊢
    omega
theorem scB_len (S : List Ty) : (scB S).length = (S.map fun t => (tyB t).length + 1).sum := by
  unfold scB
  induction S with
  | nil => rfl
  | cons t S ih => rw [List.flatMap_cons, List.length_append, ih]; simp

section
variable {S : List Ty} {k : Kd}
theorem used_mem (S : List Ty) (k : Kd) (x : Name) : x ∈ usedL S k ↔ x ∈ metL S k := (used_perm S k).2.mem_iff
theorem used_mets (hS : scOk S) (hr : refOk S k) : Mets S (usedL S k) := (met_mets hS hr).perm (used_perm S k).2.symm
theorem used_len (hS : scOk S) (hr : refOk S k) : (usedL S k).length ≤ 8 := Nat.le_trans (used_mets hS hr).len hS.1.2.1
theorem used_in (hS : scOk S) (hr : refOk S k) : inN (usedL S k) k := fun hb => (used_mem S k _).2 (form_in hS hr hb)
theorem cut_ren (hS : scOk S) (hr : refOk S k) : Ren S (cutS S (usedL S k)) (usedL S k) id := by
  obtain ⟨c1, c2⟩ := metL_closed hS.2.1 hS.1.2.1 hr
  rw [cutS_ren]
  exact ren_of hS.1.1 (fun a _ b _ e => e) (used_mets hS hr).2 (fun x hx t ht h69 f hf hb => (used_mem S k _).2 (c2 x ((used_mem S k x).1 hx) t ht h69 f hf hb))
theorem cut_names (hS : scOk S) (hr : refOk S k) : namesOf (cutS S (usedL S k)) = usedL S k := by
  rw [cutS_ren, renS_names (used_mets hS hr).2]; simp
theorem cut_ok (hS : scOk S) (hr : refOk S k) : scOk (cutS S (usedL S k)) := sub_ok hS (cut_ren hS hr) (cut_names hS hr) (used_mets hS hr).1 (used_len hS hr)
theorem cut_len (hS : scOk S) (hr : refOk S k) : (scB (cutS S (usedL S k))).length ≤ (scB S).length := by
  rw [scB_len, scB_len]
  refine sum_sub _ _ _ ?_ fun t ht => ?_
  · have := (cut_ok hS hr).1.2.2
    rw [List.nodup_iff_pairwise_ne]
    exact this.imp fun {a b} hab e => hab (by rw [e])
  · unfold cutS at ht
    obtain ⟨m, _, e⟩ := List.mem_filterMap.1 ht
    exact (findTy_some e).1
theorem sub_ref {S T : List Ty} {ns : List Name} {k : Kd} (h : Ren S T ns id) (hk : inN ns k) : refOk T k := fun hb => by
  obtain ⟨u, _, e2, _, _⟩ := h.get _ (hk hb)
  rw [show findTy T k.name = some (renY id u) from e2]; rfl
theorem cut_used (hS : scOk S) (hr : refOk S k) : usedL (cutS S (usedL S k)) k = usedL S k := (cut_ren hS hr).used 9 k [] (used_in hS hr)
theorem cut_cut (hS : scOk S) (hr : refOk S k) : cutS (cutS S (usedL S k)) (usedL S k) = cutS S (usedL S k) := by
  have hren := cut_ren hS hr
  generalize usedL S k = ns at *
  have key : ∀ l : List Name, (∀ x ∈ l, x ∈ ns) → l.filterMap (findTy (cutS S ns)) = l.filterMap (findTy S) := by
    intro l
    induction l with
    | nil => intro _; rfl
    | cons x l ih =>
      intro hl
      obtain ⟨t, e1, e2, _, _⟩ := hren.get x (hl x (by simp))
      rw [renY_id] at e2
      rw [List.filterMap_cons, List.filterMap_cons, ih (fun y hy => hl y (by simp [hy])), e1, show findTy (cutS S ns) x = some t from e2]
  exact key ns fun x hx => hx
end
/-- Types that are the same under the same names read each other. -/
theorem sub_reads {S T : List Ty} {ns : List Name} {k : Kd} (h : Ren S T ns id) (hk : inN ns k) : readsK S T k k = true ∧ readsK T S k k = true := by
  have hT : Ren T T ns id := ⟨fun n hn => by
    obtain ⟨t, e1, e2, e3, e4⟩ := h.get n hn
    rw [renY_id] at e2
    exact ⟨t, e2, by rw [renY_id]; exact e2, e3, e4⟩, fun a _ b _ e => e⟩
  exact ⟨reads_of_rel (Ren.rel2 h hT) ⟨rfl, rfl, fun hb => ⟨hk hb, hk hb, rfl⟩⟩, reads_of_rel (Ren.rel2 hT h) ⟨rfl, rfl, fun hb => ⟨hk hb, hk hb, rfl⟩⟩⟩

theorem cut_law {s d x : List UInt8} (h : cutL' (bothL s d) = some x) :
    ∃ S k, bothL s d = some (S, k) ∧ x = scB (cutS S (usedL S k)) ∧ x.length ≤ 400 ∧ bothL x d = some (cutS S (usedL S k), k) ∧ schemaL x = some (cutS S (usedL S k)) ∧ namesOf (cutS S (usedL S k)) = usedL S k ∧ cutL' (bothL x d) = some x ∧
      evolveL (bothL s d) (bothL x d) = true ∧ evolveL (bothL x d) (bothL s d) = true := by
  cases hb : bothL s d with
  | none => rw [hb] at h; cases h
  | some y =>
    obtain ⟨S, k⟩ := y
    obtain ⟨g1, g2, g3, g4, g5, g6⟩ := bothL_good hb
    rw [hb] at h
    simp only [cutL'] at h
    injection h with h
    have hl : x.length ≤ 400 := by rw [← h]; exact Nat.le_trans (cut_len g1 g6) (by rw [g3]; exact g2)
    have hsc : schemaL x = some (cutS S (usedL S k)) := schemaL_some.2 ⟨cut_ok g1 g6, hl, h⟩
    have hbx : bothL x d = some (cutS S (usedL S k), k) := by
      unfold bothL
      rw [hsc, (bothL_some hb).2.1]
      simp only
      rw [if_pos (sub_ref (cut_ren g1 g6) (used_in g1 g6))]
    obtain ⟨r1, r2⟩ := sub_reads (cut_ren g1 g6) (used_in g1 g6)
    refine ⟨S, k, rfl, h.symm, hl, hbx, hsc, cut_names g1 g6, ?_, ?_, ?_⟩
    · rw [hbx]
      simp only [cutL']
      rw [cut_used g1 g6, cut_cut g1 g6, h]
    · rw [hbx]; exact r1
    · rw [hbx]; exact r2

/-! ### lines from the last to the first -/
def revT : List UInt8 → List UInt8 → List UInt8 → List UInt8
  | [], _, t => t
  | c :: r, cur, t => if c = 10 then revT r [] (cur ++ 10 :: t) else revT r (cur ++ [c]) t
theorem revT_line : ∀ (p : List UInt8), 10 ∉ p → ∀ (r cur t : List UInt8), revT (p ++ 10 :: r) cur t = revT r [] (cur ++ p ++ 10 :: t)
  | [], _, r, cur, t => by simp [revT]
  | c :: p, h, r, cur, t => by
    simp only [List.mem_cons, not_or] at h
    rw [List.cons_append, revT, if_neg (fun e => h.1 e.symm), revT_line p h.2]
    simp
theorem revT_scB : ∀ (S : List Ty), (∀ t ∈ S, tyOk t) → ∀ (U : List Ty), revT (scB S) [] (scB U) = scB (S.reverse ++ U)
  | [], _, U => by simp [scB, revT]
  | t :: S, h, U => by
    rw [scB_cons, revT_line _ (tyB_plain (h t (by simp))).1, List.nil_append, ← scB_cons, revT_scB S (fun u hu => h u (by simp [hu]))]
    simp
theorem findTy_rev {S : List Ty} (hp : S.Pairwise fun t u => t.name ≠ u.name) (n : Name) : findTy S.reverse n = findTy S n := by
  have hp2 : S.reverse.Pairwise fun t u => t.name ≠ u.name := List.pairwise_reverse.2 (hp.imp fun h e => h e.symm)
  cases h : findTy S n with
  | some t =>
    obtain ⟨h1, h2⟩ := findTy_some h
    have := findTy_mem hp2 (List.mem_reverse.2 h1)
    rwa [h2] at this
  | none =>
    cases h2 : findTy S.reverse n with
    | none => rfl
    | some t =>
      obtain ⟨h3, h4⟩ := findTy_some h2
      exact absurd h4 (findTy_none h t (List.mem_reverse.1 h3))
theorem rev_ren {S : List Ty} (hS : scOk S) : Ren S S.reverse (namesOf S) id := by
  refine ⟨fun n hn => ?_, fun a _ b _ e => e⟩
  obtain ⟨t, ht⟩ := mem_names hn
  refine ⟨t, ht, ?_, hS.1.1 t (findTy_some ht).1, fun h69 f hf hb => findTy_isSome.1 (hS.2.1 t (findTy_some ht).1 h69 f hf hb)⟩
  rw [renY_id]
  exact (findTy_rev hS.1.2.2 n).trans ht
theorem rev_ok {S : List Ty} (hS : scOk S) : scOk S.reverse := by
  have hr := rev_ren hS
  refine ⟨⟨fun t ht => hS.1.1 t (List.mem_reverse.1 ht), by simpa using hS.1.2.1, List.pairwise_reverse.2 (hS.1.2.2.imp fun h e => h e.symm)⟩, fun t ht h69 f hf hb => ?_, fun t ht => ?_⟩
  · rw [findTy_rev hS.1.2.2]; exact hS.2.1 t (List.mem_reverse.1 ht) h69 f hf hb
  · have ht' := List.mem_reverse.1 ht
    have := hr.ends 9 t (fun h69 f hf hb => findTy_isSome.1 (hS.2.1 t ht' h69 f hf hb))
    rw [renY_id] at this
    rw [this]; exact hS.2.2 t ht'
theorem ref_in {S : List Ty} {k : Kd} (hr : refOk S k) : inN (namesOf S) k := fun hb => findTy_isSome.1 (hr hb)
theorem rev_len (S : List Ty) : (scB S.reverse).length = (scB S).length := by
  rw [scB_len, scB_len, List.map_reverse]
  exact (List.reverse_perm _).sum_nat
/-- A schema with its lines from the last to the first: the same kinds, met and used alike. -/
theorem rev_law {s d : List UInt8} {S : List Ty} {k : Kd} (h : bothL s d = some (S, k)) :
    revT s [] [] = scB S.reverse ∧ (revT s [] []).length ≤ 400 ∧ schemaL (revT s [] []) = some S.reverse ∧ bothL (revT s [] []) d = some (S.reverse, k) ∧ usedL S.reverse k = usedL S k ∧
      evolveL (bothL s d) (bothL (revT s [] []) d) = true ∧ evolveL (bothL (revT s [] []) d) (bothL s d) = true ∧ formL (bothL (revT s [] []) d) = formL (bothL s d) := by
  obtain ⟨g1, g2, g3, g4, g5, g6⟩ := bothL_good h
  have e : revT s [] [] = scB S.reverse := by
    have := revT_scB S g1.1.1 []
    rw [show scB [] = [] from rfl, List.append_nil, g3] at this
    exact this
  have hl : (revT s [] []).length ≤ 400 := by rw [e, rev_len, g3]; exact g2
  have hsc : schemaL (revT s [] []) = some S.reverse := schemaL_some.2 ⟨rev_ok g1, hl, e.symm⟩
  have hren := rev_ren g1
  have hb : bothL (revT s [] []) d = some (S.reverse, k) := by
    unfold bothL
    rw [hsc, (bothL_some h).2.1]
    simp only
    rw [if_pos (sub_ref hren (ref_in g6))]
  obtain ⟨r1, r2⟩ := sub_reads hren (ref_in g6)
  refine ⟨e, hl, hsc, hb, hren.used 9 k [] (ref_in g6), ?_, ?_, ?_⟩
  · rw [h, hb]; exact r1
  · rw [h, hb]; exact r2
  · rw [h, hb]
    have em : metL S.reverse k = metL S k := by
      have := (hren.met 9 k [] (ref_in g6) (by simp)).1
      rw [renK_id] at this
      simpa [metL] using this
    have ef : ∀ ns, formS S.reverse ns = formS S ns := fun ns => by
      unfold formS
      congr 1
      funext n
      rw [findTy_rev g1.1.2.2]
    simp only [formL]
    rw [em, ef]
end Go.Proofs.YtdhinlhafoiaiaaGreatDoor
/- Plain laws: a text with short runs of signs has kinds with few signs; a schema of few bytes and few signs has a form. No program in sight. -/
namespace Go.Proofs.YtdhinlhafoiaiaaGreatDoor
set_option linter.unusedVariables false

/-! ### kinds of a text -/
theorem joinL_part {c : UInt8} : ∀ {ps : List (List UInt8)} {p : List UInt8}, p ∈ ps → ∃ a b, joinL c ps = a ++ (p ++ b)
  | [q], p, h => by
    simp at h; subst h
    exact ⟨[], [], by simp [joinL]⟩
  | q :: r :: ps, p, h => by
    rw [joinL_cons c q (by simp)]
    rcases List.mem_cons.1 h with rfl | h
    · exact ⟨[], c :: joinL c (r :: ps), by simp⟩
    · obtain ⟨a, b, e⟩ := joinL_part (c := c) h
      exact ⟨q ++ c :: a, b, by rw [e]; simp⟩
theorem scB_part : ∀ {S : List Ty} {t : Ty}, t ∈ S → ∃ a b, scB S = a ++ (tyB t ++ b)
  | u :: S, t, h => by
    rcases List.mem_cons.1 h with rfl | h
    · exact ⟨[], 10 :: scB S, by rw [scB_cons]; simp⟩
    · obtain ⟨a, b, e⟩ := scB_part h
      exact ⟨tyB u ++ 10 :: a, b, by rw [scB_cons, e]; simp⟩
theorem few_signs {S : List Ty} {s : List UInt8} (hs : scB S = s) (hn : NoRun s) : ∀ t ∈ S, t.sort ≠ 69 → ∀ f ∈ t.fields, f.kind.signs.all isSign = true → f.kind.base = [64] → f.kind.signs.length ≤ 8 := by
  intro t ht h69 f hf hsg hb
  obtain ⟨a, b, e⟩ := scB_part ht
  obtain ⟨a2, b2, e2⟩ := joinL_part (c := 44) (List.mem_map.2 ⟨f, hf, rfl⟩ : fdB t.sort f ∈ t.fields.map (fdB t.sort))
  have e3 : fdB t.sort f = (decB f.tag ++ 58 :: (f.name ++ [58])) ++ (f.kind.signs ++ 64 :: (f.kind.name ++ 59 :: if f.given = [] then [] else 61 :: f.given)) := by
    unfold fdB tailB kdB coreB
    rw [if_neg h69, if_pos hb]
    simp
  refine hn (a ++ (t.sort :: (t.name ++ 61 :: (a2 ++ (decB f.tag ++ 58 :: (f.name ++ [58])))))) f.kind.signs ((f.kind.name ++ 59 :: if f.given = [] then [] else 61 :: f.given) ++ (b2 ++ b)) ?_ hsg
  rw [← hs, e]
  unfold tyB
  rw [e2, e3]
  simp

/-! ### a form there is -/
theorem kdB_form_len {ns : List Name} {k : Kd} (hk : kdOk k) : (kdB (formK ns k)).length ≤ (kdB k).length + 1 := by
  unfold formK
  split
  · rename_i hb
    have hn : 1 ≤ k.name.length := by
      rcases hk.2.1 with ⟨_, hn⟩ | ⟨hb2, _⟩
      · exact (nameOk_iff.1 hn).1
      · rcases hb2 with h | h | h <;> rw [hb] at h <;> simp at h
    unfold kdB coreB
    simp only
    rw [if_pos hb, if_pos hb]
    simp [newN]; omega
  · omega
theorem fdB_form_len {ns : List Name} {st : UInt8} {f : Fd} (hf : fdOk st f) : (fdB st (formF ns st f)).length ≤ (fdB st f).length + 1 := by
  unfold formF
  by_cases h69 : st = 69
  · rw [if_pos h69]; omega
  · rw [if_neg h69]
    have := kdB_form_len (ns := ns) (hf.2.2.2.2 h69).1
    unfold fdB tailB
    rw [if_neg h69, if_neg h69]
    simp only [List.length_append, List.length_cons]
    omega
theorem joinL_sum (c : UInt8) : ∀ ps : List (List UInt8), (joinL c ps).length + 1 ≤ (ps.map fun p => p.length + 1).sum + 1 ∧ (ps ≠ [] → (joinL c ps).length + 1 = (ps.map fun p => p.length + 1).sum)
  | [] => ⟨by simp [joinL], fun h => absurd rfl h⟩
  | [p] => by simp [joinL]
  | p :: q :: ps => by
    obtain ⟨_, ih⟩ := joinL_sum c (q :: ps)
    have ih := ih (by simp)
    rw [joinL_cons c p (by simp)]
    simp only [List.map_cons, List.sum_cons, List.length_append, List.length_cons] at ih ⊢
    exact ⟨by omega, fun _ => by omega⟩
theorem fd_len {st : UInt8} {f : Fd} (hf : fdOk st f) : 3 ≤ (fdB st f).length := by
  have h1 : 1 ≤ (decB f.tag).length := List.length_pos_iff.2 (decB_ne _)
  have h2 := (nameOk_iff.1 hf.2.2.1).1
  unfold fdB
  simp only [List.length_append, List.length_cons]
  omega
theorem sum_form {st : UInt8} (g : Fd → Fd) (hg : ∀ f, fdOk st f → (fdB st (g f)).length ≤ (fdB st f).length + 1) : ∀ fs : List Fd, (∀ f ∈ fs, fdOk st f) → ((fs.map fun f => (fdB st (g f)).length + 1).sum ≤ (fs.map fun f => (fdB st f).length + 1).sum + fs.length ∧ 4 * fs.length ≤ (fs.map fun f => (fdB st f).length + 1).sum)
  | [], _ => by simp
  | f :: fs, h => by
    obtain ⟨i1, i2⟩ := sum_form g hg fs (fun x hx => h x (by simp [hx]))
    have h1 := hg f (h f (by simp))
    have h2 := fd_len (h f (by simp))
    simp only [List.map_cons, List.sum_cons, List.length_cons]
    omega
theorem tyB_form_len {ns : List Name} {t : Ty} (ht : tyOk t) : 4 * ((tyB (formY ns t)).length + 1) ≤ 5 * ((tyB t).length + 1) + 4 := by
  obtain ⟨h1, h2, h3, _, _⟩ := ht
  have hn := (nameOk_iff.1 h2).1
  have hs := sum_form (st := t.sort) (formF ns t.sort) (fun f hf => fdB_form_len hf) t.fields h3.1
  have e1 : (tyB (formY ns t)).length = 4 + (joinL 44 ((t.fields.map (formF ns t.sort)).map (fdB t.sort))).length := by
    show (t.sort :: (newN ns t.name ++ 61 :: joinL 44 ((t.fields.map (formF ns t.sort)).map (fdB t.sort)))).length = _
    simp [newN]; omega
  have e2 : (tyB t).length = 2 + t.name.length + (joinL 44 (t.fields.map (fdB t.sort))).length := by
    unfold tyB; simp; omega
  rw [e1, e2]
  rw [List.map_map]
  have e3 : (t.fields.map (fdB t.sort ∘ formF ns t.sort)).map (fun p => p.length + 1) = t.fields.map fun f => (fdB t.sort (formF ns t.sort f)).length + 1 := by rw [List.map_map]; rfl
  have e4 : (t.fields.map (fdB t.sort)).map (fun p => p.length + 1) = t.fields.map fun f => (fdB t.sort f).length + 1 := by rw [List.map_map]; rfl
  by_cases hf : t.fields = []
  · rw [hf]; simp [joinL]; omega
  · have j1 := (joinL_sum 44 (t.fields.map (fdB t.sort ∘ formF ns t.sort))).2 (by simpa using hf)
    have j2 := (joinL_sum 44 (t.fields.map (fdB t.sort))).2 (by simpa using hf)
    rw [e3] at j1
    rw [e4] at j2
    omega
theorem sum_le {α : Type} (f g : α → Nat) : ∀ l : List α, (∀ x ∈ l, 4 * f x ≤ 5 * g x + 4) → 4 * (l.map f).sum ≤ 5 * (l.map g).sum + 4 * l.length
  | [], _ => by simp
  | x :: l, h => by
    have ih := sum_le f g l (fun y hy => h y (by simp [hy]))
    have := h x (by simp)
    simp only [List.map_cons, List.sum_cons, List.length_cons]
    omega
theorem formS_cut (S : List Ty) (ns : List Name) : formS S ns = (cutS S ns).map (formY ns) := by
  unfold formS cutS
  rw [List.map_filterMap]
theorem form_ok {S : List Ty} {k : Kd} (hS : scOk S) (hr : refOk S k) (h1 : ∀ t ∈ formS S (metL S k), tyOk t) : scOk (formS S (metL S k)) := by
  have hren := form_ren hS hr
  have h8 := met_len hS hr
  have hnm : namesOf (formS S (metL S k)) = (metL S k).map (newN (metL S k)) := by rw [formS_ren]; exact renS_names (met_mets hS hr).2
  have hp : (formS S (metL S k)).Pairwise fun t u => t.name ≠ u.name := by
    have : (namesOf (formS S (metL S k))).Nodup := by rw [hnm]; exact nodup_map (met_mets hS hr).1 (form_inj hS hr)
    unfold namesOf at this
    rw [List.nodup_iff_pairwise_ne, List.pairwise_map] at this
    exact this
  have hmem : ∀ u ∈ formS S (metL S k), ∃ t ∈ S, u = renY (newN (metL S k)) t ∧ (t.sort ≠ 69 → ∀ f ∈ t.fields, inN (metL S k) f.kind) := fun u hu => by
    obtain ⟨m, hm, t, ht, rfl⟩ := renS_mem (by rw [formS_ren] at hu; exact hu)
    obtain ⟨t2, e1, _, _, e4⟩ := hren.get m hm
    rw [ht] at e1; injection e1 with e1; subst e1
    exact ⟨t, (findTy_some ht).1, rfl, e4⟩
  refine ⟨⟨h1, ?_, hp⟩, fun u hu h69 f hf hb => ?_, fun u hu => ?_⟩
  · have : (namesOf (formS S (metL S k))).length = (metL S k).length := by rw [hnm]; simp
    simp only [namesOf, List.length_map] at this
    omega
  · obtain ⟨t, ht, rfl, hin⟩ := hmem u hu
    have h69' : t.sort ≠ 69 := h69
    obtain ⟨g, hg, rfl⟩ := List.mem_map.1 hf
    rw [renF_kind h69', renK_base] at hb
    rw [renF_kind h69', renK_name hb]
    obtain ⟨v, _, e2, _, _⟩ := hren.get _ (hin h69' g hg hb)
    rw [e2]; rfl
  · obtain ⟨t, ht, rfl, hin⟩ := hmem u hu
    rw [hren.ends 9 t hin]
    exact hS.2.2 t ht
theorem form_some {S : List Ty} {k : Kd} (hS : scOk S) (hk : kdOk k) (hr : refOk S k) (h1 : ∀ t ∈ S, t.sort ≠ 69 → ∀ f ∈ t.fields, f.kind.base = [64] → f.kind.signs.length ≤ 8) (h2 : k.base = [64] → k.signs.length ≤ 8) (hl : (scB S).length ≤ 300) :
    (bothL (scB (formS S (metL S k))) (kdB (formK (metL S k) k))).isSome = true := by
  have h8 := met_len hS hr
  have hkd : ∀ q : Kd, kdOk q → (q.base = [64] → q.signs.length ≤ 8) → kdOk (formK (metL S k) q) := fun q hq hq2 => by
    have hW := formK_W h8 (k := q) ⟨hq.1, hq.2.1⟩
    refine ⟨hW.1, hW.2, ?_⟩
    unfold formK
    by_cases hb : q.base = [64]
    · rw [if_pos hb]
      have := hq2 hb
      unfold kdB coreB
      simp only
      rw [if_pos hb]
      simp [newN]; omega
    · rw [if_neg hb]; exact hq.2.2
  have hty : ∀ t ∈ formS S (metL S k), tyOk t := fun u hu => by
    obtain ⟨m, hm, t, ht, rfl⟩ := renS_mem (by rw [formS_ren] at hu; exact hu)
    have htS := (findTy_some ht).1
    have hto := hS.1.1 t htS
    obtain ⟨w1, w2, w3, w4, w5⟩ := formY_W h8 hto
    refine ⟨w1, w2, ⟨fun f hf => ?_, w3.2⟩, w4, w5⟩
    obtain ⟨g, hg, rfl⟩ := List.mem_map.1 hf
    obtain ⟨g1, g2, g3, g4, g5⟩ := w3.1 _ hf
    refine ⟨g1, g2, g3, g4, fun h69 => ⟨?_, (g5 h69).2⟩⟩
    have h69' : t.sort ≠ 69 := h69
    rw [renF_kind h69']
    exact hkd g.kind (((hto.2.2.1.1 g hg).2.2.2.2 h69').1) (h1 t htS h69' g hg)
  have hlen : (scB (formS S (metL S k))).length ≤ 400 := by
    have hp := (used_perm S k).2
    have hcl : (scB (cutS S (metL S k))).length ≤ 300 := by
      have e : (cutS S (metL S k)).Perm (cutS S (usedL S k)) := hp.symm.filterMap _
      have := (e.map fun t => (tyB t).length + 1).sum_nat
      rw [scB_len, this, ← scB_len]
      exact Nat.le_trans (cut_len hS hr) hl
    have hc8 : (cutS S (metL S k)).length ≤ 8 := by
      rw [cutS_ren, renS_len (met_mets hS hr).2]; exact h8
    have hcm : ∀ t ∈ cutS S (metL S k), tyOk t := fun t ht => by
      unfold cutS at ht
      obtain ⟨m, _, e⟩ := List.mem_filterMap.1 ht
      exact hS.1.1 t (findTy_some e).1
    rw [formS_cut, scB_len, List.map_map]
    rw [scB_len] at hcl
    have := sum_le ((fun t => (tyB t).length + 1) ∘ formY (metL S k)) (fun t => (tyB t).length + 1) (cutS S (metL S k)) (fun t ht => tyB_form_len (hcm t ht))
    omega
  have hsc : schemaL (scB (formS S (metL S k))) = some (formS S (metL S k)) := schemaL_some.2 ⟨form_ok hS hr hty, hlen, rfl⟩
  have hkk : kindL (kdB (formK (metL S k) k)) = some (formK (metL S k) k) := kindL_some.2 ⟨hkd k hk h2, rfl⟩
  have hre : refOk (formS S (metL S k)) (formK (metL S k) k) := fun hb => by
    rw [formK_ren, renK_base] at hb
    rw [formK_ren, renK_name hb]
    obtain ⟨v, _, e2, _, _⟩ := (form_ren hS hr).get _ (form_in hS hr hb)
    rw [e2]; rfl
  unfold bothL
  rw [hsc, hkk]
  simp only
  rw [if_pos hre]; rfl
end Go.Proofs.YtdhinlhafoiaiaaGreatDoor
/- Plain laws: kinds with a sign ahead read each other as those behind it; a kind reads itself where it is one. No program in sight. -/
namespace Go.Proofs.YtdhinlhafoiaiaaGreatDoor
set_option linter.unusedVariables false

/-- A kind with a sign ahead. -/
def preK (c : UInt8) (k : Kd) : Kd := { k with signs := c :: k.signs }
theorem kindL_pre {c : UInt8} (hc : isSign c = true) {d : List UInt8} (h : d.length ≤ 11) : kindL (c :: d) = (kindL d).map (preK c) := by
  have e1 : (c :: d).dropWhile isSign = d.dropWhile isSign := by simp [hc]
  have e2 : (c :: d).takeWhile isSign = c :: d.takeWhile isSign := by simp [hc]
  unfold kindL
  rw [e1, e2]
  have l1 : ¬ 12 < (c :: d).length := by simp; omega
  have l2 : ¬ 12 < d.length := by omega
  rw [if_neg l1, if_neg l2]
  by_cases h1 : d.dropWhile isSign = [110] ∨ d.dropWhile isSign = [116] ∨ d.dropWhile isSign = [102]
  · rw [if_pos h1, if_pos h1]; rfl
  · rw [if_neg h1, if_neg h1]
    split <;> rfl
theorem bothL_pre {c : UInt8} (hc : isSign c = true) {s d : List UInt8} (h : d.length ≤ 11) : bothL s (c :: d) = (bothL s d).map fun x => (x.1, preK c x.2) := by
  unfold bothL
  cases schemaL s with
  | none => rfl
  | some S =>
    simp only
    rw [kindL_pre hc h]
    cases kindL d with
    | none => rfl
    | some k =>
      simp only [Option.map_some]
      by_cases hr : refOk S k
      · rw [if_pos hr, if_pos (show refOk S (preK c k) from hr)]; rfl
      · rw [if_neg hr, if_neg (show ¬ refOk S (preK c k) from hr)]; rfl
theorem readsK_pre (S T : List Ty) (c : UInt8) (a b : Kd) : readsK S T (preK c a) (preK c b) = readsK S T a b := by
  unfold readsK evK
  simp [preK]
theorem readsK_pre_ne (S T : List Ty) {c e : UInt8} (h : c ≠ e) (a b : Kd) : readsK S T (preK c a) (preK e b) = false := by
  unfold readsK evK
  rw [if_pos (.inl (by simp [preK, h]))]
theorem evolve_pre {c : UInt8} (hc : isSign c = true) {s d t e : List UInt8} (h1 : d.length ≤ 11) (h2 : e.length ≤ 11) : evolveL (bothL s (c :: d)) (bothL t (c :: e)) = evolveL (bothL s d) (bothL t e) := by
  rw [bothL_pre hc h1, bothL_pre hc h2]
  cases bothL s d with
  | none => rfl
  | some x => cases bothL t e with
    | none => rfl
    | some y => exact readsK_pre _ _ _ _ _
theorem evolve_pre_ne {s d t e : List UInt8} (h1 : d.length ≤ 11) (h2 : e.length ≤ 11) : evolveL (bothL s (91 :: d)) (bothL t (63 :: e)) = false := by
  rw [bothL_pre (by decide) h1, bothL_pre (by decide) h2]
  cases bothL s d with
  | none => rfl
  | some x => cases bothL t e with
    | none => rfl
    | some y => exact readsK_pre_ne _ _ (by decide) _ _
theorem evolve_self (s d : List UInt8) : evolveL (bothL s d) (bothL s d) = (bothL s d).isSome := by
  cases h : bothL s d with
  | none => rfl
  | some x =>
    obtain ⟨S, k⟩ := x
    obtain ⟨g1, _, _, _, _, g6⟩ := bothL_good h
    exact readsK_self g1 g6
end Go.Proofs.YtdhinlhafoiaiaaGreatDoor
