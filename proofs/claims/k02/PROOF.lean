import PyProof.Rows.All
import Wide.All
import OpenK.AllK
import Wide.FinOn
import HandS.ForMost
import HandS.ForExc
import HandS.HeadHook1
import HandS.Wide
import HandS.WideMore
import HandS.TupMul
import HandS.TupLe
import HandS.CallSlots
import HandS.Flow
import HandS.WordsExc
import HandS.HeadEnd
import HandS.HeadHook2
import HandS.HeadHook3
import HandS.HeadHook4
import HandS.EndBits
import KE.DataEq
import HandS.Head0
import HandS.Head1
import HandS.Head2
import PySem.Challenge.RW_drawever_k02_wrapping_and_folding
set_option Elab.async false
set_option linter.all false
set_option maxRecDepth 100000
set_option maxHeartbeats 4000000
/-! Ev: a small evaluator of the text's own syntax over plain values, and its soundness over the hand layer. -/
namespace Ev
open PySem PySem.Spec PyProof.Rows L2
/-! ### values, objects -/
inductive AV where
  | non | bl (b : Bool) | int (i : Int) | str (x : Str) | tup (xs : List AV) | ref (i : Nat) | kd (x : Str)
inductive AO where
  | lst (xs : List AV)
  | fro (xs : List AV)
  | dct (kvs : List (AV × AV))
  | ins (c : Str) (fs : List (Str × AV))
abbrev AH := List AO
abbrev Sl := List (Option AV)
mutual
def VR (K : PySem.W.Frag) (ρ : List Addr) (H : Hp) : AV → V → Prop
  | .non, v => v = .non
  | .bl b, v => v = .bl b
  | .int i, v => v = .int i
  | .str x, v => v = .str x
  | .tup xs, v => ∃ a ys, v = .ref a ∧ SqT K H a ys ∧ VRs K ρ H xs ys
  | .ref i, v => ∃ a, ρ[i]? = some a ∧ v = .ref a
  | .kd x, v => v = .ref (He.ga K x)
def VRs (K : PySem.W.Frag) (ρ : List Addr) (H : Hp) : List AV → List V → Prop
  | [], ys => ys = []
  | x :: xs, ys => ∃ y r, ys = y :: r ∧ VR K ρ H x y ∧ VRs K ρ H xs r
end
section
variable {K : PySem.W.Frag} {ρ ρ' : List Addr} {H H' : Hp}
theorem VR.tup {xs : List AV} {v : V} : VR K ρ H (.tup xs) v ↔ ∃ a ys, v = .ref a ∧ SqT K H a ys ∧ VRs K ρ H xs ys := by rw [VR]
theorem VR.ref {i : Nat} {v : V} : VR K ρ H (.ref i) v ↔ ∃ a, ρ[i]? = some a ∧ v = .ref a := by rw [VR]
theorem VR.kd {x : Str} {v : V} : VR K ρ H (.kd x) v ↔ v = .ref (He.ga K x) := by rw [VR]
theorem VR.int {i : Int} {v : V} : VR K ρ H (.int i) v ↔ v = .int i := by rw [VR]
theorem VR.bl {i : Bool} {v : V} : VR K ρ H (.bl i) v ↔ v = .bl i := by rw [VR]
theorem VR.str {i : Str} {v : V} : VR K ρ H (.str i) v ↔ v = .str i := by rw [VR]
theorem VR.non {v : V} : VR K ρ H .non v ↔ v = .non := by rw [VR]
theorem VRs.nil {ys : List V} : VRs K ρ H [] ys ↔ ys = [] := by rw [VRs]
theorem VRs.cons {x : AV} {xs : List AV} {ys : List V} : VRs K ρ H (x :: xs) ys ↔ ∃ y r, ys = y :: r ∧ VR K ρ H x y ∧ VRs K ρ H xs r := by rw [VRs]
/-- the heap has grown or was written at tracked lists: tuples stay -/
structure Ext (ρ : List Addr) (H : Hp) (ρ' : List Addr) (H' : Hp) : Prop where
  tup : ∀ a xs, H a = some (.tup xs) → H' a = some (.tup xs)
  frz : ∀ a o u, H a = some (.frz o u) → H' a = some (.frz o u)
  ref : ∀ (i : Nat) (a : Addr), ρ[i]? = some a → ρ'[i]? = some a
theorem Ext.refl : Ext ρ H ρ H := ⟨fun _ _ h => h, fun _ _ _ h => h, fun _ _ h => h⟩
theorem Ext.trans {ρ2 : List Addr} {H2 : Hp} (a : Ext ρ H ρ' H') (b : Ext ρ' H' ρ2 H2) : Ext ρ H ρ2 H2 :=
  ⟨fun c xs h => b.tup c xs (a.tup c xs h), fun c o u h => b.frz c o u (a.frz c o u h), fun i c h => b.ref i c (a.ref i c h)⟩
theorem Ext.sqT (e : Ext ρ H ρ' H') {a : Addr} {xs : List V} (h : SqT K H a xs) : SqT K H' a xs := by
  rcases h with (h | ⟨o, h⟩) | h
  · exact .inl (.inl (e.tup _ _ h))
  · exact .inl (.inr ⟨o, e.frz _ _ _ h⟩)
  · exact .inr h
mutual
theorem VR.mono (e : Ext ρ H ρ' H') : ∀ {x : AV} {v : V}, VR K ρ H x v → VR K ρ' H' x v
  | .non, v, h => VR.non.mpr (VR.non.mp h)
  | .bl b, v, h => VR.bl.mpr (VR.bl.mp h)
  | .int i, v, h => VR.int.mpr (VR.int.mp h)
  | .str x, v, h => VR.str.mpr (VR.str.mp h)
  | .tup xs, v, h => by
    obtain ⟨a, ys, e1, h1, h2⟩ := VR.tup.mp h
    exact VR.tup.mpr ⟨a, ys, e1, e.sqT h1, VRs.mono e h2⟩
  | .ref i, v, h => by
    obtain ⟨a, h1, h2⟩ := VR.ref.mp h
    exact VR.ref.mpr ⟨a, e.ref _ _ h1, h2⟩
  | .kd x, v, h => VR.kd.mpr (VR.kd.mp h)
theorem VRs.mono (e : Ext ρ H ρ' H') : ∀ {xs : List AV} {ys : List V}, VRs K ρ H xs ys → VRs K ρ' H' xs ys
  | [], ys, h => VRs.nil.mpr (VRs.nil.mp h)
  | x :: xs, ys, h => by
    obtain ⟨y, r, e1, h1, h2⟩ := VRs.cons.mp h
    exact VRs.cons.mpr ⟨y, r, e1, VR.mono e h1, VRs.mono e h2⟩
end
theorem VRs.length : ∀ {xs : List AV} {ys : List V}, VRs K ρ H xs ys → xs.length = ys.length
  | [], ys, h => by rw [VRs.nil.mp h]; rfl
  | x :: xs, ys, h => by
    obtain ⟨y, r, rfl, _, h2⟩ := VRs.cons.mp h
    simp [VRs.length h2]
theorem VRs.get : ∀ {xs : List AV} {ys : List V} {i : Nat} {x : AV}, VRs K ρ H xs ys → xs[i]? = some x → ∃ y, ys[i]? = some y ∧ VR K ρ H x y
  | x :: xs, ys, 0, z, h, e => by
    obtain ⟨y, r, rfl, h1, _⟩ := VRs.cons.mp h
    obtain rfl : x = z := by simpa using e
    exact ⟨y, rfl, h1⟩
  | x :: xs, ys, i + 1, z, h, e => by
    obtain ⟨y, r, rfl, _, h2⟩ := VRs.cons.mp h
    obtain ⟨w, h3, h4⟩ := VRs.get (i := i) h2 (by simpa using e)
    exact ⟨w, by simpa using h3, h4⟩
theorem VRs.getV : ∀ {xs : List AV} {ys : List V} {i : Nat} {y : V}, VRs K ρ H xs ys → ys[i]? = some y → ∃ x, xs[i]? = some x ∧ VR K ρ H x y := fun {xs ys i y} h e => by
  have hl : i < xs.length := by rw [h.length]; exact (List.getElem?_eq_some_iff.mp e).1
  obtain ⟨z, h1, h2⟩ := h.get (List.getElem?_eq_getElem hl)
  rw [e] at h1
  cases h1
  exact ⟨_, List.getElem?_eq_getElem hl, h2⟩
theorem VRs.append : ∀ {xs xs' : List AV} {ys ys' : List V}, VRs K ρ H xs ys → VRs K ρ H xs' ys' → VRs K ρ H (xs ++ xs') (ys ++ ys')
  | [], xs', ys, ys', h, h' => by rw [VRs.nil.mp h]; exact h'
  | x :: xs, xs', ys, ys', h, h' => by
    obtain ⟨y, r, rfl, h1, h2⟩ := VRs.cons.mp h
    exact VRs.cons.mpr ⟨y, r ++ ys', rfl, h1, VRs.append h2 h'⟩
theorem VRs.one {x : AV} {y : V} (h : VR K ρ H x y) : VRs K ρ H [x] [y] := VRs.cons.mpr ⟨y, [], rfl, h, VRs.nil.mpr rfl⟩
theorem VRs.set : ∀ {xs : List AV} {ys : List V} {x : AV} {y : V} (i : Nat), VRs K ρ H xs ys → VR K ρ H x y → VRs K ρ H (xs.set i x) (ys.set i y)
  | [], ys, x, y, i, h, _ => by rw [VRs.nil.mp h]; exact VRs.nil.mpr (by simp)
  | z :: xs, ys, x, y, 0, h, q => by
    obtain ⟨w, r, rfl, _, h2⟩ := VRs.cons.mp h
    exact VRs.cons.mpr ⟨y, r, rfl, q, h2⟩
  | z :: xs, ys, x, y, i + 1, h, q => by
    obtain ⟨w, r, rfl, h1, h2⟩ := VRs.cons.mp h
    exact VRs.cons.mpr ⟨w, r.set i y, rfl, h1, VRs.set i h2 q⟩
theorem VRs.drop : ∀ {xs : List AV} {ys : List V} (n : Nat), VRs K ρ H xs ys → VRs K ρ H (xs.drop n) (ys.drop n)
  | xs, ys, 0, h => by simpa using h
  | [], ys, n + 1, h => by rw [VRs.nil.mp h]; exact VRs.nil.mpr (by simp)
  | x :: xs, ys, n + 1, h => by
    obtain ⟨y, r, rfl, _, h2⟩ := VRs.cons.mp h
    simpa using VRs.drop n h2
theorem VRs.take : ∀ {xs : List AV} {ys : List V} (n : Nat), VRs K ρ H xs ys → VRs K ρ H (xs.take n) (ys.take n)
  | xs, ys, 0, h => by simpa using VRs.nil.mpr rfl
  | [], ys, n + 1, h => by rw [VRs.nil.mp h]; exact VRs.nil.mpr (by simp)
  | x :: xs, ys, n + 1, h => by
    obtain ⟨y, r, rfl, h1, h2⟩ := VRs.cons.mp h
    exact VRs.cons.mpr ⟨y, r.take n, by simp, h1, VRs.take n h2⟩
theorem VRs.of_map {α : Type} {f : α → AV} {g : α → V} (h : ∀ a, VR K ρ H (f a) (g a)) : ∀ l : List α, VRs K ρ H (l.map f) (l.map g)
  | [] => VRs.nil.mpr rfl
  | a :: l => VRs.cons.mpr ⟨g a, l.map g, rfl, h a, VRs.of_map h l⟩
end
/-! ### objects -/
/-- the address of a class of the text -/
abbrev CT := Str → Option Addr
/-- attributes, by name and in order -/
def FR (K : PySem.W.Frag) (ρ : List Addr) (H : Hp) : List (Str × AV) → List (Str × V) → Prop
  | [], gs => gs = []
  | f :: fs, gs => ∃ w r, gs = (f.1, w) :: r ∧ VR K ρ H f.2 w ∧ FR K ρ H fs r
def keyV : AV → Option Key
  | .int i => some (.inl i)
  | .str x => some (.inr x)
  | _ => none
def keysV : List AV → Option (List Key)
  | [] => some []
  | x :: xs => match keyV x, keysV xs with
    | some k, some ks => some (k :: ks)
    | _, _ => none
/-- entries whose keys are ints and texts | tuples of such -/
def DKR (K : PySem.W.Frag) (ρ : List Addr) (H : Hp) : List (AV × AV) → List (Key × V) → Prop
  | [], gs => gs = []
  | f :: fs, gs => ∃ k w r, gs = (k, w) :: r ∧ keyV f.1 = some k ∧ VR K ρ H f.2 w ∧ DKR K ρ H fs r
def DTR (K : PySem.W.Frag) (ρ : List Addr) (H : Hp) : List (AV × AV) → List (List Key × V) → Prop
  | [], gs => gs = []
  | f :: fs, gs => ∃ xs k w r, gs = (k, w) :: r ∧ f.1 = .tup xs ∧ keysV xs = some k ∧ VR K ρ H f.2 w ∧ DTR K ρ H fs r
def OR (K : PySem.W.Frag) (ct : CT) (ρ : List Addr) (H : Hp) (a : Addr) : AO → Prop
  | .lst xs => ∃ ys, H a = some (.lst ys) ∧ VRs K ρ H xs ys
  | .fro xs => ∃ ys, VRs K ρ H xs ys ∧ ((∃ o, H a = some (.frz o (.lst ys))) ∨
      ∃ (o : Obj) (its : Array Value) (n : Nat), K.lookup a = some o ∧ o.cls = .type "list" ∧ o.dict = none ∧ o.data = .seq its n ∧ its.size ≤ sizeLine ∧ Vals ys its.toList)
  | .dct kvs => (∃ gs, H a = some (.dK gs) ∧ DKR K ρ H kvs gs) ∨ (kvs ≠ [] ∧ ∃ gs, H a = some (.dT gs) ∧ DTR K ρ H kvs gs)
  | .ins c fs => ∃ C dx gs, H a = some (.ins C dx gs) ∧ ct c = some C ∧ FR K ρ H fs gs
def isFro (h : AH) (i : Nat) : Prop := ∃ xs, h[i]? = some (.fro xs)
structure HR (K : PySem.W.Frag) (ct : CT) (ρ : List Addr) (H : Hp) (h : AH) : Prop where
  len : ρ.length = h.length
  nd : ∀ (i j : Nat) (a : Addr), ρ[i]? = some a → ρ[j]? = some a → i ≠ j → isFro h i ∨ isFro h j
  ob : ∀ (i : Nat) (a : Addr) (o : AO), ρ[i]? = some a → h[i]? = some o → OR K ct ρ H a o
section
variable {K : PySem.W.Frag} {ct : CT} {ρ ρ' : List Addr} {H H' : Hp} {a p : Addr} {h : AH}
theorem FR.mono (e : Ext ρ H ρ' H') : ∀ {fs : List (Str × AV)} {gs : List (Str × V)}, FR K ρ H fs gs → FR K ρ' H' fs gs
  | [], gs, h => h
  | f :: fs, gs, h => by
    obtain ⟨w, r, e1, h1, h2⟩ := h
    exact ⟨w, r, e1, h1.mono e, FR.mono e h2⟩
theorem DKR.mono (e : Ext ρ H ρ' H') : ∀ {fs : List (AV × AV)} {gs : List (Key × V)}, DKR K ρ H fs gs → DKR K ρ' H' fs gs
  | [], gs, h => h
  | f :: fs, gs, h => by
    obtain ⟨k, w, r, e1, hk, h1, h2⟩ := h
    exact ⟨k, w, r, e1, hk, h1.mono e, DKR.mono e h2⟩
theorem DTR.mono (e : Ext ρ H ρ' H') : ∀ {fs : List (AV × AV)} {gs : List (List Key × V)}, DTR K ρ H fs gs → DTR K ρ' H' fs gs
  | [], gs, h => h
  | f :: fs, gs, h => by
    obtain ⟨xs, k, w, r, e1, hx, hk, h1, h2⟩ := h
    exact ⟨xs, k, w, r, e1, hx, hk, h1.mono e, DTR.mono e h2⟩
theorem OR.mono (e : Ext ρ H ρ' H') (ha : H a ≠ none → H' a = H a) : ∀ {o : AO}, OR K ct ρ H a o → OR K ct ρ' H' a o
  | .lst xs, ⟨ys, h1, h2⟩ => ⟨ys, (ha (by rw [h1]; simp)).trans h1, h2.mono e⟩
  | .fro xs, ⟨ys, h2, .inl ⟨o, h1⟩⟩ => ⟨ys, h2.mono e, .inl ⟨o, e.frz _ _ _ h1⟩⟩
  | .fro xs, ⟨ys, h2, .inr h1⟩ => ⟨ys, h2.mono e, .inr h1⟩
  | .dct kvs, .inl ⟨gs, h1, h2⟩ => .inl ⟨gs, (ha (by rw [h1]; simp)).trans h1, h2.mono e⟩
  | .dct kvs, .inr ⟨n, gs, h1, h2⟩ => .inr ⟨n, gs, (ha (by rw [h1]; simp)).trans h1, h2.mono e⟩
  | .ins c fs, ⟨C, dx, gs, h1, h2, h3⟩ => ⟨C, dx, gs, (ha (by rw [h1]; simp)).trans h1, h2, h3.mono e⟩
/-- an object that is read only leans on nothing that is written -/
theorem OR.fro (e : Ext ρ H ρ' H') {xs : List AV} : OR K ct ρ H a (.fro xs) → OR K ct ρ' H' a (.fro xs)
  | ⟨ys, h2, .inl ⟨o, h1⟩⟩ => ⟨ys, h2.mono e, .inl ⟨o, e.frz _ _ _ h1⟩⟩
  | ⟨ys, h2, .inr h1⟩ => ⟨ys, h2.mono e, .inr h1⟩
theorem OR.tracked : ∀ {o : AO}, (∀ xs, o ≠ .fro xs) → OR K ct ρ H a o → ∃ u, H a = some u
  | .lst xs, _, ⟨ys, h1, h2⟩ => ⟨_, h1⟩
  | .fro xs, n, _ => (n xs rfl).elim
  | .dct kvs, _, .inl ⟨gs, h1, h2⟩ => ⟨_, h1⟩
  | .dct kvs, _, .inr ⟨n, gs, h1, h2⟩ => ⟨_, h1⟩
  | .ins c fs, _, ⟨C, dx, gs, h1, h2, h3⟩ => ⟨_, h1⟩
theorem HR.at_ (r : HR K ct ρ H h) {i : Nat} {o : AO} (e : h[i]? = some o) : ∃ a, ρ[i]? = some a ∧ OR K ct ρ H a o := by
  have hl : i < ρ.length := by rw [r.len]; exact (List.getElem?_eq_some_iff.mp e).1
  exact ⟨ρ[i], List.getElem?_eq_getElem hl, r.ob i _ o (List.getElem?_eq_getElem hl) e⟩
/-- something new that is not tracked here: a tuple -/
theorem Ext.new {u : HO} (hp : H p = none) : Ext ρ H ρ (upd H p u) :=
  ⟨fun a xs e => by rw [upd_ne (ne_of_none e hp)]; exact e, fun a o u e => by rw [upd_ne (ne_of_none e hp)]; exact e, fun _ _ e => e⟩
theorem upd_keep {u : HO} (hp : H p = none) : H a ≠ none → upd H p u a = H a := fun h => upd_ne (by rintro rfl; exact h hp)
theorem HR.new {u : HO} (r : HR K ct ρ H h) (hp : H p = none) : HR K ct ρ (upd H p u) h :=
  ⟨r.len, r.nd, fun i a o e1 e2 => (r.ob i a o e1 e2).mono (Ext.new hp) (upd_keep hp)⟩
/-- a new tracked object -/
theorem Ext.push {u : HO} (hp : H p = none) : Ext ρ H (ρ ++ [p]) (upd H p u) :=
  ⟨(Ext.new (ρ := ρ) hp).tup, (Ext.new (ρ := ρ) hp).frz, fun i a e => by
    rw [List.getElem?_append_left (List.getElem?_eq_some_iff.mp e).1]; exact e⟩
theorem isFro.push {o : AO} {i : Nat} : isFro h i → isFro (h ++ [o]) i := fun ⟨xs, e⟩ => ⟨xs, by rw [List.getElem?_append_left (List.getElem?_eq_some_iff.mp e).1]; exact e⟩
theorem HR.push {u : HO} {o : AO} (r : HR K ct ρ H h) (hp : H p = none) (ho : OR K ct (ρ ++ [p]) (upd H p u) p o) : HR K ct (ρ ++ [p]) (upd H p u) (h ++ [o]) := by
  have old : ∀ (i : Nat) (a : Addr), (ρ ++ [p])[i]? = some a → (i < ρ.length ∧ ρ[i]? = some a) ∨ (i = ρ.length ∧ a = p) := fun i a e => by
    by_cases hi : i < ρ.length
    · rw [List.getElem?_append_left hi] at e
      exact .inl ⟨hi, e⟩
    · have h2 : i < (ρ ++ [p]).length := (List.getElem?_eq_some_iff.mp e).1
      have h3 : i = ρ.length := by simp at h2; omega
      subst h3
      exact .inr ⟨rfl, by simpa using e.symm⟩
  have froP : ∀ (i : Nat), ρ[i]? = some p → isFro h i := fun i e => by
    have hl : i < h.length := by rw [← r.len]; exact (List.getElem?_eq_some_iff.mp e).1
    have e2 := List.getElem?_eq_getElem hl
    by_cases q : ∃ xs, h[i] = .fro xs
    · obtain ⟨xs, q⟩ := q
      exact ⟨xs, by rw [e2, q]⟩
    · obtain ⟨u, hu⟩ := (r.ob i p _ e e2).tracked fun xs z => q ⟨xs, z⟩
      rw [hp] at hu
      cases hu
  refine ⟨by simp [r.len], fun i j a e1 e2 hne => ?_, fun i a o' e1 e2 => ?_⟩
  · rcases old i a e1 with ⟨i1, i2⟩ | ⟨i1, i2⟩
    · rcases old j a e2 with ⟨j1, j2⟩ | ⟨j1, j2⟩
      · exact (r.nd i j a i2 j2 hne).imp isFro.push isFro.push
      · subst j2
        exact .inl (froP i i2).push
    · rcases old j a e2 with ⟨j1, j2⟩ | ⟨j1, j2⟩
      · subst i2
        exact .inr (froP j j2).push
      · exact (hne (i1.trans j1.symm)).elim
  · rcases old i a e1 with ⟨i1, i2⟩ | ⟨i1, i2⟩
    · rw [List.getElem?_append_left (by rw [← r.len]; exact i1)] at e2
      exact (r.ob i a o' i2 e2).mono (Ext.push hp) (upd_keep hp)
    · subst i2
      rw [i1, r.len] at e2
      have e3 : (h ++ [o])[h.length]? = some o := by simp
      rw [e3] at e2
      cases e2
      exact ho
/-- what may be written here -/
def MutO : HO → Prop
  | .tup _ => False
  | .frz _ _ => False
  | _ => True
theorem Ext.write {u u' : HO} (ha : H a = some u) (hm : MutO u) : Ext ρ H ρ (upd H a u') := by
  refine ⟨fun b xs e => ?_, fun b o v e => ?_, fun _ _ e => e⟩
  · rw [upd_ne (by rintro rfl; rw [ha] at e; cases e; exact hm)]; exact e
  · rw [upd_ne (by rintro rfl; rw [ha] at e; cases e; exact hm)]; exact e
theorem notFro {i : Nat} {o : AO} (e : h[i]? = some o) (n : ∀ xs, o ≠ .fro xs) : ¬ isFro h i := fun ⟨xs, q⟩ => by
  rw [e] at q
  exact n xs (Option.some.inj q)
theorem HR.write {u u' : HO} {o : AO} {i : Nat} (r : HR K ct ρ H h) (hi : ρ[i]? = some a) (hf : ¬ isFro h i) (ha : H a = some u) (hm : MutO u) (ho : OR K ct ρ (upd H a u') a o) (hf2 : ∀ xs, o ≠ .fro xs) : HR K ct ρ (upd H a u') (h.set i o) := by
  have hil : i < h.length := by rw [← r.len]; exact (List.getElem?_eq_some_iff.mp hi).1
  have keep : ∀ j, isFro h j → isFro (h.set i o) j := fun j ⟨xs, e⟩ => ⟨xs, by
    rw [List.getElem?_set_ne (by rintro rfl; exact hf ⟨xs, e⟩)]
    exact e⟩
  refine ⟨by simp [r.len], fun j k b e1 e2 hne => (r.nd j k b e1 e2 hne).imp (keep j) (keep k), fun j b o' e1 e2 => ?_⟩
  by_cases hj : j = i
  · subst hj
    rw [hi] at e1
    cases e1
    rw [List.getElem?_set_self hil] at e2
    cases e2
    exact ho
  · rw [List.getElem?_set_ne (fun q => hj q.symm)] at e2
    by_cases hb : b = a
    · subst hb
      rcases r.nd j i b e1 hi hj with ⟨xs, q⟩ | q
      · rw [e2] at q
        cases q
        exact OR.fro (Ext.write ha hm) (r.ob j b _ e1 e2)
      · exact (hf q).elim
    · exact (r.ob j b o' e1 e2).mono (Ext.write ha hm) fun _ => upd_ne hb
end
/-! ### slots -/
def SR (K : PySem.W.Frag) (ρ : List Addr) (H : Hp) (s : Sl) (σ : L2.St) : Prop :=
  s.length = σ.length ∧ ∀ (i : Nat) (x : AV), s[i]? = some (some x) → ∃ v, σ[i]? = some (some v) ∧ VR K ρ H x v
section
variable {K : PySem.W.Frag} {ρ ρ' : List Addr} {H H' : Hp} {s : Sl} {σ : L2.St}
theorem SR.mono (e : Ext ρ H ρ' H') (r : SR K ρ H s σ) : SR K ρ' H' s σ :=
  ⟨r.1, fun i x h => let ⟨v, h1, h2⟩ := r.2 i x h; ⟨v, h1, h2.mono e⟩⟩
theorem SR.set {x : AV} {v : V} (r : SR K ρ H s σ) (i : Nat) (h : VR K ρ H x v) : SR K ρ H (s.set i (some x)) (σ.set i (some v)) := by
  refine ⟨by simp [r.1], fun j y e => ?_⟩
  by_cases hj : i = j
  · subst hj
    by_cases hl : i < s.length
    · rw [List.getElem?_set_self hl] at e
      cases e
      exact ⟨v, by rw [List.getElem?_set_self (by rw [← r.1]; exact hl)], h⟩
    · rw [List.getElem?_eq_none (by simpa using hl)] at e
      cases e
  · rw [List.getElem?_set_ne hj] at e
    obtain ⟨w, h1, h2⟩ := r.2 j y e
    exact ⟨w, by rw [List.getElem?_set_ne hj]; exact h1, h2⟩
end
end Ev
namespace Ev
open PySem PySem.Spec PyProof.Rows L2
/-! ### the evaluator's results -/
inductive RE (α : Type) where
  | ok (a : α) (h : AH)
  | exc (c : Str) (fs : List (Str × AV)) (h : AH)
  | bad
abbrev EM (α : Type) := Sl → AH → RE α
def ret {α : Type} (a : α) : EM α := fun _ h => .ok a h
def bad {α : Type} : EM α := fun _ _ => .bad
def bd {α β : Type} (m : EM α) (f : α → EM β) : EM β := fun s h => match m s h with
  | .ok a h' => f a s h'
  | .exc c fs h' => .exc c fs h'
  | .bad => .bad
/-- a new object -/
def alloc (o : AO) : EM AV := fun _ h => .ok (.ref h.length) (h ++ [o])
def heapM : EM AH := fun _ h => .ok h h
/-- an exception -/
def ExR (K : PySem.W.Frag) (ct : CT) (ρ : List Addr) (H : Hp) (c : Str) (fs : List (Str × AV)) (cls : Value) (d : Option Addr) : Prop :=
  ∃ C, ct c = some C ∧ cls = .ref C ∧ (fs = [] ∨ ∃ dd gs, d = some dd ∧ H dd = some (.xd gs) ∧ FR K ρ H fs gs)
abbrev Rl (α β : Type) := List Addr → Hp → α → β → Prop
def post {α β : Type} (R : Rl α β) (K : PySem.W.Frag) (ct : CT) (W : WX) (ρ : List Addr) (H : Hp) (σ : L2.St) (Q : β → Hp → Prop) : RE α → Prop
  | .ok v h' => ∀ ρ' H' v', Ext ρ H ρ' H' → HR K ct ρ' H' h' → R ρ' H' v v' → Q v' H'
  | .exc c fs h' => ∀ ρ' H' cls d, Ext ρ H ρ' H' → HR K ct ρ' H' h' → ExR K ct ρ' H' c fs cls d → W cls d σ H'
  | .bad => False
abbrev RV (K : PySem.W.Frag) : Rl AV V := fun ρ H a b => VR K ρ H a b
abbrev RB : Rl Bool Bool := fun _ _ a b => a = b
abbrev RL (K : PySem.W.Frag) : Rl (List AV) (List V) := fun ρ H a b => VRs K ρ H a b
section
variable {K : PySem.W.Frag} {ct : CT} {W : WX} {ρ ρ' : List Addr} {H H' : Hp} {σ : L2.St} {α β γ δ ε : Type} {R : Rl α β}
theorem post.mono {Q Q' : β → Hp → Prop} : ∀ {r : RE α}, post R K ct W ρ H σ Q r → (∀ v H, Q v H → Q' v H) → post R K ct W ρ H σ Q' r
  | .ok v h', p, i => fun ρ' H' v' a b c => i _ _ (p ρ' H' v' a b c)
  | .exc c fs h', p, i => p
  | .bad, p, i => p
theorem post.ext {Q : β → Hp → Prop} (e : Ext ρ H ρ' H') : ∀ {r : RE α}, post R K ct W ρ H σ Q r → post R K ct W ρ' H' σ Q r
  | .ok v h', p => fun ρ2 H2 v' a b c => p ρ2 H2 v' (e.trans a) b c
  | .exc c fs h', p => fun ρ2 H2 cls d a b c => p ρ2 H2 cls d (e.trans a) b c
  | .bad, p => p
/-- a reading by the evaluator, with values pending: P is kept by Ext -/
def TP {γ : Type} (K : PySem.W.Frag) (ct : CT) (W : WX) (P : List Addr → Hp → γ → Prop) (R : Rl α β) (f : γ → EM α) : L2.St → Hp → (β → Hp → Prop) → Prop := fun σ H Q =>
  ∃ ρ s h g, SR K ρ H s σ ∧ HR K ct ρ H h ∧ P ρ H g ∧ post R K ct W ρ H σ Q (f g s h)
def T0 (K : PySem.W.Frag) (ct : CT) (W : WX) (R : Rl α β) (m : EM α) : L2.St → Hp → (β → Hp → Prop) → Prop := fun σ H Q =>
  ∃ ρ s h, SR K ρ H s σ ∧ HR K ct ρ H h ∧ post R K ct W ρ H σ Q (m s h)
structure Mono {γ : Type} (P : List Addr → Hp → γ → Prop) : Prop where
  go : ∀ (ρ : List Addr) (H : Hp) (ρ' : List Addr) (H' : Hp) (g : γ), Ext ρ H ρ' H' → P ρ H g → P ρ' H' g
theorem mono_V {v : V} : Mono (fun ρ H (x : AV) => RV K ρ H x v) := ⟨fun _ _ _ _ _ e h => VR.mono e h⟩
theorem mono_L {vs : List V} : Mono (fun ρ H (x : List AV) => RL K ρ H x vs) := ⟨fun _ _ _ _ _ e h => VRs.mono e h⟩
theorem mono_B {b : Bool} : Mono (fun ρ H (x : Bool) => RB ρ H x b) := ⟨fun _ _ _ _ _ _ h => h⟩
theorem mono_2 {γ δ : Type} {P : List Addr → Hp → γ → Prop} {P' : List Addr → Hp → δ → Prop} (a : Mono P) (b : Mono P') : Mono (fun ρ H (x : γ × δ) => P ρ H x.1 ∧ P' ρ H x.2) :=
  ⟨fun _ _ _ _ _ e h => ⟨a.go _ _ _ _ _ e h.1, b.go _ _ _ _ _ e h.2⟩⟩
theorem T0.mono {m : EM α} {Q Q' : β → Hp → Prop} (t : T0 K ct W R m σ H Q) (i : ∀ v H, Q v H → Q' v H) : T0 K ct W R m σ H Q' :=
  let ⟨ρ, s, h, a, b, p⟩ := t; ⟨ρ, s, h, a, b, p.mono i⟩
theorem TP.mono {P : List Addr → Hp → γ → Prop} {m : γ → EM α} {Q Q' : β → Hp → Prop} (t : TP K ct W P R m σ H Q) (i : ∀ v H, Q v H → Q' v H) : TP K ct W P R m σ H Q' :=
  let ⟨ρ, s, h, g, a, b, c, p⟩ := t; ⟨ρ, s, h, g, a, b, c, p.mono i⟩
/-- THE BIND: the first part now, the rest with its value pending -/
theorem TP.bd {P : List Addr → Hp → γ → Prop} {R' : Rl δ ε} {m : γ → EM δ} {k : γ → δ → EM α} {Q : β → Hp → Prop} (mo : Mono P) (t : TP K ct W P R (fun g => bd (m g) (k g)) σ H Q) :
    TP K ct W P R' m σ H fun v' H1 => TP K ct W (fun ρ H (x : γ × δ) => P ρ H x.1 ∧ R' ρ H x.2 v') R (fun x => k x.1 x.2) σ H1 Q := by
  obtain ⟨ρ, s, h, g, a, b, c, p⟩ := t
  refine ⟨ρ, s, h, g, a, b, c, ?_⟩
  unfold Ev.bd at p; (try dsimp only at p)
  cases e : m g s h with
  | ok v h1 =>
    rw [e] at p
    intro ρ' H' v' ex hr hv
    exact ⟨ρ', s, h1, (g, v), a.mono ex, hr, ⟨mo.go _ _ _ _ _ ex c, hv⟩, post.ext ex p⟩
  | exc c' fs h1 =>
    rw [e] at p
    exact p
  | bad =>
    rw [e] at p
    exact p
theorem T0.bd {R' : Rl δ ε} {m : EM δ} {k : δ → EM α} {Q : β → Hp → Prop} (t : T0 K ct W R (bd m k) σ H Q) :
    T0 K ct W R' m σ H fun v' H1 => TP K ct W (fun ρ H (x : δ) => R' ρ H x v') R k σ H1 Q := by
  obtain ⟨ρ, s, h, a, b, p⟩ := t
  refine ⟨ρ, s, h, a, b, ?_⟩
  unfold Ev.bd at p; (try dsimp only at p)
  cases e : m s h with
  | ok v h1 =>
    rw [e] at p
    intro ρ' H' v' ex hr hv
    exact ⟨ρ', s, h1, v, a.mono ex, hr, hv, post.ext ex p⟩
  | exc c' fs h1 =>
    rw [e] at p
    exact p
  | bad =>
    rw [e] at p
    exact p
/-- a part that does not look at what is pending -/
theorem TP.zero {P : List Addr → Hp → γ → Prop} {m : EM α} {Q : β → Hp → Prop} (t : TP K ct W P R (fun _ => m) σ H Q) : T0 K ct W R m σ H Q :=
  let ⟨ρ, s, h, _, a, b, _, p⟩ := t; ⟨ρ, s, h, a, b, p⟩
theorem TP.bd0 {P : List Addr → Hp → γ → Prop} {R' : Rl δ ε} {m : EM δ} {k : γ → δ → EM α} {Q : β → Hp → Prop} (mo : Mono P) (t : TP K ct W P R (fun g => Ev.bd m (k g)) σ H Q) :
    T0 K ct W R' m σ H fun v' H1 => TP K ct W (fun ρ H (x : γ × δ) => P ρ H x.1 ∧ R' ρ H x.2 v') R (fun x => k x.1 x.2) σ H1 Q := (TP.bd (m := fun _ => m) mo t).zero
/-- the answer is there -/
theorem TP.ret {P : List Addr → Hp → γ → Prop} {f : γ → α} {Q : β → Hp → Prop} {v' : β} (t : TP K ct W P R (fun g => ret (f g)) σ H Q) (hv : ∀ ρ g, P ρ H g → R ρ H (f g) v') : Q v' H := by
  obtain ⟨ρ, s, h, g, a, b, c, p⟩ := t
  exact p ρ H v' Ext.refl b (hv ρ g c)
end
/-! ### judgements -/
abbrev AE (X : Cx) (ct : CT) (W : WX) (e : Expr) (m : EM AV) : Prop := PE X e (T0 X.K ct W (RV X.K) m)
abbrev AT (X : Cx) (ct : CT) (W : WX) (e : Expr) (m : EM Bool) : Prop := PT X e (T0 X.K ct W RB m)
abbrev AW (X : Cx) (ct : CT) (W : WX) (e : Expr) (m : EM Bool) : Prop := PW X e (T0 X.K ct W RB m)
abbrev AA (X : Cx) (ct : CT) (W : WX) (es : List Expr) (m : EM (List AV)) : Prop := PA X es (T0 X.K ct W (RL X.K) m)
section
variable {X : Cx} {ct : CT} {W : WX}
theorem pe_imp {e : Expr} {t t' : TE} (h : PE X e t) (i : ∀ σ H Q, t' σ H Q → t σ H Q) : PE X e t' := ⟨fun pins s σ H Q I q => h.run pins s σ H Q I (i σ H Q q)⟩
theorem pt_imp {e : Expr} {t t' : TT} (h : PT X e t) (i : ∀ σ H Q, t' σ H Q → t σ H Q) : PT X e t' := ⟨fun pins s σ H Q I q => h.run pins s σ H Q I (i σ H Q q)⟩
theorem pw_imp {e : Expr} {t t' : TT} (h : PW X e t) (i : ∀ σ H Q, t' σ H Q → t σ H Q) : PW X e t' := ⟨fun wh pins s σ H Q I q => h.run wh pins s σ H Q I (i σ H Q q)⟩
theorem pa_imp {es : List Expr} {t t' : TA} (h : PA X es t) (i : ∀ σ H Q, t' σ H Q → t σ H Q) : PA X es t' := ⟨fun pos pins s σ H Q I q => h.run pos pins s σ H Q I (i σ H Q q)⟩
theorem ae_bad {e : Expr} : AE X ct W e bad := ⟨fun pins s σ H Q I q => by obtain ⟨_, _, _, _, _, p⟩ := q; exact p.elim⟩
theorem at_bad {e : Expr} : AT X ct W e bad := ⟨fun pins s σ H Q I q => by obtain ⟨_, _, _, _, _, p⟩ := q; exact p.elim⟩
theorem aw_bad {e : Expr} : AW X ct W e bad := ⟨fun wh pins s σ H Q I q => by obtain ⟨_, _, _, _, _, p⟩ := q; exact p.elim⟩
/-! ### names and constants -/
def slotM (i : Nat) : EM AV := fun s h => match s[i]? with
  | some (some v) => .ok v h
  | _ => .bad
theorem ae_var {i : Nat} {x : Str} {pos : Pos} (h : PE X (.Name x pos) (tVar i)) : AE X ct W (.Name x pos) (slotM i) := by
  refine pe_imp h fun σ H Q t => ?_
  obtain ⟨ρ, s, h, a, b, p⟩ := t
  unfold slotM at p
  split at p
  · rename_i v e
    obtain ⟨w, e1, r⟩ := a.2 i v e
    exact ⟨w, e1, p ρ H w Ext.refl b r⟩
  · exact p.elim
theorem ae_const {e : Expr} {x : AV} {v : V} (h : PE X e (tC v)) (r : ∀ ρ H, VR X.K ρ H x v) : AE X ct W e (ret x) := by
  refine pe_imp h fun σ H Q t => ?_
  obtain ⟨ρ, s, h, a, b, p⟩ := t
  exact p ρ H v Ext.refl b (r ρ H)
/-! ### two-place operations -/
/-- what a rule by values asks is given by the evaluator's operation -/
def Op2 (X : Cx) (ct : CT) (r : R2) (f : AV → AV → EM AV) : Prop :=
  ∀ (W : WX) (x' y' : V) (σ : L2.St) (H : Hp) (Q : VK), (∃ ρ s h x y, SR X.K ρ H s σ ∧ HR X.K ct ρ H h ∧ VR X.K ρ H x x' ∧ VR X.K ρ H y y' ∧ post (RV X.K) X.K ct W ρ H σ Q (f x y s h)) → r x' y' H Q
theorem ae_bin {a b : Expr} {op : Operator} {pos : Pos} {r : R2} {f : AV → AV → EM AV} {ma mb : EM AV} (ho : OpR X (binaryOp op) r) (hr : Op2 X ct r f) (ha : AE X ct W a ma) (hb : AE X ct W b mb) :
    AE X ct W (.BinOp a op b pos) (bd ma fun x => bd mb fun y => f x y) := by
  refine pe_imp (pe_op ho ha hb) fun σ H Q t => ?_
  refine T0.mono (T0.bd (R' := RV X.K) t) fun x' H1 t1 => ?_
  refine T0.mono (TP.bd0 (R' := RV X.K) mono_V t1) fun y' H2 t2 => ?_
  obtain ⟨ρ, s, h, ⟨x, y⟩, a, b, c, p⟩ := t2
  exact hr W x' y' σ H2 Q ⟨ρ, s, h, x, y, a, b, c.1, c.2, p⟩
theorem Op2.or {r r' : R2} {f f' g : AV → AV → EM AV} (h : Op2 X ct r f) (h' : Op2 X ct r' f') (c : ∀ x y, g x y = f x y ∨ g x y = f' x y) : Op2 X ct (fun x y H Q => r x y H Q ∨ r' x y H Q) g :=
  fun W x' y' σ H Q ⟨ρ, s, hh, x, y, a, b, c1, c2, p⟩ => by
    rcases c x y with e | e
    · rw [e] at p
      exact .inl (h W x' y' σ H Q ⟨ρ, s, hh, x, y, a, b, c1, c2, p⟩)
    · rw [e] at p
      exact .inr (h' W x' y' σ H Q ⟨ρ, s, hh, x, y, a, b, c1, c2, p⟩)
/-- ints alone -/
def onInts (f : Int → Int → EM AV) : AV → AV → EM AV
  | .int i, .int j => f i j
  | _, _ => bad
theorem op2_I {C : Int → Int → Prop} [∀ i j, Decidable (C i j)] {g : Int → Int → V} {ga : Int → Int → AV} (e : ∀ ρ H i j, VR X.K ρ H (ga i j) (g i j)) :
    Op2 X ct (rI C g) (onInts fun i j => if C i j then ret (ga i j) else bad) := by
  intro W x' y' σ H Q ⟨ρ, s, h, x, y, a, b, c1, c2, p⟩
  unfold onInts at p
  split at p
  · rename_i i j
    dsimp only at p
    split at p
    · rename_i hc
      exact ⟨i, j, VR.int.mp c1, VR.int.mp c2, hc, p ρ H _ Ext.refl b (e ρ H i j)⟩
    · exact p.elim
  · exact p.elim
theorem op2_I0 {g : Int → Int → V} {ga : Int → Int → AV} (e : ∀ ρ H i j, VR X.K ρ H (ga i j) (g i j)) : Op2 X ct (rI0 g) (onInts fun i j => ret (ga i j)) := by
  intro W x' y' σ H Q ⟨ρ, s, h, x, y, a, b, c1, c2, p⟩
  unfold onInts at p
  split at p
  · rename_i i j
    exact ⟨i, j, VR.int.mp c1, VR.int.mp c2, p ρ H _ Ext.refl b (e ρ H i j)⟩
  · exact p.elim
end
end Ev
namespace Ev
open PySem PySem.Spec PyProof.Rows L2
section
variable {X : Cx} {ct : CT}
/-! ### reading a list, a tuple -/
/-- the items of a list object -/
def lstOf (h : AH) (i : Nat) : Option (List AV) := match h[i]? with
  | some (.lst xs) => some xs
  | some (.fro xs) => some xs
  | _ => none
theorem lstOf_ok {K : PySem.W.Frag} {ρ : List Addr} {H : Hp} {h : AH} {i : Nat} {a : Addr} {xs : List AV} (r : HR K ct ρ H h) (hi : ρ[i]? = some a) (e : lstOf h i = some xs) : ∃ ys, SqL K H a ys ∧ VRs K ρ H xs ys := by
  unfold lstOf at e
  split at e
  · rename_i zs e1
    cases e
    obtain ⟨ys, h1, h2⟩ := r.ob i a _ hi e1
    exact ⟨ys, SqL.of h1, h2⟩
  · rename_i zs e1
    cases e
    obtain ⟨ys, h2, h1⟩ := r.ob i a _ hi e1
    exact ⟨ys, h1.elim (fun ⟨o, h1⟩ => .inl (.inr ⟨o, h1⟩)) .inr, h2⟩
  · cases e
theorem lst_own {K : PySem.W.Frag} {ρ : List Addr} {H : Hp} {h : AH} {i : Nat} {a : Addr} {xs : List AV} (r : HR K ct ρ H h) (hi : ρ[i]? = some a) (e : h[i]? = some (.lst xs)) : ∃ ys, H a = some (.lst ys) ∧ VRs K ρ H xs ys := r.ob i a _ hi e
/-- the items of a tuple or of a list object -/
def seqOf (h : AH) : AV → Option (List AV)
  | .tup xs => some xs
  | .ref i => lstOf h i
  | _ => none
theorem seqOf_ok {K : PySem.W.Frag} {ρ : List Addr} {H : Hp} {h : AH} {x : AV} {x' : V} {xs : List AV} (r : HR K ct ρ H h) (hx : VR K ρ H x x') (e : seqOf h x = some xs) : ∃ p ys, x' = .ref p ∧ (SqL K H p ys ∨ SqT K H p ys) ∧ VRs K ρ H xs ys := by
  unfold seqOf at e
  split at e
  · cases e
    obtain ⟨a, ys, rfl, h1, h2⟩ := VR.tup.mp hx
    exact ⟨a, ys, rfl, .inr h1, h2⟩
  · obtain ⟨a, h1, rfl⟩ := VR.ref.mp hx
    obtain ⟨ys, h2, h3⟩ := lstOf_ok r h1 e
    exact ⟨a, ys, rfl, .inl h2, h3⟩
  · cases e
/-! ### new objects -/
theorem new_tup {K : PySem.W.Frag} {W : WX} {ρ : List Addr} {H : Hp} {σ : L2.St} {h : AH} {Q : VK} {xs : List AV} {ys : List V} (r : HR K ct ρ H h) (v : VRs K ρ H xs ys) (p : post (RV K) K ct W ρ H σ Q (.ok (.tup xs) h)) :
    ∀ q, H q = none → Q (.ref q) (upd H q (.tup ys)) := fun q hq =>
  p ρ (upd H q (.tup ys)) (.ref q) (Ext.new hq) (r.new hq) (VR.tup.mpr ⟨q, ys, rfl, .inl (.inl upd_same), v.mono (Ext.new hq)⟩)
theorem new_lst {K : PySem.W.Frag} {W : WX} {ρ : List Addr} {H : Hp} {σ : L2.St} {h : AH} {Q : VK} {xs : List AV} {ys : List V} (r : HR K ct ρ H h) (v : VRs K ρ H xs ys) (p : post (RV K) K ct W ρ H σ Q (.ok (.ref h.length) (h ++ [.lst xs]))) :
    ∀ q, H q = none → Q (.ref q) (upd H q (.lst ys)) := fun q hq =>
  p (ρ ++ [q]) (upd H q (.lst ys)) (.ref q) (Ext.push hq) (r.push hq ⟨ys, upd_same, v.mono (Ext.push hq)⟩) (VR.ref.mpr ⟨q, by rw [← r.len]; simp, rfl⟩)
/-! ### + -/
def onStrs (f : Str → Str → EM AV) : AV → AV → EM AV
  | .str i, .str j => f i j
  | _, _ => bad
def onTups (f : List AV → List AV → EM AV) : AV → AV → EM AV
  | .tup i, .tup j => f i j
  | _, _ => bad
def catS (x y : Str) : EM AV := if x.length + y.length ≤ sizeLine then ret (.str (x ++ y)) else bad
def catT (xs ys : List AV) : EM AV := match xs with
  | [] => bad
  | x :: r => if (x :: r).length + ys.length ≤ sizeLine then ret (.tup (x :: r ++ ys)) else bad
def catL : AV → AV → EM AV
  | .ref i, .ref j => fun s h => match h[i]?, h[j]? with
    | some (.lst xs), some (.lst ys) => if xs.length + ys.length ≤ sizeLine then alloc (.lst (xs ++ ys)) s h else .bad
    | _, _ => .bad
  | _, _ => bad
def addA : AV → AV → EM AV
  | .int i, .int j => ret (.int (i + j))
  | .str i, .str j => catS i j
  | .tup xs, .tup ys => catT xs ys
  | .ref i, .ref j => catL (.ref i) (.ref j)
  | _, _ => bad
theorem op2_catS : Op2 X ct (fun x y H Q => ∃ i j, x = .str i ∧ y = .str j ∧ i.length + j.length ≤ sizeLine ∧ Q (.str (i ++ j)) H) (onStrs catS) := by
  intro W x' y' σ H Q ⟨ρ, s, h, x, y, a, b, c1, c2, p⟩
  unfold onStrs at p
  split at p
  · rename_i i j
    unfold catS at p
    split at p
    · rename_i hc
      exact ⟨i, j, VR.str.mp c1, VR.str.mp c2, hc, p ρ H _ Ext.refl b (VR.str.mpr rfl)⟩
    · exact p.elim
  · exact p.elim
theorem op2_catT : Op2 X ct (rCatT X.K) (onTups catT) := by
  intro W x' y' σ H Q ⟨ρ, s, h, x, y, a, b, c1, c2, p⟩
  unfold onTups at p
  split at p
  · rename_i xs ys
    obtain ⟨t, zs, rfl, h1, h2⟩ := VR.tup.mp c1
    obtain ⟨u, ws, rfl, h3, h4⟩ := VR.tup.mp c2
    unfold catT at p
    split at p
    · exact p.elim
    · rename_i x r
      split at p
      · rename_i hc
        refine ⟨t, u, zs, ws, rfl, rfl, h1, h3, ?_, ?_, fun e => ?_, fun e => ?_⟩
        · intro e
          subst e
          have := h2.length
          simp at this
        · rw [← h2.length, ← h4.length]; exact hc
        · subst e
          have e2 : ys = [] := by
            have := h4.length
            simpa using this
          subst e2
          refine p ρ H _ Ext.refl b ?_
          rw [List.append_nil]
          exact c1
        · exact new_tup b (h2.append h4) p
      · exact p.elim
  · exact p.elim
theorem op2_catL : Op2 X ct rCat catL := by
  intro W x' y' σ H Q ⟨ρ, s, h, x, y, a, b, c1, c2, p⟩
  unfold catL at p
  split at p
  · rename_i i j
    obtain ⟨l, h1, rfl⟩ := VR.ref.mp c1
    obtain ⟨m, h2, rfl⟩ := VR.ref.mp c2
    split at p
    · rename_i xs ys e1 e2
      obtain ⟨zs, h3, h4⟩ := lst_own b h1 e1
      obtain ⟨ws, h5, h6⟩ := lst_own b h2 e2
      split at p
      · rename_i hc
        exact ⟨l, m, zs, ws, rfl, rfl, h3, h5, by rw [← h4.length, ← h6.length]; exact hc, new_lst b (h4.append h6) p⟩
      · exact p.elim
    · exact p.elim
  · exact p.elim
abbrev rAddAll (K : PySem.W.Frag) : R2 := fun x y H Q => (rI0 fun i j => .int (i + j)) x y H Q ∨ ((fun x y H Q => ∃ i j, x = .str i ∧ y = .str j ∧ i.length + j.length ≤ sizeLine ∧ Q (.str (i ++ j)) H : R2) x y H Q ∨ (rCatT K x y H Q ∨ rCat x y H Q))
theorem op_addAll : OpR X (binaryOp .Add) (rAddAll X.K) := op_add.or (op_add_str.or (op_catT.or op_cat))
theorem op2_add : Op2 X ct (rAddAll X.K) addA := by
  refine Op2.or (f := onInts fun i j => ret (.int (i + j))) (f' := fun x y => match x, y with | .int _, .int _ => bad | x, y => addA x y) (op2_I0 fun _ _ _ _ => VR.int.mpr rfl) ?_ ?_
  · refine Op2.or (f := onStrs catS) (f' := fun x y => match x, y with | .tup xs, .tup ys => catT xs ys | .ref i, .ref j => catL (.ref i) (.ref j) | x, y => bad) op2_catS ?_ ?_
    · refine Op2.or (f := onTups catT) (f' := catL) op2_catT op2_catL ?_
      intro x y
      cases x <;> cases y <;> first | exact .inl rfl | exact .inr rfl
    · intro x y
      cases x <;> cases y <;> first | exact .inl rfl | exact .inr rfl
  · intro x y
    cases x <;> cases y <;> first | exact .inl rfl | exact .inr rfl
/-! ### * -/
instance (i j : Int) : Decidable (CMulW i j) := inferInstanceAs (Decidable (_ < _))
instance (i j : Int) : Decidable (CDivW i j) := inferInstanceAs (Decidable (_ ∧ _))
instance (i j : Int) : Decidable (CPow i j) := inferInstanceAs (Decidable (_ ∧ _))
def repL : AV → AV → EM AV
  | .ref i, .int k => fun s h => match h[i]? with
    | some (.lst xs) => if -(2 ^ 63) ≤ k ∧ k < 2 ^ 63 ∧ xs.length * k.toNat ≤ sizeLine then alloc (.lst (List.replicate k.toNat xs).flatten) s h else .bad
    | _ => .bad
  | _, _ => bad
def repT : AV → AV → EM AV
  | .tup xs, .int k => if xs.isEmpty = false ∧ 2 ≤ k ∧ k ≤ 1000 ∧ xs.length ≤ 1000 then ret (.tup (List.replicate k.toNat xs).flatten) else bad
  | _, _ => bad
theorem VRs.rep {K : PySem.W.Frag} {ρ : List Addr} {H : Hp} {xs : List AV} {ys : List V} (h : VRs K ρ H xs ys) : ∀ k : Nat, VRs K ρ H (List.replicate k xs).flatten (List.replicate k ys).flatten
  | 0 => VRs.nil.mpr rfl
  | k + 1 => by
    rw [List.replicate_succ, List.replicate_succ, List.flatten_cons, List.flatten_cons]
    exact h.append (VRs.rep h k)
theorem op2_repL : Op2 X ct rRep repL := by
  intro W x' y' σ H Q ⟨ρ, s, h, x, y, a, b, c1, c2, p⟩
  unfold repL at p
  split at p
  · rename_i i k
    obtain ⟨l, h1, rfl⟩ := VR.ref.mp c1
    split at p
    · rename_i xs e1
      obtain ⟨zs, h3, h4⟩ := lst_own b h1 e1
      split at p
      · rename_i hc
        exact ⟨l, k, zs, rfl, VR.int.mp c2, h3, hc.1, hc.2.1, by rw [← h4.length]; exact hc.2.2, new_lst b (h4.rep _) p⟩
      · exact p.elim
    · exact p.elim
  · exact p.elim
theorem op2_repT : Op2 X ct (rRepT X.K) repT := by
  intro W x' y' σ H Q ⟨ρ, s, h, x, y, a, b, c1, c2, p⟩
  unfold repT at p
  split at p
  · rename_i xs k
    obtain ⟨t, zs, rfl, h1, h2⟩ := VR.tup.mp c1
    split at p
    · rename_i hc
      refine ⟨t, k, zs, rfl, VR.int.mp c2, h1, ?_, hc.2.1, hc.2.2.1, by rw [← h2.length]; exact hc.2.2.2, new_tup b (h2.rep _) p⟩
      rintro rfl
      have e := h2.length
      have e2 := hc.1
      cases xs with
      | nil => cases e2
      | cons _ _ => simp at e
    · exact p.elim
  · exact p.elim
def mulA : AV → AV → EM AV
  | .int i, .int j => if CMulW i j then ret (.int (i * j)) else bad
  | .ref i, .int k => repL (.ref i) (.int k)
  | .tup i, .int k => repT (.tup i) (.int k)
  | _, _ => bad
abbrev rMulAll (K : PySem.W.Frag) : R2 := fun x y H Q => (rI CMulW fun i j => .int (i * j)) x y H Q ∨ (rRep x y H Q ∨ rRepT K x y H Q)
theorem op_mulAll : OpR X (binaryOp .Mult) (rMulAll X.K) := op_mulW.or (op_rep.or op_repT)
theorem op2_mul : Op2 X ct (rMulAll X.K) mulA := by
  refine Op2.or (f := onInts fun i j => if CMulW i j then ret (.int (i * j)) else bad) (f' := fun x y => match x, y with | .int _, .int _ => bad | x, y => mulA x y) (op2_I fun _ _ _ _ => VR.int.mpr rfl) ?_ ?_
  · refine Op2.or (f := repL) (f' := repT) op2_repL op2_repT ?_
    intro x y
    cases x <;> cases y <;> first | exact .inl rfl | exact .inr rfl
  · intro x y
    cases x <;> cases y <;> first | exact .inl rfl | exact .inr rfl
/-! ### the other operators of ints -/
def subA : AV → AV → EM AV := onInts fun i j => ret (.int (i - j))
def fdivA : AV → AV → EM AV := onInts fun i j => if CDivW i j then ret (.int (i / j)) else bad
def modA : AV → AV → EM AV := onInts fun i j => if 0 < j then ret (.int (i % j)) else bad
def powA : AV → AV → EM AV := onInts fun i j => if CPow i j then ret (.int (i ^ j.toNat)) else bad
def shlA : AV → AV → EM AV := onInts fun i j => if CPow i j then ret (.int (i * 2 ^ j.toNat)) else bad
def shrA : AV → AV → EM AV := onInts fun i j => if 0 ≤ j then ret (.int (i / 2 ^ j.toNat)) else bad
def bandA : AV → AV → EM AV := onInts fun i j => ret (.int (Builtin.bitAnd i j))
def borA : AV → AV → EM AV := onInts fun i j => ret (.int (Builtin.bitOr i j))
def bxorA : AV → AV → EM AV := onInts fun i j => ret (.int (Builtin.bitXor i j))
/-- a two-place operator -/
def binP : Operator → Option (AV → AV → EM AV)
  | .Add => some addA
  | .Sub => some subA
  | .Mult => some mulA
  | .FloorDiv => some fdivA
  | .Mod => some modA
  | .Pow => some powA
  | .LShift => some shlA
  | .RShift => some shrA
  | .BitAnd => some bandA
  | .BitOr => some borA
  | .BitXor => some bxorA
  | _ => none
theorem binP_ok {op : Operator} {f : AV → AV → EM AV} (h : binP op = some f) : ∃ r, OpR X (binaryOp op) r ∧ Op2 X ct r f := by
  cases op <;> cases h
  · exact ⟨_, op_addAll, op2_add⟩
  · exact ⟨_, op_sub, op2_I0 fun _ _ _ _ => VR.int.mpr rfl⟩
  · exact ⟨_, op_mulAll, op2_mul⟩
  · exact ⟨_, op_mod, op2_I fun _ _ _ _ => VR.int.mpr rfl⟩
  · exact ⟨_, op_pow, op2_I fun _ _ _ _ => VR.int.mpr rfl⟩
  · exact ⟨_, op_shl, op2_I fun _ _ _ _ => VR.int.mpr rfl⟩
  · exact ⟨_, op_shr, op2_I fun _ _ _ _ => VR.int.mpr rfl⟩
  · exact ⟨_, op_or, op2_I0 fun _ _ _ _ => VR.int.mpr rfl⟩
  · exact ⟨_, op_xor, op2_I0 fun _ _ _ _ => VR.int.mpr rfl⟩
  · exact ⟨_, op_and, op2_I0 fun _ _ _ _ => VR.int.mpr rfl⟩
  · exact ⟨_, op_fdivW, op2_I fun _ _ _ _ => VR.int.mpr rfl⟩
/-! ### one-place operators, truth -/
def negA : AV → EM AV
  | .int i => ret (.int (-i))
  | _ => bad
theorem ae_neg {W : WX} {e : Expr} {pos : Pos} {m : EM AV} (he : AE X ct W e m) : AE X ct W (.UnaryOp .USub e pos) (bd m negA) := by
  refine pe_imp (pe_un un_neg he) fun σ H Q t => ?_
  refine T0.mono (T0.bd (R' := RV X.K) t) fun x' H1 t1 => ?_
  obtain ⟨ρ, s, h, x, a, b, c, p⟩ := t1
  unfold negA at p
  split at p
  · rename_i i
    exact ⟨i, VR.int.mp c, p ρ H1 _ Ext.refl b (VR.int.mpr rfl)⟩
  · exact p.elim
def truA : AV → EM Bool
  | .non => ret false
  | .bl b => ret b
  | .int i => ret (i != 0)
  | .str x => if x.length ≤ sizeLine then ret ((x.length : Int) != 0) else bad
  | .tup xs => ret (!xs.isEmpty)
  | .ref i => fun s h => match h[i]? with
    | some (.lst xs) => .ok (!xs.isEmpty) h
    | some (.fro xs) => .ok (!xs.isEmpty) h
    | some (.dct kvs) => if (kvs.all fun kv => (keyV kv.1).isSome) = true then .ok (!kvs.isEmpty) h else .bad
    | _ => .bad
  | .kd _ => bad
theorem VRs.isEmpty {K : PySem.W.Frag} {ρ : List Addr} {H : Hp} {xs : List AV} {ys : List V} (h : VRs K ρ H xs ys) : xs.isEmpty = ys.isEmpty := by
  have := h.length
  cases xs <;> cases ys <;> simp at this ⊢
theorem DKR.isEmpty {K : PySem.W.Frag} {ρ : List Addr} {H : Hp} : ∀ {kvs : List (AV × AV)} {gs : List (Key × V)}, DKR K ρ H kvs gs → kvs.isEmpty = gs.isEmpty
  | [], gs, h => by
    have e : gs = [] := h
    rw [e]
    rfl
  | f :: fs, gs, h => by
    obtain ⟨k, w, r, rfl, _⟩ := h
    rfl
theorem DTR.not_key {K : PySem.W.Frag} {ρ : List Addr} {H : Hp} : ∀ {kvs : List (AV × AV)} {gs : List (List Key × V)}, DTR K ρ H kvs gs → kvs ≠ [] → (kvs.all fun kv => (keyV kv.1).isSome) = true → False
  | [], gs, _, n, _ => n rfl
  | f :: fs, gs, h, _, e => by
    obtain ⟨xs, k, w, r, _, h1, _⟩ := h
    rw [List.all_cons, h1] at e
    cases e
/-- a value's truth, by the machine's rule -/
theorem tru_of {W : WX} {σ : L2.St} {H : Hp} {x' : V} {Q : Bool → Hp → Prop} (t : TP X.K ct W (fun ρ H (x : AV) => RV X.K ρ H x x') RB truA σ H Q) : ∃ k, TruV X.K x' H k ∧ Q k H := by
  obtain ⟨ρ, s, h, x, a, b, c, p⟩ := t
  unfold truA at p
  split at p
  · rw [VR.non.mp c]
    exact ⟨_, rfl, p ρ H _ Ext.refl b rfl⟩
  · rw [VR.bl.mp c]
    exact ⟨_, rfl, p ρ H _ Ext.refl b rfl⟩
  · rw [VR.int.mp c]
    exact ⟨_, rfl, p ρ H _ Ext.refl b rfl⟩
  · split at p
    · rename_i hc
      rw [VR.str.mp c]
      exact ⟨_, ⟨hc, rfl⟩, p ρ H _ Ext.refl b rfl⟩
    · exact p.elim
  · obtain ⟨q, ys, rfl, h1, h2⟩ := VR.tup.mp c
    exact ⟨_, .inr (.inl ⟨ys, h1, rfl⟩), p ρ H _ Ext.refl b (by rw [h2.isEmpty])⟩
  · obtain ⟨q, h1, rfl⟩ := VR.ref.mp c
    split at p
    · rename_i xs e
      obtain ⟨ys, h2, h3⟩ := b.ob _ _ _ h1 e
      exact ⟨_, .inl ⟨ys, SqL.of h2, rfl⟩, p ρ H _ Ext.refl b (by rw [h3.isEmpty])⟩
    · rename_i xs e
      obtain ⟨ys, h3, h2⟩ := b.ob _ _ _ h1 e
      exact ⟨_, .inl ⟨ys, h2.elim (fun ⟨o, h1⟩ => .inl (.inr ⟨o, h1⟩)) .inr, rfl⟩, p ρ H _ Ext.refl b (by rw [h3.isEmpty])⟩
    · rename_i kvs e
      split at p
      · rename_i hk
        rcases b.ob _ _ _ h1 e with ⟨gs, h2, h3⟩ | ⟨hn, gs, h2, h3⟩
        · exact ⟨_, .inr (.inr ⟨gs, h2, rfl⟩), p ρ H _ Ext.refl b (by rw [h3.isEmpty])⟩
        · exact (h3.not_key hn hk).elim
      · exact p.elim
    · exact p.elim
  · exact p.elim
end
end Ev
namespace Ev
open PySem PySem.Spec PyProof.Rows L2
section
variable {X : Cx} {ct : CT}
/-! ### == -/
/-- scalars that are told apart as data are -/
def scalA : AV → AV → Option Bool
  | .non, .non => some true
  | .non, .int _ => some false
  | .int _, .non => some false
  | .non, .bl _ => some false
  | .bl _, .non => some false
  | .non, .str _ => some false
  | .str _, .non => some false
  | .int i, .int j => some (decide (i = j))
  | .bl i, .bl j => some (decide (i = j))
  | .str i, .str j => some (decide (i = j))
  | .int _, .str _ => some false
  | .str _, .int _ => some false
  | .bl _, .str _ => some false
  | .str _, .bl _ => some false
  | _, _ => none
mutual
/-- the data that a value is -/
def datA : Nat → AH → AV → Option PyData
  | _, _, .non => some .none
  | _, _, .bl b => some (.bool b)
  | _, _, .int i => some (.int i)
  | _, _, .str x => some (.str x)
  | 0, _, _ => none
  | _ + 1, _, .kd _ => none
  | n + 1, h, .tup xs => match datAs n h xs with
    | some ds => some (.tuple ds)
    | none => none
  | n + 1, h, .ref i => match lstOf h i with
    | some xs => match datAs n h xs with
      | some ds => some (.list ds)
      | none => none
    | none => none
def datAs : Nat → AH → List AV → Option (List PyData)
  | _, _, [] => some []
  | n, h, x :: xs => match datA n h x, datAs n h xs with
    | some d, some ds => some (d :: ds)
    | _, _ => none
end
section
variable {K : PySem.W.Frag} {ρ : List Addr} {H : Hp} {h : AH}
mutual
theorem datA_ok (r : HR K ct ρ H h) : ∀ (n : Nat) (x : AV) {d : PyData} {v : V}, datA n h x = some d → VR K ρ H x v → Dp K H v d
  | n, .non, d, v, e, q => by rw [datA] at e; cases e; rw [VR.non.mp q]; exact .non
  | n, .bl b, d, v, e, q => by rw [datA] at e; cases e; rw [VR.bl.mp q]; exact .bl b
  | n, .int b, d, v, e, q => by rw [datA] at e; cases e; rw [VR.int.mp q]; exact .int b
  | n, .str b, d, v, e, q => by rw [datA] at e; cases e; rw [VR.str.mp q]; exact .str b
  | 0, .tup xs, d, v, e, q => by rw [datA] at e; cases e; all_goals simp
  | 0, .ref xs, d, v, e, q => by rw [datA] at e; cases e; all_goals simp
  | 0, .kd xs, d, v, e, q => by rw [datA] at e; cases e; all_goals simp
  | n + 1, .kd xs, d, v, e, q => by rw [datA] at e; cases e
  | n + 1, .tup xs, d, v, e, q => by
    rw [datA] at e
    split at e
    · rename_i ds e1
      cases e
      obtain ⟨a, ys, rfl, h1, h2⟩ := VR.tup.mp q
      exact .tup h1 (datAs_ok r n xs e1 h2)
    · cases e
  | n + 1, .ref i, d, v, e, q => by
    rw [datA] at e
    split at e
    · rename_i xs e0
      split at e
      · rename_i ds e1
        cases e
        obtain ⟨a, h1, rfl⟩ := VR.ref.mp q
        obtain ⟨ys, h2, h3⟩ := lstOf_ok r h1 e0
        exact .lst h2 (datAs_ok r n xs e1 h3)
      · cases e
    · cases e
theorem datAs_ok (r : HR K ct ρ H h) : ∀ (n : Nat) (xs : List AV) {ds : List PyData} {vs : List V}, datAs n h xs = some ds → VRs K ρ H xs vs → DpAll K H vs ds
  | n, [], ds, vs, e, q => by rw [datAs] at e; cases e; rw [VRs.nil.mp q]; exact .nil
  | n, x :: xs, ds, vs, e, q => by
    rw [datAs] at e
    split at e
    · rename_i d ds' e1 e2
      cases e
      obtain ⟨y, r', rfl, h1, h2⟩ := VRs.cons.mp q
      exact .cons (datA_ok r n x e1 h1) (datAs_ok r n xs e2 h2)
    · cases e
end
end
/-- a reading of the heap -/
def rd {α : Type} (f : AH → Option α) : EM α := fun _ h => match f h with
  | some a => .ok a h
  | none => .bad
def eqDeep (x y : AV) (h : AH) : Option Bool := match datA 65 h x, datA 65 h y with
  | some d, some e => if SeqAt.shaped d = true ∧ SeqAt.shaped e = true then some (PyData.eqv d e) else none
  | _, _ => none
def eqB (x y : AV) (h : AH) : Option Bool := match scalA x y with
  | some b => some b
  | none => eqDeep x y h
def eqA (x y : AV) : EM AV := rd fun h => (eqB x y h).map AV.bl
def neA (x y : AV) : EM AV := rd fun h => (eqB x y h).map fun b => AV.bl (!b)
theorem post_rd {α β : Type} {R : Rl α β} {K : PySem.W.Frag} {ct : CT} {W : WX} {ρ : List Addr} {H : Hp} {σ : L2.St} {Q : β → Hp → Prop} {f : AH → Option α} {s : Sl} {h : AH} {v : β} (b : HR K ct ρ H h) (p : post R K ct W ρ H σ Q (rd f s h)) : ∃ a, f h = some a ∧ ((∀ v, R ρ H a v → Q v H)) := by
  unfold rd at p
  split at p
  · rename_i a e
    exact ⟨a, e, fun v hv => p ρ H v Ext.refl b hv⟩
  · exact p.elim
theorem scalA_ok {K : PySem.W.Frag} {ρ : List Addr} {H : Hp} {x y : AV} {x' y' : V} {b : Bool} (e : scalA x y = some b) (c1 : VR K ρ H x x') (c2 : VR K ρ H y y') : scal x' y' = true ∧ decide (x' = y') = b := by
  unfold scalA at e
  split at e <;> cases e <;> (first | rw [VR.non.mp c1] | rw [VR.int.mp c1] | rw [VR.bl.mp c1] | rw [VR.str.mp c1]) <;> (first | rw [VR.non.mp c2] | rw [VR.int.mp c2] | rw [VR.bl.mp c2] | rw [VR.str.mp c2]) <;> simp [scal]
abbrev rEqAll (K : PySem.W.Frag) : R2 := fun x y H Q => rEq x y H Q ∨ rEqD K x y H Q
abbrev rNeAll (K : PySem.W.Frag) : R2 := fun x y H Q => rNe x y H Q ∨ rNeD K x y H Q
theorem eqB_ok {K : PySem.W.Frag} {ρ : List Addr} {H : Hp} {h : AH} {x y : AV} {x' y' : V} {b : Bool} (r : HR K ct ρ H h) (e : eqB x y h = some b) (c1 : VR K ρ H x x') (c2 : VR K ρ H y y') :
    (scal x' y' = true ∧ decide (x' = y') = b) ∨ ∃ d e, Dp K H x' d ∧ Dp K H y' e ∧ SeqAt.shaped d = true ∧ SeqAt.shaped e = true ∧ PyData.eqv d e = b := by
  unfold eqB at e
  split at e
  · rename_i bb e1
    cases e
    exact .inl (scalA_ok e1 c1 c2)
  · unfold eqDeep at e
    split at e
    · rename_i d e2 h2 h3
      split at e
      · rename_i hs
        cases e
        exact .inr ⟨d, e2, datA_ok r _ _ h2 c1, datA_ok r _ _ h3 c2, hs.1, hs.2, rfl⟩
      · cases e
    · cases e
theorem op2_eq : Op2 X ct (rEqAll X.K) eqA := by
  intro W x' y' σ H Q ⟨ρ, s, h, x, y, a, b, c1, c2, p⟩
  obtain ⟨z, e, q⟩ := post_rd (v := x') b p
  obtain ⟨k, e1, rfl⟩ := Option.map_eq_some_iff.mp e
  rcases eqB_ok b e1 c1 c2 with ⟨h1, h2⟩ | ⟨d, e, h1, h2, h3, h4, h5⟩
  · exact .inl ⟨h1, by rw [h2]; exact q _ (VR.bl.mpr rfl)⟩
  · exact .inr ⟨d, e, h1, h2, h3, h4, by rw [h5]; exact q _ (VR.bl.mpr rfl)⟩
theorem op2_ne : Op2 X ct (rNeAll X.K) neA := by
  intro W x' y' σ H Q ⟨ρ, s, h, x, y, a, b, c1, c2, p⟩
  obtain ⟨z, e, q⟩ := post_rd (v := x') b p
  obtain ⟨k, e1, rfl⟩ := Option.map_eq_some_iff.mp e
  rcases eqB_ok b e1 c1 c2 with ⟨h1, h2⟩ | ⟨d, e, h1, h2, h3, h4, h5⟩
  · exact .inl ⟨h1, by rw [h2]; exact q _ (VR.bl.mpr rfl)⟩
  · exact .inr ⟨d, e, h1, h2, h3, h4, by rw [h5]; exact q _ (VR.bl.mpr rfl)⟩
/-! ### order -/
def ltA : AV → AV → EM AV := onInts fun i j => ret (.bl (decide (i < j)))
def leA : AV → AV → EM AV := onInts fun i j => ret (.bl (decide (i ≤ j)))
def gtA : AV → AV → EM AV := onInts fun i j => ret (.bl (decide (j < i)))
def geA : AV → AV → EM AV := onInts fun i j => ret (.bl (decide (j ≤ i)))
/-! ### is None -/
def isN : AV → AV → EM AV
  | .non, .non => ret (.bl true)
  | _, .non => ret (.bl false)
  | _, _ => bad
def isNotN : AV → AV → EM AV
  | .non, .non => ret (.bl false)
  | _, .non => ret (.bl true)
  | _, _ => bad
theorem VR.non_iff {K : PySem.W.Frag} {ρ : List Addr} {H : Hp} {x : AV} {x' : V} (c : VR K ρ H x x') : x' = .non ↔ x = .non := by
  cases x with
  | non => simp [VR.non.mp c]
  | bl _ => simp [VR.bl.mp c]
  | int _ => simp [VR.int.mp c]
  | str _ => simp [VR.str.mp c]
  | tup _ => obtain ⟨_, _, e, _⟩ := VR.tup.mp c; simp [e]
  | ref _ => obtain ⟨_, _, e⟩ := VR.ref.mp c; simp [e]
  | kd _ => simp [VR.kd.mp c]
theorem op2_isN : Op2 X ct (fun x y H Q => y = .non ∧ Q (.bl (decide (x = .non))) H) isN := by
  intro W x' y' σ H Q ⟨ρ, s, h, x, y, a, b, c1, c2, p⟩
  unfold isN at p
  split at p
  · rw [VR.non.mp c2, VR.non.mp c1]
    exact ⟨rfl, p ρ H _ Ext.refl b (VR.bl.mpr rfl)⟩
  · rename_i n
    have e : decide (x' = .non) = false := decide_eq_false fun q => n (c1.non_iff.mp q)
    rw [VR.non.mp c2, e]
    exact ⟨rfl, p ρ H _ Ext.refl b (VR.bl.mpr rfl)⟩
  · exact p.elim
theorem op2_isNotN : Op2 X ct (fun x y H Q => y = .non ∧ Q (.bl (!decide (x = .non))) H) isNotN := by
  intro W x' y' σ H Q ⟨ρ, s, h, x, y, a, b, c1, c2, p⟩
  unfold isNotN at p
  split at p
  · rw [VR.non.mp c2, VR.non.mp c1]
    exact ⟨rfl, p ρ H _ Ext.refl b (VR.bl.mpr rfl)⟩
  · rename_i n
    have e : decide (x' = .non) = false := decide_eq_false fun q => n (c1.non_iff.mp q)
    rw [VR.non.mp c2, e]
    exact ⟨rfl, p ρ H _ Ext.refl b (VR.bl.mpr rfl)⟩
  · exact p.elim
/-! ### in -/
def flatA : AV → Bool
  | .tup _ => false
  | .ref _ => false
  | .kd _ => false
  | _ => true
/-- == of flat values -/
def eqFlat : AV → AV → Bool
  | .non, .non => true
  | .bl a, .bl b => a == b
  | .bl a, .int b => (if a then 1 else 0) == b
  | .int a, .bl b => a == (if b then 1 else 0)
  | .int a, .int b => a == b
  | .str a, .str b => a == b
  | _, _ => false
def memFlat (x : AV) (xs : List AV) : Bool := xs.any fun y => eqFlat y x
/-- one sign in a text -/
def signIn (x z : Str) : Option Bool := match x.cps.toList with
  | [c] => some (decide (c ∈ z.cps.toList))
  | _ => none
def inB (x y : AV) (h : AH) : Option Bool := match x, y with
  | .str c, .str z => signIn c z
  | x, y => match seqOf h y with
    | some xs => if (flatA x && xs.all flatA) = true then some (memFlat x xs) else none
    | none => none
theorem flat_ok {K : PySem.W.Frag} {ρ : List Addr} {H : Hp} {x : AV} {x' : V} (c : VR K ρ H x x') (f : flatA x = true) : flatV x' = true := by
  cases x with
  | non => simp [VR.non.mp c, flatV]
  | bl _ => simp [VR.bl.mp c, flatV]
  | int _ => simp [VR.int.mp c, flatV]
  | str _ => simp [VR.str.mp c, flatV]
  | tup _ => cases f
  | ref _ => cases f
  | kd _ => cases f
theorem flats_ok {K : PySem.W.Frag} {ρ : List Addr} {H : Hp} : ∀ {xs : List AV} {ys : List V}, VRs K ρ H xs ys → xs.all flatA = true → ys.all flatV = true
  | [], ys, c, _ => by rw [VRs.nil.mp c]; rfl
  | x :: xs, ys, c, f => by
    obtain ⟨y, r, rfl, h1, h2⟩ := VRs.cons.mp c
    rw [List.all_cons, Bool.and_eq_true] at f ⊢
    exact ⟨flat_ok h1 f.1, flats_ok h2 f.2⟩
theorem eqFlat_ok {K : PySem.W.Frag} {ρ : List Addr} {H : Hp} {x y : AV} {x' y' : V} (c : VR K ρ H x x') (d : VR K ρ H y y') (f : flatA x = true) (g : flatA y = true) : eqV x' y' = eqFlat x y := by
  cases x <;> (try (exact absurd f Bool.false_ne_true)) <;> cases y <;> (try (exact absurd g Bool.false_ne_true)) <;> (first | rw [VR.non.mp c] | rw [VR.int.mp c] | rw [VR.bl.mp c] | rw [VR.str.mp c]) <;> (first | rw [VR.non.mp d] | rw [VR.int.mp d] | rw [VR.bl.mp d] | rw [VR.str.mp d]) <;> rfl
theorem mem_ok {K : PySem.W.Frag} {ρ : List Addr} {H : Hp} {x : AV} {x' : V} (c : VR K ρ H x x') (f : flatA x = true) : ∀ {xs : List AV} {ys : List V}, VRs K ρ H xs ys → xs.all flatA = true → inV x' ys = memFlat x xs
  | [], ys, d, _ => by rw [VRs.nil.mp d]; rfl
  | y :: xs, ys, d, g => by
    obtain ⟨y', r, rfl, h1, h2⟩ := VRs.cons.mp d
    rw [List.all_cons, Bool.and_eq_true] at g
    have ih := mem_ok c f h2 g.2
    unfold inV memFlat at ih ⊢
    rw [List.any_cons, List.any_cons, ih, eqFlat_ok h1 c g.1 f]
def rInAll (K : PySem.W.Frag) (neg : Bool) : R2 := fun x y H Q => (fun x y H Q => ∃ (c : Nat) (z : Str), x = .str ⟨#[c]⟩ ∧ y = .str z ∧ Q (.bl (if neg then !decide (c ∈ z.cps.toList) else decide (c ∈ z.cps.toList))) H : R2) x y H Q ∨ rIn K neg x y H Q
theorem in_of {K : PySem.W.Frag} {ρ : List Addr} {H : Hp} {h : AH} {x y : AV} {x' y' : V} {b neg : Bool} {Q : VK} (r : HR K ct ρ H h) (e : inB x y h = some b) (c1 : VR K ρ H x x') (c2 : VR K ρ H y y') (q : Q (.bl (if neg then !b else b)) H) : rInAll K neg x' y' H Q := by
  unfold inB at e
  split at e
  · rename_i c zz
    unfold signIn at e
    split at e
    · rename_i k ek
      cases e
      refine .inl ⟨k, zz, ?_, VR.str.mp c2, q⟩
      rw [VR.str.mp c1]
      have : c = ⟨#[k]⟩ := by
        obtain ⟨cp⟩ := c
        congr 1
        exact Array.toList_inj.mp ek
      rw [this]
    · cases e
  · split at e
    · rename_i xs e1
      split at e
      · rename_i hf
        cases e
        rw [Bool.and_eq_true] at hf
        obtain ⟨p, ys, rfl, h1, h2⟩ := seqOf_ok r c2 e1
        refine .inr ⟨p, ys, rfl, h1, flat_ok c1 hf.1, flats_ok h2 hf.2, ?_⟩
        rw [mem_ok c1 hf.1 h2 hf.2]
        exact q
      · cases e
    · cases e
def inA (x y : AV) : EM AV := rd fun h => (inB x y h).map AV.bl
def ninA (x y : AV) : EM AV := rd fun h => (inB x y h).map fun b => AV.bl (!b)
theorem op2_in : Op2 X ct (rInAll X.K false) inA := by
  intro W x' y' σ H Q ⟨ρ, s, h, x, y, a, b, c1, c2, p⟩
  obtain ⟨z, e, q⟩ := post_rd (v := x') b p
  obtain ⟨k, e1, rfl⟩ := Option.map_eq_some_iff.mp e
  exact in_of b e1 c1 c2 (q _ (VR.bl.mpr rfl))
theorem op2_nin : Op2 X ct (rInAll X.K true) ninA := by
  intro W x' y' σ H Q ⟨ρ, s, h, x, y, a, b, c1, c2, p⟩
  obtain ⟨z, e, q⟩ := post_rd (v := x') b p
  obtain ⟨k, e1, rfl⟩ := Option.map_eq_some_iff.mp e
  exact in_of b e1 c1 c2 (q _ (VR.bl.mpr rfl))
/-- a comparison -/
def cmpP : CmpOp → Option (AV → AV → EM AV)
  | .Eq => some eqA
  | .NotEq => some neA
  | .Lt => some ltA
  | .LtE => some leA
  | .Gt => some gtA
  | .GtE => some geA
  | .Is => some isN
  | .IsNot => some isNotN
  | .In => some inA
  | .NotIn => some ninA
theorem cmpP_ok (hu : X.A.units + 64 < cLine) {op : CmpOp} {f : AV → AV → EM AV} (h : cmpP op = some f) : ∃ r, OpR X (compareOp op) r ∧ Op2 X ct r f := by
  cases op <;> cases h
  · exact ⟨_, op_eq.or (op_eqD hu), op2_eq⟩
  · exact ⟨_, op_ne.or (op_neD hu), op2_ne⟩
  · exact ⟨_, op_lt, op2_I0 fun _ _ _ _ => VR.bl.mpr rfl⟩
  · exact ⟨_, op_le, op2_I0 fun _ _ _ _ => VR.bl.mpr rfl⟩
  · exact ⟨_, op_gt, op2_I0 fun _ _ _ _ => VR.bl.mpr rfl⟩
  · exact ⟨_, op_ge, op2_I0 fun _ _ _ _ => VR.bl.mpr rfl⟩
  · exact ⟨_, op_isN, op2_isN⟩
  · exact ⟨_, op_notN, op2_isNotN⟩
  · exact ⟨rInAll X.K false, op_in_sign.or op_in_seq, op2_in⟩
  · exact ⟨rInAll X.K true, op_notIn_sign.or op_notIn_seq, op2_nin⟩
end
end Ev
namespace Ev
open PySem PySem.Spec PyProof.Rows L2
section
variable {X : Cx} {ct : CT}
/-! ### dicts whose keys are ints and texts -/
def isKd (kvs : List (AV × AV)) : Bool := match kvs with
  | [] => true
  | kv :: _ => (keyV kv.1).isSome
def dLook (kvs : List (AV × AV)) (k : AV) : Option AV := match kvs with
  | [] => none
  | kv :: r => if keyV kv.1 = keyV k then some kv.2 else dLook r k
def dHas (kvs : List (AV × AV)) (k : AV) : Bool := kvs.any fun kv => decide (keyV kv.1 = keyV k)
def dPut (kvs : List (AV × AV)) (k v : AV) : List (AV × AV) :=
  if dHas kvs k = true then kvs.map (fun kv => if keyV kv.1 = keyV k then (kv.1, v) else kv) else kvs ++ [(k, v)]
section
variable {K : PySem.W.Frag} {ρ : List Addr} {H : Hp}
theorem OR.isK {a : Addr} {kvs : List (AV × AV)} (o : OR K ct ρ H a (.dct kvs)) (e : isKd kvs = true) : ∃ gs, H a = some (.dK gs) ∧ DKR K ρ H kvs gs := by
  rcases o with o | ⟨n, gs, h1, h2⟩
  · exact o
  · cases kvs with
    | nil => exact (n rfl).elim
    | cons kv r =>
      obtain ⟨xs, k, w, r', _, h3, _⟩ := h2
      have e2 : (keyV kv.1).isSome = true := e
      rw [h3] at e2
      cases e2
theorem keyV_ok {x : AV} {v : V} {k : Key} (e : keyV x = some k) (c : VR K ρ H x v) : v = kV k := by
  unfold keyV at e
  split at e <;> cases e
  · exact VR.int.mp c
  · exact VR.str.mp c
theorem kV_rep {x : AV} {k : Key} (e : keyV x = some k) : VR K ρ H x (kV k) := by
  unfold keyV at e
  split at e <;> cases e
  · exact VR.int.mpr rfl
  · exact VR.str.mpr rfl
theorem dLook_ok {k : AV} {kk : Key} (ek : keyV k = some kk) : ∀ {kvs : List (AV × AV)} {gs : List (Key × V)}, DKR K ρ H kvs gs → (∀ x, dLook kvs k = some x → ∃ v, valV gs kk = some v ∧ VR K ρ H x v) ∧ (dLook kvs k = none → valV gs kk = none)
  | [], gs, d => by
    have e : gs = [] := d
    subst e
    exact ⟨fun x h => (nomatch h), fun _ => rfl⟩
  | kv :: r, gs, d => by
    obtain ⟨k0, w, r', rfl, h0, h1, h2⟩ := d
    have ih := dLook_ok ek h2
    unfold dLook
    by_cases e : keyV kv.1 = keyV k
    · rw [if_pos e]
      have e2 : k0 = kk := by
        rw [h0, ek] at e
        exact Option.some.inj e
      refine ⟨fun x hx => ?_, fun hx => (nomatch hx)⟩
      cases hx
      exact ⟨w, valV_pos e2, h1⟩
    · rw [if_neg e]
      have e2 : ¬ k0 = kk := fun q => e (by rw [h0, ek, q])
      rw [valV_neg (p := (k0, w)) e2]
      exact ih
theorem dHas_ok {k : AV} {kk : Key} (ek : keyV k = some kk) : ∀ {kvs : List (AV × AV)} {gs : List (Key × V)}, DKR K ρ H kvs gs → (gs.any fun kv => decide (kv.1 = kk)) = dHas kvs k
  | [], gs, d => by
    have e : gs = [] := d
    subst e
    rfl
  | kv :: r, gs, d => by
    obtain ⟨k0, w, r', rfl, h0, h1, h2⟩ := d
    have ih := dHas_ok ek h2
    unfold dHas at ih ⊢
    rw [List.any_cons, List.any_cons, ih]
    congr 1
    rw [h0, ek]
    simp
theorem DKR.mapPut {k x : AV} {kk : Key} {v : V} (ek : keyV k = some kk) (c : VR K ρ H x v) : ∀ {kvs : List (AV × AV)} {gs : List (Key × V)}, DKR K ρ H kvs gs →
    DKR K ρ H (kvs.map (fun kv => if keyV kv.1 = keyV k then (kv.1, x) else kv)) (gs.map (fun kv => if kv.1 = kk then (kv.1, v) else kv))
  | [], gs, d => by
    have e : gs = [] := d
    subst e
    exact rfl
  | kv :: r, gs, d => by
    obtain ⟨k0, w, r', rfl, h0, h1, h2⟩ := d
    have ih := DKR.mapPut ek c h2
    rw [List.map_cons, List.map_cons]
    by_cases e : k0 = kk
    · rw [if_pos e, if_pos (by rw [h0, ek, e])]
      exact ⟨k0, v, _, rfl, h0, c, ih⟩
    · rw [if_neg e, if_neg (by rw [h0, ek]; exact fun q => e (Option.some.inj q))]
      exact ⟨k0, w, _, rfl, h0, h1, ih⟩
theorem DKR.snoc {k x : AV} {kk : Key} {v : V} (ek : keyV k = some kk) (c : VR K ρ H x v) : ∀ {kvs : List (AV × AV)} {gs : List (Key × V)}, DKR K ρ H kvs gs → DKR K ρ H (kvs ++ [(k, x)]) (gs ++ [(kk, v)])
  | [], gs, d => by
    have e : gs = [] := d
    subst e
    exact ⟨kk, v, [], rfl, ek, c, rfl⟩
  | kv :: r, gs, d => by
    obtain ⟨k0, w, r', rfl, h0, h1, h2⟩ := d
    exact ⟨k0, w, _, rfl, h0, h1, DKR.snoc ek c h2⟩
theorem dPut_ok {k x : AV} {kk : Key} {v : V} (ek : keyV k = some kk) (c : VR K ρ H x v) {kvs : List (AV × AV)} {gs : List (Key × V)} (d : DKR K ρ H kvs gs) : DKR K ρ H (dPut kvs k x) (putK gs kk v) := by
  unfold dPut putK
  rw [dHas_ok ek d]
  split
  · exact d.mapPut ek c
  · exact d.snoc ek c
theorem DKR.length : ∀ {kvs : List (AV × AV)} {gs : List (Key × V)}, DKR K ρ H kvs gs → kvs.length = gs.length
  | [], gs, d => by
    have e : gs = [] := d
    subst e
    rfl
  | kv :: r, gs, d => by
    obtain ⟨k0, w, r', rfl, h0, h1, h2⟩ := d
    simp [DKR.length h2]
end
/-! ### a[i] -/
/-- a dict's entry -/
def dGetK (h : AH) (i : Nat) (k : AV) : Option (Option AV) := match h[i]?, keyV k with
  | some (.dct kvs), some _ => if isKd kvs = true then some (dLook kvs k) else none
  | _, _ => none
theorem dGetK_ok {K : PySem.W.Frag} {ρ : List Addr} {H : Hp} {h : AH} {i : Nat} {k : AV} {y : V} {a : Addr} (r : HR K ct ρ H h) (hi : ρ[i]? = some a) (c : VR K ρ H k y) {o : Option AV} (e : dGetK h i k = some o) :
    ∃ o', DGet H a y o' ∧ (∀ x, o = some x → ∃ v, o' = some v ∧ VR K ρ H x v) ∧ (o = none → o' = none) := by
  unfold dGetK at e
  split at e
  · rename_i kvs kk e1 e2
    split at e
    · rename_i hk
      cases e
      obtain ⟨gs, h1, h2⟩ := (r.ob i a _ hi e1).isK hk
      obtain ⟨h3, h4⟩ := dLook_ok e2 h2
      rw [keyV_ok e2 c]
      exact ⟨_, DGet.k h1, h3, h4⟩
    · cases e
  · cases e
def idxB (x y : AV) (h : AH) : Option AV := match x with
  | .tup xs => match y with
    | .int i => atI xs i
    | _ => none
  | .str z => match y with
    | .int i => if z.length ≤ sizeLine then (atI z.cps.toList i).map fun c => AV.str ⟨#[c]⟩ else none
    | _ => none
  | .ref p => match h[p]? with
    | some (.dct _) => match dGetK h p y with
      | some (some v) => some v
      | _ => none
    | _ => match y, lstOf h p with
      | .int i, some xs => atI xs i
      | _, _ => none
  | _ => none
def idxA (x y : AV) : EM AV := rd (idxB x y)
theorem VRs.atI {K : PySem.W.Frag} {ρ : List Addr} {H : Hp} {xs : List AV} {ys : List V} {i : Int} {x : AV} (h : VRs K ρ H xs ys) (e : L2.atI xs i = some x) : ∃ y, L2.atI ys i = some y ∧ VR K ρ H x y := by
  unfold L2.atI at e ⊢
  rw [h.length] at e
  cases q : ixN ys.length i with
  | none => rw [q] at e; cases e
  | some j =>
    rw [q] at e
    exact h.get e
/-- a dict's item, by the machine's tail -/
def rIxD : R2 := fun x y H Q => ∃ a v, x = .ref a ∧ DGet H a y (some v) ∧ Q v H
theorem ix_dict (hu : X.A.units + 1 < cLine) : IxR X rIxD := by
  intro value slice pins s σ H x y v u Q I rx ry h hs
  obtain ⟨a, z, rfl, g, q⟩ := h
  cases rx
  unfold subscriptTail
  refine wpAny_bind ?_
  have hT := dict_typeIs I g
  rw [getitemInPython_of_ne hT.not_modules]
  refine wpAny_bind (wpAny_specialOf hT PySem.F.slot_dict_getitem.lookup ?_)
  have fin : wpAny (model X.prog X.w) X.A (subscripted slice false (.ref a) u) (fun r s₃ => wpAny (model X.prog X.w) X.A (letTemporaryGo value (.ref a) r >>= fun _ => pure r) (EP X pins σ Q) X.xe s₃) X.xe s := by
    rw [hs]
    exact wpAny_operating (wpAny_mono (d_getItem (Q := EP X pins σ Q) hu I g ry fun w' s3 I3 rw' => ⟨z, H, I3, rw', q⟩) (fun r s₃ h₃ => wpAny_bind (wpAny_letTemporaryGo (wpAny_pure h₃))) fun _ _ x => x)
  first
    | exact wpAny_pure (wpAny_bind fin)
    | exact wpAny_bind (wpAny_pure (wpAny_bind fin))
    | exact wpAny_bind fin
abbrev rIxAll (K : PySem.W.Frag) : R2 := fun x y H Q => rIx K x y H Q ∨ rIxD x y H Q
theorem ix_all (hu : X.A.units + 1 < cLine) : IxR X (rIxAll X.K) := ix_seq.or (ix_dict hu)
theorem op2_idx : Op2 X ct (rIxAll X.K) idxA := by
  intro W x' y' σ H Q ⟨ρ, s, h, x, y, a, b, c1, c2, p⟩
  obtain ⟨z, e, q⟩ := post_rd (v := x') b p
  unfold idxB at e
  split at e
  · rename_i xs
    split at e
    · rename_i i
      obtain ⟨t, zs, rfl, h1, h2⟩ := VR.tup.mp c1
      obtain ⟨w, h3, h4⟩ := h2.atI e
      exact .inl (.inr (.inl ⟨t, zs, i, w, rfl, VR.int.mp c2, h1, h3, q w h4⟩))
    · cases e
  · rename_i zz
    split at e
    · rename_i i
      split at e
      · rename_i hz
        obtain ⟨k, h3, rfl⟩ := Option.map_eq_some_iff.mp e
        exact .inl (.inr (.inr ⟨zz, i, k, VR.str.mp c1, VR.int.mp c2, hz, h3, q _ (VR.str.mpr rfl)⟩))
      · cases e
    · cases e
  · rename_i j
    obtain ⟨t, h1, rfl⟩ := VR.ref.mp c1
    split at e
    · split at e
      · rename_i v e1
        cases e
        obtain ⟨o', g, h2, _⟩ := dGetK_ok b h1 c2 e1
        obtain ⟨w, rfl, h3⟩ := h2 _ rfl
        exact .inr ⟨t, w, rfl, g, q w h3⟩
      · cases e
    · split at e
      · rename_i i xs e1
        obtain ⟨ys, h2, h3⟩ := lstOf_ok b h1 e1
        obtain ⟨w, h4, h5⟩ := h3.atI e
        exact .inl (.inl ⟨t, ys, i, w, rfl, VR.int.mp c2, h2, h4, q w h5⟩)
      · cases e
  · cases e
/-! ### a[i:j] -/
def cutA (xs : List AV) (lo hi : Option Int) : List AV := (xs.drop (HT.sIx xs.length 0 lo)).take (HT.sIx xs.length xs.length hi - HT.sIx xs.length 0 lo)
theorem VRs.cut {K : PySem.W.Frag} {ρ : List Addr} {H : Hp} {xs : List AV} {ys : List V} (h : VRs K ρ H xs ys) (lo hi : Option Int) : VRs K ρ H (cutA xs lo hi) (cutV ys lo hi) := by
  unfold cutA cutV
  rw [h.length]
  exact (h.drop _).take _
def slcA (x : AV) (lo hi : Option Int) : EM AV := match x with
  | .tup xs => if HT.sIx xs.length 0 lo = 0 ∧ HT.sIx xs.length xs.length hi = xs.length then bad else ret (.tup (cutA xs lo hi))
  | .str z => if z.length ≤ sizeLine then ret (.str (cutS z lo hi)) else bad
  | .ref i => fun s h => match lstOf h i with
    | some xs => alloc (.lst (cutA xs lo hi)) s h
    | none => .bad
  | _ => bad
abbrev rSlAll (K : PySem.W.Frag) : V → Option Int → Option Int → Hp → VK → Prop := fun x lo hi H Q => rSlL K x lo hi H Q ∨ (rSlT K x lo hi H Q ∨ rSlS x lo hi H Q)
theorem sl_all : SlR X (rSlAll X.K) := sl_list.or (sl_tup.or sl_str)
theorem slc_of {W : WX} {x' : V} {lo hi : Option Int} {σ : L2.St} {H : Hp} {Q : VK} (t : TP X.K ct W (fun ρ H (x : AV) => RV X.K ρ H x x') (RV X.K) (fun x => slcA x lo hi) σ H Q) : rSlAll X.K x' lo hi H Q := by
  obtain ⟨ρ, s, h, x, a, b, c, p⟩ := t
  unfold slcA at p
  dsimp only at p
  split at p
  · rename_i xs
    obtain ⟨q, ys, rfl, h1, h2⟩ := VR.tup.mp c
    split at p
    · exact p.elim
    · rename_i hc
      refine .inr (.inl ⟨q, ys, rfl, h1, ?_, new_tup b (h2.cut lo hi) p⟩)
      rw [← h2.length]
      exact hc
  · rename_i z
    split at p
    · rename_i hc
      exact .inr (.inr ⟨z, VR.str.mp c, hc, p ρ H _ Ext.refl b (VR.str.mpr rfl)⟩)
    · exact p.elim
  · obtain ⟨q, h1, rfl⟩ := VR.ref.mp c
    split at p
    · rename_i xs e1
      obtain ⟨ys, h2, h3⟩ := lstOf_ok b h1 e1
      exact .inl ⟨q, ys, rfl, h2, new_lst b (h3.cut lo hi) p⟩
    · exact p.elim
  · exact p.elim
end
end Ev
namespace Ev
open PySem PySem.Spec PyProof.Rows L2
/-! ### statements -/
inductive RS where
  | nx (s : Sl) (h : AH)
  | rt (v : AV) (h : AH)
  | bk (s : Sl) (h : AH)
  | ct (s : Sl) (h : AH)
  | exc (c : Str) (fs : List (Str × AV)) (s : Sl) (h : AH)
  | bad
abbrev SM := Sl → AH → RS
def badS : SM := fun _ _ => .bad
def skipS : SM := fun s h => .nx s h
def seqS (a b : SM) : SM := fun s h => match a s h with
  | .nx s' h' => b s' h'
  | r => r
/-- an expression ahead of a statement -/
def bdS {α : Type} (m : EM α) (f : α → SM) : SM := fun s h => match m s h with
  | .ok a h' => f a s h'
  | .exc c fs h' => .exc c fs s h'
  | .bad => .bad
def setS (i : Nat) (v : AV) : SM := fun s h => .nx (s.set i (some v)) h
def retS (v : AV) : SM := fun _ h => .rt v h
section
variable {K : PySem.W.Frag} {ct : CT} {W : WX} {ρ ρ' : List Addr} {H H' : Hp} {σ : L2.St}
def postS (K : PySem.W.Frag) (ct : CT) (W : WX) (ρ : List Addr) (H : Hp) (D : Ends) : RS → Prop
  | .nx s' h' => ∀ ρ' H' σ', Ext ρ H ρ' H' → HR K ct ρ' H' h' → SR K ρ' H' s' σ' → D.nx σ' H'
  | .rt v h' => ∀ ρ' H' v', Ext ρ H ρ' H' → HR K ct ρ' H' h' → VR K ρ' H' v v' → D.rt v' H'
  | .bk s' h' => ∀ ρ' H' σ', Ext ρ H ρ' H' → HR K ct ρ' H' h' → SR K ρ' H' s' σ' → D.bk σ' H'
  | .ct s' h' => ∀ ρ' H' σ', Ext ρ H ρ' H' → HR K ct ρ' H' h' → SR K ρ' H' s' σ' → D.ct σ' H'
  | .exc c fs s' h' => ∀ ρ' H' σ' cls d, Ext ρ H ρ' H' → HR K ct ρ' H' h' → SR K ρ' H' s' σ' → ExR K ct ρ' H' c fs cls d → W cls d σ' H'
  | .bad => False
def TS0 (K : PySem.W.Frag) (ct : CT) (W : WX) (m : SM) : TS := fun D σ H => ∃ ρ s h, SR K ρ H s σ ∧ HR K ct ρ H h ∧ postS K ct W ρ H D (m s h)
theorem postS.ext {D : Ends} (e : Ext ρ H ρ' H') : ∀ {r : RS}, postS K ct W ρ H D r → postS K ct W ρ' H' D r
  | .nx s' h', p => fun ρ2 H2 σ' a b c => p ρ2 H2 σ' (e.trans a) b c
  | .bk s' h', p => fun ρ2 H2 σ' a b c => p ρ2 H2 σ' (e.trans a) b c
  | .ct s' h', p => fun ρ2 H2 σ' a b c => p ρ2 H2 σ' (e.trans a) b c
  | .rt s' h', p => fun ρ2 H2 σ' a b c => p ρ2 H2 σ' (e.trans a) b c
  | .exc c fs s' h', p => fun ρ2 H2 σ' cls d a b c => p ρ2 H2 σ' cls d (e.trans a) b c
  | .bad, p => p
theorem TS0.seq {a b : SM} {D : Ends} {H : Hp} (t : TS0 K ct W (seqS a b) D σ H) : TS0 K ct W a { D with nx := TS0 K ct W b D } σ H := by
  obtain ⟨ρ, s, h, r, q, p⟩ := t
  refine ⟨ρ, s, h, r, q, ?_⟩
  unfold seqS at p
  split at p
  · rename_i s' h' e
    rw [e]
    exact fun ρ' H' σ' x y z => ⟨ρ', s', h', z, y, postS.ext x p⟩
  · rename_i r' n
    cases e : a s h with
    | nx s' h' => exact (n s' h' e).elim
    | _ => rw [e] at p; exact p
theorem TS0.bd {α β : Type} {R : Rl α β} {m : EM α} {f : α → SM} {D : Ends} {H : Hp} (t : TS0 K ct W (bdS m f) D σ H) :
    T0 K ct W R m σ H fun v' H1 => ∃ ρ s h v, SR K ρ H1 s σ ∧ HR K ct ρ H1 h ∧ R ρ H1 v v' ∧ postS K ct W ρ H1 D (f v s h) := by
  obtain ⟨ρ, s, h, r, q, p⟩ := t
  refine ⟨ρ, s, h, r, q, ?_⟩
  unfold bdS at p
  cases e : m s h with
  | ok v h1 =>
    rw [e] at p
    exact fun ρ' H' v' x y z => ⟨ρ', s, h1, v, r.mono x, y, z, postS.ext x p⟩
  | exc c fs h1 =>
    rw [e] at p
    exact fun ρ' H' cls d x y z => p ρ' H' σ cls d x y (r.mono x) z
  | bad =>
    rw [e] at p
    exact p
end
section
variable {X : Cx} {ct : CT} {W : WX}
abbrev AS (X : Cx) (ct : CT) (W : WX) (st : Stmt) (m : SM) : Prop := PS X st (TS0 X.K ct W m)
abbrev ASs (X : Cx) (ct : CT) (W : WX) (st : List Stmt) (m : SM) : Prop := PSs X st (TS0 X.K ct W m)
theorem ps_imp {e : Stmt} {t t' : TS} (h : PS X e t) (i : ∀ D σ H, t' D σ H → t D σ H) : PS X e t' := ⟨fun pins s σ H D I q => h.run pins s σ H D I (i D σ H q)⟩
theorem pss_imp {e : List Stmt} {t t' : TS} (h : PSs X e t) (i : ∀ D σ H, t' D σ H → t D σ H) : PSs X e t' := ⟨fun pins s σ H D I q => h.run pins s σ H D I (i D σ H q)⟩
theorem as_bad {st : Stmt} : AS X ct W st badS := ⟨fun pins s σ H D I q => by obtain ⟨_, _, _, _, _, p⟩ := q; exact p.elim⟩
theorem ass_bad {st : List Stmt} : ASs X ct W st badS := ⟨fun pins s σ H D I q => by obtain ⟨_, _, _, _, _, p⟩ := q; exact p.elim⟩
theorem skip_of {D : Ends} {σ : L2.St} {H : Hp} (t : TS0 X.K ct W skipS D σ H) : D.nx σ H := by
  obtain ⟨ρ, s, h, r, q, p⟩ := t
  exact p ρ H σ Ext.refl q r
theorem ass_nil : ASs X ct W [] skipS := pss_imp pss_nil fun D σ H t => skip_of t
theorem ass_cons {st : Stmt} {rest : List Stmt} {a b : SM} (h1 : AS X ct W st a) (h2 : ASs X ct W rest b) : ASs X ct W (st :: rest) (seqS a b) := pss_imp (pss_cons h1 h2) fun D σ H t => t.seq
theorem as_pass {pos : Pos} : AS X ct W (.Pass pos) skipS := ps_imp ps_pass fun D σ H t => skip_of t
theorem as_doc {x j pos pos'} : AS X ct W (.Expr (.Constant (.str x) j pos) pos') skipS := ps_imp ps_doc fun D σ H t => skip_of t
theorem as_break {pos : Pos} : AS X ct W (.Break pos) (fun s h => .bk s h) := ps_imp ps_break fun D σ H ⟨ρ, s, h, r, q, p⟩ => p ρ H σ Ext.refl q r
theorem as_continue {pos : Pos} : AS X ct W (.Continue pos) (fun s h => .ct s h) := ps_imp ps_continue fun D σ H ⟨ρ, s, h, r, q, p⟩ => p ρ H σ Ext.refl q r
theorem as_ret {e : Expr} {pos : Pos} {m : EM AV} (he : AE X ct W e m) : AS X ct W (.Return (some e) pos) (bdS m retS) := by
  refine ps_imp (ps_ret he) fun D σ H t => ?_
  refine T0.mono (TS0.bd (R := RV X.K) t) fun v' H1 t1 => ?_
  obtain ⟨ρ, s, h, v, r, q, c, p⟩ := t1
  exact p ρ H1 v' Ext.refl q c
theorem as_retN {pos : Pos} : AS X ct W (.Return none pos) (retS .non) := ps_imp ps_retN fun D σ H ⟨ρ, s, h, r, q, p⟩ => p ρ H .non Ext.refl q (VR.non.mpr rfl)
theorem as_expr {e : Expr} {pos : Pos} {m : EM AV} (he : AE X ct W e m) (hs : swapsWith e none pos.line X.env = pure false) : AS X ct W (.Expr e pos) (bdS m fun _ => skipS) := by
  refine ps_imp (ps_expr he hs) fun D σ H t => ?_
  refine T0.mono (TS0.bd (R := RV X.K) t) fun v' H1 t1 => ?_
  obtain ⟨ρ, s, h, v, r, q, c, p⟩ := t1
  exact p ρ H1 σ Ext.refl q r
theorem as_set {i : Nat} {x : Str} {e : Expr} {pos pos' : Pos} {m : EM AV} (h : PS X (.Assign [.Name x pos'] e pos) (tAsg (T0 X.K ct W (RV X.K) m) (gName i))) : AS X ct W (.Assign [.Name x pos'] e pos) (bdS m (setS i)) := by
  refine ps_imp h fun D σ H t => ?_
  refine T0.mono (TS0.bd (R := RV X.K) t) fun v' H1 t1 => ?_
  obtain ⟨ρ, s, h, v, r, q, c, p⟩ := t1
  exact p ρ H1 _ Ext.refl q (r.set i c)
def ifS (c : EM Bool) (a b : SM) : SM := bdS c fun k => if k = true then a else b
theorem as_if {c : Expr} {a b : List Stmt} {pos : Pos} {mc : EM Bool} {ma mb : SM} (hc : AT X ct W c mc) (ha : ASs X ct W a ma) (hb : ASs X ct W b mb) : AS X ct W (.If c a b pos) (ifS mc ma mb) := by
  refine ps_imp (ps_if hc ha hb) fun D σ H t => ?_
  refine T0.mono (TS0.bd (R := RB) t) fun k H1 t1 => ?_
  obtain ⟨ρ, s, h, k', r, q, c, p⟩ := t1
  obtain rfl : k' = k := c
  cases k' with
  | true => exact ⟨ρ, s, h, r, q, p⟩
  | false => exact ⟨ρ, s, h, r, q, p⟩
/-! ### while -/
def whileN (c : EM Bool) (b : SM) : Nat → SM
  | 0 => badS
  | f + 1 => bdS c fun k => if k = true then (fun s h => match b s h with
      | .nx s' h' => whileN c b f s' h'
      | .ct s' h' => whileN c b f s' h'
      | .bk s' h' => .nx s' h'
      | r => r) else skipS
/-- more turns than any loop here takes -/
def turnsMax : Nat := 1000000000000
theorem as_while {c : Expr} {body : List Stmt} {pos : Pos} {mc : EM Bool} {mb : SM} (hp : PassesOwn (model X.prog X.w) X.A X.env X.xe) (hc : AT X ct W c mc) (hb : ASs X ct W body mb) : AS X ct W (.While c body [] pos) (whileN mc mb turnsMax) := by
  refine ps_imp (ps_while hp hc hb) fun D σ H t => ?_
  refine ⟨fun m σ H => TS0 X.K ct W (whileN mc mb m) D σ H, ⟨turnsMax, t⟩, fun m σ H t => ?_⟩
  cases m with
  | zero =>
    obtain ⟨_, _, _, _, _, p⟩ := t
    exact p.elim
  | succ f =>
    refine T0.mono (TS0.bd (R := RB) t) fun k H1 t1 => ?_
    obtain ⟨ρ, s, h, k', r, q, c, p⟩ := t1
    obtain rfl : k' = k := c
    cases k' with
    | false =>
      exact p ρ H1 σ Ext.refl q r
    | true =>
      refine ⟨fun σ' H' => TS0 X.K ct W (whileN mc mb f) D σ' H', fun σ' H' n => ⟨f, Nat.lt_succ_self f, n⟩, ρ, s, h, r, q, ?_⟩
      rw [if_pos rfl] at p
      cases e : mb s h with
      | nx s' h' =>
        rw [e] at p
        exact fun ρ' H' σ' x y z => ⟨ρ', s', h', z, y, postS.ext x p⟩
      | ct s' h' =>
        rw [e] at p
        exact fun ρ' H' σ' x y z => ⟨ρ', s', h', z, y, postS.ext x p⟩
      | bk s' h' =>
        rw [e] at p
        exact p
      | rt v h' =>
        rw [e] at p
        exact p
      | exc c fs s' h' =>
        rw [e] at p
        exact p
      | bad =>
        rw [e] at p
        exact p
/-! ### what is walked -/
inductive IT where
  | vals (xs : List AV)
  | live (i : Nat)
/-- at turn n: an item, the end, or nothing that is known -/
def nextA (it : IT) (n : Nat) (h : AH) : Option (Option AV) := match it with
  | .vals xs => some xs[n]?
  | .live i => match lstOf h i with
    | some xs => some xs[n]?
    | none => none
def RJ (K : PySem.W.Frag) (ct : CT) : Rl IT L2.It := fun ρ H it J => ∀ n ρ' H' h', Ext ρ H ρ' H' → HR K ct ρ' H' h' → match nextA it n h' with
  | none => True
  | some none => J.stop n H'
  | some (some v) => J.go n H' ∧ ∀ x' H'', J.yld n H' x' H'' → Ext ρ' H' ρ' H'' ∧ HR K ct ρ' H'' h' ∧ VR K ρ' H'' v x'
abbrev AI (X : Cx) (ct : CT) (W : WX) (tg e : Expr) (m : EM IT) : Prop := PI X tg e (T0 X.K ct W (RJ X.K ct) m)
theorem pi_imp {tg e : Expr} {t t' : TI} (h : PI X tg e t) (i : ∀ σ H Q, t' σ H Q → t σ H Q) : PI X tg e t' := ⟨fun pins s σ H Q I q => h.run pins s σ H Q I (i σ H Q q)⟩
theorem ai_bad {tg e : Expr} : AI X ct W tg e bad := ⟨fun pins s σ H Q I q => by obtain ⟨_, _, _, _, _, p⟩ := q; exact p.elim⟩
theorem RJ.tup {K : PySem.W.Frag} {ρ : List Addr} {H : Hp} {a : Addr} {xs : List AV} {ys : List V} (h : SqT K H a ys) (c : VRs K ρ H xs ys) : RJ K ct ρ H (.vals xs) (Itt K a) := by
  intro n ρ' H' h' ex hr
  show match some xs[n]? with
  | none => True
  | some none => _
  | some (some v) => _
  have c' := c.mono ex
  have h' := ex.sqT h
  cases e : xs[n]? with
  | none =>
    exact ⟨ys, h', by rw [← c'.length]; exact List.getElem?_eq_none_iff.mp e⟩
  | some v =>
    obtain ⟨w, e1, r⟩ := c'.get e
    refine ⟨⟨ys, w, h', e1⟩, fun x' H'' y => ?_⟩
    obtain ⟨rfl, y⟩ := y
    have e2 := y ys h'
    rw [e1] at e2
    cases e2
    exact ⟨Ext.refl, hr, r⟩
theorem RJ.live {K : PySem.W.Frag} {ρ : List Addr} {H : Hp} {a : Addr} {i : Nat} (h : ρ[i]? = some a) : RJ K ct ρ H (.live i) (Itl K a) := by
  intro n ρ' H' h' ex hr
  have hi := ex.ref _ _ h
  unfold nextA
  dsimp only
  split
  · trivial
  · rename_i e0
    split at e0
    · rename_i xs e1
      have e := Option.some.inj e0
      obtain ⟨ys, h2, c⟩ := lstOf_ok hr hi e1
      exact ⟨ys, h2, by rw [← c.length]; exact List.getElem?_eq_none_iff.mp e⟩
    · cases e0
  · rename_i v e0
    split at e0
    · rename_i xs e1
      have e := Option.some.inj e0
      obtain ⟨ys, h2, c⟩ := lstOf_ok hr hi e1
      obtain ⟨w, e3, r⟩ := c.get e
      refine ⟨⟨ys, w, h2, e3⟩, fun x' H'' y => ?_⟩
      obtain ⟨rfl, y⟩ := y
      have e2 := y ys h2
      rw [e3] at e2
      cases e2
      exact ⟨Ext.refl, hr, r⟩
    · cases e0
def charsA (z : Str) : List AV := z.cps.toList.map fun c => AV.str ⟨#[c]⟩
theorem RJ.str {K : PySem.W.Frag} {ρ : List Addr} {H : Hp} {z : Str} : RJ K ct ρ H (.vals (charsA z)) (Its z) := by
  intro n ρ' H' h' ex hr
  show match some (charsA z)[n]? with
  | none => True
  | some none => _
  | some (some v) => _
  unfold charsA
  rw [List.getElem?_map, Array.getElem?_toList]
  cases e : z.cps[n]? with
  | none =>
    exact Array.getElem?_eq_none_iff.mp e
  | some c =>
    refine ⟨(Array.getElem?_eq_some_iff.mp e).1, fun x' H'' y => ?_⟩
    obtain ⟨rfl, c', e2, rfl⟩ := y
    rw [e] at e2
    cases e2
    exact ⟨Ext.refl, hr, VR.str.mpr rfl⟩
def itOf : AV → EM IT
  | .tup xs => ret (.vals xs)
  | .str z => ret (.vals (charsA z))
  | .ref i => fun s h => match lstOf h i with
    | some _ => .ok (.live i) h
    | none => .bad
  | _ => bad
theorem ai_seq {tg e : Expr} {m : EM AV} (he : AE X ct W e m) : AI X ct W tg e (bd m itOf) := by
  refine ⟨fun pins s σ H R I t => ?_⟩
  obtain ⟨ρ, sl, h, a, b, p⟩ := t
  unfold Ev.bd at p
  cases e0 : m sl h with
  | bad => rw [e0] at p; exact p.elim
  | exc c fs h1 =>
    rw [e0] at p
    exact (pi_list he).run pins s σ H R I ⟨ρ, sl, h, a, b, by rw [e0]; exact p⟩
  | ok v h1 =>
    rw [e0] at p
    cases v with
    | tup xs =>
      refine (pi_tup he).run pins s σ H R I ⟨ρ, sl, h, a, b, ?_⟩
      rw [e0]
      intro ρ' H' v' ex hr hv
      obtain ⟨q, ys, rfl, h2, h3⟩ := VR.tup.mp hv
      exact ⟨q, rfl, ⟨ys, h2⟩, p ρ' H' _ ex hr (RJ.tup h2 h3)⟩
    | str z =>
      refine (pi_str he).run pins s σ H R I ⟨ρ, sl, h, a, b, ?_⟩
      rw [e0]
      intro ρ' H' v' ex hr hv
      exact ⟨z, VR.str.mp hv, p ρ' H' _ ex hr RJ.str⟩
    | ref i =>
      have p : post (RJ X.K ct) X.K ct W ρ H σ R (match lstOf h1 i with
        | some _ => .ok (.live i) h1
        | none => .bad) := p
      split at p
      · rename_i xs e1
        refine (pi_list he).run pins s σ H R I ⟨ρ, sl, h, a, b, ?_⟩
        rw [e0]
        intro ρ' H' v' ex hr hv
        obtain ⟨q, h1, rfl⟩ := VR.ref.mp hv
        obtain ⟨ys, h2, _⟩ := lstOf_ok hr h1 e1
        exact ⟨q, rfl, ⟨ys, h2⟩, p ρ' H' _ ex hr (RJ.live h1)⟩
      · exact p.elim
    | _ => exact p.elim
/-! ### targets -/
/-- what a target does with a value -/
def TG0 (K : PySem.W.Frag) (ct : CT) (W : WX) (g : AV → SM) : TG := fun v' σ H Q => ∃ ρ s h v, SR K ρ H s σ ∧ HR K ct ρ H h ∧ VR K ρ H v v' ∧ postS K ct W ρ H { nx := Q, rt := fun _ _ => False } (g v s h)
abbrev AG (X : Cx) (ct : CT) (W : WX) (tg : Expr) (g : AV → SM) : Prop := PG X tg (TG0 X.K ct W g)
theorem pg_imp {e : Expr} {t t' : TG} (h : PG X e t) (i : ∀ v σ H Q, t' v σ H Q → t v σ H Q) : PG X e t' := ⟨fun pins s σ H v u Q I r q => h.run pins s σ H v u Q I r (i v σ H Q q)⟩
theorem ag_bad {e : Expr} : AG X ct W e (fun _ => badS) := ⟨fun pins s σ H v u Q I r q => by obtain ⟨_, _, _, _, _, _, _, p⟩ := q; exact p.elim⟩
theorem ag_name {i : Nat} {e : Expr} (h : PG X e (gName i)) : AG X ct W e (setS i) := by
  refine pg_imp h fun v' σ H Q t => ?_
  obtain ⟨ρ, s, h, v, a, b, c, p⟩ := t
  exact p ρ H _ Ext.refl b (a.set i c)
/-! ### for -/
def forN (it : IT) (g : AV → SM) (b : SM) : Nat → Nat → SM
  | 0, _ => badS
  | f + 1, n => fun s h => match nextA it n h with
    | none => .bad
    | some none => .nx s h
    | some (some v) => match g v s h with
      | .nx s1 h1 => (match b s1 h1 with
        | .nx s2 h2 => forN it g b f (n + 1) s2 h2
        | .ct s2 h2 => forN it g b f (n + 1) s2 h2
        | .bk s2 h2 => .nx s2 h2
        | r => r)
      | .exc c fs s1 h1 => .exc c fs s1 h1
      | _ => .bad
def forS (m : EM IT) (g : AV → SM) (b : SM) : SM := bdS m fun it => forN it g b turnsMax 0
theorem as_for {tg iter : Expr} {body : List Stmt} {pos : Pos} {mi : EM IT} {g : AV → SM} {mb : SM} (hp : PassesOwn (model X.prog X.w) X.A X.env X.xe) (hc : X.calm = true) (hi : AI X ct W tg iter mi) (hg : AG X ct W tg g) (hb : ASs X ct W body mb)
    (hs : ∀ x, foldedSetIterable iter X.env x = pure x) : AS X ct W (.For tg iter body [] pos) (forS mi g mb) := by
  refine ps_imp (ps_for hp hc hi hg hb hs) fun D σ H t => ?_
  refine T0.mono (TS0.bd (R := RJ X.K ct) t) fun J H1 t1 => ?_
  obtain ⟨ρ0, s0, h0, it, r0, q0, c0, p0⟩ := t1
  refine ⟨fun i m σ H => ∃ ρ s h, Ext ρ0 H1 ρ H ∧ SR X.K ρ H s σ ∧ HR X.K ct ρ H h ∧ postS X.K ct W ρ H D (forN it g mb m i s h), ⟨turnsMax, ρ0, s0, h0, Ext.refl, r0, q0, p0⟩, fun i m σ H t => ?_⟩
  obtain ⟨ρ, s, h, ex, r, q, p⟩ := t
  cases m with
  | zero => exact p.elim
  | succ f =>
    have jr := c0 i ρ H h ex q
    unfold forN at p
    cases e : nextA it i h with
    | none => rw [e] at p; exact p.elim
    | some o =>
      rw [e] at p jr
      cases o with
      | none => exact .inl ⟨jr, p ρ H σ Ext.refl q r⟩
      | some v =>
        obtain ⟨j1, j2⟩ := jr
        refine .inr ⟨j1, fun σ' H' => ∃ ρ s h, Ext ρ0 H1 ρ H' ∧ SR X.K ρ H' s σ' ∧ HR X.K ct ρ H' h ∧ postS X.K ct W ρ H' D (forN it g mb f (i + 1) s h), fun σ' H' n => ⟨f, Nat.lt_succ_self f, n⟩, fun x' H' y => ?_⟩
        obtain ⟨ex2, hr2, hv⟩ := j2 x' H' y
        refine ⟨ρ, s, h, v, r.mono ex2, hr2, hv, ?_⟩
        dsimp only at p
        cases eg : g v s h with
        | nx s1 h1 =>
          rw [eg] at p
          intro ρ1 Hg σ1 ex3 hr3 sr3
          refine ⟨ρ1, s1, h1, sr3, hr3, ?_⟩
          dsimp only at p
          cases eb : mb s1 h1 with
          | nx s2 h2 =>
            rw [eb] at p
            exact fun ρ' H' σ' x y z => ⟨ρ', s2, h2, ((ex.trans ex2).trans ex3).trans x, z, y, postS.ext ((ex2.trans ex3).trans x) p⟩
          | ct s2 h2 =>
            rw [eb] at p
            exact fun ρ' H' σ' x y z => ⟨ρ', s2, h2, ((ex.trans ex2).trans ex3).trans x, z, y, postS.ext ((ex2.trans ex3).trans x) p⟩
          | bk s2 h2 =>
            rw [eb] at p
            exact fun ρ' H' σ' x y z => p ρ' H' σ' ((ex2.trans ex3).trans x) y z
          | rt v2 h2 =>
            rw [eb] at p
            exact fun ρ' H' σ' x y z => p ρ' H' σ' ((ex2.trans ex3).trans x) y z
          | exc c2 fs2 s2 h2 =>
            rw [eb] at p
            exact fun ρ' H' σ' cls d x y z => p ρ' H' σ' cls d ((ex2.trans ex3).trans x) y z
          | bad =>
            rw [eb] at p
            exact p
        | exc c fs s1 h1 =>
          rw [eg] at p
          exact fun ρ' H' σ' cls d x y z => p ρ' H' σ' cls d (ex2.trans x) y z
        | bk _ _ => rw [eg] at p; exact p.elim
        | ct _ _ => rw [eg] at p; exact p.elim
        | rt _ _ => rw [eg] at p; exact p.elim
        | bad => rw [eg] at p; exact p.elim
end
end Ev
namespace Ev
open PySem PySem.Spec PyProof.Rows L2
/-! ### targets that are names, and tuples of them -/
inductive Pat where
  | nm (i : Nat)
  | tp (ps : List Pat)
mutual
def bindP : Pat → AV → Sl → Option Sl
  | .nm i, v, s => some (s.set i (some v))
  | .tp ps, .tup vs, s => bindPs ps vs s
  | .tp _, _, _ => none
def bindPs : List Pat → List AV → Sl → Option Sl
  | [], [], s => some s
  | p :: ps, v :: vs, s => match bindP p v s with
    | some s' => bindPs ps vs s'
    | none => none
  | _, _, _ => none
end
mutual
def patSlots : Pat → List Nat
  | .nm i => [i]
  | .tp ps => patsSlots ps
def patsSlots : List Pat → List Nat
  | [] => []
  | p :: ps => patSlots p ++ patsSlots ps
end
mutual
def gPat (K : PySem.W.Frag) : Pat → TG
  | .nm i => gName i
  | .tp ps => gTup K ps.length (gPats K ps)
def gPats (K : PySem.W.Frag) : List Pat → TGs
  | [] => gNil
  | p :: ps => gCons (gPat K p) (gPats K ps)
end
theorem wipe_set {σ : L2.St} {i : Nat} {x : Option V} : ∀ {vs : List Nat}, i ∈ vs → wipe (σ.set i x) vs = wipe σ vs
  | v :: vs, h => by
    unfold wipe
    by_cases e : i ∈ vs
    · rw [wipe_set e]
    · rcases List.mem_cons.mp h with rfl | h
      · have : ∀ {us : List Nat}, i ∉ us → wipe (σ.set i x) us = (wipe σ us).set i x := by
          intro us
          induction us with
          | nil => intro _; rfl
          | cons u us ih =>
            intro hn
            rw [List.mem_cons, not_or] at hn
            unfold wipe
            rw [ih hn.2, List.set_comm _ _ hn.1]
        rw [this e, List.set_set]
      · exact (e h).elim
mutual
theorem pat_ok {K : PySem.W.Frag} {ρ : List Addr} {H : Hp} : ∀ (p : Pat) {v : AV} {v' : V} {s s' : Sl} {σ : L2.St} {Q : L2.St → Hp → Prop}, bindP p v s = some s' → VR K ρ H v v' → SR K ρ H s σ →
    (∀ σ', SR K ρ H s' σ' → (∀ vs, (∀ i ∈ patSlots p, i ∈ vs) → wipe σ' vs = wipe σ vs) → Q σ' H) → gPat K p v' σ H Q
  | .nm i, v, v', s, s', σ, Q, e, c, r, q => by
    rw [bindP] at e
    cases e
    rw [gPat]
    exact q _ (r.set i c) fun vs h => wipe_set (h i (by rw [patSlots]; simp))
  | .tp ps, v, v', s, s', σ, Q, e, c, r, q => by
    cases v with
    | tup vs =>
      rw [bindP] at e
      obtain ⟨a, ys, rfl, h1, h2⟩ := VR.tup.mp c
      rw [gPat]
      have hl : ps.length = vs.length := pats_len ps e
      refine ⟨a, ys, rfl, h1, by rw [← h2.length]; exact hl.symm, pats_ok ps e h2 r fun σ' r' w => q σ' r' fun vs h => w vs fun i hi => h i (by rw [patSlots]; exact hi)⟩
    | _ => rw [bindP] at e; cases e; all_goals simp
theorem pats_len : ∀ (ps : List Pat) {vs : List AV} {s s' : Sl}, bindPs ps vs s = some s' → ps.length = vs.length
  | [], [], s, s', e => rfl
  | [], _ :: _, s, s', e => by rw [bindPs] at e; cases e; all_goals simp
  | p :: ps, [], s, s', e => by rw [bindPs] at e; cases e; all_goals simp
  | p :: ps, v :: vs, s, s', e => by
    rw [bindPs] at e
    split at e
    · simp [pats_len ps e]
    · cases e
theorem pats_ok {K : PySem.W.Frag} {ρ : List Addr} {H : Hp} : ∀ (ps : List Pat) {vs : List AV} {vs' : List V} {s s' : Sl} {σ : L2.St} {Q : L2.St → Hp → Prop}, bindPs ps vs s = some s' → VRs K ρ H vs vs' → SR K ρ H s σ →
    (∀ σ', SR K ρ H s' σ' → (∀ vs, (∀ i ∈ patsSlots ps, i ∈ vs) → wipe σ' vs = wipe σ vs) → Q σ' H) → gPats K ps vs' σ H Q
  | [], [], vs', s, s', σ, Q, e, c, r, q => by
    rw [bindPs] at e
    cases e
    rw [gPats]
    exact ⟨VRs.nil.mp c, q σ r fun _ _ => rfl⟩
  | [], _ :: _, vs', s, s', σ, Q, e, c, r, q => by rw [bindPs] at e; cases e; all_goals simp
  | p :: ps, [], vs', s, s', σ, Q, e, c, r, q => by rw [bindPs] at e; cases e; all_goals simp
  | p :: ps, v :: vs, vs', s, s', σ, Q, e, c, r, q => by
    rw [bindPs] at e
    split at e
    · rename_i s1 e1
      obtain ⟨y, ys, rfl, h1, h2⟩ := VRs.cons.mp c
      rw [gPats]
      refine ⟨y, ys, rfl, pat_ok p e1 h1 r fun σ1 r1 w1 => pats_ok ps e h2 r1 fun σ2 r2 w2 => q σ2 r2 fun vs h => ?_⟩
      rw [w2 vs fun i hi => h i (by rw [patsSlots]; exact List.mem_append_right _ hi), w1 vs fun i hi => h i (by rw [patsSlots]; exact List.mem_append_left _ hi)]
    · cases e
end
def patS (p : Pat) (v : AV) : SM := fun s h => match bindP p v s with
  | some s' => .nx s' h
  | none => .bad
section
variable {X : Cx} {ct : CT} {W : WX}
theorem ag_pat {p : Pat} {e : Expr} (h : PG X e (gPat X.K p)) : AG X ct W e (patS p) := by
  refine pg_imp h fun v' σ H Q t => ?_
  obtain ⟨ρ, s, h, v, a, b, c, q⟩ := t
  unfold patS at q
  split at q
  · rename_i s' e1
    exact pat_ok p e1 c a fun σ' r' _ => q ρ H σ' Ext.refl b r'
  · exact q.elim
/-! ### list comprehensions -/
def wipeA (s : Sl) : List Nat → Sl
  | [] => s
  | v :: vs => (wipeA s vs).set v none
theorem wipe_ok {K : PySem.W.Frag} {ρ : List Addr} {H : Hp} {s : Sl} {σ : L2.St} (r : SR K ρ H s σ) : ∀ vs : List Nat, SR K ρ H (wipeA s vs) (wipe σ vs)
  | [] => r
  | v :: vs => by
    have ih := wipe_ok r vs
    unfold wipeA wipe
    refine ⟨by simp [ih.1], fun i x e => ?_⟩
    by_cases h : v = i
    · subst h
      by_cases hl : v < (wipeA s vs).length
      · rw [List.getElem?_set_self hl] at e; cases e
      · rw [List.getElem?_eq_none (by simpa using hl)] at e; cases e
    · rw [List.getElem?_set_ne h] at e ⊢
      exact ih.2 i x e
/-- the turns of [e for p in it if c]: D the new list; s0 the slots with the own names forgotten -/
def compN (it : IT) (p : Pat) (c : EM Bool) (e : EM AV) (D : Nat) (s0 : Sl) : Nat → Nat → AH → RE AV
  | 0, _, _ => .bad
  | f + 1, n, h => match nextA it n h with
    | none => .bad
    | some none => .ok (.ref D) h
    | some (some v) => match bindP p v s0 with
      | none => .bad
      | some s1 => match c s1 h with
        | .ok false h2 => compN it p c e D s0 f (n + 1) h2
        | .ok true h2 => (match e s1 h2 with
          | .ok y h3 => (match h3[D]? with
            | some (.lst acc) => if acc.length < sizeLine then compN it p c e D s0 f (n + 1) (h3.set D (.lst (acc ++ [y]))) else .bad
            | _ => .bad)
          | _ => .bad)
        | _ => .bad
def compM (m : EM IT) (p : Pat) (own : List Nat) (c : EM Bool) (e : EM AV) : EM AV := bd m fun it s h => compN it p c e h.length (wipeA s own) turnsMax 0 (h ++ [.lst []])
abbrev W0 : WX := fun _ _ _ _ => False
theorem comp_rd {own : List Nat} {mi : EM IT} {p : Pat} {mc : EM Bool} {me : EM AV} (hp : ∀ i ∈ patSlots p, i ∈ own) {σ : L2.St} {H : Hp} {Q : VK} (t : T0 X.K ct W (RV X.K) (compM mi p own mc me) σ H Q) :
    tLc (T0 X.K ct W (RJ X.K ct) mi) (gPat X.K p) (T0 X.K ct W0 RB mc) (T0 X.K ct W0 (RV X.K) me) own σ H Q := by
  refine T0.mono (T0.bd (R' := RJ X.K ct) t) fun J H1 t1 => ?_
  obtain ⟨ρ0, s0, h0, it, r0, q0, c0, p0⟩ := t1
  intro D hD
  have e0 := Ext.push (ρ := ρ0) (u := .lst []) hD
  have q1 : HR X.K ct (ρ0 ++ [D]) (upd H1 D (.lst [])) (h0 ++ [.lst []]) := q0.push hD ⟨[], upd_same, VRs.nil.mpr rfl⟩
  have hDi : (ρ0 ++ [D])[h0.length]? = some D := by rw [← q0.len]; simp
  refine ⟨fun i m H' => ∃ ρ h, Ext (ρ0 ++ [D]) (upd H1 D (.lst [])) ρ H' ∧ HR X.K ct ρ H' h ∧ post (RV X.K) X.K ct W ρ H' σ Q (compN it p mc me h0.length (wipeA s0 own) m i h), ⟨turnsMax, _, _, Ext.refl, q1, post.ext e0 p0⟩, fun i m H' t => ?_⟩
  obtain ⟨ρ, h, ex, q, pp⟩ := t
  have hDn := ex.ref _ _ hDi
  cases m with
  | zero => exact pp.elim
  | succ f =>
    have jr := c0 i ρ H' h (e0.trans ex) q
    unfold compN at pp
    cases e : nextA it i h with
    | none => rw [e] at pp; exact pp.elim
    | some o =>
      rw [e] at pp jr
      cases o with
      | none => exact .inl ⟨jr, pp ρ H' _ Ext.refl q (VR.ref.mpr ⟨D, hDn, rfl⟩)⟩
      | some v =>
        obtain ⟨j1, j2⟩ := jr
        refine .inr ⟨j1, fun H' => ∃ ρ h, Ext (ρ0 ++ [D]) (upd H1 D (.lst [])) ρ H' ∧ HR X.K ct ρ H' h ∧ post (RV X.K) X.K ct W ρ H' σ Q (compN it p mc me h0.length (wipeA s0 own) f (i + 1) h), fun H' n => ⟨f, Nat.lt_succ_self f, n⟩, fun x' H2 y => ?_⟩
        obtain ⟨ex2, hr2, hv⟩ := j2 x' H2 y
        have sr := wipe_ok ((r0.mono e0).mono (ex.trans ex2)) own
        dsimp only at pp
        split at pp
        · exact pp.elim
        · rename_i s1 eb
          refine pat_ok p eb hv sr fun σ2 sr2 w2 => ⟨(w2 _ hp).trans ?_, ?_⟩
          · have ww : ∀ us : List Nat, (∀ u ∈ us, u ∈ own) → wipe (wipe σ us) own = wipe σ own := by
              intro us
              induction us with
              | nil => intro _; rfl
              | cons u us ih =>
                intro hu
                show wipe ((wipe σ us).set u none) _ = _
                rw [wipe_set (hu u (by simp)), ih fun v hv => hu v (by simp [hv])]
            exact ww _ fun _ h => h
          · refine ⟨ρ, s1, h, sr2, hr2, ?_⟩
            cases ec : mc s1 h with
            | bad => rw [ec] at pp; exact pp.elim
            | exc _ _ _ => rw [ec] at pp; exact pp.elim
            | ok b h2 =>
              rw [ec] at pp
              intro ρ3 H3 b' ex3 hr3 hb
              obtain rfl : b = b' := hb
              cases b with
              | false =>
                exact ⟨ρ3, h2, (ex.trans ex2).trans ex3, hr3, post.ext (ex2.trans ex3) pp⟩
              | true =>
                refine ⟨ρ3, s1, h2, sr2.mono ex3, hr3, ?_⟩
                dsimp only at pp
                cases ee : me s1 h2 with
                | bad => rw [ee] at pp; exact pp.elim
                | exc _ _ _ => rw [ee] at pp; exact pp.elim
                | ok y h3 =>
                  rw [ee] at pp
                  intro ρ4 H4 y' ex4 hr4 hy
                  have hD4 := (ex2.trans (ex3.trans ex4)).ref _ _ hDn
                  dsimp only at pp
                  split at pp
                  · rename_i acc ea
                    obtain ⟨ys, h5, h6⟩ := hr4.ob _ _ _ hD4 ea
                    split at pp
                    · rename_i hl
                      refine ⟨ys, h5, by rw [← h6.length]; exact hl, ρ4, _, ?_, hr4.write hD4 (notFro ea (by simp)) h5 trivial ?_ (by simp), post.ext ((ex2.trans (ex3.trans ex4)).trans (Ext.write h5 trivial)) pp⟩
                      · exact ((ex.trans ex2).trans (ex3.trans ex4)).trans (Ext.write h5 trivial)
                      · exact ⟨ys ++ [y'], upd_same, (h6.append (VRs.one hy)).mono (Ext.write h5 trivial)⟩
                    · exact pp.elim
                  · exact pp.elim
theorem ae_comp {elt tg iter : Expr} {ifs : List Expr} {scope : Scope} {own : List (Str × Nat)} {pos : Pos} {mi : EM IT} {p : Pat} {mc : EM Bool} {me : EM AV} (hc : X.calm = true) (hN : X.N.Nodup) (hi : AI X ct W tg iter mi) (ok : BlkOk X.N X.env.scope scope own)
    (hp : ∀ i ∈ patSlots p, i ∈ own.map (·.2))
    (hg : ∀ (s : Shared) (H : Hp) (C : Addr) (cl : List (Str × Addr)) (fp : List Addr), PG (X.blk s H scope (compEnvC scope cl C X.env) fp) tg (gPat X.K p))
    (ht : ∀ (s : Shared) (H : Hp) (C : Addr) (cl : List (Str × Addr)) (fp : List Addr), PTs (X.blk s H scope (compEnvC scope cl C X.env) fp) ifs (T0 X.K ct W0 RB mc))
    (he : ∀ (s : Shared) (H : Hp) (C : Addr) (cl : List (Str × Addr)) (fp : List Addr), PE (X.blk s H scope (compEnvC scope cl C X.env) fp) elt (T0 X.K ct W0 (RV X.K) me)) (hs : ∀ x, foldedSetIterable iter X.env x = pure x) :
    AE X ct W (.ListComp elt [⟨tg, iter, ifs, 0⟩] scope pos) (compM mi p (own.map (·.2)) mc me) := pe_imp (pe_lc hc hN hi ok hg ht he hs) fun σ H Q t => comp_rd hp t
/-- x = [..], the name a local -/
theorem as_setLc {i : Nat} {y : Str} {py : Pos} {elt tg iter : Expr} {ifs : List Expr} {scope : Scope} {own : List (Str × Nat)} {pos spos : Pos} {mi : EM IT} {p : Pat} {mc : EM Bool} {me : EM AV} (hc : X.calm = true) (hN : X.N.Nodup) (hy : X.N[i]? = some y) (hyl : X.env.scope.names.lookup y = some .local)
    (hsw : swapsWith (.ListComp elt [⟨tg, iter, ifs, 0⟩] scope pos) (some (.Name y py)) spos.line X.env = pure true) (hi : AI X ct W tg iter mi) (ok : BlkOk X.N X.env.scope scope own)
    (hp : ∀ i ∈ patSlots p, i ∈ own.map (·.2))
    (hg : ∀ (s : Shared) (H : Hp) (C : Addr) (cl : List (Str × Addr)) (fp : List Addr), PG (X.blk s H scope (compEnvC scope cl C X.env) fp) tg (gPat X.K p))
    (ht : ∀ (s : Shared) (H : Hp) (C : Addr) (cl : List (Str × Addr)) (fp : List Addr), PTs (X.blk s H scope (compEnvC scope cl C X.env) fp) ifs (T0 X.K ct W0 RB mc))
    (he : ∀ (s : Shared) (H : Hp) (C : Addr) (cl : List (Str × Addr)) (fp : List Addr), PE (X.blk s H scope (compEnvC scope cl C X.env) fp) elt (T0 X.K ct W0 (RV X.K) me)) (hs : ∀ x, foldedSetIterable iter X.env x = pure x) :
    AS X ct W (.Assign [.Name y py] (.ListComp elt [⟨tg, iter, ifs, 0⟩] scope pos) spos) (bdS (compM mi p (own.map (·.2)) mc me) (setS i)) := by
  refine ps_imp (ps_setLc hc hN hy hyl hsw hi ok hg ht he hs) fun D σ H t => ?_
  refine comp_rd hp (T0.mono (TS0.bd (R := RV X.K) t) fun v' H1 t1 => ?_)
  obtain ⟨ρ, s, h, v, r, q, c, p⟩ := t1
  exact p ρ H1 _ Ext.refl q (r.set i c)
end
end Ev
namespace Ev
open PySem PySem.Spec PyProof.Rows L2
/-! ### argument lists -/
def evsM : List (EM AV) → EM (List AV)
  | [] => ret []
  | m :: ms => bd m fun x => bd (evsM ms) fun xs => ret (x :: xs)
def notStar : Expr → Bool
  | .Starred _ _ => false
  | _ => true
theorem starEach_cons {e : Expr} {es : List Expr} {env : Env} (h : notStar e = true) : starEach (e :: es) env = (false, eval e env) :: starEach es env := by
  cases e <;> first | rfl | cases h
theorem star_none : ∀ {es : List Expr} {pos : Pos} {env : Env}, es.all notStar = true → (backTo pos (starEach es env)).any (·.1) = false
  | [], _, _, _ => rfl
  | e :: es, pos, env, h => by
    rw [List.all_cons, Bool.and_eq_true] at h
    rw [starEach_cons h.1]
    show (backTo pos (starEach es env)).any (·.1) = false
    exact star_none h.2
section
variable {X : Cx} {ct : CT} {W : WX}
theorem aa_bad {es : List Expr} : AA X ct W es bad := ⟨fun pos pins s σ H Q I q => by obtain ⟨_, _, _, _, _, p⟩ := q; exact p.elim⟩
theorem aa_nil : AA X ct W [] (evsM []) := pa_imp pa_nil fun σ H Q ⟨ρ, s, h, a, b, p⟩ => p ρ H [] Ext.refl b (VRs.nil.mpr rfl)
theorem aa_cons {e : Expr} {es : List Expr} {m : EM AV} {ms : List (EM AV)} (h : notStar e = true) (he : AE X ct W e m) (hs : AA X ct W es (evsM ms)) : AA X ct W (e :: es) (evsM (m :: ms)) := by
  refine pa_imp (pa_cons he hs (starEach_cons h)) fun σ H Q t => ?_
  refine T0.mono (T0.bd (R' := RV X.K) t) fun x' H1 t1 => ?_
  refine T0.mono (TP.bd0 (R' := RL X.K) mono_V t1) fun xs' H2 t2 => ?_
  exact TP.ret t2 fun ρ g hg => VRs.cons.mpr ⟨x', xs', rfl, hg.1, hg.2⟩
/-! ### displays -/
def tupM (ms : List (EM AV)) : EM AV := bd (evsM ms) fun xs => if xs.length ≤ sizeLine then ret (.tup xs) else bad
def lstM (ms : List (EM AV)) : EM AV := bd (evsM ms) fun xs => if xs.length ≤ sizeLine then alloc (.lst xs) else bad
theorem ae_tup {es : List Expr} {k : Nat} {pos : Pos} {ms : List (EM AV)} (h : AA X ct W es (evsM ms)) : AE X ct W (.Tuple es k pos) (tupM ms) := by
  refine pe_imp (pe_tup h) fun σ H Q t => ?_
  refine T0.mono (T0.bd (R' := RL X.K) t) fun xs' H1 t1 => ?_
  obtain ⟨ρ, s, h, xs, a, b, c, p⟩ := t1
  dsimp only at p
  split at p
  · rename_i hl
    exact ⟨by rw [← VRs.length c]; exact hl, new_tup b c p⟩
  · exact p.elim
theorem ae_lst {es : List Expr} {pos : Pos} {ms : List (EM AV)} (h : AA X ct W es (evsM ms)) : AE X ct W (.List es pos) (lstM ms) := by
  refine pe_imp (pe_lst h) fun σ H Q t => ?_
  refine T0.mono (T0.bd (R' := RL X.K) t) fun xs' H1 t1 => ?_
  obtain ⟨ρ, s, h, xs, a, b, c, p⟩ := t1
  dsimp only at p
  split at p
  · rename_i hl
    exact ⟨by rw [← VRs.length c]; exact hl, new_lst b c p⟩
  · exact p.elim
/-! ### calls of the built-in functions, by values -/
def OpN (X : Cx) (ct : CT) (r : List V → Hp → VK → Prop) (f : List AV → EM AV) : Prop :=
  ∀ (W : WX) (xs' : List V) (σ : L2.St) (H : Hp) (Q : VK), (∃ ρ s h xs, SR X.K ρ H s σ ∧ HR X.K ct ρ H h ∧ VRs X.K ρ H xs xs' ∧ post (RV X.K) X.K ct W ρ H σ Q (f xs s h)) → r xs' H Q
theorem tCB_of {r : List V → Hp → VK → Prop} {f : List AV → EM AV} {ms : EM (List AV)} (hr : OpN X ct r f) : ∀ (σ : L2.St) (H : Hp) (Q : VK), T0 X.K ct W (RV X.K) (bd ms f) σ H Q → tCB r (T0 X.K ct W (RL X.K) ms) σ H Q := fun σ H Q t =>
  T0.mono (T0.bd (R' := RL X.K) t) fun xs' H1 ⟨ρ, s, h, xs, a, b, c, p⟩ => hr W xs' σ H1 Q ⟨ρ, s, h, xs, a, b, c, p⟩
theorem OpN.or {r r' : List V → Hp → VK → Prop} {f f' g : List AV → EM AV} (h : OpN X ct r f) (h' : OpN X ct r' f') (c : ∀ xs s hh, g xs s hh = f xs s hh ∨ g xs s hh = f' xs s hh) : OpN X ct (fun xs H Q => r xs H Q ∨ r' xs H Q) g :=
  fun W xs' σ H Q ⟨ρ, s, hh, xs, a, b, c1, p⟩ => by
    rcases c xs s hh with e | e
    · rw [e] at p
      exact .inl (h W xs' σ H Q ⟨ρ, s, hh, xs, a, b, c1, p⟩)
    · rw [e] at p
      exact .inr (h' W xs' σ H Q ⟨ρ, s, hh, xs, a, b, c1, p⟩)
theorem VRs.one_inv {K : PySem.W.Frag} {ρ : List Addr} {H : Hp} {x : AV} {ys : List V} (h : VRs K ρ H [x] ys) : ∃ y, ys = [y] ∧ VR K ρ H x y := by
  obtain ⟨y, r, rfl, h1, h2⟩ := VRs.cons.mp h
  rw [VRs.nil.mp h2]
  exact ⟨y, rfl, h1⟩
theorem VRs.two_inv {K : PySem.W.Frag} {ρ : List Addr} {H : Hp} {x x2 : AV} {ys : List V} (h : VRs K ρ H [x, x2] ys) : ∃ y y2, ys = [y, y2] ∧ VR K ρ H x y ∧ VR K ρ H x2 y2 := by
  obtain ⟨y, r, rfl, h1, h2⟩ := VRs.cons.mp h
  obtain ⟨y2, rfl, h3⟩ := VRs.one_inv h2
  exact ⟨y, y2, rfl, h1, h3⟩
def lenB (x : AV) (h : AH) : Option AV := match x with
  | .str z => if z.length ≤ sizeLine then some (.int z.length) else none
  | x => (seqOf h x).map fun xs => .int xs.length
def lenA : List AV → EM AV
  | [x] => rd (lenB x)
  | _ => bad
theorem opN_len : OpN X ct (fun xs H Q => ∃ x n, xs = [x] ∧ LenV X.K x H n ∧ Q (.int n) H) lenA := by
  intro W xs' σ H Q ⟨ρ, s, h, xs, a, b, c, p⟩
  unfold lenA at p
  split at p
  · rename_i x
    obtain ⟨y, rfl, cy⟩ := VRs.one_inv c
    obtain ⟨z, e, q⟩ := post_rd (v := y) b p
    unfold lenB at e
    split at e
    · rename_i z
      split at e
      · rename_i hl
        cases e
        rw [VR.str.mp cy]
        exact ⟨_, z.length, rfl, ⟨hl, rfl⟩, q _ (VR.int.mpr rfl)⟩
      · cases e
    · obtain ⟨zs, e1, rfl⟩ := Option.map_eq_some_iff.mp e
      obtain ⟨r, ys, rfl, h1, h2⟩ := seqOf_ok b cy e1
      refine ⟨_, ys.length, rfl, ?_, q _ (VR.int.mpr (by rw [h2.length]))⟩
      rcases h1 with h1 | h1
      · exact .inl ⟨ys, h1, rfl⟩
      · exact .inr ⟨ys, h1, rfl⟩
  · exact p.elim
def intA : List AV → EM AV
  | [.int i] => ret (.int i)
  | [.bl k] => ret (.int (if k then 1 else 0))
  | _ => bad
theorem opN_int : OpN X ct (fun xs H Q => (∃ i, xs = [.int i] ∧ Q (.int i) H) ∨ ∃ k, xs = [.bl k] ∧ Q (.int (if k then 1 else 0)) H) intA := by
  intro W xs' σ H Q ⟨ρ, s, h, xs, a, b, c, p⟩
  unfold intA at p
  split at p
  · obtain ⟨y, rfl, cy⟩ := VRs.one_inv c
    rw [VR.int.mp cy]
    exact .inl ⟨_, rfl, p ρ H _ Ext.refl b (VR.int.mpr rfl)⟩
  · obtain ⟨y, rfl, cy⟩ := VRs.one_inv c
    rw [VR.bl.mp cy]
    exact .inr ⟨_, rfl, p ρ H _ Ext.refl b (VR.int.mpr rfl)⟩
  · exact p.elim
def absA : List AV → EM AV
  | [.int i] => ret (.int (if i < 0 then -i else i))
  | _ => bad
theorem opN_abs : OpN X ct (fun xs H Q => ∃ i, xs = [.int i] ∧ Q (.int (if i < 0 then -i else i)) H) absA := by
  intro W xs' σ H Q ⟨ρ, s, h, xs, a, b, c, p⟩
  unfold absA at p
  split at p
  · obtain ⟨y, rfl, cy⟩ := VRs.one_inv c
    rw [VR.int.mp cy]
    exact ⟨_, rfl, p ρ H _ Ext.refl b (VR.int.mpr rfl)⟩
  · exact p.elim
/-- a list's ints -/
def intsOf : List AV → Option (List Int)
  | [] => some []
  | .int i :: r => match intsOf r with
    | some ns => some (i :: ns)
    | none => none
  | _ :: _ => none
def blsOf : List AV → Option (List Bool)
  | [] => some []
  | .bl i :: r => match blsOf r with
    | some ns => some (i :: ns)
    | none => none
  | _ :: _ => none
theorem intsOf_ok {K : PySem.W.Frag} {ρ : List Addr} {H : Hp} : ∀ {xs : List AV} {ns : List Int} {ys : List V}, intsOf xs = some ns → VRs K ρ H xs ys → ys = ns.map V.int
  | [], ns, ys, e, c => by
    rw [intsOf] at e
    cases e
    exact VRs.nil.mp c
  | x :: xs, ns, ys, e, c => by
    obtain ⟨y, r, rfl, h1, h2⟩ := VRs.cons.mp c
    unfold intsOf at e
    split at e
    · cases ‹_ :: _ = []›
    · rename_i i r' e0
      cases e0
      split at e
      · rename_i ms e1
        cases e
        rw [VR.int.mp h1, intsOf_ok e1 h2]
        rfl
      · cases e
    · cases e
theorem blsOf_ok {K : PySem.W.Frag} {ρ : List Addr} {H : Hp} : ∀ {xs : List AV} {ns : List Bool} {ys : List V}, blsOf xs = some ns → VRs K ρ H xs ys → ys = ns.map V.bl
  | [], ns, ys, e, c => by
    rw [blsOf] at e
    cases e
    exact VRs.nil.mp c
  | x :: xs, ns, ys, e, c => by
    obtain ⟨y, r, rfl, h1, h2⟩ := VRs.cons.mp c
    unfold blsOf at e
    split at e
    · cases ‹_ :: _ = []›
    · rename_i i r' e0
      cases e0
      split at e
      · rename_i ms e1
        cases e
        rw [VR.bl.mp h1, blsOf_ok e1 h2]
        rfl
      · cases e
    · cases e
/-- the items of a list object alone -/
def lstB (x : AV) (h : AH) : Option (List AV) := match x with
  | .ref i => lstOf h i
  | _ => none
theorem lstB_ok {K : PySem.W.Frag} {ρ : List Addr} {H : Hp} {h : AH} {x : AV} {x' : V} {xs : List AV} (r : HR K ct ρ H h) (c : VR K ρ H x x') (e : lstB x h = some xs) : ∃ a ys, x' = .ref a ∧ SqL K H a ys ∧ VRs K ρ H xs ys := by
  unfold lstB at e
  split at e
  · obtain ⟨a, h1, rfl⟩ := VR.ref.mp c
    obtain ⟨ys, h2, h3⟩ := lstOf_ok r h1 e
    exact ⟨a, ys, rfl, h2, h3⟩
  · cases e
/-- a function of a list's ints -/
def onIntsL (f : List Int → Option AV) : List AV → EM AV
  | [x] => rd fun h => match lstB x h with
    | some xs => match intsOf xs with
      | some ns => f ns
      | none => none
    | none => none
  | _ => bad
theorem onIntsL_inv {f : List Int → Option AV} {σ : L2.St} {H : Hp} {Q : VK} {xs' : List V} (t : ∃ ρ s h xs, SR X.K ρ H s σ ∧ HR X.K ct ρ H h ∧ VRs X.K ρ H xs xs' ∧ post (RV X.K) X.K ct W ρ H σ Q (onIntsL f xs s h)) :
    ∃ a ns z, xs' = [.ref a] ∧ SqL X.K H a (ns.map V.int) ∧ f ns = some z ∧ ∃ ρ, ∀ v, VR X.K ρ H z v → Q v H := by
  obtain ⟨ρ, s, h, xs, a, b, c, p⟩ := t
  unfold onIntsL at p
  split at p
  · rename_i x
    obtain ⟨y, rfl, cy⟩ := VRs.one_inv c
    obtain ⟨z, e, q⟩ := post_rd (v := y) b p
    split at e
    · rename_i xs e1
      split at e
      · rename_i ns e2
        obtain ⟨d, ys, rfl, h1, h2⟩ := lstB_ok b cy e1
        rw [intsOf_ok e2 h2] at h1
        exact ⟨d, ns, z, rfl, h1, e, ρ, q⟩
      · cases e
    · cases e
  · exact p.elim
def sumA : List AV → EM AV := onIntsL fun ns => some (.int ns.sum)
theorem opN_sum : OpN X ct (rSum X.K) sumA := fun W xs' σ H Q t => by
  obtain ⟨a, ns, z, rfl, h, e, ρ, q⟩ := onIntsL_inv t
  cases e
  exact ⟨a, ns, rfl, h, q _ (VR.int.mpr rfl)⟩
def greatest : List Int → Option Int
  | [] => none
  | n :: r => some (r.foldl max n)
def least : List Int → Option Int
  | [] => none
  | n :: r => some (r.foldl min n)
theorem foldl_max_ge : ∀ (r : List Int) (n : Int), n ≤ r.foldl max n ∧ ∀ y ∈ r, y ≤ r.foldl max n
  | [], n => ⟨Int.le_refl _, fun _ h => (nomatch h)⟩
  | m :: r, n => by
    obtain ⟨h1, h2⟩ := foldl_max_ge r (max n m)
    rw [List.foldl_cons]
    refine ⟨by omega, fun y hy => ?_⟩
    rcases List.mem_cons.mp hy with rfl | hy
    · omega
    · exact h2 y hy
theorem foldl_min_le : ∀ (r : List Int) (n : Int), r.foldl min n ≤ n ∧ ∀ y ∈ r, r.foldl min n ≤ y
  | [], n => ⟨Int.le_refl _, fun _ h => (nomatch h)⟩
  | m :: r, n => by
    obtain ⟨h1, h2⟩ := foldl_min_le r (min n m)
    rw [List.foldl_cons]
    refine ⟨by omega, fun y hy => ?_⟩
    rcases List.mem_cons.mp hy with rfl | hy
    · omega
    · exact h2 y hy
def maxA : List AV → EM AV
  | [.int i, .int j] => ret (.int (if j > i then j else i))
  | [x] => onIntsL (fun ns => (greatest ns).map AV.int) [x]
  | _ => bad
def minA : List AV → EM AV
  | [.int i, .int j] => ret (.int (if j < i then j else i))
  | [x] => onIntsL (fun ns => (least ns).map AV.int) [x]
  | _ => bad
abbrev rMax2 : List V → Hp → VK → Prop := fun xs H Q => ∃ i j, xs = [.int i, .int j] ∧ Q (.int (if j > i then j else i)) H
abbrev rMin2 : List V → Hp → VK → Prop := fun xs H Q => ∃ i j, xs = [.int i, .int j] ∧ Q (.int (if j < i then j else i)) H
theorem opN_max : OpN X ct (fun xs H Q => rMax2 xs H Q ∨ rMax X.K xs H Q) maxA := fun W xs' σ H Q t => by
  obtain ⟨ρ, s, h, xs, a, b, c, p⟩ := t
  unfold maxA at p
  split at p
  · obtain ⟨y, y2, rfl, h1, h2⟩ := VRs.two_inv c
    rw [VR.int.mp h1, VR.int.mp h2]
    exact .inl ⟨_, _, rfl, p ρ H _ Ext.refl b (VR.int.mpr rfl)⟩
  · obtain ⟨d, ns, z, rfl, h, e, ρ', q⟩ := onIntsL_inv (W := W) ⟨ρ, s, h, _, a, b, c, p⟩
    obtain ⟨k, e1, rfl⟩ := Option.map_eq_some_iff.mp e
    cases ns with
    | nil => cases e1
    | cons n r =>
      cases e1
      refine .inr ⟨d, n :: r, rfl, h, by simp, fun m hm hall => ?_⟩
      obtain ⟨g1, g2⟩ := foldl_max_ge r n
      have e2 : r.foldl max n = m := by
        have hle : m ≤ r.foldl max n := by
          rcases List.mem_cons.mp hm with rfl | hm
          · exact g1
          · exact g2 m hm
        have hge : r.foldl max n ≤ m := by
          have key : ∀ (l : List Int) (k : Int), k ≤ m → (∀ y ∈ l, y ≤ m) → l.foldl max k ≤ m := by
            intro l
            induction l with
            | nil => intro k hk _; exact hk
            | cons x l ih =>
              intro k hk hl
              exact ih (max k x) (by have := hl x (by simp); omega) fun y hy => hl y (by simp [hy])
          exact key r n (hall n (by simp)) fun y hy => hall y (by simp [hy])
        omega
      rw [← e2]
      exact q _ (VR.int.mpr rfl)
  · exact p.elim
theorem opN_min : OpN X ct (fun xs H Q => rMin2 xs H Q ∨ rMin X.K xs H Q) minA := fun W xs' σ H Q t => by
  obtain ⟨ρ, s, h, xs, a, b, c, p⟩ := t
  unfold minA at p
  split at p
  · obtain ⟨y, y2, rfl, h1, h2⟩ := VRs.two_inv c
    rw [VR.int.mp h1, VR.int.mp h2]
    exact .inl ⟨_, _, rfl, p ρ H _ Ext.refl b (VR.int.mpr rfl)⟩
  · obtain ⟨d, ns, z, rfl, h, e, ρ', q⟩ := onIntsL_inv (W := W) ⟨ρ, s, h, _, a, b, c, p⟩
    obtain ⟨k, e1, rfl⟩ := Option.map_eq_some_iff.mp e
    cases ns with
    | nil => cases e1
    | cons n r =>
      cases e1
      refine .inr ⟨d, n :: r, rfl, h, by simp, fun m hm hall => ?_⟩
      obtain ⟨g1, g2⟩ := foldl_min_le r n
      have e2 : r.foldl min n = m := by
        have hge : r.foldl min n ≤ m := by
          rcases List.mem_cons.mp hm with rfl | hm
          · exact g1
          · exact g2 m hm
        have hle : m ≤ r.foldl min n := by
          have key : ∀ (l : List Int) (k : Int), m ≤ k → (∀ y ∈ l, m ≤ y) → m ≤ l.foldl min k := by
            intro l
            induction l with
            | nil => intro k hk _; exact hk
            | cons x l ih =>
              intro k hk hl
              exact ih (min k x) (by have := hl x (by simp); omega) fun y hy => hl y (by simp [hy])
          exact key r n (hall n (by simp)) fun y hy => hall y (by simp [hy])
        omega
      rw [← e2]
      exact q _ (VR.int.mpr rfl)
  · exact p.elim
def onBlsL (f : List Bool → Bool) : List AV → EM AV
  | [x] => rd fun h => match lstB x h with
    | some xs => (blsOf xs).map fun bs => AV.bl (f bs)
    | none => none
  | _ => bad
def anyA : List AV → EM AV := onBlsL fun bs => bs.any id
def allA : List AV → EM AV := onBlsL fun bs => bs.all id
theorem onBlsL_inv {f : List Bool → Bool} {σ : L2.St} {H : Hp} {Q : VK} {xs' : List V} (t : ∃ ρ s h xs, SR X.K ρ H s σ ∧ HR X.K ct ρ H h ∧ VRs X.K ρ H xs xs' ∧ post (RV X.K) X.K ct W ρ H σ Q (onBlsL f xs s h)) :
    ∃ a bs, xs' = [.ref a] ∧ SqL X.K H a (bs.map V.bl) ∧ Q (.bl (f bs)) H := by
  obtain ⟨ρ, s, h, xs, a, b, c, p⟩ := t
  unfold onBlsL at p
  split at p
  · rename_i x
    obtain ⟨y, rfl, cy⟩ := VRs.one_inv c
    obtain ⟨z, e, q⟩ := post_rd (v := y) b p
    split at e
    · rename_i xs e1
      obtain ⟨bs, e2, rfl⟩ := Option.map_eq_some_iff.mp e
      obtain ⟨d, ys, rfl, h1, h2⟩ := lstB_ok b cy e1
      rw [blsOf_ok e2 h2] at h1
      exact ⟨d, bs, rfl, h1, q _ (VR.bl.mpr rfl)⟩
    · cases e
  · exact p.elim
theorem opN_any : OpN X ct (rAny X.K) anyA := fun W xs' σ H Q t => onBlsL_inv t
theorem opN_all : OpN X ct (rAll X.K) allA := fun W xs' σ H Q t => onBlsL_inv t
def listA : List AV → EM AV
  | [x] => fun s h => match seqOf h x with
    | some xs => alloc (.lst xs) s h
    | none => .bad
  | _ => bad
theorem opN_list : OpN X ct (fun xs H Q => ∃ p ys, xs = [.ref p] ∧ (SqL X.K H p ys ∨ SqT X.K H p ys) ∧ ∀ l, H l = none → Q (.ref l) (upd H l (.lst ys))) listA := by
  intro W xs' σ H Q ⟨ρ, s, h, xs, a, b, c, p⟩
  unfold listA at p
  split at p
  · rename_i x
    obtain ⟨y, rfl, cy⟩ := VRs.one_inv c
    split at p
    · rename_i zs e
      obtain ⟨r, ys, rfl, h1, h2⟩ := seqOf_ok b cy e
      exact ⟨r, ys, rfl, h1, new_lst b h2 p⟩
    · exact p.elim
  · exact p.elim
def tupleA : List AV → EM AV
  | [.tup xs] => ret (.tup xs)
  | [x] => fun s h => match lstB x h with
    | some xs => .ok (.tup xs) h
    | none => .bad
  | _ => bad
theorem opN_tuple : OpN X ct (fun xs H Q => ∃ p ys, xs = [.ref p] ∧ ((SqL X.K H p ys ∧ ∀ l, H l = none → Q (.ref l) (upd H l (.tup ys))) ∨ (SqT X.K H p ys ∧ Q (.ref p) H))) tupleA := by
  intro W xs' σ H Q ⟨ρ, s, h, xs, a, b, c, p⟩
  unfold tupleA at p
  split at p
  · obtain ⟨y, rfl, cy⟩ := VRs.one_inv c
    obtain ⟨r, ys, rfl, h1, h2⟩ := VR.tup.mp cy
    exact ⟨r, ys, rfl, .inr ⟨h1, p ρ H _ Ext.refl b cy⟩⟩
  · obtain ⟨y, rfl, cy⟩ := VRs.one_inv c
    dsimp only at p
    split at p
    · rename_i zs e
      obtain ⟨r, ys, rfl, h1, h2⟩ := lstB_ok b cy e
      exact ⟨r, ys, rfl, .inl ⟨h1, new_tup b h2 p⟩⟩
    · exact p.elim
  · exact p.elim
/-- what is known of a built-in: a function or a class -/
structure BltOk (X : Cx) (ct : CT) (x : Str) (f : List AV → EM AV) : Prop where
  dbg : (x == ("__debug__" : Str)) = false
  nm : x ≠ "__name__"
  rule : (∃ id r, bootBuiltins x = some (.builtin id) ∧ CallR X (.builtin id) r ∧ OpN X ct r f) ∨ ∃ T r, bootBuiltins x = some (.type T) ∧ CallR X (.type T) r ∧ OpN X ct r f
def blts : List (Str × (List AV → EM AV)) := [("len", lenA), ("int", intA), ("abs", absA), ("sum", sumA), ("max", maxA), ("min", minA), ("any", anyA), ("all", allA), ("list", listA), ("tuple", tupleA)]
theorem blt_ok (hc : X.calm = true) {x : Str} {f : List AV → EM AV} (h : (x, f) ∈ blts) : BltOk X ct x f := by
  simp only [blts, List.mem_cons, List.mem_nil_iff, or_false, Prod.mk.injEq] at h
  rcases h with ⟨rfl, rfl⟩ | ⟨rfl, rfl⟩ | ⟨rfl, rfl⟩ | ⟨rfl, rfl⟩ | ⟨rfl, rfl⟩ | ⟨rfl, rfl⟩ | ⟨rfl, rfl⟩ | ⟨rfl, rfl⟩ | ⟨rfl, rfl⟩ | ⟨rfl, rfl⟩ <;> refine ⟨by decide +kernel, by decide +kernel, ?_⟩
  · exact .inl ⟨_, _, by decide +kernel, call_len, opN_len⟩
  · exact .inr ⟨_, _, by decide +kernel, call_int1, opN_int⟩
  · exact .inl ⟨_, _, by decide +kernel, call_abs, opN_abs⟩
  · exact .inl ⟨_, _, by decide +kernel, cr_sum hc, opN_sum⟩
  · exact .inl ⟨_, _, by decide +kernel, (call_max2 hc).or (cr_max hc), opN_max⟩
  · exact .inl ⟨_, _, by decide +kernel, (call_min2 hc).or (cr_min hc), opN_min⟩
  · exact .inl ⟨_, _, by decide +kernel, cr_any hc, opN_any⟩
  · exact .inl ⟨_, _, by decide +kernel, cr_all hc, opN_all⟩
  · exact .inr ⟨_, _, by decide +kernel, call_list_of, opN_list⟩
  · exact .inr ⟨_, _, by decide +kernel, call_tuple_of, opN_tuple⟩
theorem ae_blt {x : Str} {p pos : Pos} {e : Expr} {es : List Expr} {f : List AV → EM AV} {ms : EM (List AV)} (k : BltOk X ct x f) (hg : Gl X x) (hm : X.mg x = none) (hs : (e :: es).all notStar = true) (ha : AA X ct W (e :: es) ms) :
    AE X ct W (.Call (.Name x p) (e :: es) [] pos) (bd ms f) := by
  rw [List.all_cons, Bool.and_eq_true] at hs
  rcases k.rule with ⟨id, r, hv, hc, hr⟩ | ⟨T, r, hv, hc, hr⟩
  · exact pe_imp (pe_callB hc hg hm hv ha k.nm k.dbg (starEach_cons hs.1) (star_none hs.2)) (tCB_of hr)
  · exact pe_imp (pe_callTy hc hg hm hv ha k.nm k.dbg (starEach_cons hs.1) (star_none hs.2)) (tCB_of hr)
end
end Ev
namespace Ev
open PySem PySem.Spec PyProof.Rows L2
/-! ### what a def of the text promises: what the evaluator says -/
abbrev CF := Str → List AV → AH → RE AV
def spU (K : PySem.W.Frag) (ct : CT) (f : List AV → AH → RE AV) (n : Nat) : Sp := fun vs H Q E => vs.length = n ∧ ∃ ρ h xs, HR K ct ρ H h ∧ VRs K ρ H xs vs ∧ match f xs h with
  | .ok v h' => ∀ ρ' H' v', Ext ρ H ρ' H' → HR K ct ρ' H' h' → VR K ρ' H' v v' → Q v' H'
  | .exc c fs h' => ∀ ρ' H' cls d, Ext ρ H ρ' H' → HR K ct ρ' H' h' → ExR K ct ρ' H' c fs cls d → E cls d H'
  | .bad => False
/-- a def that is called by the evaluator's name key; f its address -/
structure FnI (P : Program) (w : World) (K : PySem.W.Frag) (mg : Str → Option Value) (base : Heap) (ct : CT) (cf : CF) (lev : Nat) (key : Str) (f : Addr) : Prop where
  ok : ∃ fd ps, FnOk P w K mg base (L2.CX P w) lev f fd ps (spU K ct (fun xs h => if xs.length = ps.length then cf key xs h else .bad) ps.length) ∧ Binds K fd ps []
  kp : PySem.W.keepIn K (.ref f) = true
section
variable {X : Cx} {ct : CT} {W : WX}
/-- a call, by the evaluator -/
def callM (cf : CF) (key : Str) (ms : EM (List AV)) : EM AV := bd ms fun xs _ h => cf key xs h
theorem sp_of {f : List AV → AH → RE AV} {n : Nat} {σ : L2.St} {H : Hp} {Q : VK} {vs : List V} {ρ : List Addr} {h : AH} {s : Sl} {xs : List AV} (hl : vs.length = n) (b : HR X.K ct ρ H h) (c : VRs X.K ρ H xs vs) (p : post (RV X.K) X.K ct W ρ H σ Q (f xs h)) : spU X.K ct (fun xs h => if xs.length = n then f xs h else .bad) n vs H Q (WE W σ) := by
  refine ⟨hl, ρ, h, xs, b, c, ?_⟩
  dsimp only
  rw [if_pos (c.length.trans hl)]
  cases e : f xs h with
  | ok v h' => rw [e] at p; exact p
  | exc c fs h' => rw [e] at p; exact p
  | bad => rw [e] at p; exact p
/-- f(e, ..) of a def of the text: the number of the arguments n is the def's -/
theorem ae_call {cf : CF} {lev : Nat} {x key : Str} {f : Addr} {p pos : Pos} {e : Expr} {es : List Expr} {ms : EM (List AV)} {ps : List Str} {fd : FuncData} (tk : Takes X W)
    (F : FnOk X.prog X.w X.K X.mg X.base (L2.CX X.prog X.w) lev f fd ps (spU X.K ct (fun xs h => if xs.length = ps.length then cf key xs h else .bad) ps.length)) (hb : Binds X.K fd ps []) (hk : PySem.W.keepIn X.K (.ref f) = true)
    (hr : Room lev X.A) (hg : Gl X x) (hm : X.mg x = some (.ref f)) (hd : (x == ("__debug__" : Str)) = false) (hs : (e :: es).all notStar = true) (ha : AA X ct W (e :: es) ms) (hn : ps.length = (e :: es).length) (hlen : ∀ s h xs h', ms s h = .ok xs h' → xs.length = (e :: es).length) :
    AE X ct W (.Call (.Name x p) (e :: es) [] pos) (callM cf key ms) := by
  rw [List.all_cons, Bool.and_eq_true] at hs
  refine pe_imp (pe_callSD (E := WE W) (dvs := []) (ds := []) F hr hg hm hk hb .nil (fun σ => passAt tk σ) ha hd (starEach_cons hs.1) (star_none hs.2)) fun σ H Q t => ?_
  obtain ⟨ρ, s, h, a, b, pp⟩ := t
  refine ⟨ρ, s, h, a, b, ?_⟩
  unfold callM Ev.bd at pp
  cases e1 : ms s h with
  | bad => rw [e1] at pp; exact pp
  | exc c fs h1 => rw [e1] at pp; exact pp
  | ok xs h1 =>
    rw [e1] at pp
    intro ρ' H' vs ex hr' hv
    show spU _ _ _ _ (vs ++ []) H' Q (WE W σ)
    rw [List.append_nil]
    exact sp_of (s := s) (by rw [← VRs.length hv, hlen s h xs h1 e1, hn]) hr' hv (post.ext ex pp)
theorem pe_callSD0 {CX : CXT} {k : Nat} {f : Addr} {fd : FuncData} {ps : List Str} {sp : Sp} {E : L2.St → XK} {x : Str} {p pos : Pos} (F : FnOk X.prog X.w X.K X.mg X.base CX k f fd ps sp) (hr : Room k X.A) (hg : Gl X x) (hm : X.mg x = some (.ref f)) (hk : PySem.W.keepIn X.K (.ref f) = true) (hb : Binds X.K fd ps []) (hx : ∀ σ, PassesAt CX X σ (E σ)) (hdb : (x == ("__debug__" : Str)) = false) :
    PE X (.Call (.Name x p) [] [] pos) (fun σ H Q => sp [] H Q (E σ)) := by
  refine ⟨fun pins s σ H Q I h => ?_⟩
  refine wpAny_Call_Name_kw (ld_glob I hg hm ?_ hdb)
  exact PySem.W.callWith_K0 I.kIn hk (run_fnSD (us := []) (vs := []) (dvs := []) (ds := []) F hr hb .nil (hx σ) I .nil h)
theorem ae_call0 {cf : CF} {lev : Nat} {x key : Str} {f : Addr} {p pos : Pos} {ps : List Str} {fd : FuncData} (tk : Takes X W)
    (F : FnOk X.prog X.w X.K X.mg X.base (L2.CX X.prog X.w) lev f fd ps (spU X.K ct (fun xs h => if xs.length = ps.length then cf key xs h else .bad) ps.length)) (hb : Binds X.K fd ps []) (hk : PySem.W.keepIn X.K (.ref f) = true)
    (hr : Room lev X.A) (hg : Gl X x) (hm : X.mg x = some (.ref f)) (hd : (x == ("__debug__" : Str)) = false) (hn : ps.length = 0) :
    AE X ct W (.Call (.Name x p) [] [] pos) (callM cf key (evsM [])) := by
  refine pe_imp (pe_callSD0 (E := WE W) F hr hg hm hk hb (fun σ => passAt tk σ) hd) fun σ H Q t => ?_
  obtain ⟨ρ, s, h, a, b, pp⟩ := t
  exact sp_of (s := s) (xs := []) (vs := []) (by rw [hn]; rfl) b (VRs.nil.mpr rfl) pp
theorem evs_len : ∀ {ms : List (EM AV)} {s : Sl} {h : AH} {xs : List AV} {h' : AH}, evsM ms s h = .ok xs h' → xs.length = ms.length
  | [], s, h, xs, h', e => by cases e; rfl
  | m :: ms, s, h, xs, h', e => by
    unfold evsM Ev.bd at e
    split at e
    · rename_i a h1 e1
      dsimp only at e
      split at e
      · rename_i ys h2 e2
        cases e
        simp [evs_len e2]
      · cases e
      · cases e
    · cases e
    · cases e
/-! ### subscripts as targets -/
def setIx (o i v : AV) (h : AH) : Option AH := match o with
  | .ref p => match h[p]? with
    | some (.lst xs) => match i with
      | .int k => match ixN xs.length k with
        | some j => some (h.set p (.lst (xs.set j v)))
        | none => none
      | _ => none
    | some (.dct kvs) => if (isKd kvs && (keyV i).isSome && decide (kvs.length < sizeLine)) = true then some (h.set p (.dct (dPut kvs i v))) else none
    | _ => none
  | _ => none
/-- o[i] = v by values -/
def stIxM (o i v : AV) : SM := fun s h => match setIx o i v h with
  | some h' => .nx s h'
  | none => .bad
def rSetD : TSet := fun o i v H Q => ∃ a H', o = .ref a ∧ DPut H a i v H' ∧ Q H'
theorem set_dict (hu : X.A.units + 1 < cLine) : PSet X rSetD := by
  intro pins s σ H o i v ov iv u Q I ro ri rv h
  obtain ⟨a, H', rfl, g, q⟩ := h
  cases ro
  exact d_setItem hu I g ri rv fun s' I' => ⟨H', I', q⟩
theorem PSet.or {r r' : TSet} (h : PSet X r) (h' : PSet X r') : PSet X (fun o i v H Q => r o i v H Q ∨ r' o i v H Q) := by
  intro pins s σ H o i v ov iv u Q I ro ri rv q
  rcases q with q | q
  · exact h pins s σ H o i v ov iv u Q I ro ri rv q
  · exact h' pins s σ H o i v ov iv u Q I ro ri rv q
abbrev rSetAll : TSet := fun o i v H Q => rSetL o i v H Q ∨ rSetD o i v H Q
theorem setIx_ok {K : PySem.W.Frag} {ρ : List Addr} {H : Hp} {h h' : AH} {o i v : AV} {o' i' v' : V} {Q : Hp → Prop} (b : HR K ct ρ H h) (co : VR K ρ H o o') (ci : VR K ρ H i i') (cv : VR K ρ H v v') (e : setIx o i v h = some h') (q : ∀ H', Ext ρ H ρ H' → HR K ct ρ H' h' → Q H') : rSetAll o' i' v' H Q := by
  unfold setIx at e
  split at e
  · rename_i p
    obtain ⟨a, h1, rfl⟩ := VR.ref.mp co
    split at e
    · rename_i xs e1
      split at e
      · rename_i k
        split at e
        · rename_i j ej
          cases e
          obtain ⟨ys, h2, h3⟩ := lst_own b h1 e1
          refine .inl ⟨a, ys, k, j, rfl, VR.int.mp ci, h2, by rw [← h3.length]; exact ej, q _ (Ext.write h2 trivial) (b.write h1 (notFro e1 (by simp)) h2 trivial ⟨_, upd_same, ?_⟩ (by simp))⟩
          exact (h3.set j cv).mono (Ext.write h2 trivial)
        · cases e
      · cases e
    · rename_i kvs e1
      split at e
      · rename_i hc
        cases e
        rw [Bool.and_eq_true, Bool.and_eq_true] at hc
        obtain ⟨⟨hc1, hc2⟩, hc3⟩ := hc
        obtain ⟨kk, ek⟩ := Option.isSome_iff_exists.mp hc2
        obtain ⟨gs, h2, h3⟩ := (b.ob _ _ _ h1 e1).isK hc1
        rw [keyV_ok ek ci]
        refine .inr ⟨a, _, rfl, DPut.k h2 (by rw [← h3.length]; exact of_decide_eq_true hc3), q _ (Ext.write h2 trivial) (b.write h1 (notFro e1 (by simp)) h2 trivial (.inl ⟨_, upd_same, ?_⟩) (by simp))⟩
        exact DKR.mono (Ext.write h2 trivial) (dPut_ok ek cv h3)
      · cases e
    · cases e
  · cases e
/-- the target o[i] -/
def subG (mo mi : EM AV) (v : AV) : SM := bdS mo fun o => bdS mi fun i => stIxM o i v
def notSlice : Expr → Bool
  | .Slice _ _ _ _ => false
  | _ => true
theorem noSlice_assign {o i : Expr} {pos : Pos} {env : Env} (h : notSlice i = true) (v : Value) : assign (.Subscript o i pos) env v = (do
      let ov ← holding [v] (eval o env)
      let iv ← holding [v, ov] (eval i env)
      standAt pos
      holding [v, ov, iv] (setItem ov iv v)
      release [v, ov, iv] []) := by
  cases i <;> first | rfl | cases h
theorem ag_sub {o i : Expr} {pos : Pos} {mo mi : EM AV} (hu : X.A.units + 1 < cLine) (ho : AE X ct W o mo) (hi : AE X ct W i mi) (hn : notSlice i = true) : AG X ct W (.Subscript o i pos) (subG mo mi) := by
  refine pg_imp (pg_sub ho hi (PSet.or set_list (set_dict hu)) (noSlice_assign hn)) fun v' σ H Q t => ?_
  obtain ⟨ρ, s, h, v, a, b, c, p⟩ := t
  refine ⟨ρ, s, h, a, b, ?_⟩
  unfold subG bdS at p
  cases e1 : mo s h with
  | bad => rw [e1] at p; exact p
  | exc c fs h1 =>
    rw [e1] at p
    exact fun ρ' H' cls d x y z => p ρ' H' σ cls d x y (a.mono x) z
  | ok ov h1 =>
    rw [e1] at p
    intro ρ1 H1 o' ex1 hr1 co
    refine ⟨ρ1, s, h1, a.mono ex1, hr1, ?_⟩
    dsimp only at p
    cases e2 : mi s h1 with
    | bad => rw [e2] at p; exact p
    | exc c fs h2 =>
      rw [e2] at p
      exact fun ρ' H' cls d x y z => p ρ' H' σ cls d (ex1.trans x) y ((a.mono ex1).mono x) z
    | ok iv h2 =>
      rw [e2] at p
      intro ρ2 H2 i' ex2 hr2 ci
      dsimp only at p
      unfold stIxM at p
      split at p
      · rename_i h3 e3
        refine setIx_ok hr2 (co.mono ex2) ci ((c.mono ex1).mono ex2) e3 fun H3 ex3 hr3 => ?_
        exact p ρ2 H3 σ ((ex1.trans ex2).trans ex3) hr3 (((a.mono ex1).mono ex2).mono ex3)
      · exact p.elim
/-! ### several targets -/
def gsM : List (AV → SM) → List AV → SM
  | [], [] => skipS
  | g :: gs, v :: vs => seqS (g v) (gsM gs vs)
  | _, _ => badS
/-- (a, b, ..) = a tuple -/
def tupG (gs : List (AV → SM)) (v : AV) : SM := match v with
  | .tup vs => gsM gs vs
  | _ => badS
/-- .. where each target's own flow is the plain one -/
def onlyNx (g : AV → SM) : AV → SM := fun v s h => match g v s h with
  | .nx s' h' => .nx s' h'
  | .exc c fs s' h' => .exc c fs s' h'
  | _ => .bad
def TGs0 (K : PySem.W.Frag) (ct : CT) (W : WX) (gs : List (AV → SM)) : TGs := fun vs' σ H Q => ∃ ρ s h vs, SR K ρ H s σ ∧ HR K ct ρ H h ∧ VRs K ρ H vs vs' ∧ postS K ct W ρ H { nx := Q, rt := fun _ _ => False } (gsM gs vs s h)
theorem pgs_imp {e : List Expr} {t t' : TGs} (h : PGs X e t) (i : ∀ v σ H Q, t' v σ H Q → t v σ H Q) : PGs X e t' := ⟨fun pins s σ H v u Q I r q => h.run pins s σ H v u Q I r (i v σ H Q q)⟩
theorem ags_nil : PGs X [] (TGs0 X.K ct W []) := by
  refine pgs_imp pgs_nil fun vs' σ H Q t => ?_
  obtain ⟨ρ, s, h, vs, a, b, c, p⟩ := t
  cases vs with
  | nil => exact ⟨VRs.nil.mp c, p ρ H σ Ext.refl b a⟩
  | cons _ _ => exact p.elim
theorem assignEach_cons {e : Expr} {es : List Expr} {env : Env} (h : notStar e = true) : assignEach (e :: es) env = (false, assign e env) :: assignEach es env := by
  cases e <;> first | rfl | cases h
theorem ags_cons {e : Expr} {es : List Expr} {g : AV → SM} {gs : List (AV → SM)} (hn : notStar e = true) (h : AG X ct W e g) (hs : PGs X es (TGs0 X.K ct W gs)) : PGs X (e :: es) (TGs0 X.K ct W (g :: gs)) := by
  refine pgs_imp (pgs_cons h hs (by rw [assignEach_cons hn]; rfl)) fun vs' σ H Q t => ?_
  obtain ⟨ρ, s, h, vs, a, b, c, p⟩ := t
  cases vs with
  | nil => exact p.elim
  | cons v vs =>
    obtain ⟨y, r, rfl, h1, h2⟩ := VRs.cons.mp c
    refine ⟨y, r, rfl, ρ, s, h, v, a, b, h1, ?_⟩
    have p : postS X.K ct W ρ H { nx := Q, rt := fun _ _ => False } (seqS (g v) (gsM gs vs) s h) := p
    unfold seqS at p
    split at p
    · rename_i s1 h1 e1
      rw [e1]
      exact fun ρ' H' σ' x y z => ⟨ρ', s1, h1, vs, z, y, h2.mono x, postS.ext x p⟩
    · rename_i r' n
      cases e1 : g v s h with
      | nx s' h' => exact (n s' h' e1).elim
      | _ => rw [e1] at p; exact p
theorem assignEach_len : ∀ (es : List Expr) (env : Env), (assignEach es env).length = es.length
  | [], _ => rfl
  | e :: es, env => by
    cases e <;> (show (assignEach es env).length + 1 = _; rw [assignEach_len es env]; rfl)
theorem assignEach_star : ∀ {es : List Expr} {env : Env}, es.all notStar = true → (assignEach es env).findIdx? (·.1) = none
  | [], _, _ => rfl
  | e :: es, env, h => by
    rw [List.all_cons, Bool.and_eq_true] at h
    rw [assignEach_cons h.1, List.findIdx?_cons, assignEach_star h.2]
    rfl
theorem ag_tup {es : List Expr} {k : Nat} {pos : Pos} {gs : List (AV → SM)} (hc : X.calm = true) (hn : es.all notStar = true) (hl : gs.length = es.length) (h : PGs X es (TGs0 X.K ct W gs)) : AG X ct W (.Tuple es k pos) (fun v => match v with | .tup vs => if vs.length = gs.length then gsM gs vs else badS | _ => badS) := by
  refine pg_imp (pg_tup hc h (assignEach_len es X.env) (assignEach_star hn)) fun v' σ H Q t => ?_
  obtain ⟨ρ, s, h, v, a, b, c, p⟩ := t
  cases v with
  | tup vs =>
    obtain ⟨q, ys, rfl, h1, h2⟩ := VR.tup.mp c
    dsimp only at p
    split at p
    · rename_i e
      exact ⟨q, ys, rfl, h1, by rw [← h2.length, e, hl], ρ, s, h, vs, a, b, h2, p⟩
    · exact p.elim
  | _ => exact p.elim
/-! ### target = value -/
def asgS (m : EM AV) (g : AV → SM) : SM := bdS m fun v => onlyNx g v
theorem swapsSole {tg e : Expr} {l : Nat} {env : Env} (h : (match e with | .ListComp .. | .SetComp .. | .DictComp .. => false | _ => true) = true) : swapsWithSole [tg] e l env = pure false := by
  cases e <;> first | rfl | cases h
theorem assignEach_one {tg : Expr} {env : Env} (h : notStar tg = true) : (assignEach [tg] env).map (·.2) = [assign tg env] := by
  rw [assignEach_cons h]
  rfl
theorem as_asg {tg e : Expr} {pos : Pos} {m : EM AV} {g : AV → SM} (he : AE X ct W e m) (hg : AG X ct W tg g) (hs : swapsWithSole [tg] e pos.line X.env = pure false) (hw : swappedStores [tg] e X.env = pure none) (hn : notStar tg = true) : AS X ct W (.Assign [tg] e pos) (asgS m g) := by
  refine ps_imp (ps_asg he hg hs hw (assignEach_one hn)) fun D σ H t => ?_
  refine T0.mono (TS0.bd (R := RV X.K) t) fun v' H1 t1 => ?_
  obtain ⟨ρ, s, h, v, r, q, c, p⟩ := t1
  refine ⟨ρ, s, h, v, r, q, c, ?_⟩
  unfold onlyNx at p
  cases e1 : g v s h with
  | nx s' h' => rw [e1] at p; exact p
  | exc c fs s' h' => rw [e1] at p; exact p
  | _ => rw [e1] at p; exact p.elim
end
end Ev
namespace Ev
open PySem PySem.Spec PyProof.Rows L2
section
variable {X : Cx} {ct : CT} {W : WX}
theorem TP.yes {α β γ : Type} {K : PySem.W.Frag} {R : Rl α β} {P : List Addr → Hp → γ → Prop} {f g : γ → EM α} {σ : L2.St} {H : Hp} {Q : β → Hp → Prop}
    (t : TP K ct W (fun ρ H (x : γ × Bool) => P ρ H x.1 ∧ RB ρ H x.2 true) R (fun z => if z.2 = true then f z.1 else g z.1) σ H Q) : TP K ct W P R f σ H Q := by
  obtain ⟨ρ, s, h, ⟨x, k⟩, a, b, c, p⟩ := t
  obtain rfl : k = true := c.2
  exact ⟨ρ, s, h, x, a, b, c.1, p⟩
theorem TP.no {α β γ : Type} {K : PySem.W.Frag} {R : Rl α β} {P : List Addr → Hp → γ → Prop} {f g : γ → EM α} {σ : L2.St} {H : Hp} {Q : β → Hp → Prop}
    (t : TP K ct W (fun ρ H (x : γ × Bool) => P ρ H x.1 ∧ RB ρ H x.2 false) R (fun z => if z.2 = true then f z.1 else g z.1) σ H Q) : TP K ct W P R g σ H Q := by
  obtain ⟨ρ, s, h, ⟨x, k⟩, a, b, c, p⟩ := t
  obtain rfl : k = false := c.2
  exact ⟨ρ, s, h, x, a, b, c.1, p⟩
/-! ### and, or, not -/
def orV : List (EM AV) → EM AV
  | [] => bad
  | [m] => m
  | m :: ms => bd m fun x => bd (truA x) fun k => if k = true then ret x else orV ms
def andV : List (EM AV) → EM AV
  | [] => bad
  | [m] => m
  | m :: ms => bd m fun x => bd (truA x) fun k => if k = true then andV ms else ret x
def orT : List (EM Bool) → EM Bool
  | [] => bad
  | [m] => m
  | m :: ms => bd m fun k => if k = true then ret true else orT ms
def andT : List (EM Bool) → EM Bool
  | [] => bad
  | [m] => m
  | m :: ms => bd m fun k => if k = true then andT ms else ret false
theorem ae_orV {pos : Pos} (f : Expr → EM AV) : ∀ (es : List Expr), (∀ e ∈ es, AE X ct W e (f e)) → AE X ct W (.BoolOp .Or es pos) (orV (es.map f))
  | [], _ => ae_bad
  | [e], h => pe_one (h e (by simp))
  | e :: e2 :: es, h => by
    have ih := ae_orV (pos := pos) f (e2 :: es) fun x hx => h x (List.mem_cons_of_mem _ hx)
    refine pe_imp (pe_orT (h e (by simp)) ih) fun σ H Q t => ?_
    refine T0.mono (T0.bd (R' := RV X.K) t) fun x' H1 t1 => ?_
    obtain ⟨k, h1, t2⟩ := tru_of (TP.bd (R' := RB) mono_V t1)
    refine ⟨k, h1, ?_⟩
    cases k with
    | true => exact (TP.yes (P := fun ρ H x => RV X.K ρ H x x') (f := fun x => ret x) (g := fun _ => orV ((e2 :: es).map f)) t2).ret (f := fun x => x) fun ρ g hg => hg
    | false => exact (TP.no (P := fun ρ H x => RV X.K ρ H x x') (f := fun x => ret x) (g := fun _ => orV ((e2 :: es).map f)) t2).zero
theorem ae_andV {pos : Pos} (f : Expr → EM AV) : ∀ (es : List Expr), (∀ e ∈ es, AE X ct W e (f e)) → AE X ct W (.BoolOp .And es pos) (andV (es.map f))
  | [], _ => ae_bad
  | [e], h => pe_one (h e (by simp))
  | e :: e2 :: es, h => by
    have ih := ae_andV (pos := pos) f (e2 :: es) fun x hx => h x (List.mem_cons_of_mem _ hx)
    refine pe_imp (pe_andT (h e (by simp)) ih) fun σ H Q t => ?_
    refine T0.mono (T0.bd (R' := RV X.K) t) fun x' H1 t1 => ?_
    obtain ⟨k, h1, t2⟩ := tru_of (TP.bd (R' := RB) mono_V t1)
    refine ⟨k, h1, ?_⟩
    cases k with
    | true => exact (TP.yes (P := fun ρ H x => RV X.K ρ H x x') (g := fun x => ret x) (f := fun _ => andV ((e2 :: es).map f)) t2).zero
    | false => exact (TP.no (P := fun ρ H x => RV X.K ρ H x x') (g := fun x => ret x) (f := fun _ => andV ((e2 :: es).map f)) t2).ret (f := fun x => x) fun ρ g hg => hg
theorem aw_orT {pos : Pos} (f : Expr → EM Bool) : ∀ (es : List Expr), (∀ e ∈ es, AT X ct W e (f e)) → AW X ct W (.BoolOp .Or es pos) (orT (es.map f))
  | [], _ => aw_bad
  | [e], h => pw_or1 (h e (by simp))
  | e :: e2 :: es, h => by
    have ih := aw_orT (pos := pos) f (e2 :: es) fun x hx => h x (List.mem_cons_of_mem _ hx)
    refine pw_imp (pw_or (h e (by simp)) ih) fun σ H Q t => ?_
    refine T0.mono (T0.bd (R' := RB) t) fun k H1 t1 => ?_
    obtain ⟨ρ, s, h, k', a, b, c, p⟩ := t1
    obtain rfl : k' = k := c
    cases k' with
    | true => exact p ρ H1 true Ext.refl b rfl
    | false => exact ⟨ρ, s, h, a, b, p⟩
theorem aw_andT {pos : Pos} (f : Expr → EM Bool) : ∀ (es : List Expr), (∀ e ∈ es, AT X ct W e (f e)) → AW X ct W (.BoolOp .And es pos) (andT (es.map f))
  | [], _ => aw_bad
  | [e], h => pw_and1 (h e (by simp))
  | e :: e2 :: es, h => by
    have ih := aw_andT (pos := pos) f (e2 :: es) fun x hx => h x (List.mem_cons_of_mem _ hx)
    refine pw_imp (pw_and (h e (by simp)) ih) fun σ H Q t => ?_
    refine T0.mono (T0.bd (R' := RB) t) fun k H1 t1 => ?_
    obtain ⟨ρ, s, h, k', a, b, c, p⟩ := t1
    obtain rfl : k' = k := c
    cases k' with
    | true => exact ⟨ρ, s, h, a, b, p⟩
    | false => exact p ρ H1 false Ext.refl b rfl
theorem ae_notV {e : Expr} {pos : Pos} {m : EM AV} (h : AE X ct W e m) : AE X ct W (.UnaryOp .Not e pos) (bd m fun x => bd (truA x) fun k => ret (.bl (!k))) := by
  refine pe_imp (pe_notT h) fun σ H Q t => ?_
  refine T0.mono (T0.bd (R' := RV X.K) t) fun x' H1 t1 => ?_
  obtain ⟨k, h1, t2⟩ := tru_of (TP.bd (R' := RB) mono_V t1)
  exact ⟨k, h1, t2.ret fun ρ g hg => VR.bl.mpr (by rw [show g.2 = k from hg.2])⟩
theorem at_not {e : Expr} {pos : Pos} {m : EM Bool} (h : AT X ct W e m) : AT X ct W (.UnaryOp .Not e pos) (bd m fun k => ret (!k)) := by
  refine pt_imp (pt_not h) fun σ H Q t => ?_
  refine T0.mono (T0.bd (R' := RB) t) fun k H1 t1 => ?_
  exact TP.ret t1 fun ρ g hg => by rw [show g = k from hg]
def notTest : Expr → Bool
  | .UnaryOp .Not _ _ => false
  | .BoolOp _ _ _ => false
  | .IfExp _ _ _ _ => false
  | .Compare _ _ _ _ => false
  | _ => true
theorem isTrue_plainE {e : Expr} {env : Env} (h : notTest e = true) (whole : Sem Value) : isTrue e env whole = (do let v ← whole; standAt e.pos; holding [v] (truthy v)) := by
  cases e with
  | UnaryOp op a p => cases op <;> first | rfl | cases h
  | BoolOp _ _ _ => cases h
  | IfExp _ _ _ _ => cases h
  | Compare _ _ _ _ => cases h
  | _ => rfl
theorem at_truth {e : Expr} {m : EM AV} (hn : notTest e = true) (h : AE X ct W e m) : AT X ct W e (bd m truA) := by
  refine pt_imp (pt_truth h (isTrue_plainE hn)) fun σ H Q t => ?_
  refine T0.mono (T0.bd (R' := RV X.K) t) fun x' H1 t1 => ?_
  exact tru_of t1
def asBool : AV → EM Bool
  | .bl b => ret b
  | _ => bad
theorem asBool_of {x' : V} {σ : L2.St} {H : Hp} {Q : Bool → Hp → Prop} (t : TP X.K ct W (fun ρ H (x : AV) => RV X.K ρ H x x') RB asBool σ H Q) : ∃ k, x' = .bl k ∧ Q k H := by
  obtain ⟨ρ, s, h, x, a, b, c, p⟩ := t
  unfold asBool at p
  split at p
  · exact ⟨_, VR.bl.mp c, p ρ H _ Ext.refl b rfl⟩
  · exact p.elim
/-! ### comparisons -/
theorem rd2_of {r : R2} {f : AV → AV → EM AV} (hr : Op2 X ct r f) {ta tb : EM AV} {σ : L2.St} {H : Hp} {Q : VK} (t : T0 X.K ct W (RV X.K) (bd ta fun x => bd tb fun y => f x y) σ H Q) : tOp r (T0 X.K ct W (RV X.K) ta) (T0 X.K ct W (RV X.K) tb) σ H Q := by
  refine T0.mono (T0.bd (R' := RV X.K) t) fun x' H1 t1 => ?_
  refine T0.mono (TP.bd0 (R' := RV X.K) mono_V t1) fun y' H2 t2 => ?_
  obtain ⟨ρ, s, h, ⟨x, y⟩, a, b, c, p⟩ := t2
  exact hr W x' y' σ H2 Q ⟨ρ, s, h, x, y, a, b, c.1, c.2, p⟩
theorem ae_cmp {a b : Expr} {op : CmpOp} {pos : Pos} {r : R2} {f : AV → AV → EM AV} {ma mb : EM AV} (ho : OpR X (compareOp op) r) (hr : Op2 X ct r f) (ha : AE X ct W a ma) (hb : AE X ct W b mb) (hm : behindInMarks op b = false) :
    AE X ct W (.Compare a [op] [b] pos) (bd ma fun x => bd mb fun y => f x y) := pe_imp (pe_cmpR ho ha hb hm) fun σ H Q t => rd2_of hr t
theorem bd_assoc {α β γ : Type} (m : EM α) (f : α → EM β) (g : β → EM γ) : bd (bd m f) g = bd m fun x => bd (f x) g := by
  funext s h
  unfold bd
  cases m s h <;> rfl
theorem at_cmp {a b : Expr} {op : CmpOp} {pos : Pos} {r : R2} {f : AV → AV → EM AV} {ma mb : EM AV} (ho : OpR X (compareOp op) r) (hr : Op2 X ct r f) (ha : AE X ct W a ma) (hb : AE X ct W b mb) (hm : behindInMarks op b = false) :
    AT X ct W (.Compare a [op] [b] pos) (bd (bd ma fun x => bd mb fun y => f x y) asBool) := by
  refine pt_imp (pt_cmpR ho ha hb hm) fun σ H Q t => ?_
  exact rd2_of hr (T0.mono (T0.bd (R' := RV X.K) t) fun x' H1 t1 => asBool_of t1)
/-- a op b op' c -/
def chainM (f g : AV → AV → EM AV) (ma mb mc : EM AV) : EM AV := bd ma fun x => bd mb fun y => bd (f x y) fun k => bd (asBool k) fun k => if k = true then bd mc fun z => g y z else ret (.bl false)
theorem chain_rd {r r' : R2} {f g : AV → AV → EM AV} (hr : Op2 X ct r f) (hr' : Op2 X ct r' g) {ma mb mc : EM AV} {σ : L2.St} {H : Hp} {Q : VK} (t : T0 X.K ct W (RV X.K) (chainM f g ma mb mc) σ H Q) :
    tChain r r' (T0 X.K ct W (RV X.K) ma) (T0 X.K ct W (RV X.K) mb) (T0 X.K ct W (RV X.K) mc) σ H Q := by
  refine T0.mono (T0.bd (R' := RV X.K) t) fun x' H1 t1 => ?_
  refine T0.mono (TP.bd0 (R' := RV X.K) mono_V t1) fun y' H2 t2 => ?_
  obtain ⟨ρ, s, h, ⟨x, y⟩, a, b, c, p⟩ := t2
  refine hr W x' y' σ H2 _ ⟨ρ, s, h, x, y, a, b, c.1, c.2, ?_⟩
  dsimp only at p
  unfold bd at p
  cases e1 : f x y s h with
  | bad => rw [e1] at p; exact p
  | exc c fs h1 => rw [e1] at p; exact p
  | ok v h1 =>
    rw [e1] at p
    intro ρ' H' v' ex hr3 hv
    dsimp only at p
    cases v with
    | bl k =>
      have p : post (RV X.K) X.K ct W ρ H2 σ Q ((if k = true then bd mc fun z => g y z else ret (.bl false)) s h1) := p
      refine ⟨k, VR.bl.mp hv, ?_⟩
      cases k with
      | true =>
        rw [if_pos rfl] at p
        have t3 : TP X.K ct W (fun ρ H (x : AV) => RV X.K ρ H x y') (RV X.K) (fun y => bd mc fun z => g y z) σ H' Q := ⟨ρ', s, h1, y, a.mono ex, hr3, c.2.mono ex, post.ext ex p⟩
        rw [if_pos rfl]
        refine T0.mono (TP.bd0 (R' := RV X.K) mono_V t3) fun z' H3 t4 => ?_
        obtain ⟨ρ, s, h, ⟨y, z⟩, a, b, c, p⟩ := t4
        exact hr' W y' z' σ H3 Q ⟨ρ, s, h, y, z, a, b, c.1, c.2, p⟩
      | false =>
        rw [if_neg Bool.false_ne_true] at p ⊢
        exact p ρ' H' _ ex hr3 (VR.bl.mpr rfl)
    | _ => exact p.elim
end
end Ev
namespace Ev
open PySem PySem.Spec PyProof.Rows L2
section
variable {X : Cx} {ct : CT} {W : WX}
/-! ### {k: v, ..} -/
def prsM : List (EM AV × EM AV) → EM (List (AV × AV))
  | [] => ret []
  | m :: ms => bd m.1 fun k => bd m.2 fun v => bd (prsM ms) fun r => ret ((k, v) :: r)
def dctM (ms : List (EM AV × EM AV)) : EM AV := fun s h => match prsM ms s (h ++ [.dct []]) with
  | .ok kvs h2 => (match h2[h.length]? with
    | some (.dct []) => if (kvs.all fun kv => (keyV kv.1).isSome) = true ∧ kvs.length ≤ 15 then .ok (.ref h.length) (h2.set h.length (.dct (kvs.foldl (fun d kv => dPut d kv.1 kv.2) []))) else .bad
    | _ => .bad)
  | .exc c fs h2 => .exc c fs h2
  | .bad => .bad
abbrev RP (K : PySem.W.Frag) : Rl (List (AV × AV)) (List (V × V)) := fun ρ H a b => VRs K ρ H (a.map (·.1)) (b.map (·.1)) ∧ VRs K ρ H (a.map (·.2)) (b.map (·.2))
theorem prs_of : ∀ {ms : List (EM AV × EM AV)} {σ : L2.St} {H : Hp} {Q : List (V × V) → Hp → Prop}, T0 X.K ct W (RP X.K) (prsM ms) σ H Q → tPairs (ms.map fun m => (T0 X.K ct W (RV X.K) m.1, T0 X.K ct W (RV X.K) m.2)) σ H Q
  | [], σ, H, Q, ⟨ρ, s, h, a, b, p⟩ => p ρ H [] Ext.refl b ⟨VRs.nil.mpr rfl, VRs.nil.mpr rfl⟩
  | m :: ms, σ, H, Q, t => by
    refine T0.mono (T0.bd (R' := RV X.K) t) fun x' H1 t1 => ?_
    refine T0.mono (TP.bd0 (R' := RV X.K) mono_V t1) fun y' H2 t2 => ?_
    refine prs_of (T0.mono (TP.bd0 (R' := RP X.K) (mono_2 mono_V mono_V) t2) fun ps H3 t3 => ?_)
    exact t3.ret fun ρ g hg => ⟨VRs.cons.mpr ⟨x', _, rfl, hg.1.1, hg.2.1⟩, VRs.cons.mpr ⟨y', _, rfl, hg.1.2, hg.2.2⟩⟩
theorem keys_all {K : PySem.W.Frag} {ρ : List Addr} {H : Hp} : ∀ {kvs : List (AV × AV)} {ps : List (V × V)}, VRs K ρ H (kvs.map (·.1)) (ps.map (·.1)) → VRs K ρ H (kvs.map (·.2)) (ps.map (·.2)) → (kvs.all fun kv => (keyV kv.1).isSome) = true →
    ∃ gs : List (Key × V), ps = gs.map (fun kv => (kV kv.1, kv.2)) ∧ DKR K ρ H kvs gs ∧ gs.length = kvs.length
  | [], [], _, _, _ => ⟨[], rfl, rfl, rfl⟩
  | [], _ :: _, a, _, _ => by have := a.length; simp at this
  | _ :: _, [], a, _, _ => by have := a.length; simp at this
  | kv :: kvs, p :: ps, a, b, e => by
    rw [List.all_cons, Bool.and_eq_true] at e
    obtain ⟨y, r, e1, h1, h2⟩ := VRs.cons.mp a
    obtain ⟨z, r', e2, h3, h4⟩ := VRs.cons.mp b
    cases e1
    cases e2
    obtain ⟨gs, e3, d, hl⟩ := keys_all h2 h4 e.2
    obtain ⟨k, ek⟩ := Option.isSome_iff_exists.mp e.1
    refine ⟨(k, p.2) :: gs, ?_, ⟨k, p.2, gs, rfl, ek, h3, d⟩, by simp [hl]⟩
    rw [List.map_cons, ← e3]
    congr 1
    rw [← keyV_ok ek h1]
theorem merge_ok {K : PySem.W.Frag} {ρ : List Addr} {H : Hp} : ∀ (kvs : List (AV × AV)) {gs : List (Key × V)} {kvs0 : List (AV × AV)} {gs0 : List (Key × V)}, DKR K ρ H kvs gs → DKR K ρ H kvs0 gs0 → DKR K ρ H (kvs.foldl (fun d kv => dPut d kv.1 kv.2) kvs0) (mergeK gs0 gs)
  | [], gs, kvs0, gs0, d, d0 => by
    have e : gs = [] := d
    subst e
    exact d0
  | kv :: kvs, gs, kvs0, gs0, d, d0 => by
    obtain ⟨k, w, r, rfl, ek, h1, h2⟩ := d
    exact merge_ok kvs (gs := r) (gs0 := putK gs0 k w) h2 (dPut_ok ek h1 d0)
theorem ae_dict {keys : List (Option Expr)} {values : List Expr} {pos : Pos} {ms : List (EM AV × EM AV)} (h : PPs X pos keys values (ms.map fun m => (T0 X.K ct W (RV X.K) m.1, T0 X.K ct W (RV X.K) m.2)))
    (hall : keys.all (·.isSome) = true) (hl : keys.length = values.length) (h0 : keys ≠ []) (h15 : keys.length ≤ 15) : AE X ct W (.Dict keys values pos) (dctM ms) := by
  refine pe_imp (pe_disp h hall hl h0 h15) fun σ H Q t => ?_
  obtain ⟨ρ, s, h, a, b, p⟩ := t
  intro q hq
  have ex := Ext.push (ρ := ρ) (u := .dK []) hq
  have b1 : HR X.K ct (ρ ++ [q]) (upd H q (.dK [])) (h ++ [.dct []]) := b.push hq (.inl ⟨[], upd_same, rfl⟩)
  have hqi : (ρ ++ [q])[h.length]? = some q := by rw [← b.len]; simp
  refine prs_of ⟨ρ ++ [q], s, h ++ [.dct []], a.mono ex, b1, ?_⟩
  unfold dctM at p
  cases e : prsM ms s (h ++ [.dct []]) with
  | bad => rw [e] at p; exact p
  | exc c fs h2 =>
    rw [e] at p
    exact fun ρ' H' cls d x y z => p ρ' H' cls d (ex.trans x) y z
  | ok kvs h2 =>
    rw [e] at p
    intro ρ' H' ps ex2 hr hv
    have hq2 := ex2.ref _ _ hqi
    dsimp only at p
    split at p
    · rename_i e1
      split at p
      · rename_i hc
        have o := hr.ob _ _ _ hq2 e1
        rcases o with ⟨gs0, h3, h4⟩ | ⟨n, _⟩
        · have e4 : gs0 = [] := h4
          subst e4
          obtain ⟨gs, e5, d, hl2⟩ := keys_all hv.1 hv.2 hc.1
          refine ⟨h3, gs, e5, by rw [hl2]; exact hc.2, ?_⟩
          refine p ρ' _ _ ((ex.trans ex2).trans (Ext.write h3 trivial)) (hr.write hq2 (notFro e1 (by simp)) h3 trivial (.inl ⟨_, upd_same, ?_⟩) (by simp)) (VR.ref.mpr ⟨q, hq2, rfl⟩)
          exact DKR.mono (Ext.write h3 trivial) (merge_ok kvs d rfl)
        · exact (n rfl).elim
      · exact p.elim
    · exact p.elim
/-! ### methods of lists -/
structure BmOk (X : Cx) (ct : CT) (T : String) (name : Str) (f : AV → List AV → EM AV) : Prop where
  pa : PlainAttrs T
  ok : ∃ id r, Slot T name id ∧ typeOf (.builtin id) = pure (.type "method_descriptor") ∧ MtR X id r ∧
    ∀ (W : WX) (x' : V) (xs' : List V) (σ : L2.St) (H : Hp) (Q : VK), (∃ ρ s h x xs, SR X.K ρ H s σ ∧ HR X.K ct ρ H h ∧ VR X.K ρ H x x' ∧ VRs X.K ρ H xs xs' ∧ post (RV X.K) X.K ct W ρ H σ Q (f x xs s h)) → r x' xs' H Q
/-- a list object is changed -/
def updL (i : Nat) (f : List AV → Option (AV × List AV)) : EM AV := fun _ h => match h[i]? with
  | some (.lst xs) => (match f xs with
    | some (v, ys) => .ok v (h.set i (.lst ys))
    | none => .bad)
  | _ => .bad
theorem updL_inv {i : Nat} {f : List AV → Option (AV × List AV)} {ρ : List Addr} {H : Hp} {σ : L2.St} {s : Sl} {h : AH} {Q : VK} {x' : V} (b : HR X.K ct ρ H h) (c : VR X.K ρ H (.ref i) x') (p : post (RV X.K) X.K ct W ρ H σ Q (updL i f s h)) :
    ∃ a xs ys v zs, x' = .ref a ∧ H a = some (.lst ys) ∧ VRs X.K ρ H xs ys ∧ f xs = some (v, zs) ∧ ∀ v' ws, VR X.K ρ H v v' → VRs X.K ρ H zs ws → Q v' (upd H a (.lst ws)) := by
  unfold updL at p
  obtain ⟨a, h1, rfl⟩ := VR.ref.mp c
  split at p
  · rename_i xs e1
    split at p
    · rename_i v zs e2
      obtain ⟨ys, h2, h3⟩ := lst_own b h1 e1
      refine ⟨a, xs, ys, v, zs, rfl, h2, h3, e2, fun v' ws hv hw => p ρ _ v' (Ext.write h2 trivial) (b.write h1 (notFro e1 (by simp)) h2 trivial ⟨ws, upd_same, hw.mono (Ext.write h2 trivial)⟩ (by simp)) (hv.mono (Ext.write h2 trivial))⟩
    · exact p.elim
  · exact p.elim
def appendA : AV → List AV → EM AV
  | .ref i, [y] => updL i fun xs => if xs.length < sizeLine then some (.non, xs ++ [y]) else none
  | _, _ => bad
theorem bm_append : BmOk X ct "list" "append" appendA := by
  refine ⟨PySem.F.plainAttrs_list, _, _, PySem.F.slot_list_append, PySem.F.type_list_append, mt_append, fun W x' xs' σ H Q ⟨ρ, s, h, x, xs, a, b, c, d, p⟩ => ?_⟩
  unfold appendA at p
  split at p
  · rename_i i y
    obtain ⟨y', rfl, cy⟩ := VRs.one_inv d
    obtain ⟨q, zs, ys, v, ws, rfl, h1, h2, e, k⟩ := updL_inv b c p
    split at e
    · rename_i hl
      cases e
      exact ⟨q, ys, y', rfl, rfl, h1, by rw [← h2.length]; exact hl, k _ _ (VR.non.mpr rfl) (h2.append (VRs.one cy))⟩
    · cases e
  · exact p.elim
theorem VRs.dropLast {K : PySem.W.Frag} {ρ : List Addr} {H : Hp} {xs : List AV} {ys : List V} (h : VRs K ρ H xs ys) : VRs K ρ H xs.dropLast ys.dropLast := by
  rw [List.dropLast_eq_take, List.dropLast_eq_take, h.length]
  exact h.take _
def popA : AV → List AV → EM AV
  | .ref i, [] => updL i fun xs => match xs[xs.length - 1]? with
    | some y => some (y, xs.dropLast)
    | none => none
  | _, _ => bad
theorem bm_pop : BmOk X ct "list" "pop" popA := by
  refine ⟨PySem.F.plainAttrs_list, _, _, PySem.F.slot_list_pop, PySem.F.type_list_pop, mt_pop, fun W x' xs' σ H Q ⟨ρ, s, h, x, xs, a, b, c, d, p⟩ => ?_⟩
  unfold popA at p
  split at p
  · rename_i i
    obtain ⟨q, zs, ys, v, ws, rfl, h1, h2, e, k⟩ := updL_inv b c p
    split at e
    · rename_i y e1
      cases e
      obtain ⟨y', e2, cy⟩ := h2.get e1
      exact ⟨q, ys, y', rfl, VRs.nil.mp d, h1, by rw [← h2.length]; exact e2, k _ _ cy h2.dropLast⟩
    · cases e
  · exact p.elim
def extendA : AV → List AV → EM AV
  | .ref i, [.ref j] => fun s h => match h[j]? with
    | some (.lst zs) => updL i (fun xs => if xs.length + zs.length ≤ sizeLine then some (.non, xs ++ zs) else none) s h
    | _ => .bad
  | _, _ => bad
theorem bm_extend : BmOk X ct "list" "extend" extendA := by
  refine ⟨PySem.F.plainAttrs_list, _, _, PySem.F.slot_list_extend, PySem.F.type_list_extend, mt_extend, fun W x' xs' σ H Q ⟨ρ, s, h, x, xs, a, b, c, d, p⟩ => ?_⟩
  unfold extendA at p
  split at p
  · rename_i i j
    obtain ⟨y', rfl, cy⟩ := VRs.one_inv d
    obtain ⟨m, h4, rfl⟩ := VR.ref.mp cy
    split at p
    · rename_i us e0
      obtain ⟨us', h5, h6⟩ := lst_own b h4 e0
      obtain ⟨q, zs, ys, v, ws, rfl, h1, h2, e, k⟩ := updL_inv b c p
      split at e
      · rename_i hl
        cases e
        exact ⟨q, m, ys, us', rfl, rfl, h1, h5, by rw [← h2.length, ← h6.length]; exact hl, k _ _ (VR.non.mpr rfl) (h2.append h6)⟩
      · cases e
    · exact p.elim
  · exact p.elim
def lstMt : List (Str × (AV → List AV → EM AV)) := [("append", appendA), ("pop", popA), ("extend", extendA)]
theorem lstMt_ok {x : Str} {f : AV → List AV → EM AV} (h : (x, f) ∈ lstMt) : BmOk X ct "list" x f := by
  simp only [lstMt, List.mem_cons, List.mem_nil_iff, or_false, Prod.mk.injEq] at h
  rcases h with ⟨rfl, rfl⟩ | ⟨rfl, rfl⟩ | ⟨rfl, rfl⟩
  · exact bm_append
  · exact bm_pop
  · exact bm_extend
def isLst (x : AV) (h : AH) : Bool := (lstB x h).isSome
/-- o.m(..) of a list object -/
def methM (mo : EM AV) (m : Str) (ms : EM (List AV)) : EM AV := bd mo fun x s h => match isLst x h with
  | true => (match lstMt.lookup m with
    | some f => bd ms (f x) s h
    | none => .bad)
  | false => .bad
def notSuper : Expr → Bool
  | .Call (.Name _ _) [] [] _ => false
  | _ => true
theorem attrBase {o : Expr} {m : Str} {env : Env} {w : Sem Value} (h : notSuper o = true) : attributeBase o m env w = w := by
  unfold attributeBase
  split
  · cases h
  · rfl
theorem few_of {es : List Expr} {env : Env} {pos : Pos} (h : es.all notStar = true) (hl : es.length < 30) : ((backTo pos (starEach es env)).all (fun x => !x.1) && (backToKw pos (keywordEach [] env)).all (fun x => x.1.isSome)
      && decide (es.length + ([] : List Keyword).length + (if ([] : List Keyword).isEmpty then 0 else 1) < 30)) = true := by
  have h1 : (backTo pos (starEach es env)).all (fun x => !x.1) = true := by
    have := star_none (pos := pos) (env := env) h
    rw [List.all_eq_not_any_not]
    simpa using this
  rw [h1]
  have h2 : (backToKw pos (keywordEach [] env)).all (fun x => x.1.isSome) = true := rfl
  rw [h2]
  simpa using hl
theorem lookup_mem_of {α β : Type} [BEq α] [LawfulBEq α] {x : α} {y : β} : ∀ {l : List (α × β)}, l.lookup x = some y → (x, y) ∈ l
  | [], h => by cases h
  | (a, b) :: l, h => by
    rw [List.lookup_cons] at h
    split at h
    · rename_i e
      cases h
      rw [beq_iff_eq.mp e]
      exact List.mem_cons_self
    · exact List.mem_cons_of_mem _ (lookup_mem_of h)
theorem tyV_lst {K : PySem.W.Frag} {ρ : List Addr} {H : Hp} {h : AH} {x : AV} {x' : V} (b : HR K ct ρ H h) (c : VR K ρ H x x') (e : isLst x h = true) : tyV K "list" x' H := by
  obtain ⟨xs, e1⟩ := Option.isSome_iff_exists.mp e
  obtain ⟨a, ys, rfl, h1, _⟩ := lstB_ok b c e1
  exact .inl ⟨rfl, ys, h1⟩
/-- a built-in type's method, the type seen at the receiver -/
def tBMany (X : Cx) (name : Str) (to : TE) (t : (List V → Hp → Prop) → L2.St → Hp → Prop) : TE := fun σ H Q => to σ H fun x H1 => ∃ T id r, PlainAttrs T ∧ Slot T name id ∧ typeOf (.builtin id) = pure (.type "method_descriptor") ∧ MtR X id r ∧ tyV X.K T x H1 ∧ t (fun xs H2 => r x xs H2 Q) σ H1
theorem pe_bmAny0 {o : Expr} {m : Str} {apos cpos : Pos} {to : TE} (ho : PE X o to) (hb : notSuper o = true) (hline : (apos.endLine == cpos.line) = true) :
    PE X (.Call (.Attribute o m apos) [] [] cpos) (tBMany X m to fun R _ H => R [] H) := by
  refine ⟨fun pins s σ H Q I h => ?_⟩
  refine wpAny_Call_method0_late (attrBase hb) hline (thn (ho.run pins s σ H _ I h) fun v s1 ⟨x, H1, I1, r1, T, id, r, pa, slot, hty, hm, ty, q1⟩ => ?_)
  obtain ⟨h1, h2⟩ := tyV_is I1 r1 ty
  exact ⟨T, id, pa, slot, hty, h1, h2, Calls.callWith_builtin rfl (PySem.evalArgs_none (hm pins s1 σ H1 x [] v [] Q I1 r1 .nil q1))⟩
theorem pe_bmAny {o e : Expr} {m : Str} {apos cpos : Pos} {es : List Expr} {to : TE} {t : TA} (ho : PE X o to) (ha : PA X (e :: es) t) (hs' : (e :: es).all notStar = true) (h30 : (e :: es).length < 30) (hb : notSuper o = true) (hline : (apos.endLine == cpos.line) = true) :
    PE X (.Call (.Attribute o m apos) (e :: es) [] cpos) (tBMany X m to fun R σ H => t σ H R) := by
  refine ⟨fun pins s σ H Q I h => ?_⟩
  have hs := hs'
  rw [List.all_cons, Bool.and_eq_true] at hs
  refine wpAny_Call_method_late (attrBase hb) (few_of hs' h30) hline rfl (thn (ho.run pins s σ H _ I h) fun v s1 ⟨x, H1, I1, r1, T, id, r, pa, slot, hty, hm, ty, q1⟩ => ?_)
  obtain ⟨h1, h2⟩ := tyV_is I1 r1 ty
  refine ⟨T, id, pa, slot, hty, h1, h2, ?_⟩
  have hA := ha.run cpos pins s1 σ H1 _ I1 q1
  rw [starEach_cons hs.1] at hA ⊢
  refine Calls.callWith_builtin (by show (false || (backTo cpos (starEach es X.env)).any (·.1)) = false; rw [star_none hs.2] <;> rfl) (Calls.evalArgs_plain ?_)
  exact thn hA fun us s2 ⟨vs, H2, I2, r2, q2⟩ => hm pins s2 σ H2 x vs v us Q I2 r1 r2 q2
theorem meth_rd {m : Str} {mo : EM AV} {ms : EM (List AV)} {t : (List V → Hp → Prop) → L2.St → Hp → Prop} (ht : ∀ σ H R, T0 X.K ct W (RL X.K) ms σ H R → t R σ H) {σ : L2.St} {H : Hp} {Q : VK} (t0 : T0 X.K ct W (RV X.K) (methM mo m ms) σ H Q) : tBMany X m (T0 X.K ct W (RV X.K) mo) t σ H Q := by
  refine T0.mono (T0.bd (R' := RV X.K) t0) fun x' H1 t1 => ?_
  obtain ⟨ρ, s, h, x, a, b, c, p⟩ := t1
  dsimp only at p
  split at p
  · rename_i e
    split at p
    · rename_i f ef
      obtain ⟨pa, id, r, slot, hty, hm, hr⟩ := lstMt_ok (X := X) (ct := ct) (lookup_mem_of ef)
      refine ⟨"list", id, r, pa, slot, hty, hm, tyV_lst b c e, ?_⟩
      have t2 : TP X.K ct W (fun ρ H (x : AV) => RV X.K ρ H x x') (RV X.K) (fun x => bd ms (f x)) σ H1 Q := ⟨ρ, s, h, x, a, b, c, p⟩
      refine ht _ _ _ (T0.mono (TP.bd0 (R' := RL X.K) mono_V t2) fun xs' H2 t3 => ?_)
      obtain ⟨ρ, s, h, ⟨x, xs⟩, a, b, c, p⟩ := t3
      exact hr W x' xs' σ H2 Q ⟨ρ, s, h, x, xs, a, b, c.1, c.2, p⟩
    · exact p.elim
  · exact p.elim
theorem ae_meth {o : Expr} {m : Str} {apos cpos : Pos} {es : List Expr} {mo : EM AV} {f : Expr → EM AV} (ho : AE X ct W o mo) (ha : AA X ct W es (evsM (es.map f))) (hs : es.all notStar = true) (h30 : es.length < 30) (hb : notSuper o = true) (hline : (apos.endLine == cpos.line) = true) :
    AE X ct W (.Call (.Attribute o m apos) es [] cpos) (methM mo m (evsM (es.map f))) := by
  cases es with
  | nil =>
    exact pe_imp (pe_bmAny0 ho hb hline) fun σ H Q t => meth_rd (fun σ H R ⟨ρ, s, h, a, b, p⟩ => p ρ H [] Ext.refl b (VRs.nil.mpr rfl)) t
  | cons e es => exact pe_imp (pe_bmAny ho ha hs h30 hb hline) fun σ H Q t => meth_rd (fun σ H R t => t) t
end
end Ev
namespace Ev
open PySem PySem.Spec PyProof.Rows L2
/-! ### the evaluator -/
structure Tbl where
  con : List (Str × AV)
  gfn : List (Str × Nat)
  free : List Str
structure Dn where
  T : Tbl
  N : List Str
  cf : CF
structure Rc where
  E : Scope → Expr → EM AV
  T : Scope → Expr → EM Bool
  I : Scope → Expr → EM IT
  G : Scope → Expr → AV → SM
  S : Scope → Stmt → SM
def okNm (x : Str) : Bool := !(x == ("__debug__" : Str)) && !(x == ("__classdict__" : Str))
def visB (sc : Scope) (x : Str) : Bool := match sc.names.lookup x with
  | some .local => true
  | some .cell => true
  | some .free => true
  | _ => false
def locB (sc : Scope) (x : Str) : Bool := match sc.names.lookup x with
  | some .local => true
  | some .cell => true
  | _ => false
def gloB (sc : Scope) (x : Str) : Bool := match sc.names.lookup x with
  | some .globalImplicit => true
  | _ => false
def slotIx : List Str → Str → Option Nat
  | [], _ => none
  | y :: N, x => if y = x then some 0 else (slotIx N x).map (· + 1)
def nameM (D : Dn) (sc : Scope) (x : Str) : EM AV := if okNm x = true then
    (if visB sc x = true then (match slotIx D.N x with
      | some i => slotM i
      | none => bad)
    else if gloB sc x = true then (match D.T.con.lookup x with
      | some v => ret v
      | none => bad)
    else bad)
  else bad
def constM : Const → EM AV
  | .none => ret .non
  | .bool b => ret (.bl b)
  | .int i => ret (.int i)
  | .str x => ret (.str x)
  | _ => bad
/-- a target of names alone -/
def patOf (N : List Str) (sto : Str → Bool) : Nat → Expr → Option Pat
  | 0, _ => none
  | n + 1, .Name x _ => if sto x = true then (slotIx N x).map Pat.nm else none
  | n + 1, .Tuple es _ _ => if es.all notStar = true then (patsOf n es).map Pat.tp else none
  | _ + 1, _ => none
where
  patsOf : Nat → List Expr → Option (List Pat)
  | _, [] => some []
  | n, e :: es => match patOf N sto n e, patsOf n es with
    | some p, some ps => some (p :: ps)
    | _, _ => none
def rangeI1 : AV → EM IT
  | .int j => if -(2 ^ 62) ≤ j ∧ j < 2 ^ 62 then ret (.vals ((List.range j.toNat).map fun (k : Nat) => AV.int (0 + (k : Int)))) else bad
  | _ => bad
def rangeI2 : AV → AV → EM IT
  | .int i, .int j => if -(2 ^ 62) ≤ i ∧ i < 2 ^ 62 ∧ -(2 ^ 62) ≤ j ∧ j < 2 ^ 62 then ret (.vals ((List.range (j - i).toNat).map fun (k : Nat) => AV.int (i + (k : Int)))) else bad
  | _, _ => bad
def notSetE : Expr → Bool
  | .Set _ _ _ => false
  | _ => true
/-- x is the built-in of that name -/
def isBlt (D : Dn) (sc : Scope) (x : Str) : Bool := gloB sc x && D.T.free.contains x
def iterM (D : Dn) (r : Rc) (sc : Scope) (e : Expr) : EM IT := match e with
  | .Call (.Name x _) [a] [] _ => if x = "range" then (if (isBlt D sc x && notStar a) = true then bd (r.E sc a) rangeI1 else bad) else bd (r.E sc e) itOf
  | .Call (.Name x _) [a, b] [] _ => if x = "range" then (if (isBlt D sc x && notStar a && notStar b) = true then bd (r.E sc a) fun v => bd (r.E sc b) fun w => rangeI2 v w else bad) else bd (r.E sc e) itOf
  | e => bd (r.E sc e) itOf
/-- the own names of a comprehension, with their slots -/
def ownOf (N : List Str) : List (Str × NameKind) → List (Str × Nat)
  | [] => []
  | (x, k) :: l => match k with
    | .local => (match slotIx N x with
      | some i => (x, i) :: ownOf N l
      | none => ownOf N l)
    | .cell => (match slotIx N x with
      | some i => (x, i) :: ownOf N l
      | none => ownOf N l)
    | _ => ownOf N l
def testsM (r : Rc) (sc : Scope) : List Expr → EM Bool
  | [] => ret true
  | [c] => r.T sc c
  | _ => bad
def lcM (D : Dn) (r : Rc) (sc : Scope) (elt tg iter : Expr) (ifs : List Expr) (scope : Scope) : EM AV :=
  let own := ownOf D.N scope.names
  if (blkC D.N sc scope own && notSetE iter && decide (ifs.length ≤ 1)) = true then (match patOf D.N (locB scope) 5 tg with
    | some p => if (patSlots p).all (fun i => (own.map (·.2)).contains i) = true then compM (r.I sc iter) p (own.map (·.2)) (testsM r (relS scope sc) ifs) (r.E (relS scope sc) elt) else bad
    | none => bad)
  else bad
def prsOf (r : Rc) (sc : Scope) : List (Option Expr) → List Expr → Option (List (EM AV × EM AV))
  | [], [] => some []
  | some k :: ks, v :: vs => (prsOf r sc ks vs).map fun l => (r.E sc k, r.E sc v) :: l
  | _, _ => none
def callE (D : Dn) (r : Rc) (sc : Scope) (x : Str) (args : List Expr) : EM AV :=
  if (okNm x && gloB sc x && args.all notStar) = true then (match D.T.gfn.lookup x with
    | some n => if args.length = n then callM D.cf x (evsM (args.map (r.E sc))) else bad
    | none => if D.T.free.contains x = true then (match blts.lookup x, args with
      | some f, _ :: _ => bd (evsM (args.map (r.E sc))) f
      | _, _ => bad) else bad)
  else bad
def optM (r : Rc) (sc : Scope) : Option Expr → EM (Option Int)
  | none => ret none
  | some e => bd (r.E sc e) fun x => match x with
    | .int i => ret (some i)
    | _ => bad
def stepE (D : Dn) (r : Rc) (sc : Scope) (e : Expr) : EM AV := match e with
  | .Name x _ => nameM D sc x
  | .Constant c _ _ => constM c
  | .BinOp a op b _ => (match binP op with
    | some f => bd (r.E sc a) fun x => bd (r.E sc b) fun y => f x y
    | none => bad)
  | .UnaryOp .USub a _ => bd (r.E sc a) negA
  | .UnaryOp .Not a _ => bd (r.E sc a) fun x => bd (truA x) fun k => ret (.bl (!k))
  | .BoolOp .And vs _ => andV (vs.map (r.E sc))
  | .BoolOp .Or vs _ => orV (vs.map (r.E sc))
  | .Compare a [op] [b] _ => (match cmpP op with
    | some f => if behindInMarks op b = false then bd (r.E sc a) fun x => bd (r.E sc b) fun y => f x y else bad
    | none => bad)
  | .Compare a [op, op'] [b, c] _ => (match cmpP op, cmpP op' with
    | some f, some g => if lastMarks [op, op'] [b, c] = false then chainM f g (r.E sc a) (r.E sc b) (r.E sc c) else bad
    | _, _ => bad)
  | .IfExp c a b _ => bd (r.T sc c) fun k => if k = true then r.E sc a else r.E sc b
  | .Subscript a (.Slice lo hi none _) _ => bd (r.E sc a) fun x => bd (optM r sc lo) fun i => bd (optM r sc hi) fun j => slcA x i j
  | .Subscript a b _ => if notSlice b = true then bd (r.E sc a) fun x => bd (r.E sc b) fun y => idxA x y else bad
  | .Tuple es _ _ => if es.all notStar = true then tupM (es.map (r.E sc)) else bad
  | .List es _ => if es.all notStar = true then lstM (es.map (r.E sc)) else bad
  | .Dict keys values _ => (match prsOf r sc keys values with
    | some ms => if keys ≠ [] ∧ keys.length ≤ 15 then dctM ms else bad
    | none => bad)
  | .ListComp elt [⟨tg, iter, ifs, 0⟩] scope _ => lcM D r sc elt tg iter ifs scope
  | .Call (.Name x _) args [] _ => callE D r sc x args
  | .Call (.Attribute o m apos) args [] cpos => if (args.all notStar && decide (args.length < 30) && notSuper o && (apos.endLine == cpos.line)) = true then methM (r.E sc o) m (evsM (args.map (r.E sc))) else bad
  | _ => bad
def stepT (D : Dn) (r : Rc) (sc : Scope) (e : Expr) : EM Bool := match e with
  | .UnaryOp .Not a _ => bd (r.T sc a) fun k => ret (!k)
  | .BoolOp .And vs _ => andT (vs.map (r.T sc))
  | .BoolOp .Or vs _ => orT (vs.map (r.T sc))
  | .Compare a [op] [b] _ => (match cmpP op with
    | some f => if behindInMarks op b = false then bd (bd (r.E sc a) fun x => bd (r.E sc b) fun y => f x y) asBool else bad
    | none => bad)
  | .Compare a [op, op'] [b, c] _ => (match cmpP op, cmpP op' with
    | some f, some g => if lastMarks [op, op'] [b, c] = false then bd (chainM f g (r.E sc a) (r.E sc b) (r.E sc c)) asBool else bad
    | _, _ => bad)
  | e => if notTest e = true then bd (r.E sc e) truA else bad
def stepG (D : Dn) (r : Rc) (sc : Scope) (e : Expr) : AV → SM := match e with
  | .Name x _ => if locB sc x = true then (match slotIx D.N x with
    | some i => setS i
    | none => fun _ => badS) else fun _ => badS
  | .Subscript o i _ => if notSlice i = true then subG (r.E sc o) (r.E sc i) else fun _ => badS
  | .Tuple es _ _ => if es.all notStar = true then (fun v => match v with
    | .tup vs => if vs.length = es.length then gsM (es.map (r.G sc)) vs else badS
    | _ => badS) else fun _ => badS
  | _ => fun _ => badS
def notLc : Expr → Bool
  | .ListComp .. => false
  | .SetComp .. => false
  | .DictComp .. => false
  | _ => true
def isNm : Expr → Bool
  | .Name _ _ => true
  | _ => false
/-- no two stores are swapped -/
def notSwap (tg e : Expr) : Bool := match tg with
  | .Tuple ts _ _ => (match e with
    | .Tuple _ _ _ => ts.any fun t => !isNm t
    | _ => true)
  | .List _ _ => false
  | _ => true
def seqsM (l : List SM) : SM := l.foldr (fun a b => seqS a b) skipS
def stepS (D : Dn) (r : Rc) (sc : Scope) (st : Stmt) : SM := match st with
  | .Assign [.Name x _] (.ListComp elt [⟨tg, iter, ifs, 0⟩] scope _) _ => if (locB sc x) = true then (match slotIx D.N x with
    | some i => bdS (lcM D r sc elt tg iter ifs scope) (setS i)
    | none => badS) else badS
  | .Assign [.Name x _] e _ => if (locB sc x && notLc e) = true then (match slotIx D.N x with
    | some i => bdS (r.E sc e) (setS i)
    | none => badS) else badS
  | .Assign [tg] e _ => if (notLc e && notSwap tg e && notStar tg) = true then asgS (r.E sc e) (r.G sc tg) else badS
  | .If c a b _ => ifS (r.T sc c) (seqsM (a.map (r.S sc))) (seqsM (b.map (r.S sc)))
  | .While c a [] _ => whileN (r.T sc c) (seqsM (a.map (r.S sc))) turnsMax
  | .For tg it a [] _ => if notSetE it = true then (match patOf D.N (locB sc) 5 tg with
    | some p => forS (r.I sc it) (patS p) (seqsM (a.map (r.S sc)))
    | none => badS) else badS
  | .Return (some e) _ => bdS (r.E sc e) retS
  | .Return none _ => retS .non
  | .Expr (.Constant (.str _) _ _) _ => skipS
  | .Expr e _ => if notLc e = true then bdS (r.E sc e) fun _ => skipS else badS
  | .Pass _ => skipS
  | .Break _ => fun s h => .bk s h
  | .Continue _ => fun s h => .ct s h
  | _ => badS
def stepR (D : Dn) (r : Rc) : Rc := ⟨stepE D r, stepT D r, iterM D r, stepG D r, stepS D r⟩
def rc (D : Dn) : Nat → Rc
  | 0 => ⟨fun _ _ => bad, fun _ _ => bad, fun _ _ => bad, fun _ _ _ => badS, fun _ _ => badS⟩
  | n + 1 => stepR D (rc D n)
/-- how deep the text's trees may be -/
def deep : Nat := 60
/-- a def of the text -/
structure FnD where
  key : Str
  at_ : Str × Option Str
  nm : Str
  ps : List Str
  N : List Str
  args : Arguments
  body : List Stmt
  sc : Scope
def startA (N : List Str) (vs : List AV) : Sl := vs.map some ++ List.replicate (N.length - vs.length) none
def runB (m : SM) (N : List Str) (vs : List AV) (h : AH) : RE AV := match m (startA N vs) h with
  | .nx _ h' => .ok .non h'
  | .rt v h' => .ok v h'
  | .exc c fs _ h' => .exc c fs h'
  | _ => .bad
def bodyM (T : Tbl) (cf : CF) (d : FnD) : SM := seqsM (d.body.map ((rc ⟨T, d.N, cf⟩ deep).S d.sc))
def findFn (fs : List FnD) (x : Str) : Option FnD := fs.find? fun d => decide (d.key = x)
/-- calls, k deep -/
def callA (T : Tbl) (fs : List FnD) : Nat → CF
  | 0 => fun _ _ _ => .bad
  | k + 1 => fun x vs h => match findFn fs x with
    | some d => if vs.length = d.ps.length then runB (bodyM T (callA T fs k) d) d.N vs h else .bad
    | none => .bad
end Ev
namespace Ev
open PySem PySem.Spec PyProof.Rows L2
/-! ### the evaluator is right -/
structure Kn (P : Program) (w : World) (K : PySem.W.Frag) (mg : Str → Option Value) (base : Heap) (T : Tbl) (cf : CF) (ct : CT) (lev : Nat) : Prop where
  con : ∀ x v, T.con.lookup x = some v → ∃ u v', mg x = some u ∧ RelV v' u ∧ ∀ ρ H, VR K ρ H v v'
  fn : ∀ x n, T.gfn.lookup x = some n → ∃ f fd ps, ps.length = n ∧ mg x = some (.ref f) ∧ PySem.W.keepIn K (.ref f) = true ∧ Binds K fd ps [] ∧
    FnOk P w K mg base (L2.CX P w) lev f fd ps (spU K ct (fun xs h => if xs.length = ps.length then cf x xs h else .bad) ps.length)
  free : ∀ x, T.free.contains x = true → mg x = none
structure XOk (X : Cx) (D : Dn) (ct : CT) (W : WX) (sc : Scope) (lev : Nat) : Prop where
  hN : X.N = D.N
  nd : X.N.Nodup
  hsc : X.env.scope = sc
  kd : sc.kind = .function
  room : Room (lev + 1) X.A
  calm : X.calm = true
  pass : PassesOwn (model X.prog X.w) X.A X.env X.xe
  tk : Takes X W
  kn : Kn X.prog X.w X.K X.mg X.base D.T D.cf ct lev
structure RcOk (D : Dn) (ct : CT) (lev : Nat) (r : Rc) : Prop where
  E : ∀ (X : Cx) (W : WX) (sc : Scope), XOk X D ct W sc lev → ∀ e, AE X ct W e (r.E sc e)
  T : ∀ (X : Cx) (W : WX) (sc : Scope), XOk X D ct W sc lev → ∀ e, AT X ct W e (r.T sc e)
  I : ∀ (X : Cx) (W : WX) (sc : Scope), XOk X D ct W sc lev → ∀ tg e, AI X ct W tg e (r.I sc e)
  G : ∀ (X : Cx) (W : WX) (sc : Scope), XOk X D ct W sc lev → (∀ x, X.fn x = true) → ∀ e, AG X ct W e (r.G sc e)
  S : ∀ (X : Cx) (W : WX) (sc : Scope), XOk X D ct W sc lev → (∀ x, X.fn x = true) → ∀ e, AS X ct W e (r.S sc e)
theorem slotIx_ok : ∀ {N : List Str} {x : Str} {i : Nat}, slotIx N x = some i → N[i]? = some x
  | [], x, i, h => by cases h
  | y :: N, x, i, h => by
    unfold slotIx at h
    split at h
    · rename_i e
      cases h
      rw [e]
      rfl
    · obtain ⟨j, hj, rfl⟩ := Option.map_eq_some_iff.mp h
      simpa using slotIx_ok hj
theorem okNm_ok {x : Str} (h : okNm x = true) : (x == ("__debug__" : Str)) = false ∧ (x == ("__classdict__" : Str)) = false := by
  unfold okNm at h
  rw [Bool.and_eq_true] at h
  exact ⟨by simpa using h.1, by simpa using h.2⟩
theorem visB_ok {sc : Scope} {x : Str} (h : visB sc x = true) : Vis sc x := by
  unfold visB at h
  split at h
  · rename_i e; exact .inl e
  · rename_i e; exact .inr (.inl e)
  · rename_i e; exact .inr (.inr e)
  · cases h
theorem locB_ok {sc : Scope} {x : Str} (h : locB sc x = true) : Loc sc x := by
  unfold locB at h
  split at h
  · rename_i e; exact .inl e
  · rename_i e; exact .inr e
  · cases h
theorem gloB_ok {X : Cx} {x : Str} (h : gloB X.env.scope x = true) : Gl X x := by
  unfold gloB at h
  split at h
  · rename_i e; exact e
  · cases h
section
variable {X : Cx} {D : Dn} {ct : CT} {W : WX} {sc : Scope} {lev : Nat} {r : Rc}
theorem XOk.u64 (k : XOk X D ct W sc lev) : X.A.units + 64 < cLine := k.room.units
theorem XOk.u1 (k : XOk X D ct W sc lev) : X.A.units + 1 < cLine := hu_of k.room
theorem ae_name (k : XOk X D ct W sc lev) (x : Str) (pos : Pos) : AE X ct W (.Name x pos) (nameM D sc x) := by
  unfold nameM
  split
  · rename_i ho
    obtain ⟨o1, o2⟩ := okNm_ok ho
    split
    · rename_i hv
      split
      · rename_i i hi
        refine ae_var (pe_var (by rw [k.hN]; exact slotIx_ok hi) (by rw [k.hsc]; exact visB_ok hv) o1 o2)
      · exact ae_bad
    · split
      · rename_i hg
        split
        · rename_i v hv
          obtain ⟨u, v', h1, h2, h3⟩ := k.kn.con x v hv
          exact ae_const (pe_glob (gloB_ok (by rw [k.hsc]; exact hg)) h1 h2 o1) h3
        · exact ae_bad
      · exact ae_bad
  · exact ae_bad
theorem ae_constM (c : Const) (j : Nat) (pos : Pos) : AE X ct W (.Constant c j pos) (constM c) := by
  cases c with
  | none => exact ae_const pe_non fun _ _ => VR.non.mpr rfl
  | bool b => exact ae_const pe_bl fun _ _ => VR.bl.mpr rfl
  | int i => exact ae_const pe_int fun _ _ => VR.int.mpr rfl
  | str x => exact ae_const pe_str fun _ _ => VR.str.mpr rfl
  | _ => exact ae_bad
theorem aa_of (R : RcOk D ct lev r) (k : XOk X D ct W sc lev) : ∀ {es : List Expr}, es.all notStar = true → AA X ct W es (evsM (es.map (r.E sc)))
  | [], _ => aa_nil
  | e :: es, h => by
    rw [List.all_cons, Bool.and_eq_true] at h
    exact aa_cons h.1 (R.E X W sc k e) (aa_of R k h.2)
theorem pat_PG {N : List Str} {sto : Str → Bool} (hN : X.N = N) (nd : X.N.Nodup) (hc : X.calm = true) (hst : ∀ x, sto x = true → Loc X.env.scope x ∧ (X.fn x = true ∨ X.env.scope.names.lookup x = some .local)) :
    ∀ (n : Nat) (e : Expr) (p : Pat), patOf N sto n e = some p → PG X e (gPat X.K p) := by
  intro n
  induction n with
  | zero => intro e p h; rw [patOf] at h; cases h
  | succ n ih =>
    intro e p h
    have hs : ∀ (es : List Expr) (ps : List Pat), es.all notStar = true → patOf.patsOf N sto n es = some ps → PGs X es (gPats X.K ps) ∧ ps.length = es.length := by
      intro es
      induction es with
      | nil =>
        intro ps _ h
        rw [patOf.patsOf] at h
        cases h
        rw [gPats]
        exact ⟨pgs_nil, rfl⟩
      | cons e es ih2 =>
        intro ps ha h
        rw [List.all_cons, Bool.and_eq_true] at ha
        rw [patOf.patsOf] at h
        split at h
        · rename_i p ps' h1 h2
          cases h
          rw [gPats]
          obtain ⟨q1, q2⟩ := ih2 ps' ha.2 h2
          exact ⟨pgs_cons (ih e p h1) q1 (by rw [assignEach_cons ha.1]; rfl), by simp [q2]⟩
        · cases h
    cases e with
    | Name x pos =>
      rw [patOf] at h
      split at h
      · rename_i hx
        obtain ⟨i, hi, rfl⟩ := Option.map_eq_some_iff.mp h
        obtain ⟨h1, h2⟩ := hst x hx
        rw [gPat]
        exact pg_name nd (by rw [hN]; exact slotIx_ok hi) h1 h2
      · cases h
    | Tuple es j pos =>
      rw [patOf] at h
      split at h
      · rename_i ha
        obtain ⟨ps, hp, rfl⟩ := Option.map_eq_some_iff.mp h
        rw [gPat]
        obtain ⟨q1, q2⟩ := hs es ps ha hp
        rw [q2]
        exact pg_tup hc q1 (assignEach_len es X.env) (assignEach_star ha)
      · cases h
    | _ => rw [patOf] at h; cases h; all_goals simp
theorem RJ.range {K : PySem.W.Frag} {ρ : List Addr} {H : Hp} (lo : Int) (n : Nat) : RJ K ct ρ H (.vals ((List.range n).map fun (k : Nat) => AV.int (lo + (k : Int)))) (Itr lo n) := by
  intro i ρ' H' h' ex hr
  show match some ((List.range n).map fun (k : Nat) => AV.int (lo + (k : Int)))[i]? with
  | none => True
  | some none => _
  | some (some v) => _
  rw [List.getElem?_map]
  by_cases hi : i < n
  · rw [List.getElem?_range hi]
    refine ⟨hi, fun x' H'' y => ?_⟩
    obtain ⟨rfl, rfl⟩ := y
    exact ⟨Ext.refl, hr, VR.int.mpr rfl⟩
  · rw [List.getElem?_eq_none (by simpa using hi)]
    exact Nat.le_of_not_lt hi
theorem isBlt_ok (k : XOk X D ct W sc lev) {x : Str} (h : isBlt D sc x = true) : Gl X x ∧ X.mg x = none := by
  unfold isBlt at h
  rw [Bool.and_eq_true] at h
  exact ⟨gloB_ok (by rw [k.hsc]; exact h.1), k.kn.free _ h.2⟩
theorem ai_range1 (R : RcOk D ct lev r) (k : XOk X D ct W sc lev) {tg a : Expr} {p pos : Pos} (h : isBlt D sc "range" = true) (hs : notStar a = true) : AI X ct W tg (.Call (.Name "range" p) [a] [] pos) (bd (r.E sc a) rangeI1) := by
  obtain ⟨G, F⟩ := isBlt_ok k h
  refine pi_imp (pi_range1 G F (pa_cons (R.E X W sc k a) pa_nil (starEach_cons hs)) (starEach_cons hs)) fun σ H Q t => ?_
  refine T0.mono (T0.bd (R' := RV X.K) t) fun v' H1 t1 => ?_
  obtain ⟨ρ, s, h, v, a, b, c, q⟩ := t1
  unfold rangeI1 at q
  split at q
  · rename_i j
    split at q
    · rename_i hj
      exact ⟨j, by rw [VR.int.mp c], hj.1, hj.2, q ρ H1 _ Ext.refl b (RJ.range 0 _)⟩
    · exact q.elim
  · exact q.elim
theorem ai_range2 (R : RcOk D ct lev r) (k : XOk X D ct W sc lev) {tg a b : Expr} {p pos : Pos} (h : isBlt D sc "range" = true) (hs : notStar a = true) (hs2 : notStar b = true) : AI X ct W tg (.Call (.Name "range" p) [a, b] [] pos) (bd (r.E sc a) fun v => bd (r.E sc b) fun w => rangeI2 v w) := by
  obtain ⟨G, F⟩ := isBlt_ok k h
  refine pi_imp (pi_range2 G F (pa_cons (R.E X W sc k a) (pa_cons (R.E X W sc k b) pa_nil (starEach_cons hs2)) (starEach_cons hs)) (by rw [starEach_cons hs, starEach_cons hs2]; rfl) (starEach_cons hs2)) fun σ H Q t => ?_
  refine T0.mono (T0.bd (R' := RV X.K) t) fun v' H1 t1 => ?_
  refine T0.mono (TP.bd0 (R' := RV X.K) mono_V t1) fun w' H2 t2 => ?_
  obtain ⟨ρ, s, h, ⟨v, w⟩, a, b, c, q⟩ := t2
  dsimp only at q
  unfold rangeI2 at q
  split at q
  · rename_i i j
    split at q
    · rename_i hj
      exact ⟨i, j, by rw [VR.int.mp c.1, VR.int.mp c.2], ⟨hj.1, hj.2.1, hj.2.2.1, hj.2.2.2⟩, q ρ H2 _ Ext.refl b (RJ.range i _)⟩
    · exact q.elim
  · exact q.elim
theorem ai_iter (R : RcOk D ct lev r) (k : XOk X D ct W sc lev) (tg e : Expr) : AI X ct W tg e (iterM D r sc e) := by
  unfold iterM
  split
  · rename_i x p a pos
    split
    · rename_i hx
      subst hx
      split
      · rename_i hc
        rw [Bool.and_eq_true] at hc
        exact ai_range1 R k hc.1 hc.2
      · exact ai_bad
    · exact ai_seq (R.E X W sc k _)
  · rename_i x p a b pos
    split
    · rename_i hx
      subst hx
      split
      · rename_i hc
        rw [Bool.and_eq_true, Bool.and_eq_true] at hc
        exact ai_range2 R k hc.1.1 hc.1.2 hc.2
      · exact ai_bad
    · exact ai_seq (R.E X W sc k _)
  · exact ai_seq (R.E X W sc k _)
end
end Ev
namespace Ev
open PySem PySem.Spec PyProof.Rows L2
section
variable {X : Cx} {D : Dn} {ct : CT} {W : WX} {sc : Scope} {lev : Nat} {r : Rc}
/-! ### comprehensions -/
theorem ownOf_ok {N : List Str} : ∀ {l : List (Str × NameKind)} {p : Str × Nat}, p ∈ ownOf N l → N[p.2]? = some p.1
  | (x, k) :: l, p, h => by
    unfold ownOf at h
    split at h
    · split at h
      · rename_i i e
        rcases List.mem_cons.mp h with rfl | h
        · exact slotIx_ok e
        · exact ownOf_ok h
      · exact ownOf_ok h
    · split at h
      · rename_i i e
        rcases List.mem_cons.mp h with rfl | h
        · exact slotIx_ok e
        · exact ownOf_ok h
      · exact ownOf_ok h
    · exact ownOf_ok h
theorem blk_ok (k : XOk X D ct W sc lev) {scope : Scope} (hk : scope.kind = .function) (s : Shared) (H : Hp) (C : Addr) (cl : List (Str × Addr)) (fp : List Addr) : XOk (X.blk s H scope (compEnvC scope cl C X.env) fp) D ct W0 (relS scope sc) lev where
  hN := k.hN
  nd := k.nd
  hsc := by
    show relabel scope X.env = relS scope sc
    rw [← k.hsc]
    rfl
  kd := hk
  room := k.room
  calm := k.calm
  pass := PassesOwn.never
  tk := takes0
  kn := k.kn
theorem foldedNot {e : Expr} {env : Env} (h : notSetE e = true) (x : Value) : foldedSetIterable e env x = pure x := by
  cases e <;> first | rfl | cases h
structure LcFacts (X : Cx) (D : Dn) (ct : CT) (W : WX) (r : Rc) (sc : Scope) (elt tg iter : Expr) (ifs : List Expr) (scope : Scope) (p : Pat) (own : List (Str × Nat)) : Prop where
  hi : AI X ct W tg iter (r.I sc iter)
  ok : BlkOk X.N X.env.scope scope own
  hp : ∀ i ∈ patSlots p, i ∈ own.map (·.2)
  hg : ∀ (s : Shared) (H : Hp) (C : Addr) (cl : List (Str × Addr)) (fp : List Addr), PG (X.blk s H scope (compEnvC scope cl C X.env) fp) tg (gPat X.K p)
  ht : ∀ (s : Shared) (H : Hp) (C : Addr) (cl : List (Str × Addr)) (fp : List Addr), PTs (X.blk s H scope (compEnvC scope cl C X.env) fp) ifs (T0 X.K ct W0 RB (testsM r (relS scope sc) ifs))
  he : ∀ (s : Shared) (H : Hp) (C : Addr) (cl : List (Str × Addr)) (fp : List Addr), PE (X.blk s H scope (compEnvC scope cl C X.env) fp) elt (T0 X.K ct W0 (RV X.K) (r.E (relS scope sc) elt))
  hs : ∀ x, foldedSetIterable iter X.env x = pure x
theorem lc_facts (R : RcOk D ct lev r) (k : XOk X D ct W sc lev) {elt tg iter : Expr} {ifs : List Expr} {scope : Scope} {p : Pat} (h1 : (blkC D.N sc scope (ownOf D.N scope.names) && notSetE iter && decide (ifs.length ≤ 1)) = true) (h2 : patOf D.N (locB scope) 5 tg = some p)
    (h3 : (patSlots p).all (fun i => ((ownOf D.N scope.names).map (·.2)).contains i) = true) : LcFacts X D ct W r sc elt tg iter ifs scope p (ownOf D.N scope.names) := by
  rw [Bool.and_eq_true, Bool.and_eq_true] at h1
  obtain ⟨⟨hb, hn⟩, hl⟩ := h1
  have ok : BlkOk D.N sc scope (ownOf D.N scope.names) := blkOk_by hb
  refine ⟨R.I X W sc k tg iter, by rw [k.hN, k.hsc]; exact ok, fun i hi => ?_, fun s H C cl fp => ?_, fun s H C cl fp => ?_, fun s H C cl fp => ?_, foldedNot hn⟩
  · have := List.all_eq_true.mp h3 i hi
    simpa using this
  · have kb := blk_ok k ok.kind s H C cl fp
    refine pat_PG (X := X.blk s H scope (compEnvC scope cl C X.env) fp) k.hN k.nd k.calm (fun x hx => ?_) 5 tg p h2
    have hl := locB_ok hx
    have hsc : (X.blk s H scope (compEnvC scope cl C X.env) fp).env.scope = relS scope sc := kb.hsc
    rw [hsc]
    rcases hl with hl | hl
    · have e : (relS scope sc).names.lookup x = some .local := lookup_relS_keep (by decide) hl
      exact ⟨.inl e, .inr e⟩
    · have e : (relS scope sc).names.lookup x = some .cell := lookup_relS_keep (by decide) hl
      refine ⟨.inr e, .inl ?_⟩
      show (scope.names.lookup x == some .cell) = true
      rw [hl]
      rfl
  · have kb := blk_ok k ok.kind s H C cl fp
    have hl2 : ifs.length ≤ 1 := of_decide_eq_true hl
    match ifs, hl2 with
    | [], _ =>
      refine ⟨fun pins s0 σ H0 Q I t => pts_nil.run pins s0 σ H0 Q I ?_⟩
      obtain ⟨ρ, sl, h, a, b, q⟩ := t
      exact q ρ H0 true Ext.refl b rfl
    | [c], _ => exact pts_one (R.T _ W0 _ kb c)
  · exact R.E _ W0 _ (blk_ok k ok.kind s H C cl fp) elt
theorem ae_lc (R : RcOk D ct lev r) (k : XOk X D ct W sc lev) (elt tg iter : Expr) (ifs : List Expr) (scope : Scope) (pos : Pos) : AE X ct W (.ListComp elt [⟨tg, iter, ifs, 0⟩] scope pos) (lcM D r sc elt tg iter ifs scope) := by
  unfold lcM
  dsimp only
  split
  · rename_i h1
    split
    · rename_i p h2
      split
      · rename_i h3
        have F := lc_facts (elt := elt) R k h1 h2 h3
        exact ae_comp k.calm k.nd F.hi F.ok F.hp F.hg F.ht F.he F.hs
      · exact ae_bad
    · exact ae_bad
  · exact ae_bad
/-! ### displays, calls -/
theorem prs_PPs (R : RcOk D ct lev r) (k : XOk X D ct W sc lev) {pos : Pos} : ∀ {keys : List (Option Expr)} {vs : List Expr} {ms : List (EM AV × EM AV)}, prsOf r sc keys vs = some ms →
    PPs X pos keys vs (ms.map fun m => (T0 X.K ct W (RV X.K) m.1, T0 X.K ct W (RV X.K) m.2)) ∧ keys.all (·.isSome) = true ∧ keys.length = vs.length
  | [], [], ms, h => by
    rw [prsOf] at h
    cases h
    exact ⟨pps_nil, rfl, rfl⟩
  | none :: _, _, ms, h => by rw [prsOf] at h; cases h; all_goals simp
  | [], _ :: _, ms, h => by rw [prsOf] at h; cases h; all_goals simp
  | some _ :: _, [], ms, h => by rw [prsOf] at h; cases h; all_goals simp
  | some e :: keys, v :: vs, ms, h => by
    rw [prsOf] at h
    obtain ⟨l, hl, rfl⟩ := Option.map_eq_some_iff.mp h
    obtain ⟨h1, h2, h3⟩ := prs_PPs R k (pos := pos) hl
    exact ⟨pps_cons (R.E X W sc k e) (R.E X W sc k v) h1, by rw [List.all_cons, h2]; rfl, by simp [h3]⟩
theorem ae_callE (R : RcOk D ct lev r) (k : XOk X D ct W sc lev) (x : Str) (p pos : Pos) (args : List Expr) : AE X ct W (.Call (.Name x p) args [] pos) (callE D r sc x args) := by
  unfold callE
  split
  · rename_i hc
    rw [Bool.and_eq_true, Bool.and_eq_true] at hc
    obtain ⟨⟨h1, h2⟩, h3⟩ := hc
    have G : Gl X x := gloB_ok (by rw [k.hsc]; exact h2)
    split
    · rename_i n hn
      split
      · rename_i hl
        obtain ⟨f, fd, ps, e1, hm, hk, hb, F⟩ := k.kn.fn x n hn
        have hr : Room lev X.A := k.room.mono (Nat.le_succ _)
        cases args with
        | nil =>
          have e2 : ps.length = 0 := by rw [e1, ← hl]; rfl
          exact ae_call0 k.tk F hb hk hr G hm (okNm_ok h1).1 e2
        | cons a as =>
          have e2 : ps.length = (a :: as).length := by rw [e1, ← hl]
          exact ae_call k.tk F hb hk hr G hm (okNm_ok h1).1 h3 (aa_of R k h3) e2 fun s h xs h' e => by rw [evs_len e]; simp
      · exact ae_bad
    · split
      · rename_i hf
        split
        · rename_i f a as hb
          exact ae_blt (blt_ok k.calm (lookup_mem_of hb)) G (k.kn.free x hf) h3 (aa_of R k h3)
        · exact ae_bad
      · exact ae_bad
  · exact ae_bad
/-! ### slices -/
abbrev RO : Rl (Option Int) (Option Int) := fun _ _ a b => a = b
theorem po_imp {e : Option Expr} {t t' : TO} (h : PO X e t) (i : ∀ σ H Q, t' σ H Q → t σ H Q) : PO X e t' := ⟨fun pins s σ H Q I q => h.run pins s σ H Q I (i σ H Q q)⟩
theorem po_of (R : RcOk D ct lev r) (k : XOk X D ct W sc lev) (e : Option Expr) : PO X e (T0 X.K ct W RO (optM r sc e)) := by
  cases e with
  | none => exact po_imp po_none fun σ H Q ⟨ρ, s, h, a, b, p⟩ => p ρ H none Ext.refl b rfl
  | some e =>
    refine po_imp (po_some (R.E X W sc k e)) fun σ H Q t => ?_
    refine T0.mono (T0.bd (R' := RV X.K) t) fun x' H1 t1 => ?_
    obtain ⟨ρ, s, h, x, a, b, c, p⟩ := t1
    dsimp only at p
    split at p
    · rename_i i
      exact ⟨i, VR.int.mp c, p ρ H1 _ Ext.refl b rfl⟩
    · exact p.elim
theorem mono_O {o : Option Int} : Mono (fun ρ H (x : Option Int) => RO ρ H x o) := ⟨fun _ _ _ _ _ _ h => h⟩
theorem ae_slice (R : RcOk D ct lev r) (k : XOk X D ct W sc lev) (a : Expr) (lo hi : Option Expr) (p2 pos : Pos) : AE X ct W (.Subscript a (.Slice lo hi none p2) pos) (bd (r.E sc a) fun x => bd (optM r sc lo) fun i => bd (optM r sc hi) fun j => slcA x i j) := by
  refine pe_imp (pe_slice sl_all (R.E X W sc k a) (po_of R k lo) (po_of R k hi)) fun σ H Q t => ?_
  refine T0.mono (T0.bd (R' := RV X.K) t) fun x' H1 t1 => ?_
  refine T0.mono (TP.bd0 (R' := RO) mono_V t1) fun i' H2 t2 => ?_
  refine T0.mono (TP.bd0 (R' := RO) (mono_2 mono_V mono_O) t2) fun j' H3 t3 => ?_
  obtain ⟨ρ, s, h, ⟨⟨x, i⟩, j⟩, a, b, c, p⟩ := t3
  obtain ⟨⟨c1, c2⟩, c3⟩ := c
  dsimp only at c1 c2 c3 p
  subst c2 c3
  exact slc_of ⟨ρ, s, h, x, a, b, c1, p⟩
theorem ae_idx (hu : X.A.units + 1 < cLine) {a b : Expr} {pos : Pos} {ma mb : EM AV} (ha : AE X ct W a ma) (hb : AE X ct W b mb) (hs : notSlice b = true) : AE X ct W (.Subscript a b pos) (bd ma fun x => bd mb fun y => idxA x y) := by
  refine pe_imp (pe_ix (ix_all hu) ha hb fun o i => ?_) fun σ H Q t => rd2_of op2_idx t
  cases b <;> first | rfl | cases hs
theorem ae_if {c a b : Expr} {pos : Pos} {mc : EM Bool} {ma mb : EM AV} (hc : AT X ct W c mc) (ha : AE X ct W a ma) (hb : AE X ct W b mb) : AE X ct W (.IfExp c a b pos) (bd mc fun k => if k = true then ma else mb) := by
  refine pe_imp (pe_ifExp hc ha hb) fun σ H Q t => ?_
  refine T0.mono (T0.bd (R' := RB) t) fun k H1 t1 => ?_
  obtain ⟨ρ, s, h, k', a, b, c, p⟩ := t1
  obtain rfl : k' = k := c
  cases k' with
  | true => exact ⟨ρ, s, h, a, b, p⟩
  | false => exact ⟨ρ, s, h, a, b, p⟩
/-! ### the steps -/
theorem step_E (R : RcOk D ct lev r) (k : XOk X D ct W sc lev) (e : Expr) : AE X ct W e (stepE D r sc e) := by
  unfold stepE
  split
  · exact ae_name k _ _
  · exact ae_constM _ _ _
  · split
    · rename_i f hf
      obtain ⟨rr, ho, hr⟩ := binP_ok (X := X) (ct := ct) hf
      exact ae_bin ho hr (R.E X W sc k _) (R.E X W sc k _)
    · exact ae_bad
  · exact ae_neg (R.E X W sc k _)
  · exact ae_notV (R.E X W sc k _)
  · exact ae_andV _ _ fun e _ => R.E X W sc k e
  · exact ae_orV _ _ fun e _ => R.E X W sc k e
  · split
    · rename_i f hf
      split
      · rename_i hb
        obtain ⟨rr, ho, hr⟩ := cmpP_ok (X := X) (ct := ct) k.u64 hf
        exact ae_cmp ho hr (R.E X W sc k _) (R.E X W sc k _) hb
      · exact ae_bad
    · exact ae_bad
  · split
    · rename_i f g hf hg
      split
      · rename_i hb
        obtain ⟨rr, ho, hr⟩ := cmpP_ok (X := X) (ct := ct) k.u64 hf
        obtain ⟨rr', ho', hr'⟩ := cmpP_ok (X := X) (ct := ct) k.u64 hg
        exact pe_imp (pe_chain ho ho' (R.E X W sc k _) (R.E X W sc k _) (R.E X W sc k _) hb) fun σ H Q t => chain_rd hr hr' t
      · exact ae_bad
    · exact ae_bad
  · exact ae_if (R.T X W sc k _) (R.E X W sc k _) (R.E X W sc k _)
  · exact ae_slice R k _ _ _ _ _
  · split
    · rename_i hs
      exact ae_idx k.u1 (R.E X W sc k _) (R.E X W sc k _) hs
    · exact ae_bad
  · split
    · rename_i hs
      exact ae_tup (aa_of R k hs)
    · exact ae_bad
  · split
    · rename_i hs
      exact ae_lst (aa_of R k hs)
    · exact ae_bad
  · split
    · rename_i ms hm
      split
      · rename_i hc
        obtain ⟨h1, h2, h3⟩ := prs_PPs R k hm
        exact ae_dict h1 h2 h3 hc.1 hc.2
      · exact ae_bad
    · exact ae_bad
  · exact ae_lc R k _ _ _ _ _ _
  · exact ae_callE R k _ _ _ _
  · split
    · rename_i hc
      rw [Bool.and_eq_true, Bool.and_eq_true, Bool.and_eq_true] at hc
      obtain ⟨⟨⟨h1, h2⟩, h3⟩, h4⟩ := hc
      exact ae_meth (R.E X W sc k _) (aa_of R k h1) h1 (of_decide_eq_true h2) h3 h4
    · exact ae_bad
  · exact ae_bad
theorem step_T (R : RcOk D ct lev r) (k : XOk X D ct W sc lev) (e : Expr) : AT X ct W e (stepT D r sc e) := by
  unfold stepT
  split
  · exact at_not (R.T X W sc k _)
  · exact (aw_andT _ _ fun e _ => R.T X W sc k e).pt
  · exact (aw_orT _ _ fun e _ => R.T X W sc k e).pt
  · split
    · rename_i f hf
      split
      · rename_i hb
        obtain ⟨rr, ho, hr⟩ := cmpP_ok (X := X) (ct := ct) k.u64 hf
        exact at_cmp ho hr (R.E X W sc k _) (R.E X W sc k _) hb
      · exact at_bad
    · exact at_bad
  · split
    · rename_i f g hf hg
      split
      · rename_i hb
        obtain ⟨rr, ho, hr⟩ := cmpP_ok (X := X) (ct := ct) k.u64 hf
        obtain ⟨rr', ho', hr'⟩ := cmpP_ok (X := X) (ct := ct) k.u64 hg
        refine pt_imp (pt_chain ho ho' (R.E X W sc k _) (R.E X W sc k _) (R.E X W sc k _) hb) fun σ H Q t => ?_
        exact chain_rd hr hr' (T0.mono (T0.bd (R' := RV X.K) t) fun x' H1 t1 => asBool_of t1)
      · exact at_bad
    · exact at_bad
  · split
    · rename_i hn
      exact at_truth hn (R.E X W sc k _)
    · exact at_bad
theorem ags_of (R : RcOk D ct lev r) (k : XOk X D ct W sc lev) (hf : ∀ x, X.fn x = true) : ∀ {es : List Expr}, es.all notStar = true → PGs X es (TGs0 X.K ct W (es.map (r.G sc)))
  | [], _ => ags_nil
  | e :: es, h => by
    rw [List.all_cons, Bool.and_eq_true] at h
    exact ags_cons h.1 (R.G X W sc k hf e) (ags_of R k hf h.2)
theorem step_G (R : RcOk D ct lev r) (k : XOk X D ct W sc lev) (hf : ∀ x, X.fn x = true) (e : Expr) : AG X ct W e (stepG D r sc e) := by
  unfold stepG
  split
  · rename_i x pos
    split
    · rename_i hl
      split
      · rename_i i hi
        exact ag_name (pg_name k.nd (by rw [k.hN]; exact slotIx_ok hi) (by rw [k.hsc]; exact locB_ok hl) (.inl (hf x)))
      · exact ag_bad
    · exact ag_bad
  · split
    · rename_i hs
      exact ag_sub k.u1 (R.E X W sc k _) (R.E X W sc k _) hs
    · exact ag_bad
  · rename_i es j pos
    split
    · rename_i hs
      have q := ag_tup (k := j) (pos := pos) k.calm hs (List.length_map _) (ags_of R k hf hs)
      rw [List.length_map] at q
      exact q
    · exact ag_bad
  · exact ag_bad
theorem seqs_of (R : RcOk D ct lev r) (k : XOk X D ct W sc lev) (hf : ∀ x, X.fn x = true) : ∀ (l : List Stmt), ASs X ct W l (seqsM (l.map (r.S sc)))
  | [] => ass_nil
  | st :: l => ass_cons (R.S X W sc k hf st) (seqs_of R k hf l)
theorem fm_lt {f : Expr → Option Str} (hf : ∀ t, isNm t = false → f t = none) : ∀ (l : List Expr), (l.any fun t => !isNm t) = true → (l.filterMap f).length < l.length
  | [], h => by cases h
  | t :: l, h => by
    rw [List.any_cons, Bool.or_eq_true] at h
    rw [List.filterMap_cons]
    have hle := List.length_filterMap_le f l
    rcases h with h | h
    · rw [hf t (by simpa using h)]
      dsimp only
      rw [List.length_cons]
      omega
    · have := fm_lt hf l h
      split
      · rw [List.length_cons]; omega
      · rw [List.length_cons, List.length_cons]; omega
theorem swap_none {tg e : Expr} {env : Env} (h : notSwap tg e = true) : swappedStores [tg] e env = pure none := by
  cases tg with
  | Tuple ts j p =>
    cases e with
    | Tuple vs j2 p2 =>
      have ha : (ts.any fun t => !isNm t) = true := h
      unfold swappedStores
      dsimp only [pure_bind]
      split
      · rfl
      · split
        · rfl
        · split
          · rfl
          · rename_i hc
            exfalso
            apply hc
            simp only [Bool.or_eq_true, bne_iff_ne, ne_eq]
            refine .inl (Nat.ne_of_lt (fm_lt (fun t ht => ?_) ts ha))
            cases t <;> first | rfl | cases ht
    | _ => rfl
  | List ts p => cases h
  | _ => rfl
theorem swapsNone {e : Expr} {l : Nat} {env : Env} (h : notLc e = true) (t : Option Expr) : swapsWith e t l env = pure false := by
  cases e <;> first | rfl | cases h
theorem swapsLc {elt : Expr} {gs : List Comprehension} {scope : Scope} {pos : Pos} {x : Str} {p : Pos} {l : Nat} {env : Env} : ∃ b : Bool, swapsWith (.ListComp elt gs scope pos) (some (.Name x p)) l env = pure b ∧ (b = true → env.kindOf x = some .local) := by
  refine ⟨_, rfl, fun h => ?_⟩
  rw [Bool.and_eq_true, Bool.and_eq_true, Bool.and_eq_true] at h
  exact beq_iff_eq.mp h.1.1.2
theorem step_S (R : RcOk D ct lev r) (k : XOk X D ct W sc lev) (hf : ∀ x, X.fn x = true) (st : Stmt) : AS X ct W st (stepS D r sc st) := by
  unfold stepS
  split
  · rename_i x pos' elt tg iter ifs scope p2 pos
    split
    · rename_i hl
      split
      · rename_i i hi
        have hi' : X.N[i]? = some x := by rw [k.hN]; exact slotIx_ok hi
        have hl' : Loc X.env.scope x := by rw [k.hsc]; exact locB_ok hl
        obtain ⟨b, hb, hk⟩ := swapsLc (elt := elt) (gs := [⟨tg, iter, ifs, 0⟩]) (scope := scope) (pos := p2) (x := x) (p := pos') (l := pos.line) (env := X.env)
        cases b with
        | false => exact as_set (ps_set k.nd hi' hl' (ae_lc R k elt tg iter ifs scope p2) hb (.inl (hf x)))
        | true =>
          unfold lcM
          dsimp only
          split
          · rename_i h1
            split
            · rename_i p h2
              split
              · rename_i h3
                have F := lc_facts (elt := elt) R k h1 h2 h3
                exact as_setLc k.calm k.nd hi' (hk rfl) hb F.hi F.ok F.hp F.hg F.ht F.he F.hs
              · exact as_bad
            · exact as_bad
          · exact as_bad
      · exact as_bad
    · exact as_bad
  · rename_i x pos' e pos _
    split
    · rename_i hl
      rw [Bool.and_eq_true] at hl
      split
      · rename_i i hi
        have hi' : X.N[i]? = some x := by rw [k.hN]; exact slotIx_ok hi
        have hl' : Loc X.env.scope x := by rw [k.hsc]; exact locB_ok hl.1
        exact as_set (ps_set k.nd hi' hl' (R.E X W sc k e) (swapsNone hl.2 _) (.inl (hf x)))
      · exact as_bad
    · exact as_bad
  · split
    · rename_i hc
      rw [Bool.and_eq_true, Bool.and_eq_true] at hc
      obtain ⟨⟨h1, h2⟩, h3⟩ := hc
      exact as_asg (R.E X W sc k _) (R.G X W sc k hf _) (swapsNone h1 _) (swap_none h2) h3
    · exact as_bad
  · exact as_if (R.T X W sc k _) (seqs_of R k hf _) (seqs_of R k hf _)
  · exact as_while k.pass (R.T X W sc k _) (seqs_of R k hf _)
  · split
    · rename_i hn
      split
      · rename_i p hp
        exact as_for k.pass k.calm (R.I X W sc k _ _) (ag_pat (pat_PG k.hN k.nd k.calm (fun x hx => ⟨by rw [k.hsc]; exact locB_ok hx, .inl (hf x)⟩) 5 _ p hp)) (seqs_of R k hf _) (foldedNot hn)
      · exact as_bad
    · exact as_bad
  · exact as_ret (R.E X W sc k _)
  · exact as_retN
  · exact as_doc
  · split
    · rename_i hn
      exact as_expr (R.E X W sc k _) (swapsNone hn _)
    · exact as_bad
  · exact as_pass
  · exact as_break
  · exact as_continue
  · exact as_bad
end
end Ev
namespace Ev
open PySem PySem.Spec PyProof.Rows L2
theorem rc_ok {D : Dn} {ct : CT} {lev : Nat} : ∀ n, RcOk D ct lev (rc D n)
  | 0 => ⟨fun _ _ _ _ _ => ae_bad, fun _ _ _ _ _ => at_bad, fun _ _ _ _ _ _ => ai_bad, fun _ _ _ _ _ _ => ag_bad, fun _ _ _ _ _ _ => as_bad⟩
  | n + 1 => ⟨fun X W sc k e => step_E (rc_ok n) k e, fun X W sc k e => step_T (rc_ok n) k e, fun X W sc k tg e => ai_iter (rc_ok n) k tg e, fun X W sc k hf e => step_G (rc_ok n) k hf e, fun X W sc k hf e => step_S (rc_ok n) k hf e⟩
/-- what the head tells of a def -/
structure FnH (K : PySem.W.Frag) (mg : Str → Option Value) (d : FnD) (f : Addr) (fd : FuncData) : Prop where
  F : FunD K d.nm d.key d.args d.body d.sc [] [] f fd
  S : FnScope d.N d.ps d.sc
  b : Binds K fd d.ps []
/-- the whole text's facts -/
structure Txt (K : PySem.W.Frag) (mg : Str → Option Value) (T : Tbl) (fs : List FnD) : Prop where
  con : ∀ x v, T.con.lookup x = some v → ∃ u v', mg x = some u ∧ RelV v' u ∧ ∀ ρ H, VR K ρ H v v'
  free : ∀ x, T.free.contains x = true → mg x = none
  fn : ∀ x n, T.gfn.lookup x = some n → ∃ d f fd, findFn fs x = some d ∧ d.ps.length = n ∧ mg x = some (.ref f) ∧ FnH K mg d f fd
section
variable {P : Program} {w : World} {K : PySem.W.Frag} {mg : Str → Option Value} {base : Heap} {T : Tbl} {fs : List FnD} {ct : CT}
theorem SR.start {ρ : List Addr} {H : Hp} {N : List Str} {xs : List AV} {vs : List V} (h : VRs K ρ H xs vs) : SR K ρ H (startA N xs) (start N vs) := by
  unfold startA L2.start
  refine ⟨by simp [h.length], fun i x e => ?_⟩
  by_cases hi : i < xs.length
  · rw [List.getElem?_append_left (by simpa using hi), List.getElem?_map] at e
    obtain ⟨y, e1, e2⟩ := Option.map_eq_some_iff.mp e
    cases e2
    obtain ⟨v, h1, h2⟩ := h.get e1
    refine ⟨v, ?_, h2⟩
    rw [List.getElem?_append_left (by simpa using (List.getElem?_eq_some_iff.mp h1).1), List.getElem?_map, h1]
    rfl
  · rw [List.getElem?_append_right (by simpa using hi)] at e
    have := List.mem_of_getElem? e
    rw [List.mem_replicate] at this
    cases this.2
/-- each def does what the evaluator says -/
theorem fn_ok {T : Tbl} {fs : List FnD} (X : Txt K mg T fs) : ∀ (k : Nat) (d : FnD) (f : Addr) (fd : FuncData), FnH K mg d f fd → findFn fs d.key = some d →
    FnOk P w K mg base (L2.CX P w) (2 * k) f fd d.ps (spU K ct (fun xs h => if xs.length = d.ps.length then callA T fs k d.key xs h else .bad) d.ps.length)
  | 0, d, f, fd, _, _ => by
    refine ⟨fun vs H Q E h => h.1, fun A outer s H args us vs Q E hr he hb hv h => ?_⟩
    obtain ⟨_, ρ, h, xs, _, _, p⟩ := h
    have e0 : (if xs.length = d.ps.length then callA T fs 0 d.key xs h else .bad) = .bad := by
      split <;> rfl
    dsimp only at p
    rw [e0] at p
    exact p.elim
  | k + 1, d, f, fd, Hd, hfind => by
    obtain ⟨F, S, b⟩ := Hd
    refine F.ok (k := 2 * k + 1) S (fun vs H Q E h => h.1) fun cdv A outer s H vs Q E hr h => ?_
    obtain ⟨hl, ρ, ah, xs, hh, hv, p⟩ := h
    have kn : Kn P w K mg base T (callA T fs k) ct (2 * k) := by
      refine ⟨X.con, fun y n hy => ?_, X.free⟩
      obtain ⟨d', f', fd', h1, h2, h3, h4⟩ := X.fn y n hy
      have hk : d'.key = y := by
        have := List.find?_some h1
        simpa using this
      have q := fn_ok X k d' f' fd' h4 (by rw [hk]; exact h1)
      rw [hk] at q
      exact ⟨f', fd', d'.ps, h2, h3, h4.F.kp, h4.b, q⟩
    have xo : XOk (cxOf (L2.CX P w) P w K mg base d.N d.key d.sc f cdv A outer s H E) ⟨T, d.N, callA T fs k⟩ ct (fun cls dd _ H => E cls dd H) d.sc (2 * k) :=
      ⟨rfl, S.nd, rfl, S.kind, hr, rfl, passes_of rfl, takes_of rfl rfl rfl rfl, kn⟩
    refine ⟨_, seqs_of (rc_ok deep) xo (fun _ => rfl) d.body, ρ, startA d.N xs, ah, SR.start hv, hh, ?_⟩
    have hx : xs.length = d.ps.length := hv.length.trans hl
    have ec : callA T fs (k + 1) d.key xs ah = runB (bodyM T (callA T fs k) d) d.N xs ah := by
      show (match findFn fs d.key with
        | some d => if xs.length = d.ps.length then runB (bodyM T (callA T fs k) d) d.N xs ah else .bad
        | none => .bad) = _
      rw [hfind]
      exact if_pos hx
    dsimp only at p
    rw [if_pos hx, ec] at p
    unfold runB bodyM at p
    cases e : seqsM (d.body.map ((rc ⟨T, d.N, callA T fs k⟩ deep).S d.sc)) (startA d.N xs) ah with
    | nx s' h' =>
      rw [e] at p
      exact fun ρ' H' σ' x y z => p ρ' H' .non x y (VR.non.mpr rfl)
    | rt v h' =>
      rw [e] at p
      exact p
    | exc c fs' s' h' =>
      rw [e] at p
      exact fun ρ' H' σ' cls dd x y z u => p ρ' H' cls dd x y u
    | bk _ _ => rw [e] at p; exact p.elim
    | ct _ _ => rw [e] at p; exact p.elim
    | bad => rw [e] at p; exact p.elim
/-- THE END: the law's def gives True, if the evaluator says so -/
theorem law_sp {f : List AV → AH → RE AV} {H : Hp} {a : Addr} {ns : List Int} {h' : AH} (hO : Only H) (hS : SqL K H a (ns.map V.int)) (e : f [.ref 0] [.fro (ns.map AV.int)] = .ok (.bl true) h') :
    spU K ct f 1 [.ref a] H (fun v _ => v = .bl true) fun _ _ _ => False := by
  refine ⟨rfl, [a], [.fro (ns.map AV.int)], [.ref 0], ⟨rfl, fun i j b e1 e2 hne => ?_, fun i b o e1 e2 => ?_⟩, VRs.one (VR.ref.mpr ⟨a, rfl, rfl⟩), ?_⟩
  · have h1 := (List.getElem?_eq_some_iff.mp e1).1
    have h2 := (List.getElem?_eq_some_iff.mp e2).1
    simp at h1 h2
    omega
  · have h1 := (List.getElem?_eq_some_iff.mp e1).1
    have h2 : i = 0 := by simp at h1; omega
    subst h2
    obtain rfl : a = b := by simpa using e1
    obtain rfl : AO.fro (ns.map AV.int) = o := by simpa using e2
    have hv : VRs K [a] H (ns.map AV.int) (ns.map V.int) := VRs.of_map (fun _ => VR.int.mpr rfl) ns
    refine ⟨ns.map V.int, hv, ?_⟩
    rcases hS with (hS | ⟨o, hS⟩) | hS
    · rcases hO a with z | ⟨o, xs, z⟩
      · rw [hS] at z; cases z
      · rw [hS] at z; cases z
    · exact .inl ⟨o, hS⟩
    · exact .inr hS
  · rw [e]
    exact fun ρ' H' v' _ _ hv => VR.bl.mp hv
end
end Ev
namespace Ev
open PySem PySem.Spec PyProof.Rows L2
/-! ### the head's facts -/
def nonV : Value → Bool
  | .none => true
  | _ => false
def blV (b : Bool) : Value → Bool
  | .bool c => decide (b = c)
  | _ => false
def intV (i : Int) : Value → Bool
  | .int j _ => decide (i = j)
  | _ => false
def strV (x : Str) : Value → Bool
  | .str y _ => decide (x = y)
  | _ => false
def itemsV (K : PySem.W.Frag) : Value → Option (Addr × List Value)
  | .ref a => (match K.lookup a with
    | some o => (match o.cls, o.data with
      | .type t, .seq its _ => if t = "tuple" ∧ its.size ≤ sizeLine then some (a, its.toList) else none
      | _, _ => none)
    | none => none)
  | _ => none
mutual
/-- a value of the module is that value -/
def avB (K : PySem.W.Frag) : AV → Value → Bool
  | .non, u => nonV u
  | .bl b, u => blV b u
  | .int i, u => intV i u
  | .str x, u => strV x u
  | .tup xs, u => (match itemsV K u with
    | some p => avsB K xs p.2
    | none => false)
  | .ref _, _ => false
  | .kd _, _ => false
def avsB (K : PySem.W.Frag) : List AV → List Value → Bool
  | [], us => us.isEmpty
  | x :: xs, us => (match us with
    | u :: us => avB K x u && avsB K xs us
    | [] => false)
end
mutual
theorem avB_ok {K : PySem.W.Frag} : ∀ (x : AV) {u : Value}, avB K x u = true → ∃ v, L2.RelV v u ∧ ∀ ρ H, VR K ρ H x v
  | .non, u, h => by
    unfold avB nonV at h
    split at h
    · exact ⟨.non, rfl, fun _ _ => VR.non.mpr rfl⟩
    · cases h
  | .bl b, u, h => by
    unfold avB blV at h
    split at h
    · exact ⟨.bl b, by rw [of_decide_eq_true h]; rfl, fun _ _ => VR.bl.mpr rfl⟩
    · cases h
  | .int b, u, h => by
    unfold avB intV at h
    split at h
    · exact ⟨.int b, by rw [of_decide_eq_true h]; exact ⟨_, rfl⟩, fun _ _ => VR.int.mpr rfl⟩
    · cases h
  | .str b, u, h => by
    unfold avB strV at h
    split at h
    · exact ⟨.str b, by rw [of_decide_eq_true h]; exact ⟨_, rfl⟩, fun _ _ => VR.str.mpr rfl⟩
    · cases h
  | .tup xs, u, h => by
    unfold avB at h
    split at h
    · rename_i p hp
      obtain ⟨vs, r, q⟩ := avsB_ok xs h
      unfold itemsV at hp
      split at hp
      · rename_i a
        split at hp
        · rename_i o ho
          split at hp
          · rename_i t its n hc hd
            split at hp
            · rename_i hh
              cases hp
              obtain ⟨rfl, h2⟩ := hh
              exact ⟨.ref a, rfl, fun ρ H => VR.tup.mpr ⟨a, vs, rfl, .inr ⟨o, its, n, ho, hc, hd, h2, r⟩, q ρ H⟩⟩
            · cases hp
          · cases hp
        · cases hp
      · cases hp
    · cases h
  | .ref _, u, h => by unfold avB at h; cases h
  | .kd _, u, h => by unfold avB at h; cases h
theorem avsB_ok {K : PySem.W.Frag} : ∀ (xs : List AV) {us : List Value}, avsB K xs us = true → ∃ vs, L2.Vals vs us ∧ ∀ ρ H, VRs K ρ H xs vs
  | [], us, h => by
    unfold avsB at h
    rw [List.isEmpty_iff.mp h]
    exact ⟨[], .nil, fun _ _ => VRs.nil.mpr rfl⟩
  | x :: xs, us, h => by
    unfold avsB at h
    split at h
    · rename_i u us'
      rw [Bool.and_eq_true] at h
      obtain ⟨v, r, q⟩ := avB_ok x h.1
      obtain ⟨vs, rs, qs⟩ := avsB_ok xs h.2
      exact ⟨v :: vs, .cons r rs, fun ρ H => VRs.cons.mpr ⟨v, vs, rfl, q ρ H, qs ρ H⟩⟩
    · cases h
end
def conB (T : Tbl) (K : PySem.W.Frag) : Bool := T.con.all fun p => match PySem.W.nsIn K mainGlobals p.1 with
  | some (some u) => avB K p.2 u
  | _ => false
def fac (T : Tbl) : List He.Fa := T.gfn.map (fun p => He.Fa.glo p.1) ++ T.free.map He.Fa.free
def ddOf (d : FnD) : He.DefD := ⟨d.at_, d.nm, d.key, d.args, d.body, d.sc, [], []⟩
def scB (d : FnD) : Bool := (match d.sc.kind with | .function => true | _ => false) && !d.sc.isCoroutine && !d.sc.isGenerator && decide d.N.Nodup && decide (d.N.take d.ps.length = d.ps) &&
  (d.ps.all fun x => locB d.sc x) && d.sc.names.all fun y => match y.2 with | .free => false | _ => true
theorem scB_ok {d : FnD} (h : scB d = true) : FnScope d.N d.ps d.sc := by
  unfold scB at h
  simp only [Bool.and_eq_true] at h
  obtain ⟨⟨⟨⟨⟨⟨h1, h2⟩, h3⟩, h4⟩, h5⟩, h6⟩, h7⟩ := h
  refine ⟨?_, by simpa using h2, by simpa using h3, of_decide_eq_true h4, of_decide_eq_true h5, fun x hx => locB_ok (List.all_eq_true.mp h6 x hx), fun y hy e => ?_⟩
  · split at h1
    · assumption
    · cases h1
  · have := List.all_eq_true.mp h7 y hy
    rw [e] at this
    cases this
structure BindOk (d : FnD) : Prop where
  ok : ∀ (kV doc pm : Value) (an : Option Addr) (cdv ct : Value) (us : List Value), us.length = d.ps.length → bindArgs (PySem.W.fnOf d.nm d.key d.args d.body d.sc .none kV doc pm an cdv ct) ⟨us, []⟩ = pure (d.ps.zip us)
/-- the text's table is sound: each name has its def, of so many parameters -/
def tblB (T : Tbl) (fs : List FnD) : Bool := (T.gfn.all fun p => match findFn fs p.1 with
  | some d => decide (d.ps.length = p.2) && decide (d.at_ = (p.1, none))
  | none => false) && fs.all scB
theorem lookup_mem_snd {α β : Type} [BEq α] [LawfulBEq α] {x : α} {y : β} {l : List (α × β)} (h : l.lookup x = some y) : (x, y) ∈ l := lookup_mem_of h
theorem txt_of {T : Tbl} {fs : List FnD} {w : World} {K : PySem.W.Frag} {h : Heap} {mg : Str → Option Value} (X : K.In h) (G : h.Ns mainGlobals mg) (c : He.SaysX (fac T) (fs.map ddOf) [] [] (conB T) w h K) (ht : tblB T fs = true) (hb : ∀ d ∈ fs, BindOk d) : Txt K mg T fs := by
  unfold tblB at ht
  rw [Bool.and_eq_true] at ht
  have cd := He.SaysT.d c.t
  refine ⟨fun x v hv => ?_, fun x hx => ?_, fun x n hn => ?_⟩
  · have h1 := List.all_eq_true.mp c.more (x, v) (lookup_mem_of hv)
    dsimp only at h1
    split at h1
    · rename_i u hu
      obtain ⟨v', r, q⟩ := avB_ok v h1
      exact ⟨u, v', PySem.W.mg_of X G hu, r, q⟩
    · cases h1
  · exact He.free_ok X G (He.SaysD.facts cd (List.mem_append_right _ (List.mem_map.mpr ⟨x, by simpa using hx, rfl⟩)))
  · have hm := lookup_mem_of hn
    have h1 := List.all_eq_true.mp ht.1 (x, n) hm
    dsimp only at h1
    split at h1
    · rename_i d hd
      have hdm : d ∈ fs := List.mem_of_find?_eq_some hd
      have hk : d.key = x := by
        have := List.find?_some hd
        simpa using this
      rw [Bool.and_eq_true] at h1
      obtain ⟨fd, F⟩ := He.SaysD.defs cd (List.mem_map.mpr ⟨d, hdm, rfl⟩)
      have ea : d.at_ = (x, none) := of_decide_eq_true h1.2
      have F' : FunD K d.nm d.key d.args d.body d.sc [] [] (He.ga K x) fd := by
        have F2 : FunD K d.nm d.key d.args d.body d.sc [] [] (He.fAd K d.at_) fd := F
        rw [ea] at F2
        exact F2
      exact ⟨d, He.ga K x, fd, hd, of_decide_eq_true h1.1, He.glo_ok X G (He.SaysD.facts cd (List.mem_append_left _ (List.mem_map.mpr ⟨(x, n), hm, rfl⟩))), F', scB_ok (List.all_eq_true.mp ht.2 d hdm), FunD.bindsN F' (hb d hdm).ok⟩
    · cases h1
/-! ### the end of a law -/
/-- the run's row: the hook is hookX n (fac T) (fs.map ddOf) [] [] (conB T) -/
theorem walk_ev {l : PySem.W.OpenLaw} {q : Program} {loose : List Str} {XP : (Str → Option Value) → Heap → Prop} {d : DefRec} {T : Tbl} {fs : List FnD} {dl : FnD} {n k : Nat} {x : Str}
    (hn : l.most = some 63) (hdf : d.params.defaults = []) (hr : Room (2 * k) callerA)
    (hname : d.name = dl.key) (hps : dl.ps = [x]) (hdl : findFn fs dl.key = some dl) (hg : T.gfn.lookup dl.key = some 1) (ht : tblB T fs = true) (hb : ∀ d ∈ fs, BindOk d)
    (law : ∀ ns : List Int, ns.length ≤ 63 → (∀ z ∈ ns, Builtin.Int.intBits z ≤ 1048576) → ∃ h', callA T fs k dl.key [.ref 0] [.fro (ns.map AV.int)] = .ok (.bl true) h') :
    PySem.W.WalkO q loose XP (He.hookX n (fac T) (fs.map ddOf) [] [] (conB T)).says l.row.toRowW d [] (fun f vs => PySem.call f vs) := by
  refine Att.attach_callB hn hdf fun w s₀ s₁ mg mb fa o pm cd doc a vs ns G Y ho hd hcd hmg hobj hints hlen hbits hg' => ?_
  obtain ⟨K, KX, c⟩ := Y
  have X := txt_of KX G.T.g c ht hb
  obtain ⟨d', f', fd', h1, h2, h3, h4⟩ := X.fn dl.key 1 hg
  rw [hdl] at h1
  cases h1
  have ef : fa = f' := by
    rw [hname] at hmg
    rw [hmg] at h3
    exact Value.ref.inj (Option.some.inj h3)
  subst ef
  obtain ⟨h', e⟩ := law ns hlen hbits
  have hb' : ∀ (s : Shared) (u : Value), BindsTo s fd' ⟨[u], []⟩ [(x, u)] := fun s u => by
    have := FunD.bindsA h4.F (hb dl (List.mem_of_find?_eq_some hdl)).ok s [u] (by rw [hps]; rfl)
    rw [hps] at this
    exact this
  refine law_call (CX := L2.CX l.prog w) KX G.T.g G.T.b G.T.builtins G.T.nolimit hg' hobj hints (Nat.le_trans hlen (by decide)) hr (sp := spU K (fun _ => none) (fun xs h => if xs.length = dl.ps.length then callA T fs k dl.key xs h else .bad) dl.ps.length)
    (fun base hK hB => by
      have q := fn_ok (P := l.prog) (w := w) (mg := mg) (base := base) (ct := fun _ => none) X k dl fa fd' h4 hdl
      rw [hps] at q ⊢
      exact q) hb' (fun H hO hS => ?_) fun H e s' hc => ?_
  · rw [hps]
    exact law_sp hO hS (by dsimp only [List.length]; exact e)
  · obtain ⟨_, _, _, _, _, _, _, _, _, _, _, _, z⟩ := hc
    exact z.elim
end Ev
namespace Ev
open PySem PySem.Spec PyProof.Rows L2
/-! ### reckoning with the evaluator -/
def runR : RS → RE AV
  | .nx _ h' => .ok .non h'
  | .rt v h' => .ok v h'
  | .exc c fs _ h' => .exc c fs h'
  | _ => .bad
theorem runB_eq (m : SM) (N : List Str) (vs : List AV) (h : AH) : runB m N vs h = runR (m (startA N vs) h) := by
  unfold runB runR
  cases m (startA N vs) h <;> rfl
theorem call_eq {T : Tbl} {fs : List FnD} {k : Nat} {x : Str} {vs : List AV} {h : AH} {d : FnD} {m : SM} {s : Sl} (hf : findFn fs x = some d) (hs : startA d.N vs = s) (hm : bodyM T (callA T fs k) d = m) (hl : vs.length = d.ps.length := by rfl) :
    callA T fs (k + 1) x vs h = runR (m s h) := by
  rw [← hm, ← hs, ← runB_eq]
  show (match findFn fs x with
    | some d => if vs.length = d.ps.length then runB (bodyM T (callA T fs k) d) d.N vs h else .bad
    | none => .bad) = _
  rw [hf]
  exact if_pos hl
/-! how a result goes on -/
def RS.thn : RS → SM → RS
  | .nx s h, b => b s h
  | r, _ => r
def RE.thS {α : Type} : RE α → (α → SM) → Sl → RS
  | .ok a h, f, s => f a s h
  | .exc c fs h, _, s => .exc c fs s h
  | .bad, _, _ => .bad
def RE.thE {α β : Type} : RE α → (α → EM β) → Sl → RE β
  | .ok a h, f, s => f a s h
  | .exc c fs h, _, _ => .exc c fs h
  | .bad, _, _ => .bad
def RE.thIf : RE Bool → SM → SM → Sl → RS
  | .ok k h, a, b, s => if k = true then a s h else b s h
  | .exc c fs h, _, _, s => .exc c fs s h
  | .bad, _, _, _ => .bad
section
variable {α β : Type} {s : Sl} {h : AH} {a b : SM} {c : Str} {fs : List (Str × AV)} {m : EM α} {f : α → EM β} {g : α → SM} {v : AV}
theorem seqS_eq : seqS a b s h = (a s h).thn b := by
  unfold seqS RS.thn
  cases a s h <;> rfl
theorem bdS_eq : bdS m g s h = (m s h).thS g s := by
  unfold bdS RE.thS
  cases m s h <;> rfl
theorem bd_eq : bd m f s h = (m s h).thE f s := by
  unfold bd RE.thE
  cases m s h <;> rfl
theorem ifS_eq {m : EM Bool} : ifS m a b s h = (m s h).thIf a b s := by
  unfold ifS bdS RE.thIf
  cases m s h with
  | ok k h' => cases k <;> rfl
  | _ => rfl
theorem thn_nx : (RS.nx s h).thn b = b s h := id rfl
theorem thn_rt : (RS.rt v h).thn b = .rt v h := id rfl
theorem thn_bk : (RS.bk s h).thn b = .bk s h := id rfl
theorem thn_ct : (RS.ct s h).thn b = .ct s h := id rfl
theorem thn_exc : (RS.exc c fs s h).thn b = .exc c fs s h := id rfl
theorem thS_ok {x : α} : (RE.ok x h).thS g s = g x s h := id rfl
theorem thS_exc : (RE.exc (α := α) c fs h).thS g s = .exc c fs s h := id rfl
theorem thE_ok {x : α} : (RE.ok x h).thE f s = f x s h := id rfl
theorem thE_exc : (RE.exc (α := α) c fs h).thE f s = .exc c fs h := id rfl
theorem thIf_ok {k : Bool} : (RE.ok k h).thIf a b s = if k = true then a s h else b s h := id rfl
theorem thIf_exc : (RE.exc (α := Bool) c fs h).thIf a b s = .exc c fs s h := id rfl
theorem ret_eq {x : α} : ret x s h = .ok x h := id rfl
theorem setS_eq {i : Nat} : setS i v s h = .nx (s.set i (some v)) h := id rfl
theorem retS_eq : retS v s h = .rt v h := id rfl
theorem skipS_eq : skipS s h = .nx s h := id rfl
theorem slotM_eq {i : Nat} (e : s[i]? = some (some v)) : slotM i s h = .ok v h := by
  unfold slotM
  rw [e]
theorem rd_eq {f : AH → Option α} {x : α} (e : f h = some x) : rd f s h = .ok x h := by
  unfold rd
  rw [e]
theorem rd_some {x : α} : rd (fun _ => some x) s h = .ok x h := id rfl
theorem alloc_eq {o : AO} : alloc o s h = .ok (.ref h.length) (h ++ [o]) := id rfl
theorem callM_eq {cf : CF} {key : Str} {ms : EM (List AV)} : callM cf key ms s h = (ms s h).thE (fun xs _ h => cf key xs h) s := by
  unfold callM
  exact bd_eq
theorem evs_nil : evsM [] s h = .ok [] h := id rfl
theorem evs_cons {m : EM AV} {ms : List (EM AV)} : evsM (m :: ms) s h = (m s h).thE (fun x => bd (evsM ms) fun xs => ret (x :: xs)) s := by
  show bd m _ s h = _
  exact bd_eq
theorem asBool_bl {k : Bool} : asBool (.bl k) s h = .ok k h := id rfl
theorem tru_bl {k : Bool} : truA (.bl k) s h = .ok k h := id rfl
theorem tru_int {i : Int} : truA (.int i) s h = .ok (i != 0) h := id rfl
theorem tru_non : truA .non s h = .ok false h := id rfl
theorem tru_tup {xs : List AV} : truA (.tup xs) s h = .ok (!xs.isEmpty) h := id rfl
theorem runR_nx : runR (.nx s h) = .ok .non h := id rfl
theorem runR_rt : runR (.rt v h) = .ok v h := id rfl
theorem runR_exc : runR (.exc c fs s h) = .exc c fs h := id rfl
theorem runR_ite {p : Prop} [Decidable p] {x y : RS} : runR (if p then x else y) = if p then runR x else runR y := by split <;> rfl
theorem thn_ite {p : Prop} [Decidable p] {x y : RS} : (if p then x else y).thn b = if p then x.thn b else y.thn b := by split <;> rfl
theorem thS_ite {p : Prop} [Decidable p] {x y : RE α} : (if p then x else y).thS g s = if p then x.thS g s else y.thS g s := by split <;> rfl
theorem thE_ite {p : Prop} [Decidable p] {x y : RE α} : (if p then x else y).thE f s = if p then x.thE f s else y.thE f s := by split <;> rfl
theorem ite_app2 {p : Prop} [Decidable p] {x y : EM α} : (if p then x else y) s h = if p then x s h else y s h := by split <;> rfl
theorem ite_app2S {p : Prop} [Decidable p] {x y : SM} : (if p then x else y) s h = if p then x s h else y s h := by split <;> rfl
end
section
variable {s : Sl} {h : AH} {i j : Int} {x y : Str} {k l : Bool}
theorem add_ii : addA (.int i) (.int j) s h = .ok (.int (i + j)) h := id rfl
theorem sub_ii : subA (.int i) (.int j) s h = .ok (.int (i - j)) h := id rfl
theorem mul_ii : mulA (.int i) (.int j) s h = if CMulW i j then .ok (.int (i * j)) h else .bad := by
  show (if CMulW i j then ret (AV.int (i * j)) else bad) s h = _
  split <;> rfl
theorem fdiv_ii : fdivA (.int i) (.int j) s h = if CDivW i j then .ok (.int (i / j)) h else .bad := by
  show (if CDivW i j then ret (AV.int (i / j)) else bad) s h = _
  split <;> rfl
theorem mod_ii : modA (.int i) (.int j) s h = if 0 < j then .ok (.int (i % j)) h else .bad := by
  show (if 0 < j then ret (AV.int (i % j)) else bad) s h = _
  split <;> rfl
theorem pow_ii : powA (.int i) (.int j) s h = if CPow i j then .ok (.int (i ^ j.toNat)) h else .bad := by
  show (if CPow i j then ret (AV.int (i ^ j.toNat)) else bad) s h = _
  split <;> rfl
theorem shl_ii : shlA (.int i) (.int j) s h = if CPow i j then .ok (.int (i * 2 ^ j.toNat)) h else .bad := by
  show (if CPow i j then ret (AV.int (i * 2 ^ j.toNat)) else bad) s h = _
  split <;> rfl
theorem shr_ii : shrA (.int i) (.int j) s h = if 0 ≤ j then .ok (.int (i / 2 ^ j.toNat)) h else .bad := by
  show (if 0 ≤ j then ret (AV.int (i / 2 ^ j.toNat)) else bad) s h = _
  split <;> rfl
theorem band_ii : bandA (.int i) (.int j) s h = .ok (.int (Builtin.bitAnd i j)) h := id rfl
theorem bor_ii : borA (.int i) (.int j) s h = .ok (.int (Builtin.bitOr i j)) h := id rfl
theorem bxor_ii : bxorA (.int i) (.int j) s h = .ok (.int (Builtin.bitXor i j)) h := id rfl
theorem neg_i : negA (.int i) s h = .ok (.int (-i)) h := id rfl
theorem lt_ii : ltA (.int i) (.int j) s h = .ok (.bl (decide (i < j))) h := id rfl
theorem le_ii : leA (.int i) (.int j) s h = .ok (.bl (decide (i ≤ j))) h := id rfl
theorem gt_ii : gtA (.int i) (.int j) s h = .ok (.bl (decide (j < i))) h := id rfl
theorem ge_ii : geA (.int i) (.int j) s h = .ok (.bl (decide (j ≤ i))) h := id rfl
theorem eq_ii : eqA (.int i) (.int j) s h = .ok (.bl (decide (i = j))) h := id rfl
theorem eq_ss : eqA (.str x) (.str y) s h = .ok (.bl (decide (x = y))) h := id rfl
theorem eq_bb : eqA (.bl k) (.bl l) s h = .ok (.bl (decide (k = l))) h := id rfl
theorem ne_ii : neA (.int i) (.int j) s h = .ok (.bl (!decide (i = j))) h := id rfl
theorem ne_ss : neA (.str x) (.str y) s h = .ok (.bl (!decide (x = y))) h := id rfl
theorem ne_bb : neA (.bl k) (.bl l) s h = .ok (.bl (!decide (k = l))) h := id rfl
theorem isN_non : isN .non .non s h = .ok (.bl true) h := id rfl
theorem isN_int : isN (.int i) .non s h = .ok (.bl false) h := id rfl
theorem isN_tup {xs : List AV} : isN (.tup xs) .non s h = .ok (.bl false) h := id rfl
theorem isN_ref {n : Nat} : isN (.ref n) .non s h = .ok (.bl false) h := id rfl
theorem isN_str : isN (.str x) .non s h = .ok (.bl false) h := id rfl
theorem int_i : intA [.int i] s h = .ok (.int i) h := id rfl
theorem int_b : intA [.bl k] s h = .ok (.int (if k then 1 else 0)) h := id rfl
theorem abs_i : absA [.int i] s h = .ok (.int (if i < 0 then -i else i)) h := id rfl
theorem max_ii : maxA [.int i, .int j] s h = .ok (.int (if j > i then j else i)) h := id rfl
theorem min_ii : minA [.int i, .int j] s h = .ok (.int (if j < i then j else i)) h := id rfl
end
/-! texts -/
theorem ofString_inj {a b : String} : Str.ofString a = Str.ofString b ↔ a = b := by
  constructor
  · intro h
    have h1 : (cpsOfBytes 0 0 a.toByteArray.data.toList).toArray = (cpsOfBytes 0 0 b.toByteArray.data.toList).toArray := congrArg Str.cps h
    have h2 : cpsOfBytes 0 0 a.toByteArray.data.toList = cpsOfBytes 0 0 b.toByteArray.data.toList := by
      have := congrArg Array.toList h1
      simpa using this
    rw [cpsOfBytes_string, cpsOfBytes_string] at h2
    have h3 : a.toList = b.toList := by
      have inj : ∀ (l m : List Char), l.map Char.toNat = m.map Char.toNat → l = m := by
        intro l
        induction l with
        | nil => intro m h; cases m with
          | nil => rfl
          | cons _ _ => cases h
        | cons c l ih => intro m h; cases m with
          | nil => cases h
          | cons d m =>
            rw [List.map_cons, List.map_cons] at h
            injection h with h1 h2
            rw [ih m h2]
            have : c = d := Char.ext (UInt32.toNat_inj.mp h1)
            rw [this]
      exact inj _ _ h2
    have h4 := congrArg String.ofList h3
    simpa using h4
  · rintro rfl
    rfl
section
variable {α β : Type} {s : Sl} {h : AH} {a b : SM} {f : α → EM β} {g : α → SM}
theorem thn_bad : RS.bad.thn b = .bad := id rfl
theorem thS_bad : (RE.bad (α := α)).thS g s = .bad := id rfl
theorem thE_bad : (RE.bad (α := α)).thE f s = .bad := id rfl
theorem thIf_bad : (RE.bad (α := Bool)).thIf a b s = .bad := id rfl
theorem runR_bad : runR .bad = .bad := id rfl
end
/-! ### what is wanted of a result -/
def okE {α : Type} (r : RE α) (P : α → AH → Prop) : Prop := match r with
  | .ok a h => P a h
  | _ => False
structure Dst where
  nx : Sl → AH → Prop
  rt : AV → AH → Prop
  bk : Sl → AH → Prop := fun _ _ => False
  ct : Sl → AH → Prop := fun _ _ => False
  ex : Str → List (Str × AV) → Sl → AH → Prop := fun _ _ _ _ => False
def okS (r : RS) (D : Dst) : Prop := match r with
  | .nx s h => D.nx s h
  | .rt v h => D.rt v h
  | .bk s h => D.bk s h
  | .ct s h => D.ct s h
  | .exc c fs s h => D.ex c fs s h
  | .bad => False
section
variable {α β : Type} {s : Sl} {h : AH} {a b : SM} {m : EM α} {f : α → EM β} {g : α → SM} {P : β → AH → Prop} {D : Dst}
theorem okE_iff {r : RE α} {P : α → AH → Prop} : okE r P ↔ ∃ a h, r = .ok a h ∧ P a h := by
  cases r with
  | ok a h => exact ⟨fun p => ⟨a, h, rfl, p⟩, fun ⟨_, _, e, p⟩ => by cases e; exact p⟩
  | _ => exact ⟨fun p => p.elim, fun ⟨_, _, e, _⟩ => by cases e⟩
theorem okE.imp {r : RE α} {P P' : α → AH → Prop} (p : okE r P) (i : ∀ a h, P a h → P' a h) : okE r P' := by
  cases r with
  | ok a h => exact i a h p
  | _ => exact p
theorem okS.imp {r : RS} {D D' : Dst} (p : okS r D) (i1 : ∀ s h, D.nx s h → D'.nx s h) (i2 : ∀ v h, D.rt v h → D'.rt v h) (i3 : ∀ s h, D.bk s h → D'.bk s h) (i4 : ∀ s h, D.ct s h → D'.ct s h) (i5 : ∀ c fs s h, D.ex c fs s h → D'.ex c fs s h) : okS r D' := by
  cases r with
  | nx s h => exact i1 s h p
  | rt v h => exact i2 v h p
  | bk s h => exact i3 s h p
  | ct s h => exact i4 s h p
  | exc c fs s h => exact i5 c fs s h p
  | bad => exact p
theorem okE_thE {r : RE α} (p : okE r fun x h => okE (f x s h) P) : okE (r.thE f s) P := by
  cases r with
  | ok a h => exact p
  | _ => exact p.elim
theorem okS_thS {r : RE α} (p : okE r fun x h => okS (g x s h) D) : okS (r.thS g s) D := by
  cases r with
  | ok a h => exact p
  | _ => exact p.elim
theorem okS_thn {r : RS} (p : okS r { D with nx := fun s h => okS (b s h) D }) : okS (r.thn b) D := by
  cases r <;> exact p
theorem okS_thIf {r : RE Bool} (p : okE r fun k h => if k = true then okS (a s h) D else okS (b s h) D) : okS (r.thIf a b s) D := by
  cases r with
  | ok k h =>
    show okS (if k = true then a s h else b s h) D
    cases k <;> exact p
  | _ => exact p.elim
theorem okE_runR {r : RS} {P : AV → AH → Prop} (p : okS r { nx := fun _ h => P .non h, rt := P }) : okE (runR r) P := by
  cases r with
  | nx s h => exact p
  | rt v h => exact p
  | _ => exact p.elim
theorem okE_ok {x : α} {P : α → AH → Prop} (p : P x h) : okE (.ok x h) P := p
/-! ### loops -/
/-- a for over fixed items: J by the turn, the slots, the heap -/
theorem okS_forV {xs : List AV} {g : AV → SM} {b : SM} (J : Nat → Sl → AH → Prop) (turn : ∀ i x s h, xs[i]? = some x → J i s h → okS (g x s h) { nx := fun s h => okS (b s h) { nx := J (i + 1), ct := J (i + 1), bk := D.nx, rt := D.rt, ex := D.ex }, rt := fun _ _ => False, ex := D.ex })
    (done : ∀ s h, J xs.length s h → D.nx s h) : ∀ (f i : Nat) (s : Sl) (h : AH), J i s h → i ≤ xs.length → xs.length - i < f → okS (forN (.vals xs) g b f i s h) D
  | 0, i, s, h, _, _, hf => by omega
  | f + 1, i, s, h, j, hi, hf => by
    unfold forN nextA
    dsimp only
    by_cases hl : i < xs.length
    · rw [List.getElem?_eq_getElem hl]
      dsimp only
      have t := turn i xs[i] s h (List.getElem?_eq_getElem hl) j
      cases eg : g xs[i] s h with
      | nx s1 h1 =>
        rw [eg] at t
        have t : okS (b s1 h1) { nx := J (i + 1), ct := J (i + 1), bk := D.nx, rt := D.rt, ex := D.ex } := t
        dsimp only
        cases eb : b s1 h1 with
        | nx s2 h2 => rw [eb] at t; exact okS_forV J turn done f (i + 1) s2 h2 t (by omega) (by omega)
        | ct s2 h2 => rw [eb] at t; exact okS_forV J turn done f (i + 1) s2 h2 t (by omega) (by omega)
        | bk s2 h2 => rw [eb] at t; exact t
        | rt v h2 => rw [eb] at t; exact t
        | exc c fs s2 h2 => rw [eb] at t; exact t
        | bad => rw [eb] at t; exact t.elim
      | exc c fs s1 h1 => rw [eg] at t; exact t
      | rt _ _ => rw [eg] at t; exact t.elim
      | bk _ _ => rw [eg] at t; exact t.elim
      | ct _ _ => rw [eg] at t; exact t.elim
      | bad => rw [eg] at t; exact t.elim
    · rw [List.getElem?_eq_none (by omega)]
      have e : i = xs.length := by omega
      subst e
      exact done s h j
/-- a for over a list object that stays as it is -/
theorem okS_forL {xs : List AV} {r : Nat} {g : AV → SM} {b : SM} (J : Nat → Sl → AH → Prop) (hl : ∀ i s h, J i s h → lstOf h r = some xs) (turn : ∀ i x s h, xs[i]? = some x → J i s h → okS (g x s h) { nx := fun s h => okS (b s h) { nx := J (i + 1), ct := J (i + 1), bk := D.nx, rt := D.rt, ex := D.ex }, rt := fun _ _ => False, ex := D.ex })
    (done : ∀ s h, J xs.length s h → D.nx s h) : ∀ (f i : Nat) (s : Sl) (h : AH), J i s h → i ≤ xs.length → xs.length - i < f → okS (forN (.live r) g b f i s h) D
  | 0, i, s, h, _, _, hf => by omega
  | f + 1, i, s, h, j, hi, hf => by
    unfold forN nextA
    dsimp only
    rw [hl i s h j]
    dsimp only
    by_cases hlt : i < xs.length
    · rw [List.getElem?_eq_getElem hlt]
      dsimp only
      have t := turn i xs[i] s h (List.getElem?_eq_getElem hlt) j
      cases eg : g xs[i] s h with
      | nx s1 h1 =>
        rw [eg] at t
        have t : okS (b s1 h1) { nx := J (i + 1), ct := J (i + 1), bk := D.nx, rt := D.rt, ex := D.ex } := t
        dsimp only
        cases eb : b s1 h1 with
        | nx s2 h2 => rw [eb] at t; exact okS_forL J hl turn done f (i + 1) s2 h2 t (by omega) (by omega)
        | ct s2 h2 => rw [eb] at t; exact okS_forL J hl turn done f (i + 1) s2 h2 t (by omega) (by omega)
        | bk s2 h2 => rw [eb] at t; exact t
        | rt v h2 => rw [eb] at t; exact t
        | exc c fs s2 h2 => rw [eb] at t; exact t
        | bad => rw [eb] at t; exact t.elim
      | exc c fs s1 h1 => rw [eg] at t; exact t
      | rt _ _ => rw [eg] at t; exact t.elim
      | bk _ _ => rw [eg] at t; exact t.elim
      | ct _ _ => rw [eg] at t; exact t.elim
      | bad => rw [eg] at t; exact t.elim
    · rw [List.getElem?_eq_none (by omega)]
      have e : i = xs.length := by omega
      subst e
      exact done s h j
/-- a comprehension over fixed items: J by the turn, what is made so far, the heap (the new list at D within it) -/
theorem okE_compV {xs : List AV} {p : Pat} {c : EM Bool} {e : EM AV} {r : Nat} {s0 : Sl} {Q : AV → AH → Prop} (J : Nat → List AV → AH → Prop)
    (turn : ∀ i x acc h, xs[i]? = some x → J i acc h → h[r]? = some (.lst acc) → ∃ s1, bindP p x s0 = some s1 ∧ okE (c s1 h) fun k h2 => if k = true then okE (e s1 h2) fun y h3 => h3[r]? = some (.lst acc) ∧ acc.length < sizeLine ∧ J (i + 1) (acc ++ [y]) (h3.set r (.lst (acc ++ [y]))) else h2[r]? = some (.lst acc) ∧ J (i + 1) acc h2)
    (done : ∀ acc h, J xs.length acc h → h[r]? = some (.lst acc) → Q (.ref r) h) : ∀ (f i : Nat) (acc : List AV) (h : AH), J i acc h → h[r]? = some (.lst acc) → i ≤ xs.length → xs.length - i < f → okE (compN (.vals xs) p c e r s0 f i h) Q
  | 0, i, acc, h, _, _, _, hf => by omega
  | f + 1, i, acc, h, j, hD, hi, hf => by
    unfold compN nextA
    dsimp only
    by_cases hlt : i < xs.length
    · rw [List.getElem?_eq_getElem hlt]
      dsimp only
      obtain ⟨s1, eb, t⟩ := turn i xs[i] acc h (List.getElem?_eq_getElem hlt) j hD
      rw [eb]
      dsimp only
      cases ec : c s1 h with
      | ok k h2 =>
        rw [ec] at t
        cases k with
        | false =>
          have t : h2[r]? = some (.lst acc) ∧ J (i + 1) acc h2 := t
          exact okE_compV J turn done f (i + 1) acc h2 t.2 t.1 (by omega) (by omega)
        | true =>
          have t : okE (e s1 h2) fun y h3 => h3[r]? = some (.lst acc) ∧ acc.length < sizeLine ∧ J (i + 1) (acc ++ [y]) (h3.set r (.lst (acc ++ [y]))) := t
          dsimp only
          cases ee : e s1 h2 with
          | ok y h3 =>
            rw [ee] at t
            obtain ⟨t1, t2, t3⟩ := t
            dsimp only
            rw [t1]
            dsimp only
            rw [if_pos t2]
            refine okE_compV J turn done f (i + 1) (acc ++ [y]) _ t3 ?_ (by omega) (by omega)
            rw [List.getElem?_set_self (List.getElem?_eq_some_iff.mp t1).1]
          | exc _ _ _ => rw [ee] at t; exact t.elim
          | bad => rw [ee] at t; exact t.elim
      | exc _ _ _ => rw [ec] at t; exact t.elim
      | bad => rw [ec] at t; exact t.elim
    · rw [List.getElem?_eq_none (by omega)]
      have e : i = xs.length := by omega
      subst e
      exact done acc h j hD
theorem okE_compL {xs : List AV} {q : Nat} {p : Pat} {c : EM Bool} {e : EM AV} {r : Nat} {s0 : Sl} {Q : AV → AH → Prop} (J : Nat → List AV → AH → Prop) (hl : ∀ i acc h, J i acc h → lstOf h q = some xs)
    (turn : ∀ i x acc h, xs[i]? = some x → J i acc h → h[r]? = some (.lst acc) → ∃ s1, bindP p x s0 = some s1 ∧ okE (c s1 h) fun k h2 => if k = true then okE (e s1 h2) fun y h3 => h3[r]? = some (.lst acc) ∧ acc.length < sizeLine ∧ J (i + 1) (acc ++ [y]) (h3.set r (.lst (acc ++ [y]))) else h2[r]? = some (.lst acc) ∧ J (i + 1) acc h2)
    (done : ∀ acc h, J xs.length acc h → h[r]? = some (.lst acc) → Q (.ref r) h) : ∀ (f i : Nat) (acc : List AV) (h : AH), J i acc h → h[r]? = some (.lst acc) → i ≤ xs.length → xs.length - i < f → okE (compN (.live q) p c e r s0 f i h) Q
  | 0, i, acc, h, _, _, _, hf => by omega
  | f + 1, i, acc, h, j, hD, hi, hf => by
    unfold compN nextA
    dsimp only
    rw [hl i acc h j]
    dsimp only
    by_cases hlt : i < xs.length
    · rw [List.getElem?_eq_getElem hlt]
      dsimp only
      obtain ⟨s1, eb, t⟩ := turn i xs[i] acc h (List.getElem?_eq_getElem hlt) j hD
      rw [eb]
      dsimp only
      cases ec : c s1 h with
      | ok k h2 =>
        rw [ec] at t
        cases k with
        | false =>
          have t : h2[r]? = some (.lst acc) ∧ J (i + 1) acc h2 := t
          exact okE_compL J hl turn done f (i + 1) acc h2 t.2 t.1 (by omega) (by omega)
        | true =>
          have t : okE (e s1 h2) fun y h3 => h3[r]? = some (.lst acc) ∧ acc.length < sizeLine ∧ J (i + 1) (acc ++ [y]) (h3.set r (.lst (acc ++ [y]))) := t
          dsimp only
          cases ee : e s1 h2 with
          | ok y h3 =>
            rw [ee] at t
            obtain ⟨t1, t2, t3⟩ := t
            dsimp only
            rw [t1]
            dsimp only
            rw [if_pos t2]
            refine okE_compL J hl turn done f (i + 1) (acc ++ [y]) _ t3 ?_ (by omega) (by omega)
            rw [List.getElem?_set_self (List.getElem?_eq_some_iff.mp t1).1]
          | exc _ _ _ => rw [ee] at t; exact t.elim
          | bad => rw [ee] at t; exact t.elim
      | exc _ _ _ => rw [ec] at t; exact t.elim
      | bad => rw [ec] at t; exact t.elim
    · rw [List.getElem?_eq_none (by omega)]
      have e : i = xs.length := by omega
      subst e
      exact done acc h j hD
/-- a while: J by a measure that falls -/
theorem okS_while {c : EM Bool} {b : SM} (J : Nat → Sl → AH → Prop) (turn : ∀ m s h, J m s h → okE (c s h) fun k h1 => if k = true then okS (b s h1) { nx := fun s h => ∃ m', m' < m ∧ J m' s h, ct := fun s h => ∃ m', m' < m ∧ J m' s h, bk := D.nx, rt := D.rt, ex := D.ex } else D.nx s h1) :
    ∀ (f m : Nat) (s : Sl) (h : AH), J m s h → m < f → okS (whileN c b f s h) D
  | 0, m, s, h, _, hf => by omega
  | f + 1, m, s, h, j, hf => by
    unfold whileN bdS
    have t := turn m s h j
    cases ec : c s h with
    | ok k h1 =>
      rw [ec] at t
      dsimp only
      cases k with
      | false => exact t
      | true =>
        have t : okS (b s h1) { nx := fun s h => ∃ m', m' < m ∧ J m' s h, ct := fun s h => ∃ m', m' < m ∧ J m' s h, bk := D.nx, rt := D.rt, ex := D.ex } := t
        rw [if_pos rfl]
        cases eb : b s h1 with
        | nx s2 h2 => rw [eb] at t; obtain ⟨m', h1, h2⟩ := t; exact okS_while J turn f m' _ _ h2 (by omega)
        | ct s2 h2 => rw [eb] at t; obtain ⟨m', h1, h2⟩ := t; exact okS_while J turn f m' _ _ h2 (by omega)
        | bk s2 h2 => rw [eb] at t; exact t
        | rt v h2 => rw [eb] at t; exact t
        | exc c fs s2 h2 => rw [eb] at t; exact t
        | bad => rw [eb] at t; exact t.elim
    | exc _ _ _ => rw [ec] at t; exact t.elim
    | bad => rw [ec] at t; exact t.elim
end
end Ev
namespace Ev
open PySem PySem.Spec PyProof.Rows L2
/-! ### reckoning on the heap -/
def atO (o : Option AV) (h : AH) : RE AV := match o with
  | some v => .ok v h
  | none => .bad
def idxO (o : Option AO) (y : AV) (p : Nat) (h : AH) : RE AV := match o with
  | some (.lst xs) => (match y with | .int i => atO (atI xs i) h | _ => .bad)
  | some (.fro xs) => (match y with | .int i => atO (atI xs i) h | _ => .bad)
  | some (.dct kvs) => if (isKd kvs && (keyV y).isSome) = true then atO (dLook kvs y) h else .bad
  | _ => .bad
def stIxO (o : Option AO) (p : Nat) (i v : AV) (s : Sl) (h : AH) : RS := match o with
  | some (.lst xs) => (match i with
    | .int k => (match ixN xs.length k with
      | some j => .nx s (h.set p (.lst (xs.set j v)))
      | none => .bad)
    | _ => .bad)
  | some (.dct kvs) => if (isKd kvs && (keyV i).isSome && decide (kvs.length < sizeLine)) = true then .nx s (h.set p (.dct (dPut kvs i v))) else .bad
  | _ => .bad
def lenO (o : Option AO) (h : AH) : RE AV := match o with
  | some (.lst xs) => .ok (.int xs.length) h
  | some (.fro xs) => .ok (.int xs.length) h
  | _ => .bad
def listO (o : Option AO) (h : AH) : RE AV := match o with
  | some (.lst xs) => .ok (.ref h.length) (h ++ [.lst xs])
  | some (.fro xs) => .ok (.ref h.length) (h ++ [.lst xs])
  | _ => .bad
section
variable {α β : Type} {s : Sl} {h : AH} {p : Nat} {i : Int} {y v x : AV} {xs : List AV} {m m1 : EM Bool} {ms : List (EM Bool)} {n n1 : EM AV} {ns : List (EM AV)} {g : AV → SM} {k : Bool}
theorem atO_some : atO (some v) h = .ok v h := id rfl
theorem idx_r : idxA (.ref p) y s h = idxO h[p]? y p h := by
  have e : ∃ o, h[p]? = o := ⟨_, rfl⟩
  obtain ⟨o, e⟩ := e
  unfold idxA rd idxB idxO lstOf atO
  dsimp only
  rw [e]
  cases o with
  | none => cases y <;> rfl
  | some o =>
    cases o with
    | lst xs =>
      cases y <;> dsimp only
      rename_i i
      cases atI xs i <;> rfl
    | fro xs =>
      cases y <;> dsimp only
      rename_i i
      cases atI xs i <;> rfl
    | dct kvs =>
      dsimp only
      unfold dGetK
      rw [e]
      cases ky : keyV y with
      | none =>
        dsimp only
        rw [Bool.and_comm]
        rfl
      | some z =>
        dsimp only
        rw [Option.isSome_some, Bool.and_true]
        by_cases kd : isKd kvs = true
        · rw [if_pos kd, if_pos kd]
          cases dLook kvs y <;> rfl
        · rw [if_neg kd, if_neg kd]
    | ins c fs => cases y <;> rfl
theorem idx_t : idxA (.tup xs) (.int i) s h = atO (atI xs i) h := by
  unfold idxA rd idxB atO
  dsimp only
  cases atI xs i <;> rfl
theorem idxO_lst : idxO (some (.lst xs)) (.int i) p h = atO (atI xs i) h := id rfl
theorem idxO_dct {kvs : List (AV × AV)} : idxO (some (.dct kvs)) y p h = if (isKd kvs && (keyV y).isSome) = true then atO (dLook kvs y) h else .bad := id rfl
theorem stIxO_dct {kvs : List (AV × AV)} : stIxO (some (.dct kvs)) p y v s h = if (isKd kvs && (keyV y).isSome && decide (kvs.length < sizeLine)) = true then .nx s (h.set p (.dct (dPut kvs y v))) else .bad := id rfl
theorem keyV_str {x : Str} : keyV (.str x) = some (.inr x) := id rfl
theorem keyV_int {x : Int} : keyV (.int x) = some (.inl x) := id rfl
theorem isKd_nil : isKd [] = true := id rfl
theorem isKd_cons {kv : AV × AV} {kvs : List (AV × AV)} : isKd (kv :: kvs) = (keyV kv.1).isSome := id rfl
theorem dLook_nil : dLook [] y = none := id rfl
theorem dLook_cons {k : AV} {kvs : List (AV × AV)} : dLook ((k, v) :: kvs) y = if keyV k = keyV y then some v else dLook kvs y := id rfl
theorem idxO_fro : idxO (some (.fro xs)) (.int i) p h = atO (atI xs i) h := id rfl
theorem stIx_r : stIxM (.ref p) y v s h = stIxO h[p]? p y v s h := by
  have e : ∃ o, h[p]? = o := ⟨_, rfl⟩
  obtain ⟨o, e⟩ := e
  unfold stIxM stIxO setIx
  dsimp only
  rw [e]
  cases o with
  | none => rfl
  | some o =>
    cases o with
    | lst xs =>
      dsimp only
      cases y <;> dsimp only
      rename_i k
      cases ixN xs.length k <;> rfl
    | dct kvs =>
      dsimp only
      by_cases c : (isKd kvs && (keyV y).isSome && decide (kvs.length < sizeLine)) = true
      · rw [if_pos c, if_pos c]
      · rw [if_neg c, if_neg c]
    | _ => rfl
theorem stIxO_lst {k : Int} {j : Nat} (e : ixN xs.length k = some j) : stIxO (some (.lst xs)) p (.int k) v s h = .nx s (h.set p (.lst (xs.set j v))) := by
  unfold stIxO
  dsimp only
  rw [e]
theorem len_r : lenA [.ref p] s h = lenO h[p]? h := by
  unfold lenA rd lenB seqOf lstOf lenO
  dsimp only
  cases e : h[p]? with
  | none => rfl
  | some o => cases o <;> rfl
theorem lenO_lst : lenO (some (.lst xs)) h = .ok (.int xs.length) h := id rfl
theorem lenO_fro : lenO (some (.fro xs)) h = .ok (.int xs.length) h := id rfl
theorem list_r : listA [.ref p] s h = listO h[p]? h := by
  unfold listA seqOf lstOf listO
  dsimp only
  cases e : h[p]? with
  | none => rfl
  | some o => cases o <;> rfl
theorem listO_lst : listO (some (.lst xs)) h = .ok (.ref h.length) (h ++ [.lst xs]) := id rfl
theorem listO_fro : listO (some (.fro xs)) h = .ok (.ref h.length) (h ++ [.lst xs]) := id rfl
theorem andT_one : andT [m] s h = m s h := id rfl
theorem andT_two : andT (m :: m1 :: ms) s h = (m s h).thE (fun k => if k = true then andT (m1 :: ms) else ret false) s := bd_eq
theorem orT_one : orT [m] s h = m s h := id rfl
theorem orT_two : orT (m :: m1 :: ms) s h = (m s h).thE (fun k => if k = true then ret true else orT (m1 :: ms)) s := bd_eq
theorem andV_one : andV [n] s h = n s h := id rfl
theorem andV_two : andV (n :: n1 :: ns) s h = (n s h).thE (fun x => bd (truA x) fun k => if k = true then andV (n1 :: ns) else ret x) s := bd_eq
theorem orV_one : orV [n] s h = n s h := id rfl
theorem orV_two : orV (n :: n1 :: ns) s h = (n s h).thE (fun x => bd (truA x) fun k => if k = true then ret x else orV (n1 :: ns)) s := bd_eq
theorem asg_eq : asgS n g s h = (n s h).thS (fun v => onlyNx g v) s := bdS_eq
theorem subG_eq : subG n n1 v s h = (n s h).thS (fun o => bdS n1 fun i => stIxM o i v) s := bdS_eq
def RS.nxo : RS → RS
  | .nx s h => .nx s h
  | .exc c fs s h => .exc c fs s h
  | _ => .bad
theorem onlyNx_eq : onlyNx g v s h = (g v s h).nxo := by
  unfold onlyNx RS.nxo
  cases g v s h <;> rfl
theorem nxo_nx : (RS.nx s h).nxo = .nx s h := id rfl
theorem lst_eq : lstM ns s h = (evsM ns s h).thE (fun xs => if xs.length ≤ sizeLine then alloc (.lst xs) else bad) s := bd_eq
theorem tup_eq : tupM ns s h = (evsM ns s h).thE (fun xs => if xs.length ≤ sizeLine then ret (.tup xs) else bad) s := bd_eq
theorem bind_nm {i : Nat} {s : Sl} : bindP (.nm i) v s = some (s.set i (some v)) := by rw [bindP]
theorem pat_nm {i : Nat} : patS (.nm i) v s h = .nx (s.set i (some v)) h := by
  unfold patS
  rw [bind_nm]
theorem forS_eq {m : EM IT} {b : SM} : forS m g b s h = (m s h).thS (fun it => forN it g b turnsMax 0) s := bdS_eq
theorem itOf_lst (e : h[p]? = some (.lst xs)) : itOf (.ref p) s h = .ok (.live p) h := by
  unfold itOf lstOf
  dsimp only
  rw [e]
theorem itOf_fro (e : h[p]? = some (.fro xs)) : itOf (.ref p) s h = .ok (.live p) h := by
  unfold itOf lstOf
  dsimp only
  rw [e]
theorem itOf_tup : itOf (.tup xs) s h = .ok (.vals xs) h := id rfl
theorem lstOf_lst (e : h[p]? = some (.lst xs)) : lstOf h p = some xs := by
  unfold lstOf
  rw [e]
theorem lstOf_fro (e : h[p]? = some (.fro xs)) : lstOf h p = some xs := by
  unfold lstOf
  rw [e]
theorem lstOf_congr {h' : AH} (e : h'[p]? = h[p]?) : lstOf h' p = lstOf h p := by
  unfold lstOf
  rw [e]
theorem get_set_eq {o : AO} : (h.set p o)[p]? = h[p]?.map fun _ => o := by
  by_cases l : p < h.length
  · rw [List.getElem?_set_self l, List.getElem?_eq_getElem l]
    rfl
  · rw [List.getElem?_eq_none (by simpa using l), List.getElem?_eq_none (by simpa using l)]
    rfl
theorem get_set_ne {o : AO} {q : Nat} (e : q ≠ p) : (h.set p o)[q]? = h[q]? := List.getElem?_set_ne (Ne.symm e)
theorem rng1 {j : Int} (h1 : 0 ≤ j) (h2 : j < 2 ^ 62) : rangeI1 (.int j) s h = .ok (.vals ((List.range j.toNat).map fun (k : Nat) => AV.int (0 + (k : Int)))) h := by
  unfold rangeI1
  have : -(2 ^ 62) ≤ j ∧ j < 2 ^ 62 := ⟨by omega, h2⟩
  dsimp only
  rw [if_pos this]
  rfl
theorem log2_lt' {n : Nat} {k : Nat} (h : n < 2 ^ (k + 1)) (hk : 0 < k := by decide) : n.log2 < k + 1 := by
  by_cases z : n = 0
  · subst z
    simp
  · exact (Nat.log2_lt z).mpr h
theorem log2_le_of {n k : Nat} (h : n < 2 ^ k) (hk : 0 < k) : n.log2 < k := by
  by_cases z : n = 0
  · subst z
    simpa using hk
  · exact (Nat.log2_lt z).mpr h
end
section
variable {α β : Type} {s : Sl} {h : AH} {D : Dst} {P : α → AH → Prop} {x : α} {v : AV} {c : Str} {fs : List (Str × AV)} {k : Prop} [Decidable k] {r1 r2 : RS} {e1 e2 : RE α}
theorem okS_nx : okS (.nx s h) D = D.nx s h := id rfl
theorem okS_rt : okS (.rt v h) D = D.rt v h := id rfl
theorem okS_bk : okS (.bk s h) D = D.bk s h := id rfl
theorem okS_ct : okS (.ct s h) D = D.ct s h := id rfl
theorem okS_exc : okS (.exc c fs s h) D = D.ex c fs s h := id rfl
theorem okE_oke : okE (.ok x h) P = P x h := id rfl
end
/-! ### the laws' stream and its draws -/
def s_law_stream (cf : CF) : SM := (seqS (bdS (ret (.int (17))) (setS 1))
  (seqS (forS (bd (slotM 0) itOf) (patS (.nm 2)) (seqS (bdS (bd (bd (evsM [(bd (bd (bd (slotM 1) fun x7 => bd (ret (.int (48271))) fun y8 => mulA x7 y8) fun x5 => bd (bd (bd (evsM [(slotM 2)]) intA) fun x9 => bd (ret (.int (65521))) fun y10 => modA x9 y10) fun y6 => addA x5 y6) fun x3 => bd (ret (.int (1))) fun y4 => addA x3 y4)]) intA) fun x1 => bd (ret (.int (2147483647))) fun y2 => modA x1 y2) (setS 1))
    skipS))
  (seqS (bdS (lstM [(bd (evsM [(slotM 0)]) listA), (ret (.int (0))), (ret (.int (0))), (slotM 1)]) retS)
  skipS)))
def s_law_draw (cf : CF) : SM := (seqS (ifS (andT [(bd (bd (bd (slotM 0) fun x29 => bd (ret (.int (1))) fun y30 => idxA x29 y30) fun x27 => bd (ret (.int (0))) fun y28 => eqA x27 y28) asBool), (bd (bd (bd (slotM 0) fun x33 => bd (ret (.int (2))) fun y34 => idxA x33 y34) fun x31 => bd (bd (evsM [(bd (slotM 0) fun x35 => bd (ret (.int (0))) fun y36 => idxA x35 y36)]) lenA) fun y32 => ltA x31 y32) asBool)]) (seqS (asgS (bd (evsM [(bd (evsM [(bd (bd (slotM 0) fun x43 => bd (ret (.int (0))) fun y44 => idxA x43 y44) fun x41 => bd (bd (slotM 0) fun x45 => bd (ret (.int (2))) fun y46 => idxA x45 y46) fun y42 => idxA x41 y42)]) intA)]) absA) (subG (slotM 0) (ret (.int (1)))))
    (seqS (asgS (bd (bd (slotM 0) fun x39 => bd (ret (.int (2))) fun y40 => idxA x39 y40) fun x37 => bd (ret (.int (1))) fun y38 => addA x37 y38) (subG (slotM 0) (ret (.int (2)))))
    skipS)) skipS)
  (seqS (ifS (bd (bd (bd (slotM 0) fun x11 => bd (ret (.int (1))) fun y12 => idxA x11 y12) fun x9 => bd (ret (.int (0))) fun y10 => eqA x9 y10) asBool) (seqS (asgS (bd (bd (evsM [(bd (bd (bd (slotM 0) fun x25 => bd (ret (.int (3))) fun y26 => idxA x25 y26) fun x23 => bd (ret (.int (48271))) fun y24 => mulA x23 y24) fun x21 => bd (ret (.int (11))) fun y22 => addA x21 y22)]) intA) fun x19 => bd (ret (.int (2147483647))) fun y20 => modA x19 y20) (subG (slotM 0) (ret (.int (3)))))
    (seqS (bdS (bd (bd (evsM [(bd (bd (slotM 0) fun x17 => bd (ret (.int (3))) fun y18 => idxA x17 y18) fun x15 => bd (ret (.int (97))) fun y16 => fdivA x15 y16)]) intA) fun x13 => bd (slotM 1) fun y14 => modA x13 y14) retS)
    skipS)) skipS)
  (seqS (bdS (bd (bd (evsM [(bd (slotM 0) fun x7 => bd (ret (.int (1))) fun y8 => idxA x7 y8)]) intA) fun x5 => bd (slotM 1) fun y6 => modA x5 y6) (setS 2))
  (seqS (asgS (bd (bd (slotM 0) fun x3 => bd (ret (.int (1))) fun y4 => idxA x3 y4) fun x1 => bd (slotM 1) fun y2 => fdivA x1 y2) (subG (slotM 0) (ret (.int (1)))))
  (seqS (bdS (slotM 2) retS)
  skipS)))))
def s_draw1 (cf : CF) : SM := (ifS (andT [(bd (bd (bd (slotM 0) fun x29 => bd (ret (.int (1))) fun y30 => idxA x29 y30) fun x27 => bd (ret (.int (0))) fun y28 => eqA x27 y28) asBool), (bd (bd (bd (slotM 0) fun x33 => bd (ret (.int (2))) fun y34 => idxA x33 y34) fun x31 => bd (bd (evsM [(bd (slotM 0) fun x35 => bd (ret (.int (0))) fun y36 => idxA x35 y36)]) lenA) fun y32 => ltA x31 y32) asBool)]) (seqS (asgS (bd (evsM [(bd (evsM [(bd (bd (slotM 0) fun x43 => bd (ret (.int (0))) fun y44 => idxA x43 y44) fun x41 => bd (bd (slotM 0) fun x45 => bd (ret (.int (2))) fun y46 => idxA x45 y46) fun y42 => idxA x41 y42)]) intA)]) absA) (subG (slotM 0) (ret (.int (1)))))
    (seqS (asgS (bd (bd (slotM 0) fun x39 => bd (ret (.int (2))) fun y40 => idxA x39 y40) fun x37 => bd (ret (.int (1))) fun y38 => addA x37 y38) (subG (slotM 0) (ret (.int (2)))))
    skipS)) skipS)
def s_draw2 (cf : CF) : SM :=
  (seqS (ifS (bd (bd (bd (slotM 0) fun x11 => bd (ret (.int (1))) fun y12 => idxA x11 y12) fun x9 => bd (ret (.int (0))) fun y10 => eqA x9 y10) asBool) (seqS (asgS (bd (bd (evsM [(bd (bd (bd (slotM 0) fun x25 => bd (ret (.int (3))) fun y26 => idxA x25 y26) fun x23 => bd (ret (.int (48271))) fun y24 => mulA x23 y24) fun x21 => bd (ret (.int (11))) fun y22 => addA x21 y22)]) intA) fun x19 => bd (ret (.int (2147483647))) fun y20 => modA x19 y20) (subG (slotM 0) (ret (.int (3)))))
    (seqS (bdS (bd (bd (evsM [(bd (bd (slotM 0) fun x17 => bd (ret (.int (3))) fun y18 => idxA x17 y18) fun x15 => bd (ret (.int (97))) fun y16 => fdivA x15 y16)]) intA) fun x13 => bd (slotM 1) fun y14 => modA x13 y14) retS)
    skipS)) skipS)
  (seqS (bdS (bd (bd (evsM [(bd (slotM 0) fun x7 => bd (ret (.int (1))) fun y8 => idxA x7 y8)]) intA) fun x5 => bd (slotM 1) fun y6 => modA x5 y6) (setS 2))
  (seqS (asgS (bd (bd (slotM 0) fun x3 => bd (ret (.int (1))) fun y4 => idxA x3 y4) fun x1 => bd (slotM 1) fun y2 => fdivA x1 y2) (subG (slotM 0) (ret (.int (1)))))
  (seqS (bdS (slotM 2) retS)
  skipS))))
theorem s_draw_eq {cf : CF} : s_law_draw cf = seqS (s_draw1 cf) (s_draw2 cf) := id rfl
/-- the stream at r: script at q, and the three numbers -/
def StAt (r q : Nat) (ns : List Int) (h : AH) : Prop := r ≠ q ∧ h[q]? = some (.lst (ns.map AV.int)) ∧ ∃ a b m : Int, h[r]? = some (.lst [.ref q, .int a, .int b, .int m]) ∧ 0 ≤ a ∧ 0 ≤ b ∧ 0 ≤ m ∧ m < 2147483647
/-- all but one place stays -/
def Same (r : Nat) (h h' : AH) : Prop := h'.length = h.length ∧ ∀ i, i ≠ r → h'[i]? = h[i]?
theorem Same.refl {r : Nat} {h : AH} : Same r h h := ⟨rfl, fun _ _ => rfl⟩
theorem Same.trans {r : Nat} {h h1 h2 : AH} (a : Same r h h1) (b : Same r h1 h2) : Same r h h2 := ⟨b.1.trans a.1, fun i e => (b.2 i e).trans (a.2 i e)⟩
theorem Same.set {r : Nat} {h : AH} {o : AO} : Same r h (h.set r o) := ⟨by simp, fun i e => get_set_ne e⟩
theorem CMulW_small {i j : Int} (h1 : i.natAbs < 2 ^ 64) (h2 : j.natAbs < 2 ^ 64) : CMulW i j := by
  unfold CMulW
  have a := log2_le_of h1 (by decide)
  have b := log2_le_of h2 (by decide)
  omega
theorem CDivW_small {i j : Int} (h1 : 0 < j) (h2 : j.natAbs < 2 ^ 64) : CDivW i j := by
  unfold CDivW
  have b := log2_le_of h2 (by decide)
  omega
theorem draw_pre {cf : CF} {r q : Nat} {ns : List Int} {h : AH} {many : Int} (S : StAt r q ns h) (h0 : 0 < many) (h1 : many.natAbs < 2 ^ 64) :
    ∃ v h', runR (s_law_draw cf [some (.ref r), some (.int many), none] h) = .ok (.int v) h' ∧ StAt r q ns h' ∧ Same r h h' ∧ 0 ≤ v ∧ v < many := by
  obtain ⟨hrq, hq, a, b, m, hr, ha, hb, hm, hm2⟩ := S
  have hd : ∀ i, CDivW i many := fun i => CDivW_small h0 h1
  have i0 : ∀ {x y z w : AV}, atI [x, y, z, w] 0 = some x := rfl
  have i1 : ∀ {x y z w : AV}, atI [x, y, z, w] 1 = some y := rfl
  have i2 : ∀ {x y z w : AV}, atI [x, y, z, w] 2 = some z := rfl
  have i3 : ∀ {x y z w : AV}, atI [x, y, z, w] 3 = some w := rfl
  have x1 : ∀ {x y z w : AV}, ixN [x, y, z, w].length 1 = some 1 := rfl
  have x2 : ∀ {x y z w : AV}, ixN [x, y, z, w].length 2 = some 2 := rfl
  have x3 : ∀ {x y z w : AV}, ixN [x, y, z, w].length 3 = some 3 := rfl
  have c97 : ∀ i, CDivW i 97 := fun i => CDivW_small (by decide) (by decide)
  have m48 : ∀ i : Int, 0 ≤ i → i < 2147483647 → CMulW i 48271 := fun i e1 e2 => CMulW_small (by omega) (by decide)
  have last : ∀ (a b m : Int) (h : AH), h[r]? = some (.lst [.ref q, .int a, .int b, .int m]) → h[q]? = some (.lst (ns.map AV.int)) → 0 ≤ a → 0 ≤ b → 0 ≤ m → m < 2147483647 →
    ∃ v h', runR (s_draw2 cf [some (.ref r), some (.int many), none] h) = .ok (.int v) h' ∧ StAt r q ns h' ∧ Same r h h' ∧ 0 ≤ v ∧ v < many := by
    intro a b m h hr hq ha hb hm hm2
    have v1 := Int.emod_nonneg (m * 48271 + 11) (b := 2147483647) (by decide)
    have v2 := Int.emod_lt_of_pos (m * 48271 + 11) (b := 2147483647) (by decide)
    by_cases ea : a = 0
    · subst ea
      unfold s_draw2
      simp only [seqS_eq, bdS_eq, bd_eq, ifS_eq, thn_nx, thn_rt, thn_bk, thn_ct, thn_exc, thn_bad, thS_ok, thS_exc, thS_bad, thE_ok, thE_exc, thE_bad, thIf_ok, thIf_exc, thIf_bad, ret_eq, setS_eq, retS_eq, skipS_eq, alloc_eq, callM_eq, evs_nil, evs_cons, asBool_bl, tru_bl, tru_int, tru_non, tru_tup, runR_nx, runR_rt, runR_exc, runR_bad, runR_ite, thn_ite, thS_ite, thE_ite, ite_app2, ite_app2S, add_ii, sub_ii, mul_ii, fdiv_ii, mod_ii, pow_ii, shl_ii, shr_ii, band_ii, bor_ii, bxor_ii, neg_i, lt_ii, le_ii, gt_ii, ge_ii, eq_ii, eq_ss, eq_bb, ne_ii, ne_ss, ne_bb, isN_non, isN_int, isN_tup, isN_ref, isN_str, int_i, int_b, abs_i, max_ii, min_ii, slotM, idx_r, idx_t, idxO_lst, idxO_fro, atO_some, stIx_r, len_r, lenO_lst, lenO_fro, list_r, listO_lst, listO_fro, andT_one, andT_two, orT_one, orT_two, andV_one, andV_two, orV_one, orV_two, asg_eq, subG_eq, onlyNx_eq, nxo_nx, lst_eq, tup_eq, pat_nm, forS_eq, okS_nx, okS_rt, okS_bk, okS_ct, okS_exc, okE_oke, List.getElem?_cons_zero, List.getElem?_cons_succ, List.set_cons_zero, List.set_cons_succ, ofString_inj, decide_eq_true_eq, Bool.not_eq_true', decide_eq_false_iff_not, reduceIte, if_true, if_false, Int.reduceLT, Int.reduceLE, Int.reduceEq, Int.reduceNe, decide_true, decide_false, Bool.false_eq_true, String.reduceEq, Bool.not_true, Bool.not_false, hr, i0, i1, i2, i3, stIxO_lst x3, m48 m hm hm2, get_set_eq, Option.map, Int.reduceLT, c97, h0]
      refine ⟨_, _, rfl, ⟨hrq, by rw [get_set_ne (Ne.symm hrq)]; exact hq, 0, b, _, get_set_eq.trans (by rw [hr]; rfl), by decide, hb, v1, v2⟩, Same.set, Int.emod_nonneg _ (by omega), Int.emod_lt_of_pos _ h0⟩
    · unfold s_draw2
      simp only [seqS_eq, bdS_eq, bd_eq, ifS_eq, thn_nx, thn_rt, thn_bk, thn_ct, thn_exc, thn_bad, thS_ok, thS_exc, thS_bad, thE_ok, thE_exc, thE_bad, thIf_ok, thIf_exc, thIf_bad, ret_eq, setS_eq, retS_eq, skipS_eq, alloc_eq, callM_eq, evs_nil, evs_cons, asBool_bl, tru_bl, tru_int, tru_non, tru_tup, runR_nx, runR_rt, runR_exc, runR_bad, runR_ite, thn_ite, thS_ite, thE_ite, ite_app2, ite_app2S, add_ii, sub_ii, mul_ii, fdiv_ii, mod_ii, pow_ii, shl_ii, shr_ii, band_ii, bor_ii, bxor_ii, neg_i, lt_ii, le_ii, gt_ii, ge_ii, eq_ii, eq_ss, eq_bb, ne_ii, ne_ss, ne_bb, isN_non, isN_int, isN_tup, isN_ref, isN_str, int_i, int_b, abs_i, max_ii, min_ii, slotM, idx_r, idx_t, idxO_lst, idxO_fro, atO_some, stIx_r, len_r, lenO_lst, lenO_fro, list_r, listO_lst, listO_fro, andT_one, andT_two, orT_one, orT_two, andV_one, andV_two, orV_one, orV_two, asg_eq, subG_eq, onlyNx_eq, nxo_nx, lst_eq, tup_eq, pat_nm, forS_eq, okS_nx, okS_rt, okS_bk, okS_ct, okS_exc, okE_oke, List.getElem?_cons_zero, List.getElem?_cons_succ, List.set_cons_zero, List.set_cons_succ, ofString_inj, decide_eq_true_eq, Bool.not_eq_true', decide_eq_false_iff_not, reduceIte, if_true, if_false, Int.reduceLT, Int.reduceLE, Int.reduceEq, Int.reduceNe, decide_true, decide_false, Bool.false_eq_true, String.reduceEq, Bool.not_true, Bool.not_false, hr, ea, i0, i1, i2, i3, stIxO_lst x1, get_set_eq, Option.map, hd, h0]
      refine ⟨_, _, rfl, ⟨hrq, by rw [get_set_ne (Ne.symm hrq)]; exact hq, a / many, b, _, get_set_eq.trans (by rw [hr]; rfl), Int.ediv_nonneg ha (by omega), hb, hm, hm2⟩, Same.set, Int.emod_nonneg _ (by omega), Int.emod_lt_of_pos _ h0⟩
  rw [s_draw_eq]
  by_cases ea : a = 0 ∧ b < ns.length
  · obtain ⟨ea, eb⟩ := ea
    subst ea
    have hx : atI (ns.map AV.int) b = some (.int (ns[b.toNat]'(by omega))) := by
      unfold atI ixN
      rw [if_pos hb, if_pos (by simpa using eb)]
      simp
    obtain ⟨v, h', e1, e2, e3, e4⟩ := last (if ns[b.toNat]'(by omega) < 0 then -(ns[b.toNat]'(by omega)) else ns[b.toNat]'(by omega)) (b + 1) m ((h.set r (.lst [.ref q, .int (if ns[b.toNat]'(by omega) < 0 then -(ns[b.toNat]'(by omega)) else ns[b.toNat]'(by omega)), .int b, .int m])).set r (.lst [.ref q, .int (if ns[b.toNat]'(by omega) < 0 then -(ns[b.toNat]'(by omega)) else ns[b.toNat]'(by omega)), .int (b + 1), .int m])) (by rw [get_set_eq, get_set_eq, hr]; rfl) (by rw [get_set_ne (Ne.symm hrq), get_set_ne (Ne.symm hrq)]; exact hq) (by split <;> omega) (by omega) hm hm2
    refine ⟨v, h', ?_, e2, (Same.set.trans Same.set).trans e3, e4⟩
    rw [← e1]
    unfold s_draw1
    simp only [seqS_eq, bdS_eq, bd_eq, ifS_eq, thn_nx, thn_rt, thn_bk, thn_ct, thn_exc, thn_bad, thS_ok, thS_exc, thS_bad, thE_ok, thE_exc, thE_bad, thIf_ok, thIf_exc, thIf_bad, ret_eq, setS_eq, retS_eq, skipS_eq, alloc_eq, callM_eq, evs_nil, evs_cons, asBool_bl, tru_bl, tru_int, tru_non, tru_tup, runR_nx, runR_rt, runR_exc, runR_bad, runR_ite, thn_ite, thS_ite, thE_ite, ite_app2, ite_app2S, add_ii, sub_ii, mul_ii, fdiv_ii, mod_ii, pow_ii, shl_ii, shr_ii, band_ii, bor_ii, bxor_ii, neg_i, lt_ii, le_ii, gt_ii, ge_ii, eq_ii, eq_ss, eq_bb, ne_ii, ne_ss, ne_bb, isN_non, isN_int, isN_tup, isN_ref, isN_str, int_i, int_b, abs_i, max_ii, min_ii, slotM, idx_r, idx_t, idxO_lst, idxO_fro, atO_some, stIx_r, len_r, lenO_lst, lenO_fro, list_r, listO_lst, listO_fro, andT_one, andT_two, orT_one, orT_two, andV_one, andV_two, orV_one, orV_two, asg_eq, subG_eq, onlyNx_eq, nxo_nx, lst_eq, tup_eq, pat_nm, forS_eq, okS_nx, okS_rt, okS_bk, okS_ct, okS_exc, okE_oke, List.getElem?_cons_zero, List.getElem?_cons_succ, List.set_cons_zero, List.set_cons_succ, ofString_inj, decide_eq_true_eq, Bool.not_eq_true', decide_eq_false_iff_not, reduceIte, if_true, if_false, Int.reduceLT, Int.reduceLE, Int.reduceEq, Int.reduceNe, decide_true, decide_false, Bool.false_eq_true, String.reduceEq, Bool.not_true, Bool.not_false, hr, hq, i0, i1, i2, i3, stIxO_lst x1, stIxO_lst x2, get_set_eq, get_set_ne (Ne.symm hrq), Option.map, List.length_map, eb, hx]
  · obtain ⟨v, h', e1, e2, e3, e4⟩ := last a b m h hr hq ha hb hm hm2
    refine ⟨v, h', ?_, e2, e3, e4⟩
    rw [← e1]
    unfold s_draw1
    by_cases e0 : a = 0
    · subst e0
      have eb : ¬ b < ns.length := fun x => ea ⟨rfl, x⟩
      simp only [seqS_eq, bdS_eq, bd_eq, ifS_eq, thn_nx, thn_rt, thn_bk, thn_ct, thn_exc, thn_bad, thS_ok, thS_exc, thS_bad, thE_ok, thE_exc, thE_bad, thIf_ok, thIf_exc, thIf_bad, ret_eq, setS_eq, retS_eq, skipS_eq, alloc_eq, callM_eq, evs_nil, evs_cons, asBool_bl, tru_bl, tru_int, tru_non, tru_tup, runR_nx, runR_rt, runR_exc, runR_bad, runR_ite, thn_ite, thS_ite, thE_ite, ite_app2, ite_app2S, add_ii, sub_ii, mul_ii, fdiv_ii, mod_ii, pow_ii, shl_ii, shr_ii, band_ii, bor_ii, bxor_ii, neg_i, lt_ii, le_ii, gt_ii, ge_ii, eq_ii, eq_ss, eq_bb, ne_ii, ne_ss, ne_bb, isN_non, isN_int, isN_tup, isN_ref, isN_str, int_i, int_b, abs_i, max_ii, min_ii, slotM, idx_r, idx_t, idxO_lst, idxO_fro, atO_some, stIx_r, len_r, lenO_lst, lenO_fro, list_r, listO_lst, listO_fro, andT_one, andT_two, orT_one, orT_two, andV_one, andV_two, orV_one, orV_two, asg_eq, subG_eq, onlyNx_eq, nxo_nx, lst_eq, tup_eq, pat_nm, forS_eq, okS_nx, okS_rt, okS_bk, okS_ct, okS_exc, okE_oke, List.getElem?_cons_zero, List.getElem?_cons_succ, List.set_cons_zero, List.set_cons_succ, ofString_inj, decide_eq_true_eq, Bool.not_eq_true', decide_eq_false_iff_not, reduceIte, if_true, if_false, Int.reduceLT, Int.reduceLE, Int.reduceEq, Int.reduceNe, decide_true, decide_false, Bool.false_eq_true, String.reduceEq, Bool.not_true, Bool.not_false, hr, hq, i0, i1, i2, i3, List.length_map, eb]
    · simp only [seqS_eq, bdS_eq, bd_eq, ifS_eq, thn_nx, thn_rt, thn_bk, thn_ct, thn_exc, thn_bad, thS_ok, thS_exc, thS_bad, thE_ok, thE_exc, thE_bad, thIf_ok, thIf_exc, thIf_bad, ret_eq, setS_eq, retS_eq, skipS_eq, alloc_eq, callM_eq, evs_nil, evs_cons, asBool_bl, tru_bl, tru_int, tru_non, tru_tup, runR_nx, runR_rt, runR_exc, runR_bad, runR_ite, thn_ite, thS_ite, thE_ite, ite_app2, ite_app2S, add_ii, sub_ii, mul_ii, fdiv_ii, mod_ii, pow_ii, shl_ii, shr_ii, band_ii, bor_ii, bxor_ii, neg_i, lt_ii, le_ii, gt_ii, ge_ii, eq_ii, eq_ss, eq_bb, ne_ii, ne_ss, ne_bb, isN_non, isN_int, isN_tup, isN_ref, isN_str, int_i, int_b, abs_i, max_ii, min_ii, slotM, idx_r, idx_t, idxO_lst, idxO_fro, atO_some, stIx_r, len_r, lenO_lst, lenO_fro, list_r, listO_lst, listO_fro, andT_one, andT_two, orT_one, orT_two, andV_one, andV_two, orV_one, orV_two, asg_eq, subG_eq, onlyNx_eq, nxo_nx, lst_eq, tup_eq, pat_nm, forS_eq, okS_nx, okS_rt, okS_bk, okS_ct, okS_exc, okE_oke, List.getElem?_cons_zero, List.getElem?_cons_succ, List.set_cons_zero, List.set_cons_succ, ofString_inj, decide_eq_true_eq, Bool.not_eq_true', decide_eq_false_iff_not, reduceIte, if_true, if_false, Int.reduceLT, Int.reduceLE, Int.reduceEq, Int.reduceNe, decide_true, decide_false, Bool.false_eq_true, String.reduceEq, Bool.not_true, Bool.not_false, hr, hq, i0, i1, i2, i3, List.length_map, e0]
theorem stream_pre {cf : CF} {p : Nat} {ns : List Int} {h : AH} (e : h[p]? = some (.fro (ns.map AV.int))) (hl : ns.length ≤ 63) :
    ∃ h', runR (s_law_stream cf [some (.ref p), none, none] h) = .ok (.ref (h.length + 1)) h' ∧ h'.length = h.length + 2 ∧ (∀ i, i < h.length → h'[i]? = h[i]?) ∧ StAt (h.length + 1) h.length ns h' := by
  have key : okE (runR (s_law_stream cf [some (.ref p), none, none] h)) fun v h' => v = .ref (h.length + 1) ∧ ∃ m : Int, 0 ≤ m ∧ m < 2147483647 ∧ h' = h ++ [.lst (ns.map AV.int)] ++ [.lst [.ref h.length, .int 0, .int 0, .int m]] := by
    apply okE_runR
    unfold s_law_stream
    simp only [seqS_eq, bdS_eq, bd_eq, ifS_eq, thn_nx, thn_rt, thn_bk, thn_ct, thn_exc, thn_bad, thS_ok, thS_exc, thS_bad, thE_ok, thE_exc, thE_bad, thIf_ok, thIf_exc, thIf_bad, ret_eq, setS_eq, retS_eq, skipS_eq, alloc_eq, callM_eq, evs_nil, evs_cons, asBool_bl, tru_bl, tru_int, tru_non, tru_tup, runR_nx, runR_rt, runR_exc, runR_bad, runR_ite, thn_ite, thS_ite, thE_ite, ite_app2, ite_app2S, add_ii, sub_ii, mul_ii, fdiv_ii, mod_ii, pow_ii, shl_ii, shr_ii, band_ii, bor_ii, bxor_ii, neg_i, lt_ii, le_ii, gt_ii, ge_ii, eq_ii, eq_ss, eq_bb, ne_ii, ne_ss, ne_bb, isN_non, isN_int, isN_tup, isN_ref, isN_str, int_i, int_b, abs_i, max_ii, min_ii, slotM, idx_r, idx_t, idxO_lst, idxO_fro, atO_some, stIx_r, len_r, lenO_lst, lenO_fro, list_r, listO_lst, listO_fro, andT_one, andT_two, orT_one, orT_two, andV_one, andV_two, orV_one, orV_two, asg_eq, subG_eq, onlyNx_eq, nxo_nx, lst_eq, tup_eq, pat_nm, forS_eq, okS_nx, okS_rt, okS_bk, okS_ct, okS_exc, okE_oke, List.getElem?_cons_zero, List.getElem?_cons_succ, List.set_cons_zero, List.set_cons_succ, ofString_inj, decide_eq_true_eq, Bool.not_eq_true', decide_eq_false_iff_not, reduceIte, if_true, if_false, Int.reduceLT, Int.reduceLE, Int.reduceEq, Int.reduceNe, decide_true, decide_false, Bool.false_eq_true, String.reduceEq, Bool.not_true, Bool.not_false, itOf_fro e]
    apply okS_thn
    refine okS_forL (xs := ns.map AV.int) (fun _ s h' => h' = h ∧ ∃ m : Int, 0 ≤ m ∧ m < 2147483647 ∧ ∃ c, s = [some (.ref p), some (.int m), c]) ?_ ?_ ?_ _ _ _ _ ⟨rfl, 17, by decide, by decide, none, rfl⟩ (by simp) (by simp; unfold turnsMax; omega)
    · rintro i s h' ⟨rfl, _⟩
      exact lstOf_fro e
    · rintro i x s h' ex ⟨rfl, m, h1, h2, c, rfl⟩
      have m48 : CMulW m 48271 := CMulW_small (by omega) (by decide)
      have hx : ∃ z : Int, x = .int z := by
        rw [List.getElem?_map] at ex
        cases hz : ns[i]? with
        | none => rw [hz] at ex; cases ex
        | some z => rw [hz] at ex; cases ex; exact ⟨z, rfl⟩
      obtain ⟨z, rfl⟩ := hx
      simp only [seqS_eq, bdS_eq, bd_eq, ifS_eq, thn_nx, thn_rt, thn_bk, thn_ct, thn_exc, thn_bad, thS_ok, thS_exc, thS_bad, thE_ok, thE_exc, thE_bad, thIf_ok, thIf_exc, thIf_bad, ret_eq, setS_eq, retS_eq, skipS_eq, alloc_eq, callM_eq, evs_nil, evs_cons, asBool_bl, tru_bl, tru_int, tru_non, tru_tup, runR_nx, runR_rt, runR_exc, runR_bad, runR_ite, thn_ite, thS_ite, thE_ite, ite_app2, ite_app2S, add_ii, sub_ii, mul_ii, fdiv_ii, mod_ii, pow_ii, shl_ii, shr_ii, band_ii, bor_ii, bxor_ii, neg_i, lt_ii, le_ii, gt_ii, ge_ii, eq_ii, eq_ss, eq_bb, ne_ii, ne_ss, ne_bb, isN_non, isN_int, isN_tup, isN_ref, isN_str, int_i, int_b, abs_i, max_ii, min_ii, slotM, idx_r, idx_t, idxO_lst, idxO_fro, atO_some, stIx_r, len_r, lenO_lst, lenO_fro, list_r, listO_lst, listO_fro, andT_one, andT_two, orT_one, orT_two, andV_one, andV_two, orV_one, orV_two, asg_eq, subG_eq, onlyNx_eq, nxo_nx, lst_eq, tup_eq, pat_nm, forS_eq, okS_nx, okS_rt, okS_bk, okS_ct, okS_exc, okE_oke, List.getElem?_cons_zero, List.getElem?_cons_succ, List.set_cons_zero, List.set_cons_succ, ofString_inj, decide_eq_true_eq, Bool.not_eq_true', decide_eq_false_iff_not, reduceIte, if_true, if_false, Int.reduceLT, Int.reduceLE, Int.reduceEq, Int.reduceNe, decide_true, decide_false, Bool.false_eq_true, String.reduceEq, Bool.not_true, Bool.not_false, m48]
      have v1 := Int.emod_nonneg (m * 48271 + z % 65521 + 1) (b := 2147483647) (by decide)
      have v2 := Int.emod_lt_of_pos (m * 48271 + z % 65521 + 1) (b := 2147483647) (by decide)
      exact ⟨trivial, _, v1, v2, _, rfl⟩
    · rintro s h' ⟨rfl, m, h1, h2, c, rfl⟩
      have e1 : ([AV.ref h'.length, AV.int 0, AV.int 0, AV.int m].length ≤ sizeLine) := by
        show 4 ≤ 2 ^ 24
        decide
      simp only [seqS_eq, bdS_eq, bd_eq, ifS_eq, thn_nx, thn_rt, thn_bk, thn_ct, thn_exc, thn_bad, thS_ok, thS_exc, thS_bad, thE_ok, thE_exc, thE_bad, thIf_ok, thIf_exc, thIf_bad, ret_eq, setS_eq, retS_eq, skipS_eq, alloc_eq, callM_eq, evs_nil, evs_cons, asBool_bl, tru_bl, tru_int, tru_non, tru_tup, runR_nx, runR_rt, runR_exc, runR_bad, runR_ite, thn_ite, thS_ite, thE_ite, ite_app2, ite_app2S, add_ii, sub_ii, mul_ii, fdiv_ii, mod_ii, pow_ii, shl_ii, shr_ii, band_ii, bor_ii, bxor_ii, neg_i, lt_ii, le_ii, gt_ii, ge_ii, eq_ii, eq_ss, eq_bb, ne_ii, ne_ss, ne_bb, isN_non, isN_int, isN_tup, isN_ref, isN_str, int_i, int_b, abs_i, max_ii, min_ii, slotM, idx_r, idx_t, idxO_lst, idxO_fro, atO_some, stIx_r, len_r, lenO_lst, lenO_fro, list_r, listO_lst, listO_fro, andT_one, andT_two, orT_one, orT_two, andV_one, andV_two, orV_one, orV_two, asg_eq, subG_eq, onlyNx_eq, nxo_nx, lst_eq, tup_eq, pat_nm, forS_eq, okS_nx, okS_rt, okS_bk, okS_ct, okS_exc, okE_oke, List.getElem?_cons_zero, List.getElem?_cons_succ, List.set_cons_zero, List.set_cons_succ, ofString_inj, decide_eq_true_eq, Bool.not_eq_true', decide_eq_false_iff_not, reduceIte, if_true, if_false, Int.reduceLT, Int.reduceLE, Int.reduceEq, Int.reduceNe, decide_true, decide_false, Bool.false_eq_true, String.reduceEq, Bool.not_true, Bool.not_false, e, e1]
      refine ⟨by simp, m, h1, h2, rfl⟩
  obtain ⟨v, h', e1, rfl, m, m1, m2, rfl⟩ := okE_iff.mp key
  refine ⟨_, e1, by simp, fun i hi => ?_, by omega, ?_, 0, 0, m, ?_, by decide, by decide, m1, m2⟩
  · rw [List.append_assoc, List.getElem?_append_left hi]
  · rw [List.getElem?_append_left (by simp), List.getElem?_concat_length]
  · have : h.length + 1 = (h ++ [AO.lst (ns.map AV.int)]).length := by simp
    rw [this, List.getElem?_concat_length]
theorem StAt.app {r q : Nat} {ns : List Int} {h l : AH} (S : StAt r q ns h) : StAt r q ns (h ++ l) := by
  obtain ⟨a, b, x, y, z, c, d⟩ := S
  refine ⟨a, ?_, x, y, z, ?_, d⟩
  · rw [List.getElem?_append_left (List.getElem?_eq_some_iff.mp b).1]; exact b
  · rw [List.getElem?_append_left (List.getElem?_eq_some_iff.mp c).1]; exact c
theorem StAt.set {r q p : Nat} {ns : List Int} {h : AH} {o : AO} (S : StAt r q ns h) (h1 : p ≠ r) (h2 : p ≠ q) : StAt r q ns (h.set p o) := by
  obtain ⟨a, b, x, y, z, c, d⟩ := S
  exact ⟨a, (get_set_ne (Ne.symm h2)).trans b, x, y, z, (get_set_ne (Ne.symm h1)).trans c, d⟩
theorem StAt.lt {r q : Nat} {ns : List Int} {h : AH} (S : StAt r q ns h) : r < h.length ∧ q < h.length := by
  obtain ⟨a, b, x, y, z, c, d⟩ := S
  exact ⟨(List.getElem?_eq_some_iff.mp c).1, (List.getElem?_eq_some_iff.mp b).1⟩
end Ev
namespace Ev
open PySem PySem.Spec PyProof.Rows L2
/-! ### more reckoning: sequences with a wish between, growth, dict displays, equality of lists of ints -/
theorem okS_seq {a b : SM} {s : Sl} {h : AH} {D : Dst} (P : Sl → AH → Prop) (p : okS (a s h) { D with nx := P }) (q : ∀ s h, P s h → okS (b s h) D) : okS (seqS a b s h) D := by
  rw [seqS_eq]
  exact okS_thn (p.imp (fun s h x => q s h x) (fun _ _ x => x) (fun _ _ x => x) (fun _ _ x => x) (fun _ _ _ _ x => x))
theorem get_app {h l : AH} {i : Nat} {o : AO} (e : h[i]? = some o) : (h ++ l)[i]? = some o := by
  rw [List.getElem?_append_left (List.getElem?_eq_some_iff.mp e).1]
  exact e
theorem get_new {h : AH} {o : AO} : (h ++ [o])[h.length]? = some o := List.getElem?_concat_length
theorem prs_nil {s : Sl} {h : AH} : prsM [] s h = .ok [] h := id rfl
theorem prs_cons {m : EM AV × EM AV} {ms : List (EM AV × EM AV)} {s : Sl} {h : AH} : prsM (m :: ms) s h = (m.1 s h).thE (fun k => bd m.2 fun v => bd (prsM ms) fun r => ret ((k, v) :: r)) s := by
  show bd m.1 _ s h = _
  exact bd_eq
theorem dct_ok {ms : List (EM AV × EM AV)} {s : Sl} {h : AH} {kvs d : List (AV × AV)} (e : prsM ms s (h ++ [.dct []]) = .ok kvs (h ++ [.dct []])) (hk : (kvs.all fun kv => (keyV kv.1).isSome) = true) (hl : kvs.length ≤ 15) (hd : kvs.foldl (fun d kv => dPut d kv.1 kv.2) [] = d) :
    dctM ms s h = .ok (.ref h.length) (h ++ [.dct d]) := by
  unfold dctM
  rw [e]
  dsimp only
  rw [get_new]
  dsimp only
  rw [if_pos ⟨hk, hl⟩, hd]
  congr 1
  rw [List.set_append_right _ _ (Nat.le_refl _), Nat.sub_self]
  rfl
def dctO : RE (List (AV × AV)) → Nat → RE AV
  | .ok kvs h2, n => (match h2[n]? with
    | some (.dct []) => if (kvs.all fun kv => (keyV kv.1).isSome) = true ∧ kvs.length ≤ 15 then .ok (.ref n) (h2.set n (.dct (kvs.foldl (fun d kv => dPut d kv.1 kv.2) []))) else .bad
    | _ => .bad)
  | .exc c fs h2, _ => .exc c fs h2
  | .bad, _ => .bad
theorem dct_eq {ms : List (EM AV × EM AV)} {s : Sl} {h : AH} : dctM ms s h = dctO (prsM ms s (h ++ [.dct []])) h.length := by
  unfold dctM dctO
  cases prsM ms s (h ++ [.dct []]) <;> rfl
theorem dctO_ok {h : AH} {kvs : List (AV × AV)} : dctO (.ok kvs (h ++ [.dct []])) h.length = if (kvs.all fun kv => (keyV kv.1).isSome) = true ∧ kvs.length ≤ 15 then .ok (.ref h.length) (h ++ [.dct (kvs.foldl (fun d kv => dPut d kv.1 kv.2) [])]) else .bad := by
  unfold dctO
  dsimp only
  rw [get_new]
  dsimp only
  split
  · congr 1
    rw [List.set_append_right _ _ (Nat.le_refl _), Nat.sub_self]
    rfl
  · rfl
theorem set_new {h : AH} {o o' : AO} : (h ++ [o]).set h.length o' = h ++ [o'] := by
  rw [List.set_append_right _ _ (Nat.le_refl _), Nat.sub_self]
  rfl
theorem datAs_ints (h : AH) (n : Nat) : ∀ ns : List Int, datAs n h (ns.map AV.int) = some (ns.map PyData.int)
  | [] => by rw [List.map_nil, datAs]; rfl
  | x :: ns => by
    rw [List.map_cons, datAs, datAs_ints h n ns]
    have : datA n h (.int x) = some (.int x) := by cases n <;> simp [datA]
    rw [this]
    rfl
theorem datA_ints {h : AH} {p : Nat} {ns : List Int} (n : Nat) (e : lstOf h p = some (ns.map AV.int)) : datA (n + 1) h (.ref p) = some (.list (ns.map PyData.int)) := by
  rw [datA, e]
  dsimp only
  rw [datAs_ints]
theorem ints_shaped (ns : List Int) : SeqAt.shaped (.list (ns.map PyData.int)) = true := by
  have a : ∀ ns : List Int, PyData.canLayAll0 (ns.map PyData.int) = true := by
    intro ns
    induction ns with
    | nil => rfl
    | cons x ns ih => rw [List.map_cons, PyData.canLayAll0, ih]; rfl
  have b : ∀ ns : List Int, PyData.depthAll (ns.map PyData.int) ≤ 1 := by
    intro ns
    induction ns with
    | nil => exact Nat.zero_le _
    | cons x ns ih =>
      rw [List.map_cons, PyData.depthAll]
      have : PyData.depth (.int x) ≤ 1 := by simp [PyData.depth]
      omega
  unfold SeqAt.shaped
  rw [PyData.canLay0, a, PyData.depth]
  have := b ns
  simp
  omega
theorem ints_refl (ns : List Int) : PyData.eqv (.list (ns.map PyData.int)) (.list (ns.map PyData.int)) = true := by
  refine SeqAt.eqv_refl _ ?_
  exact SeqAt.canLay_of_shaped (ints_shaped ns)
theorem ne_lists {h : AH} {p q : Nat} {ns : List Int} {s : Sl} (e : lstOf h p = some (ns.map AV.int)) (e' : lstOf h q = some (ns.map AV.int)) : neA (.ref p) (.ref q) s h = .ok (.bl false) h := by
  unfold neA rd eqB scalA eqDeep
  dsimp only
  rw [datA_ints 64 e, datA_ints 64 e']
  dsimp only
  rw [if_pos ⟨ints_shaped ns, ints_shaped ns⟩, ints_refl]
  rfl
theorem for_list {h : AH} {p : Nat} {xs : List AV} {s : Sl} (e : h[p]? = some (.lst xs)) : itOf (.ref p) s h = .ok (.live p) h := itOf_lst e
section
variable {x y : Str} {xs : List AV} {v w : AV} {s : Sl} {h : AH} {i j : Int}
theorem in_tup : inA (.str x) (.tup xs) s h = if (xs.all flatA) = true then .ok (.bl (memFlat (.str x) xs)) h else .bad := by
  show rd (fun h => (inB (.str x) (.tup xs) h).map AV.bl) s h = _
  unfold rd inB seqOf
  dsimp only
  have : flatA (.str x) = true := rfl
  rw [this, Bool.true_and]
  by_cases c : (xs.all flatA) = true
  · rw [if_pos c, if_pos c]; rfl
  · rw [if_neg c, if_neg c]; rfl
theorem memFlat_nil : memFlat v [] = false := id rfl
theorem memFlat_cons : memFlat v (w :: xs) = (eqFlat w v || memFlat v xs) := id rfl
theorem eqFlat_ss : eqFlat (.str x) (.str y) = decide (x = y) := id rfl
theorem eqFlat_ii : eqFlat (.int i) (.int j) = decide (i = j) := id rfl
theorem flatA_str : flatA (.str x) = true := id rfl
theorem flatA_int : flatA (.int i) = true := id rfl
end
theorem cpow2 {j : Int} : CPow 2 j = (0 ≤ j ∧ j ≤ 1000000) := by
  unfold CPow
  apply propext
  exact ⟨fun h => ⟨h.1, h.2.1⟩, fun h => ⟨h.1, h.2, by decide⟩⟩
theorem comp_eq {m : EM IT} {p : Pat} {own : List Nat} {c : EM Bool} {e : EM AV} {s : Sl} {h : AH} : compM m p own c e s h = (m s h).thE (fun it s h => compN it p c e h.length (wipeA s own) turnsMax 0 (h ++ [.lst []])) s := bd_eq
theorem gs_nil {s : Sl} {h : AH} : gsM [] [] s h = .nx s h := id rfl
theorem gs_cons {g : AV → SM} {gs : List (AV → SM)} {v : AV} {vs : List AV} {s : Sl} {h : AH} : gsM (g :: gs) (v :: vs) s h = (g v s h).thn (gsM gs vs) := by
  show seqS _ _ s h = _
  exact seqS_eq
end Ev
namespace K02
open PySem PySem.Spec PyProof.Rows L2 Ev
def top (i : Nat) : Stmt := PySem.Challenge.pw_drawever_k02_wrapping_and_folding.main.body.getD i (.Pass ⟨0, 0, 0, 0⟩)
def d_wrapped : FnD := ⟨"wrapped", ("wrapped", none), "wrapped", ["number"], ["number", "rest"], defArgs (top 5), defBody (top 5), defScope (top 5)⟩
def d_divided : FnD := ⟨"divided", ("divided", none), "divided", ["a", "b"], ["a", "b", "size"], defArgs (top 6), defBody (top 6), defScope (top 6)⟩
def d_arithmetic : FnD := ⟨"arithmetic", ("arithmetic", none), "arithmetic", ["op", "a", "b"], ["op", "a", "b"], defArgs (top 7), defBody (top 7), defScope (top 7)⟩
def d_bits : FnD := ⟨"bits", ("bits", none), "bits", ["op", "a", "b"], ["op", "a", "b"], defArgs (top 8), defBody (top 8), defScope (top 8)⟩
def d_compared : FnD := ⟨"compared", ("compared", none), "compared", ["op", "a", "b"], ["op", "a", "b"], defArgs (top 9), defBody (top 9), defScope (top 9)⟩
def d_binary : FnD := ⟨"binary", ("binary", none), "binary", ["op", "a", "b"], ["op", "a", "b", "found"], defArgs (top 10), defBody (top 10), defScope (top 10)⟩
def d_neutral : FnD := ⟨"neutral", ("neutral", none), "neutral", ["op"], ["op"], defArgs (top 11), defBody (top 11), defScope (top 11)⟩
def d_fold : FnD := ⟨"fold", ("fold", none), "fold", ["op", "words"], ["op", "words", "found", "word"], defArgs (top 12), defBody (top 12), defScope (top 12)⟩
def d_law_stream : FnD := ⟨"_law_stream", ("_law_stream", none), "_law_stream", ["script"], ["script", "mixed", "cell"], defArgs (top 14), defBody (top 14), defScope (top 14)⟩
def d_law_draw : FnD := ⟨"_law_draw", ("_law_draw", none), "_law_draw", ["stream", "many"], ["stream", "many", "value"], defArgs (top 15), defBody (top 15), defScope (top 15)⟩
def d_law_word : FnD := ⟨"_law_word", ("_law_word", none), "_law_word", ["stream"], ["stream", "rows"], defArgs (top 16), defBody (top 16), defScope (top 16)⟩
def d_law_wrapped : FnD := ⟨"_law_wrapped", ("_law_wrapped", none), "_law_wrapped", ["number"], ["number"], defArgs (top 17), defBody (top 17), defScope (top 17)⟩
def d_law_bits : FnD := ⟨"_law_bits", ("_law_bits", none), "_law_bits", ["op", "a", "b"], ["op", "a", "b", "total", "place", "k", "one", "two", "chosen"], defArgs (top 18), defBody (top 18), defScope (top 18)⟩
def d_law_shifted : FnD := ⟨"_law_shifted", ("_law_shifted", none), "_law_shifted", ["op", "a", "b"], ["op", "a", "b", "k"], defArgs (top 19), defBody (top 19), defScope (top 19)⟩
def d_law_binary : FnD := ⟨"_law_binary", ("_law_binary", none), "_law_binary", ["op", "a", "b"], ["op", "a", "b", "rows", "found"], defArgs (top 20), defBody (top 20), defScope (top 20)⟩
def d_law_unary : FnD := ⟨"_law_unary", ("_law_unary", none), "_law_unary", ["op", "a"], ["op", "a"], defArgs (top 21), defBody (top 21), defScope (top 21)⟩
def d_law : FnD := ⟨"law", ("law", none), "law", ["script"], ["script", "stream", "number", "words", "turned", "k", "op", "at", "least", "due", "word", "given"], defArgs (top 22), defBody (top 22), defScope (top 22)⟩
def T : Tbl := ⟨[("FOLDING", .tup [.str "add", .str "min", .str "max", .str "and", .str "or", .str "xor"]), ("LEAST", .int (-2147483648)), ("GREATEST", .int (2147483647)), ("MODULUS", .int (4294967296))], [("wrapped", 1), ("divided", 2), ("arithmetic", 3), ("bits", 3), ("compared", 3), ("binary", 3), ("neutral", 1), ("fold", 2), ("_law_stream", 1), ("_law_draw", 2), ("_law_word", 1), ("_law_wrapped", 1), ("_law_bits", 3), ("_law_shifted", 3), ("_law_binary", 3), ("_law_unary", 2), ("law", 1)], ["abs", "any", "int", "len", "list", "max", "min", "range"]⟩
def fs : List FnD := [d_wrapped, d_divided, d_arithmetic, d_bits, d_compared, d_binary, d_neutral, d_fold, d_law_stream, d_law_draw, d_law_word, d_law_wrapped, d_law_bits, d_law_shifted, d_law_binary, d_law_unary, d_law]
def s_wrapped (cf : CF) : SM := (seqS (bdS (bd (slotM 0) fun x1 => bd (ret (.int (4294967296))) fun y2 => modA x1 y2) (setS 1))
  (seqS (ifS (bd (bd (slotM 1) fun x3 => bd (ret (.int (2147483647))) fun y4 => gtA x3 y4) asBool) (seqS (bdS (bd (slotM 1) fun x5 => bd (ret (.int (4294967296))) fun y6 => subA x5 y6) retS)
    skipS) skipS)
  (seqS (bdS (slotM 1) retS)
  skipS)))
theorem sh_wrapped (cf : CF) : bodyM T cf d_wrapped = s_wrapped cf := by kernel_rfl
theorem c_wrapped (k : Nat) (v0 : AV) (h : AH) : callA T fs (k + 1) "wrapped" [v0] h = runR (s_wrapped (callA T fs k) [some v0, none] h) := call_eq (by rfl) rfl (sh_wrapped _)
def s_divided (cf : CF) : SM := (seqS (ifS (bd (bd (slotM 1) fun x1 => bd (ret (.int (0))) fun y2 => eqA x1 y2) asBool) (seqS (bdS (ret (.int (0))) retS)
    skipS) skipS)
  (seqS (bdS (bd (bd (evsM [(slotM 0)]) absA) fun x3 => bd (bd (evsM [(slotM 1)]) absA) fun y4 => fdivA x3 y4) (setS 2))
  (seqS (ifS (bd (bd (bd (slotM 0) fun x7 => bd (ret (.int (0))) fun y8 => ltA x7 y8) fun x5 => bd (bd (slotM 1) fun x9 => bd (ret (.int (0))) fun y10 => ltA x9 y10) fun y6 => neA x5 y6) asBool) (seqS (bdS (bd (slotM 2) negA) retS)
    skipS) skipS)
  (seqS (bdS (slotM 2) retS)
  skipS))))
theorem sh_divided (cf : CF) : bodyM T cf d_divided = s_divided cf := by kernel_rfl
theorem c_divided (k : Nat) (v0 v1 : AV) (h : AH) : callA T fs (k + 1) "divided" [v0, v1] h = runR (s_divided (callA T fs k) [some v0, some v1, none] h) := call_eq (by rfl) rfl (sh_divided _)
def s_arithmetic (cf : CF) : SM := (seqS (ifS (bd (bd (slotM 0) fun x1 => bd (ret (.str "add")) fun y2 => eqA x1 y2) asBool) (seqS (bdS (bd (slotM 1) fun x3 => bd (slotM 2) fun y4 => addA x3 y4) retS)
    skipS) skipS)
  (seqS (ifS (bd (bd (slotM 0) fun x5 => bd (ret (.str "sub")) fun y6 => eqA x5 y6) asBool) (seqS (bdS (bd (slotM 1) fun x7 => bd (slotM 2) fun y8 => subA x7 y8) retS)
    skipS) skipS)
  (seqS (ifS (bd (bd (slotM 0) fun x9 => bd (ret (.str "mul")) fun y10 => eqA x9 y10) asBool) (seqS (bdS (bd (slotM 1) fun x11 => bd (slotM 2) fun y12 => mulA x11 y12) retS)
    skipS) skipS)
  (seqS (ifS (bd (bd (slotM 0) fun x13 => bd (ret (.str "div")) fun y14 => eqA x13 y14) asBool) (seqS (bdS (callM cf "divided" (evsM [(slotM 1), (slotM 2)])) retS)
    skipS) skipS)
  (seqS (ifS (bd (bd (slotM 0) fun x15 => bd (ret (.str "rem")) fun y16 => eqA x15 y16) asBool) (seqS (ifS (bd (bd (slotM 2) fun x17 => bd (ret (.int (0))) fun y18 => eqA x17 y18) asBool) (seqS (bdS (ret (.int (0))) retS)
      skipS) skipS)
    (seqS (bdS (bd (slotM 1) fun x19 => bd (bd (callM cf "divided" (evsM [(slotM 1), (slotM 2)])) fun x21 => bd (slotM 2) fun y22 => mulA x21 y22) fun y20 => subA x19 y20) retS)
    skipS)) skipS)
  (seqS (bdS (ret (.non)) retS)
  skipS))))))
theorem sh_arithmetic (cf : CF) : bodyM T cf d_arithmetic = s_arithmetic cf := by kernel_rfl
theorem c_arithmetic (k : Nat) (v0 v1 v2 : AV) (h : AH) : callA T fs (k + 1) "arithmetic" [v0, v1, v2] h = runR (s_arithmetic (callA T fs k) [some v0, some v1, some v2] h) := call_eq (by rfl) rfl (sh_arithmetic _)
def s_bits (cf : CF) : SM := (seqS (ifS (bd (bd (slotM 0) fun x1 => bd (ret (.str "and")) fun y2 => eqA x1 y2) asBool) (seqS (bdS (bd (slotM 1) fun x3 => bd (slotM 2) fun y4 => bandA x3 y4) retS)
    skipS) skipS)
  (seqS (ifS (bd (bd (slotM 0) fun x5 => bd (ret (.str "or")) fun y6 => eqA x5 y6) asBool) (seqS (bdS (bd (slotM 1) fun x7 => bd (slotM 2) fun y8 => borA x7 y8) retS)
    skipS) skipS)
  (seqS (ifS (bd (bd (slotM 0) fun x9 => bd (ret (.str "xor")) fun y10 => eqA x9 y10) asBool) (seqS (bdS (bd (slotM 1) fun x11 => bd (slotM 2) fun y12 => bxorA x11 y12) retS)
    skipS) skipS)
  (seqS (ifS (bd (bd (slotM 0) fun x13 => bd (ret (.str "shl")) fun y14 => eqA x13 y14) asBool) (seqS (bdS (bd (slotM 1) fun x15 => bd (bd (slotM 2) fun x17 => bd (ret (.int (32))) fun y18 => modA x17 y18) fun y16 => shlA x15 y16) retS)
    skipS) skipS)
  (seqS (ifS (bd (bd (slotM 0) fun x19 => bd (ret (.str "shr")) fun y20 => eqA x19 y20) asBool) (seqS (bdS (bd (slotM 1) fun x21 => bd (bd (slotM 2) fun x23 => bd (ret (.int (32))) fun y24 => modA x23 y24) fun y22 => shrA x21 y22) retS)
    skipS) skipS)
  (seqS (bdS (ret (.non)) retS)
  skipS))))))
theorem sh_bits (cf : CF) : bodyM T cf d_bits = s_bits cf := by kernel_rfl
theorem c_bits (k : Nat) (v0 v1 v2 : AV) (h : AH) : callA T fs (k + 1) "bits" [v0, v1, v2] h = runR (s_bits (callA T fs k) [some v0, some v1, some v2] h) := call_eq (by rfl) rfl (sh_bits _)
def s_compared (cf : CF) : SM := (seqS (ifS (bd (bd (slotM 0) fun x1 => bd (ret (.str "lt")) fun y2 => eqA x1 y2) asBool) (seqS (bdS (bd (evsM [(bd (slotM 1) fun x3 => bd (slotM 2) fun y4 => ltA x3 y4)]) intA) retS)
    skipS) skipS)
  (seqS (ifS (bd (bd (slotM 0) fun x5 => bd (ret (.str "le")) fun y6 => eqA x5 y6) asBool) (seqS (bdS (bd (evsM [(bd (slotM 1) fun x7 => bd (slotM 2) fun y8 => leA x7 y8)]) intA) retS)
    skipS) skipS)
  (seqS (ifS (bd (bd (slotM 0) fun x9 => bd (ret (.str "eq")) fun y10 => eqA x9 y10) asBool) (seqS (bdS (bd (evsM [(bd (slotM 1) fun x11 => bd (slotM 2) fun y12 => eqA x11 y12)]) intA) retS)
    skipS) skipS)
  (seqS (ifS (bd (bd (slotM 0) fun x13 => bd (ret (.str "ne")) fun y14 => eqA x13 y14) asBool) (seqS (bdS (bd (evsM [(bd (slotM 1) fun x15 => bd (slotM 2) fun y16 => neA x15 y16)]) intA) retS)
    skipS) skipS)
  (seqS (ifS (bd (bd (slotM 0) fun x17 => bd (ret (.str "min")) fun y18 => eqA x17 y18) asBool) (seqS (bdS (bd (evsM [(slotM 1), (slotM 2)]) minA) retS)
    skipS) skipS)
  (seqS (bdS (bd (evsM [(slotM 1), (slotM 2)]) maxA) retS)
  skipS))))))
theorem sh_compared (cf : CF) : bodyM T cf d_compared = s_compared cf := by kernel_rfl
theorem c_compared (k : Nat) (v0 v1 v2 : AV) (h : AH) : callA T fs (k + 1) "compared" [v0, v1, v2] h = runR (s_compared (callA T fs k) [some v0, some v1, some v2] h) := call_eq (by rfl) rfl (sh_compared _)
def s_binary (cf : CF) : SM := (seqS (bdS (callM cf "arithmetic" (evsM [(slotM 0), (slotM 1), (slotM 2)])) (setS 3))
  (seqS (ifS (bd (bd (slotM 3) fun x1 => bd (ret (.non)) fun y2 => isN x1 y2) asBool) (seqS (bdS (callM cf "bits" (evsM [(slotM 0), (slotM 1), (slotM 2)])) (setS 3))
    skipS) skipS)
  (seqS (ifS (bd (bd (slotM 3) fun x3 => bd (ret (.non)) fun y4 => isN x3 y4) asBool) (seqS (bdS (callM cf "compared" (evsM [(slotM 0), (slotM 1), (slotM 2)])) (setS 3))
    skipS) skipS)
  (seqS (bdS (callM cf "wrapped" (evsM [(slotM 3)])) retS)
  skipS))))
theorem sh_binary (cf : CF) : bodyM T cf d_binary = s_binary cf := by kernel_rfl
theorem c_binary (k : Nat) (v0 v1 v2 : AV) (h : AH) : callA T fs (k + 1) "binary" [v0, v1, v2] h = runR (s_binary (callA T fs k) [some v0, some v1, some v2, none] h) := call_eq (by rfl) rfl (sh_binary _)
def s_neutral (cf : CF) : SM := (seqS (ifS (bd (bd (slotM 0) fun x1 => bd (ret (.str "min")) fun y2 => eqA x1 y2) asBool) (seqS (bdS (ret (.int (2147483647))) retS)
    skipS) skipS)
  (seqS (ifS (bd (bd (slotM 0) fun x3 => bd (ret (.str "max")) fun y4 => eqA x3 y4) asBool) (seqS (bdS (ret (.int (-2147483648))) retS)
    skipS) skipS)
  (seqS (ifS (bd (bd (slotM 0) fun x5 => bd (ret (.str "and")) fun y6 => eqA x5 y6) asBool) (seqS (bdS (bd (ret (.int (1))) negA) retS)
    skipS) skipS)
  (seqS (bdS (ret (.int (0))) retS)
  skipS))))
theorem sh_neutral (cf : CF) : bodyM T cf d_neutral = s_neutral cf := by kernel_rfl
theorem c_neutral (k : Nat) (v0 : AV) (h : AH) : callA T fs (k + 1) "neutral" [v0] h = runR (s_neutral (callA T fs k) [some v0] h) := call_eq (by rfl) rfl (sh_neutral _)
def s_fold (cf : CF) : SM := (seqS (bdS (callM cf "neutral" (evsM [(slotM 0)])) (setS 2))
  (seqS (forS (bd (slotM 1) itOf) (patS (.nm 3)) (seqS (bdS (callM cf "binary" (evsM [(slotM 0), (slotM 2), (slotM 3)])) (setS 2))
    skipS))
  (seqS (bdS (slotM 2) retS)
  skipS)))
theorem sh_fold (cf : CF) : bodyM T cf d_fold = s_fold cf := by kernel_rfl
theorem c_fold (k : Nat) (v0 v1 : AV) (h : AH) : callA T fs (k + 1) "fold" [v0, v1] h = runR (s_fold (callA T fs k) [some v0, some v1, none, none] h) := call_eq (by rfl) rfl (sh_fold _)
theorem sh_law_stream (cf : CF) : bodyM T cf d_law_stream = s_law_stream cf := by kernel_rfl
theorem c_law_stream (k : Nat) (v0 : AV) (h : AH) : callA T fs (k + 1) "_law_stream" [v0] h = runR (s_law_stream (callA T fs k) [some v0, none, none] h) := call_eq (by rfl) rfl (sh_law_stream _)
theorem sh_law_draw (cf : CF) : bodyM T cf d_law_draw = s_law_draw cf := by kernel_rfl
theorem c_law_draw (k : Nat) (v0 v1 : AV) (h : AH) : callA T fs (k + 1) "_law_draw" [v0, v1] h = runR (s_law_draw (callA T fs k) [some v0, some v1, none] h) := call_eq (by rfl) rfl (sh_law_draw _)
def s_law_word (cf : CF) : SM := (seqS (bdS (lstM [(ret (.int (0))), (ret (.int (1))), (bd (ret (.int (1))) negA), (ret (.int (2))), (ret (.int (5))), (ret (.int (31))), (ret (.int (32))), (ret (.int (33))), (bd (ret (.int (32))) negA), (bd (bd (ret (.int (2))) fun x3 => bd (ret (.int (31))) fun y4 => powA x3 y4) fun x1 => bd (ret (.int (1))) fun y2 => subA x1 y2), (bd (bd (ret (.int (2))) fun x5 => bd (ret (.int (31))) fun y6 => powA x5 y6) negA), (bd (bd (ret (.int (2))) fun x9 => bd (ret (.int (31))) fun y10 => powA x9 y10) fun x7 => bd (ret (.int (2))) fun y8 => subA x7 y8), (bd (ret (.int (1))) fun x11 => bd (bd (ret (.int (2))) fun x13 => bd (ret (.int (31))) fun y14 => powA x13 y14) fun y12 => subA x11 y12), (ret (.int (65535))), (ret (.int (65536))), (bd (ret (.int (65536))) negA)]) (setS 1))
  (seqS (ifS (bd (bd (callM cf "_law_draw" (evsM [(slotM 0), (ret (.int (3)))])) fun x15 => bd (ret (.int (0))) fun y16 => eqA x15 y16) asBool) (seqS (bdS (bd (callM cf "_law_draw" (evsM [(slotM 0), (bd (ret (.int (2))) fun x19 => bd (ret (.int (32))) fun y20 => powA x19 y20)])) fun x17 => bd (bd (ret (.int (2))) fun x21 => bd (ret (.int (31))) fun y22 => powA x21 y22) fun y18 => subA x17 y18) retS)
    skipS) skipS)
  (seqS (bdS (bd (slotM 1) fun x23 => bd (callM cf "_law_draw" (evsM [(slotM 0), (bd (evsM [(slotM 1)]) lenA)])) fun y24 => idxA x23 y24) retS)
  skipS)))
theorem sh_law_word (cf : CF) : bodyM T cf d_law_word = s_law_word cf := by kernel_rfl
theorem c_law_word (k : Nat) (v0 : AV) (h : AH) : callA T fs (k + 1) "_law_word" [v0] h = runR (s_law_word (callA T fs k) [some v0, none] h) := call_eq (by rfl) rfl (sh_law_word _)
def s_law_wrapped (cf : CF) : SM := (seqS (bdS (bd (bd (evsM [(slotM 0)]) intA) fun x1 => bd (ret (.int (4294967296))) fun y2 => modA x1 y2) (setS 0))
  (seqS (bdS (bd (slotM 0) fun x3 => bd (bd (ret (.int (4294967296))) fun x5 => bd (bd (evsM [(bd (slotM 0) fun x7 => bd (ret (.int (2147483647))) fun y8 => gtA x7 y8)]) intA) fun y6 => mulA x5 y6) fun y4 => subA x3 y4) retS)
  skipS))
theorem sh_law_wrapped (cf : CF) : bodyM T cf d_law_wrapped = s_law_wrapped cf := by kernel_rfl
theorem c_law_wrapped (k : Nat) (v0 : AV) (h : AH) : callA T fs (k + 1) "_law_wrapped" [v0] h = runR (s_law_wrapped (callA T fs k) [some v0] h) := call_eq (by rfl) rfl (sh_law_wrapped _)
def s_law_bits (cf : CF) : SM := (seqS (bdS (bd (bd (evsM [(slotM 1)]) intA) fun x1 => bd (ret (.int (4294967296))) fun y2 => modA x1 y2) (setS 1))
  (seqS (bdS (bd (bd (evsM [(slotM 2)]) intA) fun x3 => bd (ret (.int (4294967296))) fun y4 => modA x3 y4) (setS 2))
  (seqS (bdS (ret (.int (0))) (setS 3))
  (seqS (bdS (ret (.int (1))) (setS 4))
  (seqS (forS (bd (ret (.int (32))) rangeI1) (patS (.nm 5)) (seqS (bdS (bd (bd (evsM [(slotM 1)]) intA) fun x5 => bd (ret (.int (2))) fun y6 => modA x5 y6) (setS 6))
    (seqS (bdS (bd (bd (evsM [(slotM 2)]) intA) fun x7 => bd (ret (.int (2))) fun y8 => modA x7 y8) (setS 7))
    (seqS (bdS (bd (dctM [((ret (.str "and")), (bd (slotM 6) fun x11 => bd (slotM 7) fun y12 => mulA x11 y12)), ((ret (.str "or")), (bd (evsM [(slotM 6), (slotM 7)]) maxA)), ((ret (.str "xor")), (bd (evsM [(bd (slotM 6) fun x13 => bd (slotM 7) fun y14 => neA x13 y14)]) intA))]) fun x9 => bd (slotM 0) fun y10 => idxA x9 y10) (setS 8))
    (seqS (bdS (bd (slotM 3) fun x15 => bd (bd (slotM 4) fun x17 => bd (slotM 8) fun y18 => mulA x17 y18) fun y16 => addA x15 y16) (setS 3))
    (seqS (bdS (bd (slotM 4) fun x19 => bd (ret (.int (2))) fun y20 => mulA x19 y20) (setS 4))
    (seqS (bdS (bd (slotM 1) fun x21 => bd (ret (.int (2))) fun y22 => fdivA x21 y22) (setS 1))
    (seqS (bdS (bd (slotM 2) fun x23 => bd (ret (.int (2))) fun y24 => fdivA x23 y24) (setS 2))
    skipS))))))))
  (seqS (bdS (slotM 3) retS)
  skipS))))))
theorem sh_law_bits (cf : CF) : bodyM T cf d_law_bits = s_law_bits cf := by kernel_rfl
theorem c_law_bits (k : Nat) (v0 v1 v2 : AV) (h : AH) : callA T fs (k + 1) "_law_bits" [v0, v1, v2] h = runR (s_law_bits (callA T fs k) [some v0, some v1, some v2, none, none, none, none, none, none] h) := call_eq (by rfl) rfl (sh_law_bits _)
def s_law_shifted (cf : CF) : SM := (seqS (forS (bd (bd (bd (evsM [(slotM 2)]) intA) fun x1 => bd (ret (.int (32))) fun y2 => modA x1 y2) rangeI1) (patS (.nm 3)) (seqS (ifS (bd (bd (slotM 0) fun x3 => bd (ret (.str "shl")) fun y4 => eqA x3 y4) asBool) (seqS (bdS (bd (slotM 1) fun x5 => bd (ret (.int (2))) fun y6 => mulA x5 y6) (setS 1))
      skipS) (seqS (bdS (bd (slotM 1) fun x7 => bd (ret (.int (2))) fun y8 => fdivA x7 y8) (setS 1))
      skipS))
    skipS))
  (seqS (bdS (slotM 1) retS)
  skipS))
theorem sh_law_shifted (cf : CF) : bodyM T cf d_law_shifted = s_law_shifted cf := by kernel_rfl
theorem c_law_shifted (k : Nat) (v0 v1 v2 : AV) (h : AH) : callA T fs (k + 1) "_law_shifted" [v0, v1, v2] h = runR (s_law_shifted (callA T fs k) [some v0, some v1, some v2, none] h) := call_eq (by rfl) rfl (sh_law_shifted _)
def s_law_binary (cf : CF) : SM := (seqS (ifS (bd (bd (slotM 0) fun x1 => bd (tupM [(ret (.str "div")), (ret (.str "rem"))]) fun y2 => inA x1 y2) asBool) (seqS (ifS (bd (bd (slotM 2) fun x3 => bd (ret (.int (0))) fun y4 => eqA x3 y4) asBool) (seqS (bdS (ret (.int (0))) retS)
      skipS) skipS)
    (seqS (bdS (bd (bd (evsM [(slotM 1)]) absA) fun x5 => bd (bd (evsM [(slotM 2)]) absA) fun y6 => fdivA x5 y6) (setS 4))
    (seqS (ifS (bd (bd (bd (slotM 1) fun x9 => bd (slotM 2) fun y10 => mulA x9 y10) fun x7 => bd (ret (.int (0))) fun y8 => ltA x7 y8) asBool) (seqS (bdS (bd (ret (.int (0))) fun x11 => bd (slotM 4) fun y12 => subA x11 y12) (setS 4))
      skipS) skipS)
    (seqS (ifS (bd (bd (slotM 0) fun x13 => bd (ret (.str "rem")) fun y14 => eqA x13 y14) asBool) (seqS (bdS (bd (slotM 1) fun x15 => bd (bd (slotM 4) fun x17 => bd (slotM 2) fun y18 => mulA x17 y18) fun y16 => subA x15 y16) (setS 4))
      skipS) skipS)
    (seqS (bdS (callM cf "_law_wrapped" (evsM [(slotM 4)])) retS)
    skipS))))) skipS)
  (seqS (ifS (bd (bd (slotM 0) fun x19 => bd (tupM [(ret (.str "and")), (ret (.str "or")), (ret (.str "xor"))]) fun y20 => inA x19 y20) asBool) (seqS (bdS (callM cf "_law_wrapped" (evsM [(callM cf "_law_bits" (evsM [(slotM 0), (slotM 1), (slotM 2)]))])) retS)
    skipS) skipS)
  (seqS (ifS (bd (bd (slotM 0) fun x21 => bd (tupM [(ret (.str "shl")), (ret (.str "shr"))]) fun y22 => inA x21 y22) asBool) (seqS (bdS (callM cf "_law_wrapped" (evsM [(callM cf "_law_shifted" (evsM [(slotM 0), (slotM 1), (slotM 2)]))])) retS)
    skipS) skipS)
  (seqS (bdS (dctM [((ret (.str "add")), (bd (slotM 1) fun x23 => bd (slotM 2) fun y24 => addA x23 y24)), ((ret (.str "sub")), (bd (slotM 1) fun x25 => bd (slotM 2) fun y26 => subA x25 y26)), ((ret (.str "mul")), (bd (slotM 1) fun x27 => bd (slotM 2) fun y28 => mulA x27 y28)), ((ret (.str "lt")), (bd (evsM [(bd (slotM 1) fun x29 => bd (slotM 2) fun y30 => ltA x29 y30)]) intA)), ((ret (.str "le")), (bd (evsM [(bd (slotM 1) fun x31 => bd (slotM 2) fun y32 => leA x31 y32)]) intA)), ((ret (.str "eq")), (bd (evsM [(bd (slotM 1) fun x33 => bd (slotM 2) fun y34 => eqA x33 y34)]) intA))]) (setS 3))
  (seqS (asgS (bd (evsM [(bd (slotM 1) fun x35 => bd (slotM 2) fun y36 => neA x35 y36)]) intA) (subG (slotM 3) (ret (.str "ne"))))
  (seqS (asgS (bd (evsM [(slotM 1), (slotM 2)]) minA) (subG (slotM 3) (ret (.str "min"))))
  (seqS (asgS (bd (evsM [(slotM 1), (slotM 2)]) maxA) (subG (slotM 3) (ret (.str "max"))))
  (seqS (bdS (callM cf "_law_wrapped" (evsM [(bd (slotM 3) fun x37 => bd (slotM 0) fun y38 => idxA x37 y38)])) retS)
  skipS))))))))
theorem sh_law_binary (cf : CF) : bodyM T cf d_law_binary = s_law_binary cf := by kernel_rfl
theorem c_law_binary (k : Nat) (v0 v1 v2 : AV) (h : AH) : callA T fs (k + 1) "_law_binary" [v0, v1, v2] h = runR (s_law_binary (callA T fs k) [some v0, some v1, some v2, none, none] h) := call_eq (by rfl) rfl (sh_law_binary _)
def s_law_unary (cf : CF) : SM := (seqS (ifS (bd (bd (slotM 0) fun x1 => bd (ret (.str "zero")) fun y2 => eqA x1 y2) asBool) (seqS (bdS (bd (evsM [(bd (slotM 1) fun x3 => bd (ret (.int (0))) fun y4 => eqA x3 y4)]) intA) retS)
    skipS) skipS)
  (seqS (bdS (callM cf "_law_wrapped" (evsM [(bd (dctM [((ret (.str "neg")), (bd (ret (.int (0))) fun x7 => bd (slotM 1) fun y8 => subA x7 y8)), ((ret (.str "not")), (bd (bd (ret (.int (0))) fun x11 => bd (slotM 1) fun y12 => subA x11 y12) fun x9 => bd (ret (.int (1))) fun y10 => subA x9 y10))]) fun x5 => bd (slotM 0) fun y6 => idxA x5 y6)])) retS)
  skipS))
theorem sh_law_unary (cf : CF) : bodyM T cf d_law_unary = s_law_unary cf := by kernel_rfl
theorem c_law_unary (k : Nat) (v0 v1 : AV) (h : AH) : callA T fs (k + 1) "_law_unary" [v0, v1] h = runR (s_law_unary (callA T fs k) [some v0, some v1] h) := call_eq (by rfl) rfl (sh_law_unary _)
def s_law_1 (cf : CF) : SM := (bdS (callM cf "_law_stream" (evsM [(slotM 0)])) (setS 1))
def s_law_2 (cf : CF) : SM := (bdS (bd (bd (bd (callM cf "_law_draw" (evsM [(slotM 1), (bd (ret (.int (2))) fun x7 => bd (ret (.int (60))) fun y8 => powA x7 y8)])) fun x5 => bd (ret (.int (1024))) fun y6 => mulA x5 y6) fun x3 => bd (bd (bd (ret (.int (2))) fun x11 => bd (ret (.int (60))) fun y12 => powA x11 y12) fun x9 => bd (ret (.int (512))) fun y10 => mulA x9 y10) fun y4 => subA x3 y4) fun x1 => bd (callM cf "_law_draw" (evsM [(slotM 1), (ret (.int (1024)))])) fun y2 => addA x1 y2) (setS 2))
def s_law_4 (cf : CF) : SM := (bdS (bd (bd (bd (bd (ret (.int (2))) fun x21 => bd (ret (.int (31))) fun y22 => powA x21 y22) fun x19 => bd (bd (callM cf "_law_draw" (evsM [(slotM 1), (ret (.int (9)))])) fun x23 => bd (ret (.int (4))) fun y24 => subA x23 y24) fun y20 => mulA x19 y20) fun x17 => bd (callM cf "_law_draw" (evsM [(slotM 1), (ret (.int (5)))])) fun y18 => addA x17 y18) fun x15 => bd (ret (.int (2))) fun y16 => subA x15 y16) (setS 2))
def s_law_3 (cf : CF) : SM := (ifS (bd (bd (callM cf "_law_draw" (evsM [(slotM 1), (ret (.int (2)))])) fun x13 => bd (ret (.int (0))) fun y14 => eqA x13 y14) asBool) (seqS (s_law_4 cf)
    skipS) skipS)
def s_law_6 (cf : CF) : SM := (bdS (bd (bd (bd (slotM 2) fun x31 => bd (bd (ret (.int (2))) fun x33 => bd (ret (.int (40))) fun y34 => powA x33 y34) fun y32 => mulA x31 y32) fun x29 => bd (bd (ret (.int (2))) fun x35 => bd (ret (.int (40))) fun y36 => powA x35 y36) fun y30 => mulA x29 y30) fun x27 => bd (callM cf "_law_draw" (evsM [(slotM 1), (bd (ret (.int (2))) fun x37 => bd (ret (.int (33))) fun y38 => powA x37 y38)])) fun y28 => addA x27 y28) (setS 2))
def s_law_5 (cf : CF) : SM := (ifS (bd (bd (callM cf "_law_draw" (evsM [(slotM 1), (ret (.int (3)))])) fun x25 => bd (ret (.int (0))) fun y26 => eqA x25 y26) asBool) (seqS (s_law_6 cf)
    skipS) skipS)
def s_law_8 (cf : CF) : SM := (bdS (ret (.bl false)) retS)
def s_law_7 (cf : CF) : SM := (ifS (orT [(bd (bd (callM cf "wrapped" (evsM [(slotM 2)])) fun x39 => bd (callM cf "_law_wrapped" (evsM [(slotM 2)])) fun y40 => neA x39 y40) asBool), (bd (bd (ret (.tup [.str "add", .str "min", .str "max", .str "and", .str "or", .str "xor"])) fun x41 => bd (tupM [(ret (.str "add")), (ret (.str "min")), (ret (.str "max")), (ret (.str "and")), (ret (.str "or")), (ret (.str "xor"))]) fun y42 => neA x41 y42) asBool)]) (seqS (s_law_8 cf)
    skipS) skipS)
def s_law_9 (cf : CF) : SM := (bdS (compM (bd (callM cf "_law_draw" (evsM [(slotM 1), (ret (.int (9)))])) rangeI1) (.nm 5) [5] (ret true) (callM cf "_law_word" (evsM [(slotM 1)]))) (setS 3))
def s_law_10 (cf : CF) : SM := (bdS (bd (evsM [(slotM 3)]) listA) (setS 4))
def s_law_12 (cf : CF) : SM := (bdS (callM cf "_law_draw" (evsM [(slotM 1), (bd (evsM [(slotM 4)]) lenA)])) (setS 7))
def s_law_13 (cf : CF) : SM := (asgS (tupM [(bd (slotM 4) fun x43 => bd (slotM 7) fun y44 => idxA x43 y44), (bd (slotM 4) fun x45 => bd (slotM 5) fun y46 => idxA x45 y46)]) (fun v => match v with | .tup vs => if vs.length = 2 then gsM [(subG (slotM 4) (slotM 5)), (subG (slotM 4) (slotM 7))] vs else badS | _ => badS))
def s_law_11 (cf : CF) : SM := (forS (bd (bd (evsM [(slotM 4)]) lenA) rangeI1) (patS (.nm 5)) (seqS (s_law_12 cf)
    (seqS (s_law_13 cf)
    skipS)))
def s_law_15 (cf : CF) : SM := (bdS (bd (dctM [((ret (.str "add")), (ret (.int (0)))), ((ret (.str "min")), (bd (bd (ret (.int (2))) fun x51 => bd (ret (.int (31))) fun y52 => powA x51 y52) fun x49 => bd (ret (.int (1))) fun y50 => subA x49 y50)), ((ret (.str "max")), (bd (bd (ret (.int (2))) fun x53 => bd (ret (.int (31))) fun y54 => powA x53 y54) negA)), ((ret (.str "and")), (bd (ret (.int (1))) negA)), ((ret (.str "or")), (ret (.int (0)))), ((ret (.str "xor")), (ret (.int (0))))]) fun x47 => bd (slotM 6) fun y48 => idxA x47 y48) (setS 8))
def s_law_16 (cf : CF) : SM := (bdS (slotM 8) (setS 9))
def s_law_18 (cf : CF) : SM := (bdS (callM cf "_law_binary" (evsM [(slotM 6), (slotM 9), (slotM 10)])) (setS 9))
def s_law_17 (cf : CF) : SM := (forS (bd (slotM 3) itOf) (patS (.nm 10)) (seqS (s_law_18 cf)
      skipS))
def s_law_19 (cf : CF) : SM := (bdS (bd (evsM [(slotM 3)]) listA) (setS 11))
def s_law_21 (cf : CF) : SM := (bdS (ret (.bl false)) retS)
def s_law_20 (cf : CF) : SM := (ifS (orT [(bd (bd (callM cf "neutral" (evsM [(slotM 6)])) fun x55 => bd (slotM 8) fun y56 => neA x55 y56) asBool), (bd (bd (callM cf "fold" (evsM [(slotM 6), (slotM 11)])) fun x57 => bd (slotM 9) fun y58 => neA x57 y58) asBool), (bd (bd (slotM 11) fun x59 => bd (slotM 3) fun y60 => neA x59 y60) asBool), (bd (bd (callM cf "fold" (evsM [(slotM 6), (bd (evsM [(slotM 4)]) listA)])) fun x61 => bd (slotM 9) fun y62 => neA x61 y62) asBool)]) (seqS (s_law_21 cf)
      skipS) skipS)
def s_law_23 (cf : CF) : SM := (bdS (ret (.bl false)) retS)
def s_law_22 (cf : CF) : SM := (ifS (bd (bd (evsM [(compM (bd (slotM 3) itOf) (.nm 10) [10] (ret true) (orV [(bd (callM cf "binary" (evsM [(slotM 6), (slotM 10), (slotM 8)])) fun x63 => bd (slotM 10) fun y64 => neA x63 y64), (bd (callM cf "binary" (evsM [(slotM 6), (slotM 8), (slotM 10)])) fun x65 => bd (slotM 10) fun y66 => neA x65 y66)]))]) anyA) truA) (seqS (s_law_23 cf)
      skipS) skipS)
def s_law_14 (cf : CF) : SM := (forS (bd (ret (.tup [.str "add", .str "min", .str "max", .str "and", .str "or", .str "xor"])) itOf) (patS (.nm 6)) (seqS (s_law_15 cf)
    (seqS (s_law_16 cf)
    (seqS (s_law_17 cf)
    (seqS (s_law_19 cf)
    (seqS (s_law_20 cf)
    (seqS (s_law_22 cf)
    skipS)))))))
def s_law_24 (cf : CF) : SM := (bdS (ret (.bl true)) retS)
def s_law (cf : CF) : SM := (seqS (s_law_1 cf)
  (seqS (s_law_2 cf)
  (seqS (s_law_3 cf)
  (seqS (s_law_5 cf)
  (seqS (s_law_7 cf)
  (seqS (s_law_9 cf)
  (seqS (s_law_10 cf)
  (seqS (s_law_11 cf)
  (seqS (s_law_14 cf)
  (seqS (s_law_24 cf)
  skipS))))))))))
theorem sh_law (cf : CF) : bodyM T cf d_law = s_law cf := by kernel_rfl
theorem c_law (k : Nat) (v0 : AV) (h : AH) : callA T fs (k + 1) "law" [v0] h = runR (s_law (callA T fs k) [some v0, none, none, none, none, none, none, none, none, none, none, none] h) := call_eq (by rfl) rfl (sh_law _)
end K02
namespace Ev
open PySem PySem.Spec PyProof.Rows L2
/-! ### words of 32 bits -/
def wrapI (n : Int) : Int := if 2147483647 < n % 4294967296 then n % 4294967296 - 4294967296 else n % 4294967296
abbrev Wd := BitVec 32
theorem wrapI_eq (n : Int) : wrapI n = (BitVec.ofInt 32 n).toInt := by
  rw [BitVec.toInt_ofInt]
  unfold wrapI Int.bmod
  simp only [Nat.reducePow, Int.reduceAdd, Int.reduceDiv]
  split <;> split <;> omega
theorem wd_lo (w : Wd) : -2147483648 ≤ w.toInt := by have := BitVec.le_toInt w; simpa using this
theorem wd_hi (w : Wd) : w.toInt < 2147483648 := by have := BitVec.toInt_lt (x := w); simpa using this
theorem wrapI_wd (w : Wd) : wrapI w.toInt = w.toInt := by rw [wrapI_eq, BitVec.ofInt_toInt]
theorem wd_of {n : Int} (h1 : -2147483648 ≤ n) (h2 : n < 2147483648) : (BitVec.ofInt 32 n).toInt = n := by
  rw [← wrapI_eq]
  unfold wrapI
  split <;> omega
theorem wd_inj {a b : Wd} (h : a.toInt = b.toInt) : a = b := BitVec.eq_of_toInt_eq h
theorem toInt_disj {x y : Wd} (h : x &&& y = 0#32) : (x + y).toInt = x.toInt + y.toInt := by
  have e := BitVec.toNat_add_of_and_eq_zero h
  have m : ¬ (x.msb = true ∧ y.msb = true) := by
    rintro ⟨a, b⟩
    have : (x &&& y).msb = true := by rw [BitVec.msb_and, a, b]; rfl
    rw [h] at this
    cases this
  rw [BitVec.toInt_eq_toNat_cond, BitVec.toInt_eq_toNat_cond, BitVec.toInt_eq_toNat_cond, e]
  have l1 : x.msb = decide (2 ^ 31 ≤ x.toNat) := by rw [BitVec.msb_eq_decide]
  have l2 : y.msb = decide (2 ^ 31 ≤ y.toNat) := by rw [BitVec.msb_eq_decide]
  have l3 := (x + y).isLt
  have l4 : (x + y).msb = decide (2 ^ 31 ≤ (x + y).toNat) := by rw [BitVec.msb_eq_decide]
  have l5 : (x + y).msb = (x.msb || y.msb) := by rw [BitVec.add_eq_or_of_and_eq_zero _ _ h, BitVec.msb_or]
  rw [l4, l1, l2] at l5
  have l6 : (2 ^ 31 ≤ (x + y).toNat) ↔ (2 ^ 31 ≤ x.toNat ∨ 2 ^ 31 ≤ y.toNat) := by
    rw [← Bool.decide_or] at l5
    exact decide_eq_decide.mp l5
  rw [l1, l2] at m
  simp only [decide_eq_true_eq, Nat.reducePow] at m l3 l6 ⊢
  rw [e] at l3 l6
  split <;> split <;> split <;> omega
theorem bn_wd (x : Wd) : Builtin.bitNot x.toInt = (~~~x).toInt := by
  unfold Builtin.bitNot
  rw [BitVec.toInt_not]
  have a := wd_lo x
  have b := wd_hi x
  have l := x.isLt
  rw [BitVec.toInt_eq_toNat_cond] at a b ⊢
  simp only [Nat.reducePow] at l ⊢
  unfold Int.bmod
  simp only [Nat.reducePow, Int.reduceAdd, Int.reduceDiv]
  split <;> split <;> omega
theorem wd_nn {x : Wd} (h : 0 ≤ x.toInt) : x.toInt = x.toNat ∧ x.msb = false := by
  have l := x.isLt
  rw [BitVec.msb_eq_decide]
  rw [BitVec.toInt_eq_toNat_cond] at h ⊢
  simp only [Nat.reducePow] at l h ⊢
  split
  · rename_i c
    exact ⟨rfl, by simp; omega⟩
  · rename_i c
    rw [if_neg c] at h
    omega
theorem band_wd (x y : Wd) : Builtin.bitAnd x.toInt y.toInt = (x &&& y).toInt := by
  have nn : ∀ {z : Wd}, z.msb = false → z.toInt = z.toNat := fun {z} h => BitVec.toInt_eq_toNat_of_msb h
  have part : ∀ (x y : Wd), (x &&& y).toInt = x.toInt - (x &&& ~~~y).toInt := fun x y => by
    have d : (x &&& y) &&& (x &&& ~~~y) = 0#32 := by
      ext i
      simp
      intros
      assumption
    have s : (x &&& y) + (x &&& ~~~y) = x := by
      rw [BitVec.add_eq_or_of_and_eq_zero _ _ d]
      ext i hi
      simp
      cases x[i] <;> cases y[i] <;> rfl
    have t := toInt_disj d
    rw [s] at t
    omega
  have neg : ∀ {x : Wd}, ¬ 0 ≤ x.toInt → 0 ≤ (~~~x).toInt := fun {x} h => by
    rw [← bn_wd]
    unfold Builtin.bitNot
    omega
  unfold Builtin.bitAnd
  by_cases hx : 0 ≤ x.toInt <;> by_cases hy : 0 ≤ y.toInt
  · rw [decide_eq_true hx, decide_eq_true hy]
    have m : (x &&& y).msb = false := by rw [BitVec.msb_and, (wd_nn hx).2]; rfl
    dsimp only
    rw [nn m, (wd_nn hx).1, (wd_nn hy).1, BitVec.toNat_and]
    rfl
  · rw [decide_eq_true hx, decide_eq_false hy]
    have m : (x &&& ~~~y).msb = false := by rw [BitVec.msb_and, (wd_nn hx).2]; rfl
    dsimp only
    rw [part, nn m, bn_wd, (wd_nn (neg hy)).1, BitVec.toNat_and, (wd_nn hx).1]
    rfl
  · rw [decide_eq_false hx, decide_eq_true hy]
    have m : (y &&& ~~~x).msb = false := by rw [BitVec.msb_and, (wd_nn hy).2]; rfl
    dsimp only
    rw [BitVec.and_comm, part, nn m, bn_wd, (wd_nn (neg hx)).1, BitVec.toNat_and, (wd_nn hy).1]
    rfl
  · rw [decide_eq_false hx, decide_eq_false hy]
    have e : x &&& y = ~~~(~~~x ||| ~~~y) := by
      ext i hi
      simp
    have m : (~~~x ||| ~~~y).msb = false := by rw [BitVec.msb_or, (wd_nn (neg hx)).2, (wd_nn (neg hy)).2]; rfl
    dsimp only
    rw [e, ← bn_wd, nn m, bn_wd, bn_wd, (wd_nn (neg hx)).1, (wd_nn (neg hy)).1, BitVec.toNat_or]
    rfl
theorem bor_wd (x y : Wd) : Builtin.bitOr x.toInt y.toInt = (x ||| y).toInt := by
  show Builtin.bitNot (Builtin.bitAnd (Builtin.bitNot x.toInt) (Builtin.bitNot y.toInt)) = _
  rw [bn_wd, bn_wd, band_wd, bn_wd]
  congr 1
  ext i hi
  simp
theorem bxor_wd (x y : Wd) : Builtin.bitXor x.toInt y.toInt = (x ^^^ y).toInt := by
  show Builtin.bitOr x.toInt y.toInt - Builtin.bitAnd x.toInt y.toInt = _
  rw [bor_wd, band_wd]
  have d : (x &&& y) &&& (x ^^^ y) = 0#32 := by
    ext i hi
    simp
    cases x[i] <;> cases y[i] <;> simp
  have s : (x &&& y) + (x ^^^ y) = x ||| y := by
    rw [BitVec.add_eq_or_of_and_eq_zero _ _ d]
    ext i hi
    simp
    cases x[i] <;> cases y[i] <;> rfl
  have t := toInt_disj d
  rw [s] at t
  omega
/-- bit by bit -/
theorem bits_step {f : Nat → Nat → Nat} {g : Bool → Bool → Bool} (hf : ∀ a b i, (f a b).testBit i = g (a.testBit i) (b.testBit i)) (a b i : Nat) : f a b % 2 ^ (i + 1) = f a b % 2 ^ i + 2 ^ i * (g (decide (a / 2 ^ i % 2 = 1)) (decide (b / 2 ^ i % 2 = 1))).toNat := by
  rw [Nat.mod_pow_succ]
  congr 2
  have h := hf a b i
  rw [Nat.testBit_eq_decide_div_mod_eq, Nat.testBit_eq_decide_div_mod_eq, Nat.testBit_eq_decide_div_mod_eq] at h
  rw [← h]
  have : f a b / 2 ^ i % 2 < 2 := Nat.mod_lt _ (by decide)
  by_cases e : f a b / 2 ^ i % 2 = 1
  · rw [e]; rfl
  · have : f a b / 2 ^ i % 2 = 0 := by omega
    rw [this]; rfl
/-- the six operators of folding -/
def fops : List (String × (Wd → Wd → Wd) × Wd) := [("add", (· + ·), 0#32), ("min", (fun x y => if y.toInt < x.toInt then y else x), 2147483647#32), ("max", (fun x y => if y.toInt > x.toInt then y else x), 2147483648#32), ("and", (· &&& ·), 4294967295#32), ("or", (· ||| ·), 0#32), ("xor", (· ^^^ ·), 0#32)]
theorem fops_laws : ∀ o ∈ fops, (∀ a b, o.2.1 a b = o.2.1 b a) ∧ (∀ a b c, o.2.1 (o.2.1 a b) c = o.2.1 a (o.2.1 b c)) ∧ ∀ a, o.2.1 a o.2.2 = a := by
  have cases6 : ∀ (P : String × (Wd → Wd → Wd) × Wd → Prop), P ("add", (· + ·), 0#32) → P ("min", (fun x y => if y.toInt < x.toInt then y else x), 2147483647#32) → P ("max", (fun x y => if y.toInt > x.toInt then y else x), 2147483648#32) → P ("and", (· &&& ·), 4294967295#32) → P ("or", (· ||| ·), 0#32) → P ("xor", (· ^^^ ·), 0#32) → ∀ o ∈ fops, P o := by
    intro P h1 h2 h3 h4 h5 h6 o h
    unfold fops at h
    simp only [List.mem_cons, List.not_mem_nil, or_false] at h
    rcases h with rfl | rfl | rfl | rfl | rfl | rfl <;> assumption
  refine cases6 _ ⟨BitVec.add_comm, BitVec.add_assoc, BitVec.add_zero⟩ ⟨?_, ?_, ?_⟩ ⟨?_, ?_, ?_⟩ ⟨BitVec.and_comm, BitVec.and_assoc, ?_⟩ ⟨BitVec.or_comm, BitVec.or_assoc, fun a => BitVec.or_zero⟩ ⟨BitVec.xor_comm, BitVec.xor_assoc, fun a => BitVec.xor_zero⟩
  · intro a b
    dsimp only
    split <;> split <;> first | rfl | (apply wd_inj; omega) | omega
  · intro a b c
    dsimp only
    repeat' split
    all_goals first | rfl | omega | (apply wd_inj; omega)
  · intro a
    have := wd_hi a
    have e : (2147483647#32 : Wd).toInt = 2147483647 := by decide
    dsimp only
    rw [e]
    split
    · apply wd_inj; omega
    · rfl
  · intro a b
    dsimp only
    split <;> split <;> first | rfl | (apply wd_inj; omega) | omega
  · intro a b c
    dsimp only
    repeat' split
    all_goals first | rfl | omega | (apply wd_inj; omega)
  · intro a
    have := wd_lo a
    have e : (2147483648#32 : Wd).toInt = -2147483648 := by decide
    dsimp only
    rw [e]
    split
    · apply wd_inj; omega
    · rfl
  · intro a
    have : (4294967295#32 : Wd) = BitVec.allOnes 32 := by decide
    dsimp only
    rw [this, BitVec.and_allOnes]
theorem fold_perm {o : String × (Wd → Wd → Wd) × Wd} (h : o ∈ fops) {l m : List Wd} (p : l.Perm m) : ∀ e, l.foldl o.2.1 e = m.foldl o.2.1 e := by
  obtain ⟨c, a, _⟩ := fops_laws o h
  intro e
  exact p.foldl_eq' (fun x _ y _ z => by rw [a, a, c x y]) e
theorem swap_perm {l : List Wd} {i j : Nat} (h1 : i < l.length) (h2 : j < l.length) : ((l.set i l[j]).set j l[i]).Perm l := List.set_set_perm h1 h2
end Ev
namespace K02
open PySem PySem.Spec PyProof.Rows L2 Ev
theorem wrapped_ok (k : Nat) (n : Int) (h : AH) : callA T fs (k + 1) "wrapped" [.int n] h = .ok (.int (wrapI n)) h := by
  rw [c_wrapped]
  unfold s_wrapped wrapI
  simp only [seqS_eq, bdS_eq, bd_eq, ifS_eq, thn_nx, thn_rt, thn_bk, thn_ct, thn_exc, thn_bad, thS_ok, thS_exc, thS_bad, thE_ok, thE_exc, thE_bad, thIf_ok, thIf_exc, thIf_bad, ret_eq, setS_eq, retS_eq, skipS_eq, alloc_eq, callM_eq, evs_nil, evs_cons, asBool_bl, tru_bl, tru_int, tru_non, tru_tup, runR_nx, runR_rt, runR_exc, runR_bad, runR_ite, thn_ite, thS_ite, thE_ite, ite_app2, ite_app2S, add_ii, sub_ii, mul_ii, fdiv_ii, mod_ii, pow_ii, shl_ii, shr_ii, band_ii, bor_ii, bxor_ii, neg_i, lt_ii, le_ii, gt_ii, ge_ii, eq_ii, eq_ss, eq_bb, ne_ii, ne_ss, ne_bb, isN_non, isN_int, isN_tup, isN_ref, isN_str, int_i, int_b, abs_i, max_ii, min_ii, slotM, idx_r, idx_t, idxO_lst, idxO_fro, atO_some, stIx_r, len_r, lenO_lst, lenO_fro, list_r, listO_lst, listO_fro, andT_one, andT_two, orT_one, orT_two, andV_one, andV_two, orV_one, orV_two, asg_eq, subG_eq, onlyNx_eq, nxo_nx, lst_eq, tup_eq, pat_nm, forS_eq, okS_nx, okS_rt, okS_bk, okS_ct, okS_exc, okE_oke, List.getElem?_cons_zero, List.getElem?_cons_succ, List.set_cons_zero, List.set_cons_succ, ofString_inj, decide_eq_true_eq, Bool.not_eq_true', decide_eq_false_iff_not, reduceIte, if_true, if_false, Int.reduceLT, Int.reduceLE, Int.reduceEq, Int.reduceNe, decide_true, decide_false, Bool.false_eq_true, String.reduceEq, Bool.not_true, Bool.not_false, idxO_dct, stIxO_dct, keyV_str, keyV_int, isKd_nil, isKd_cons, dLook_nil, dLook_cons, dct_eq, dctO_ok, prs_nil, prs_cons, get_new, set_new, dPut, dHas, List.any_cons, List.any_nil, List.all_cons, List.all_nil, List.foldl_cons, List.foldl_nil, List.map_cons, List.map_nil, List.cons_append, List.nil_append, Option.some.injEq, Sum.inr.injEq, Sum.inl.injEq, Option.isSome_some, Bool.or_false, Bool.false_or, Bool.or_true, Bool.true_or, Bool.and_true, Bool.true_and, Bool.and_self, List.length_cons, List.length_nil, sizeLine_eq, Nat.reduceAdd, Nat.reduceLeDiff, Nat.reduceLT, and_self, and_true, true_and, Bool.or_self, Bool.and_false, Bool.false_and, reduceCtorEq, in_tup, memFlat_nil, memFlat_cons, eqFlat_ss, eqFlat_ii, flatA_str, flatA_int, cpow2, comp_eq, gs_nil, gs_cons, Nat.reducePow, Int.reduceToNat, Int.reducePow, Int.reduceSub, Int.reduceNeg, Int.reduceAdd, Int.reduceMul]
  split <;> rfl
theorem lwrapped_ok (k : Nat) (n : Int) (h : AH) : callA T fs (k + 1) "_law_wrapped" [.int n] h = .ok (.int (wrapI n)) h := by
  rw [c_law_wrapped]
  unfold s_law_wrapped wrapI
  have c1 : CMulW 4294967296 1 := CMulW_small (by decide) (by decide)
  have c0 : CMulW 4294967296 0 := CMulW_small (by decide) (by decide)
  by_cases e : 2147483647 < n % 4294967296
  · simp only [seqS_eq, bdS_eq, bd_eq, ifS_eq, thn_nx, thn_rt, thn_bk, thn_ct, thn_exc, thn_bad, thS_ok, thS_exc, thS_bad, thE_ok, thE_exc, thE_bad, thIf_ok, thIf_exc, thIf_bad, ret_eq, setS_eq, retS_eq, skipS_eq, alloc_eq, callM_eq, evs_nil, evs_cons, asBool_bl, tru_bl, tru_int, tru_non, tru_tup, runR_nx, runR_rt, runR_exc, runR_bad, runR_ite, thn_ite, thS_ite, thE_ite, ite_app2, ite_app2S, add_ii, sub_ii, mul_ii, fdiv_ii, mod_ii, pow_ii, shl_ii, shr_ii, band_ii, bor_ii, bxor_ii, neg_i, lt_ii, le_ii, gt_ii, ge_ii, eq_ii, eq_ss, eq_bb, ne_ii, ne_ss, ne_bb, isN_non, isN_int, isN_tup, isN_ref, isN_str, int_i, int_b, abs_i, max_ii, min_ii, slotM, idx_r, idx_t, idxO_lst, idxO_fro, atO_some, stIx_r, len_r, lenO_lst, lenO_fro, list_r, listO_lst, listO_fro, andT_one, andT_two, orT_one, orT_two, andV_one, andV_two, orV_one, orV_two, asg_eq, subG_eq, onlyNx_eq, nxo_nx, lst_eq, tup_eq, pat_nm, forS_eq, okS_nx, okS_rt, okS_bk, okS_ct, okS_exc, okE_oke, List.getElem?_cons_zero, List.getElem?_cons_succ, List.set_cons_zero, List.set_cons_succ, ofString_inj, decide_eq_true_eq, Bool.not_eq_true', decide_eq_false_iff_not, reduceIte, if_true, if_false, Int.reduceLT, Int.reduceLE, Int.reduceEq, Int.reduceNe, decide_true, decide_false, Bool.false_eq_true, String.reduceEq, Bool.not_true, Bool.not_false, idxO_dct, stIxO_dct, keyV_str, keyV_int, isKd_nil, isKd_cons, dLook_nil, dLook_cons, dct_eq, dctO_ok, prs_nil, prs_cons, get_new, set_new, dPut, dHas, List.any_cons, List.any_nil, List.all_cons, List.all_nil, List.foldl_cons, List.foldl_nil, List.map_cons, List.map_nil, List.cons_append, List.nil_append, Option.some.injEq, Sum.inr.injEq, Sum.inl.injEq, Option.isSome_some, Bool.or_false, Bool.false_or, Bool.or_true, Bool.true_or, Bool.and_true, Bool.true_and, Bool.and_self, List.length_cons, List.length_nil, sizeLine_eq, Nat.reduceAdd, Nat.reduceLeDiff, Nat.reduceLT, and_self, and_true, true_and, Bool.or_self, Bool.and_false, Bool.false_and, reduceCtorEq, in_tup, memFlat_nil, memFlat_cons, eqFlat_ss, eqFlat_ii, flatA_str, flatA_int, cpow2, comp_eq, gs_nil, gs_cons, Nat.reducePow, Int.reduceToNat, Int.reducePow, Int.reduceSub, Int.reduceNeg, Int.reduceAdd, Int.reduceMul, e, c1, Int.mul_one]
  · simp only [seqS_eq, bdS_eq, bd_eq, ifS_eq, thn_nx, thn_rt, thn_bk, thn_ct, thn_exc, thn_bad, thS_ok, thS_exc, thS_bad, thE_ok, thE_exc, thE_bad, thIf_ok, thIf_exc, thIf_bad, ret_eq, setS_eq, retS_eq, skipS_eq, alloc_eq, callM_eq, evs_nil, evs_cons, asBool_bl, tru_bl, tru_int, tru_non, tru_tup, runR_nx, runR_rt, runR_exc, runR_bad, runR_ite, thn_ite, thS_ite, thE_ite, ite_app2, ite_app2S, add_ii, sub_ii, mul_ii, fdiv_ii, mod_ii, pow_ii, shl_ii, shr_ii, band_ii, bor_ii, bxor_ii, neg_i, lt_ii, le_ii, gt_ii, ge_ii, eq_ii, eq_ss, eq_bb, ne_ii, ne_ss, ne_bb, isN_non, isN_int, isN_tup, isN_ref, isN_str, int_i, int_b, abs_i, max_ii, min_ii, slotM, idx_r, idx_t, idxO_lst, idxO_fro, atO_some, stIx_r, len_r, lenO_lst, lenO_fro, list_r, listO_lst, listO_fro, andT_one, andT_two, orT_one, orT_two, andV_one, andV_two, orV_one, orV_two, asg_eq, subG_eq, onlyNx_eq, nxo_nx, lst_eq, tup_eq, pat_nm, forS_eq, okS_nx, okS_rt, okS_bk, okS_ct, okS_exc, okE_oke, List.getElem?_cons_zero, List.getElem?_cons_succ, List.set_cons_zero, List.set_cons_succ, ofString_inj, decide_eq_true_eq, Bool.not_eq_true', decide_eq_false_iff_not, reduceIte, if_true, if_false, Int.reduceLT, Int.reduceLE, Int.reduceEq, Int.reduceNe, decide_true, decide_false, Bool.false_eq_true, String.reduceEq, Bool.not_true, Bool.not_false, idxO_dct, stIxO_dct, keyV_str, keyV_int, isKd_nil, isKd_cons, dLook_nil, dLook_cons, dct_eq, dctO_ok, prs_nil, prs_cons, get_new, set_new, dPut, dHas, List.any_cons, List.any_nil, List.all_cons, List.all_nil, List.foldl_cons, List.foldl_nil, List.map_cons, List.map_nil, List.cons_append, List.nil_append, Option.some.injEq, Sum.inr.injEq, Sum.inl.injEq, Option.isSome_some, Bool.or_false, Bool.false_or, Bool.or_true, Bool.true_or, Bool.and_true, Bool.true_and, Bool.and_self, List.length_cons, List.length_nil, sizeLine_eq, Nat.reduceAdd, Nat.reduceLeDiff, Nat.reduceLT, and_self, and_true, true_and, Bool.or_self, Bool.and_false, Bool.false_and, reduceCtorEq, in_tup, memFlat_nil, memFlat_cons, eqFlat_ss, eqFlat_ii, flatA_str, flatA_int, cpow2, comp_eq, gs_nil, gs_cons, Nat.reducePow, Int.reduceToNat, Int.reducePow, Int.reduceSub, Int.reduceNeg, Int.reduceAdd, Int.reduceMul, e, c0, Int.mul_zero, Int.sub_zero]
theorem draw_ok (k : Nat) {r q : Nat} {ns : List Int} {h : AH} {many : Int} (S : StAt r q ns h) (h0 : 0 < many) (h1 : many.natAbs < 2 ^ 64) :
    ∃ v h', callA T fs (k + 1) "_law_draw" [.ref r, .int many] h = .ok (.int v) h' ∧ StAt r q ns h' ∧ Same r h h' ∧ 0 ≤ v ∧ v < many := by
  obtain ⟨v, h', e, p⟩ := draw_pre (cf := callA T fs k) S h0 h1
  exact ⟨v, h', by rw [c_law_draw]; exact e, p⟩
theorem fops_cases {P : String × (Wd → Wd → Wd) × Wd → Prop} (h1 : P ("add", (· + ·), 0#32)) (h2 : P ("min", (fun x y => if y.toInt < x.toInt then y else x), 2147483647#32)) (h3 : P ("max", (fun x y => if y.toInt > x.toInt then y else x), 2147483648#32)) (h4 : P ("and", (· &&& ·), 4294967295#32)) (h5 : P ("or", (· ||| ·), 0#32)) (h6 : P ("xor", (· ^^^ ·), 0#32)) : ∀ o ∈ fops, P o := by
  intro o h
  unfold fops at h
  simp only [List.mem_cons, List.not_mem_nil, or_false] at h
  rcases h with rfl | rfl | rfl | rfl | rfl | rfl <;> assumption
theorem wrap_add (a b : Wd) : wrapI (a.toInt + b.toInt) = (a + b).toInt := by
  rw [wrapI_eq, BitVec.toInt_ofInt, BitVec.toInt_add]
theorem wrap_ite {p : Prop} [Decidable p] (a b : Wd) : wrapI (if p then a.toInt else b.toInt) = (if p then a else b).toInt := by
  split <;> exact wrapI_wd _
theorem binary_ok (k : Nat) (a b : Wd) (h : AH) : ∀ o ∈ fops, callA T fs (k + 2) "binary" [.str o.1, .int a.toInt, .int b.toInt] h = .ok (.int (o.2.1 a b).toInt) h := by
  refine fops_cases ?_ ?_ ?_ ?_ ?_ ?_ <;> rw [c_binary] <;> unfold s_binary <;> simp only [seqS_eq, bdS_eq, bd_eq, ifS_eq, thn_nx, thn_rt, thn_bk, thn_ct, thn_exc, thn_bad, thS_ok, thS_exc, thS_bad, thE_ok, thE_exc, thE_bad, thIf_ok, thIf_exc, thIf_bad, ret_eq, setS_eq, retS_eq, skipS_eq, alloc_eq, callM_eq, evs_nil, evs_cons, asBool_bl, tru_bl, tru_int, tru_non, tru_tup, runR_nx, runR_rt, runR_exc, runR_bad, runR_ite, thn_ite, thS_ite, thE_ite, ite_app2, ite_app2S, add_ii, sub_ii, mul_ii, fdiv_ii, mod_ii, pow_ii, shl_ii, shr_ii, band_ii, bor_ii, bxor_ii, neg_i, lt_ii, le_ii, gt_ii, ge_ii, eq_ii, eq_ss, eq_bb, ne_ii, ne_ss, ne_bb, isN_non, isN_int, isN_tup, isN_ref, isN_str, int_i, int_b, abs_i, max_ii, min_ii, slotM, idx_r, idx_t, idxO_lst, idxO_fro, atO_some, stIx_r, len_r, lenO_lst, lenO_fro, list_r, listO_lst, listO_fro, andT_one, andT_two, orT_one, orT_two, andV_one, andV_two, orV_one, orV_two, asg_eq, subG_eq, onlyNx_eq, nxo_nx, lst_eq, tup_eq, pat_nm, forS_eq, okS_nx, okS_rt, okS_bk, okS_ct, okS_exc, okE_oke, List.getElem?_cons_zero, List.getElem?_cons_succ, List.set_cons_zero, List.set_cons_succ, ofString_inj, decide_eq_true_eq, Bool.not_eq_true', decide_eq_false_iff_not, reduceIte, if_true, if_false, Int.reduceLT, Int.reduceLE, Int.reduceEq, Int.reduceNe, decide_true, decide_false, Bool.false_eq_true, String.reduceEq, Bool.not_true, Bool.not_false, idxO_dct, stIxO_dct, keyV_str, keyV_int, isKd_nil, isKd_cons, dLook_nil, dLook_cons, dct_eq, dctO_ok, prs_nil, prs_cons, get_new, set_new, dPut, dHas, List.any_cons, List.any_nil, List.all_cons, List.all_nil, List.foldl_cons, List.foldl_nil, List.map_cons, List.map_nil, List.cons_append, List.nil_append, Option.some.injEq, Sum.inr.injEq, Sum.inl.injEq, Option.isSome_some, Bool.or_false, Bool.false_or, Bool.or_true, Bool.true_or, Bool.and_true, Bool.true_and, Bool.and_self, List.length_cons, List.length_nil, sizeLine_eq, Nat.reduceAdd, Nat.reduceLeDiff, Nat.reduceLT, and_self, and_true, true_and, Bool.or_self, Bool.and_false, Bool.false_and, reduceCtorEq, in_tup, memFlat_nil, memFlat_cons, eqFlat_ss, eqFlat_ii, flatA_str, flatA_int, cpow2, comp_eq, gs_nil, gs_cons, Nat.reducePow, Int.reduceToNat, Int.reducePow, Int.reduceSub, Int.reduceNeg, Int.reduceAdd, Int.reduceMul, c_arithmetic, s_arithmetic, c_bits, s_bits, c_compared, s_compared, wrapped_ok]
  · rw [wrap_add]
  · rw [wrap_ite]
  · rw [wrap_ite]
  · rw [band_wd, wrapI_wd]
  · rw [bor_wd, wrapI_wd]
  · rw [bxor_wd, wrapI_wd]
theorem neutral_ok (k : Nat) (h : AH) : ∀ o ∈ fops, callA T fs (k + 1) "neutral" [.str o.1] h = .ok (.int o.2.2.toInt) h := by
  refine fops_cases ?_ ?_ ?_ ?_ ?_ ?_ <;> rw [c_neutral] <;> unfold s_neutral <;> simp only [seqS_eq, bdS_eq, bd_eq, ifS_eq, thn_nx, thn_rt, thn_bk, thn_ct, thn_exc, thn_bad, thS_ok, thS_exc, thS_bad, thE_ok, thE_exc, thE_bad, thIf_ok, thIf_exc, thIf_bad, ret_eq, setS_eq, retS_eq, skipS_eq, alloc_eq, callM_eq, evs_nil, evs_cons, asBool_bl, tru_bl, tru_int, tru_non, tru_tup, runR_nx, runR_rt, runR_exc, runR_bad, runR_ite, thn_ite, thS_ite, thE_ite, ite_app2, ite_app2S, add_ii, sub_ii, mul_ii, fdiv_ii, mod_ii, pow_ii, shl_ii, shr_ii, band_ii, bor_ii, bxor_ii, neg_i, lt_ii, le_ii, gt_ii, ge_ii, eq_ii, eq_ss, eq_bb, ne_ii, ne_ss, ne_bb, isN_non, isN_int, isN_tup, isN_ref, isN_str, int_i, int_b, abs_i, max_ii, min_ii, slotM, idx_r, idx_t, idxO_lst, idxO_fro, atO_some, stIx_r, len_r, lenO_lst, lenO_fro, list_r, listO_lst, listO_fro, andT_one, andT_two, orT_one, orT_two, andV_one, andV_two, orV_one, orV_two, asg_eq, subG_eq, onlyNx_eq, nxo_nx, lst_eq, tup_eq, pat_nm, forS_eq, okS_nx, okS_rt, okS_bk, okS_ct, okS_exc, okE_oke, List.getElem?_cons_zero, List.getElem?_cons_succ, List.set_cons_zero, List.set_cons_succ, ofString_inj, decide_eq_true_eq, Bool.not_eq_true', decide_eq_false_iff_not, reduceIte, if_true, if_false, Int.reduceLT, Int.reduceLE, Int.reduceEq, Int.reduceNe, decide_true, decide_false, Bool.false_eq_true, String.reduceEq, Bool.not_true, Bool.not_false, idxO_dct, stIxO_dct, keyV_str, keyV_int, isKd_nil, isKd_cons, dLook_nil, dLook_cons, dct_eq, dctO_ok, prs_nil, prs_cons, get_new, set_new, dPut, dHas, List.any_cons, List.any_nil, List.all_cons, List.all_nil, List.foldl_cons, List.foldl_nil, List.map_cons, List.map_nil, List.cons_append, List.nil_append, Option.some.injEq, Sum.inr.injEq, Sum.inl.injEq, Option.isSome_some, Bool.or_false, Bool.false_or, Bool.or_true, Bool.true_or, Bool.and_true, Bool.true_and, Bool.and_self, List.length_cons, List.length_nil, sizeLine_eq, Nat.reduceAdd, Nat.reduceLeDiff, Nat.reduceLT, and_self, and_true, true_and, Bool.or_self, Bool.and_false, Bool.false_and, reduceCtorEq, in_tup, memFlat_nil, memFlat_cons, eqFlat_ss, eqFlat_ii, flatA_str, flatA_int, cpow2, comp_eq, gs_nil, gs_cons, Nat.reducePow, Int.reduceToNat, Int.reducePow, Int.reduceSub, Int.reduceNeg, Int.reduceAdd, Int.reduceMul]<;> rfl
def wi (x : Wd) : AV := .int x.toInt
theorem fold_ok (k : Nat) {p : Nat} {ws : List Wd} {h : AH} (e : h[p]? = some (.lst (ws.map wi))) (hl : ws.length < turnsMax) : ∀ o ∈ fops, callA T fs (k + 3) "fold" [.str o.1, .ref p] h = .ok (.int (ws.foldl o.2.1 o.2.2).toInt) h := by
  intro o ho
  have key : okE (callA T fs (k + 3) "fold" [.str o.1, .ref p] h) fun v h' => v = .int (ws.foldl o.2.1 o.2.2).toInt ∧ h' = h := by
    rw [c_fold]
    apply okE_runR
    unfold s_fold
    simp only [seqS_eq, bdS_eq, bd_eq, ifS_eq, thn_nx, thn_rt, thn_bk, thn_ct, thn_exc, thn_bad, thS_ok, thS_exc, thS_bad, thE_ok, thE_exc, thE_bad, thIf_ok, thIf_exc, thIf_bad, ret_eq, setS_eq, retS_eq, skipS_eq, alloc_eq, callM_eq, evs_nil, evs_cons, asBool_bl, tru_bl, tru_int, tru_non, tru_tup, runR_nx, runR_rt, runR_exc, runR_bad, runR_ite, thn_ite, thS_ite, thE_ite, ite_app2, ite_app2S, add_ii, sub_ii, mul_ii, fdiv_ii, mod_ii, pow_ii, shl_ii, shr_ii, band_ii, bor_ii, bxor_ii, neg_i, lt_ii, le_ii, gt_ii, ge_ii, eq_ii, eq_ss, eq_bb, ne_ii, ne_ss, ne_bb, isN_non, isN_int, isN_tup, isN_ref, isN_str, int_i, int_b, abs_i, max_ii, min_ii, slotM, idx_r, idx_t, idxO_lst, idxO_fro, atO_some, stIx_r, len_r, lenO_lst, lenO_fro, list_r, listO_lst, listO_fro, andT_one, andT_two, orT_one, orT_two, andV_one, andV_two, orV_one, orV_two, asg_eq, subG_eq, onlyNx_eq, nxo_nx, lst_eq, tup_eq, pat_nm, forS_eq, okS_nx, okS_rt, okS_bk, okS_ct, okS_exc, okE_oke, List.getElem?_cons_zero, List.getElem?_cons_succ, List.set_cons_zero, List.set_cons_succ, ofString_inj, decide_eq_true_eq, Bool.not_eq_true', decide_eq_false_iff_not, reduceIte, if_true, if_false, Int.reduceLT, Int.reduceLE, Int.reduceEq, Int.reduceNe, decide_true, decide_false, Bool.false_eq_true, String.reduceEq, Bool.not_true, Bool.not_false, idxO_dct, stIxO_dct, keyV_str, keyV_int, isKd_nil, isKd_cons, dLook_nil, dLook_cons, dct_eq, dctO_ok, prs_nil, prs_cons, get_new, set_new, dPut, dHas, List.any_cons, List.any_nil, List.all_cons, List.all_nil, List.foldl_cons, List.foldl_nil, List.map_cons, List.map_nil, List.cons_append, List.nil_append, Option.some.injEq, Sum.inr.injEq, Sum.inl.injEq, Option.isSome_some, Bool.or_false, Bool.false_or, Bool.or_true, Bool.true_or, Bool.and_true, Bool.true_and, Bool.and_self, List.length_cons, List.length_nil, sizeLine_eq, Nat.reduceAdd, Nat.reduceLeDiff, Nat.reduceLT, and_self, and_true, true_and, Bool.or_self, Bool.and_false, Bool.false_and, reduceCtorEq, in_tup, memFlat_nil, memFlat_cons, eqFlat_ss, eqFlat_ii, flatA_str, flatA_int, cpow2, comp_eq, gs_nil, gs_cons, Nat.reducePow, Int.reduceToNat, Int.reducePow, Int.reduceSub, Int.reduceNeg, Int.reduceAdd, Int.reduceMul, neutral_ok _ _ o ho, itOf_lst e]
    apply okS_thn
    refine okS_forL (xs := ws.map wi) (fun i s h' => h' = h ∧ ∃ c, s = [some (.str o.1), some (.ref p), some (.int ((ws.take i).foldl o.2.1 o.2.2).toInt), c]) ?_ ?_ ?_ _ _ _ _ ⟨rfl, none, rfl⟩ (by simp) (by simpa using hl)
    · rintro i s h' ⟨rfl, _⟩
      exact lstOf_lst e
    · rintro i x s h' ex ⟨rfl, c, rfl⟩
      rw [List.getElem?_map] at ex
      cases hz : ws[i]? with
      | none => rw [hz] at ex; cases ex
      | some z =>
        rw [hz] at ex
        obtain rfl : wi z = x := by simpa using ex
        unfold wi
        simp only [seqS_eq, bdS_eq, bd_eq, ifS_eq, thn_nx, thn_rt, thn_bk, thn_ct, thn_exc, thn_bad, thS_ok, thS_exc, thS_bad, thE_ok, thE_exc, thE_bad, thIf_ok, thIf_exc, thIf_bad, ret_eq, setS_eq, retS_eq, skipS_eq, alloc_eq, callM_eq, evs_nil, evs_cons, asBool_bl, tru_bl, tru_int, tru_non, tru_tup, runR_nx, runR_rt, runR_exc, runR_bad, runR_ite, thn_ite, thS_ite, thE_ite, ite_app2, ite_app2S, add_ii, sub_ii, mul_ii, fdiv_ii, mod_ii, pow_ii, shl_ii, shr_ii, band_ii, bor_ii, bxor_ii, neg_i, lt_ii, le_ii, gt_ii, ge_ii, eq_ii, eq_ss, eq_bb, ne_ii, ne_ss, ne_bb, isN_non, isN_int, isN_tup, isN_ref, isN_str, int_i, int_b, abs_i, max_ii, min_ii, slotM, idx_r, idx_t, idxO_lst, idxO_fro, atO_some, stIx_r, len_r, lenO_lst, lenO_fro, list_r, listO_lst, listO_fro, andT_one, andT_two, orT_one, orT_two, andV_one, andV_two, orV_one, orV_two, asg_eq, subG_eq, onlyNx_eq, nxo_nx, lst_eq, tup_eq, pat_nm, forS_eq, okS_nx, okS_rt, okS_bk, okS_ct, okS_exc, okE_oke, List.getElem?_cons_zero, List.getElem?_cons_succ, List.set_cons_zero, List.set_cons_succ, ofString_inj, decide_eq_true_eq, Bool.not_eq_true', decide_eq_false_iff_not, reduceIte, if_true, if_false, Int.reduceLT, Int.reduceLE, Int.reduceEq, Int.reduceNe, decide_true, decide_false, Bool.false_eq_true, String.reduceEq, Bool.not_true, Bool.not_false, idxO_dct, stIxO_dct, keyV_str, keyV_int, isKd_nil, isKd_cons, dLook_nil, dLook_cons, dct_eq, dctO_ok, prs_nil, prs_cons, get_new, set_new, dPut, dHas, List.any_cons, List.any_nil, List.all_cons, List.all_nil, List.foldl_cons, List.foldl_nil, List.map_cons, List.map_nil, List.cons_append, List.nil_append, Option.some.injEq, Sum.inr.injEq, Sum.inl.injEq, Option.isSome_some, Bool.or_false, Bool.false_or, Bool.or_true, Bool.true_or, Bool.and_true, Bool.true_and, Bool.and_self, List.length_cons, List.length_nil, sizeLine_eq, Nat.reduceAdd, Nat.reduceLeDiff, Nat.reduceLT, and_self, and_true, true_and, Bool.or_self, Bool.and_false, Bool.false_and, reduceCtorEq, in_tup, memFlat_nil, memFlat_cons, eqFlat_ss, eqFlat_ii, flatA_str, flatA_int, cpow2, comp_eq, gs_nil, gs_cons, Nat.reducePow, Int.reduceToNat, Int.reducePow, Int.reduceSub, Int.reduceNeg, Int.reduceAdd, Int.reduceMul, binary_ok _ _ _ _ o ho]
        refine ⟨some (wi z), ?_⟩
        rw [List.take_add_one, hz]
        simp [wi]
    · rintro s h' ⟨rfl, c, rfl⟩
      rw [List.length_map, List.take_length]
      simp only [seqS_eq, bdS_eq, bd_eq, ifS_eq, thn_nx, thn_rt, thn_bk, thn_ct, thn_exc, thn_bad, thS_ok, thS_exc, thS_bad, thE_ok, thE_exc, thE_bad, thIf_ok, thIf_exc, thIf_bad, ret_eq, setS_eq, retS_eq, skipS_eq, alloc_eq, callM_eq, evs_nil, evs_cons, asBool_bl, tru_bl, tru_int, tru_non, tru_tup, runR_nx, runR_rt, runR_exc, runR_bad, runR_ite, thn_ite, thS_ite, thE_ite, ite_app2, ite_app2S, add_ii, sub_ii, mul_ii, fdiv_ii, mod_ii, pow_ii, shl_ii, shr_ii, band_ii, bor_ii, bxor_ii, neg_i, lt_ii, le_ii, gt_ii, ge_ii, eq_ii, eq_ss, eq_bb, ne_ii, ne_ss, ne_bb, isN_non, isN_int, isN_tup, isN_ref, isN_str, int_i, int_b, abs_i, max_ii, min_ii, slotM, idx_r, idx_t, idxO_lst, idxO_fro, atO_some, stIx_r, len_r, lenO_lst, lenO_fro, list_r, listO_lst, listO_fro, andT_one, andT_two, orT_one, orT_two, andV_one, andV_two, orV_one, orV_two, asg_eq, subG_eq, onlyNx_eq, nxo_nx, lst_eq, tup_eq, pat_nm, forS_eq, okS_nx, okS_rt, okS_bk, okS_ct, okS_exc, okE_oke, List.getElem?_cons_zero, List.getElem?_cons_succ, List.set_cons_zero, List.set_cons_succ, ofString_inj, decide_eq_true_eq, Bool.not_eq_true', decide_eq_false_iff_not, reduceIte, if_true, if_false, Int.reduceLT, Int.reduceLE, Int.reduceEq, Int.reduceNe, decide_true, decide_false, Bool.false_eq_true, String.reduceEq, Bool.not_true, Bool.not_false, idxO_dct, stIxO_dct, keyV_str, keyV_int, isKd_nil, isKd_cons, dLook_nil, dLook_cons, dct_eq, dctO_ok, prs_nil, prs_cons, get_new, set_new, dPut, dHas, List.any_cons, List.any_nil, List.all_cons, List.all_nil, List.foldl_cons, List.foldl_nil, List.map_cons, List.map_nil, List.cons_append, List.nil_append, Option.some.injEq, Sum.inr.injEq, Sum.inl.injEq, Option.isSome_some, Bool.or_false, Bool.false_or, Bool.or_true, Bool.true_or, Bool.and_true, Bool.true_and, Bool.and_self, List.length_cons, List.length_nil, sizeLine_eq, Nat.reduceAdd, Nat.reduceLeDiff, Nat.reduceLT, and_self, and_true, true_and, Bool.or_self, Bool.and_false, Bool.false_and, reduceCtorEq, in_tup, memFlat_nil, memFlat_cons, eqFlat_ss, eqFlat_ii, flatA_str, flatA_int, cpow2, comp_eq, gs_nil, gs_cons, Nat.reducePow, Int.reduceToNat, Int.reducePow, Int.reduceSub, Int.reduceNeg, Int.reduceAdd, Int.reduceMul]
  obtain ⟨v, h', e1, rfl, rfl⟩ := okE_iff.mp key
  exact e1
end K02
namespace K02
open PySem PySem.Spec PyProof.Rows L2 Ev
/-- the three operators that the law does bit by bit -/
def bops : List (String × (Nat → Nat → Nat) × (Bool → Bool → Bool)) := [("and", Nat.land, and), ("or", Nat.lor, or), ("xor", Nat.xor, Bool.xor)]
theorem bops_cases {P : String × (Nat → Nat → Nat) × (Bool → Bool → Bool) → Prop} (h1 : P ("and", Nat.land, and)) (h2 : P ("or", Nat.lor, or)) (h3 : P ("xor", Nat.xor, Bool.xor)) : ∀ o ∈ bops, P o := by
  intro o h
  unfold bops at h
  simp only [List.mem_cons, List.not_mem_nil, or_false] at h
  rcases h with rfl | rfl | rfl <;> assumption
theorem bops_bit : ∀ o ∈ bops, ∀ a b i, (o.2.1 a b).testBit i = o.2.2 (a.testBit i) (b.testBit i) :=
  bops_cases Nat.testBit_and Nat.testBit_or Nat.testBit_xor
def pick : EM AV := (bd (dctM [((ret (.str "and")), (bd (slotM 6) fun x13 => bd (slotM 7) fun y14 => mulA x13 y14)), ((ret (.str "or")), (bd (evsM [(slotM 6), (slotM 7)]) maxA)), ((ret (.str "xor")), (bd (evsM [(bd (slotM 6) fun x15 => bd (slotM 7) fun y16 => neA x15 y16)]) intA))]) fun x11 => bd (slotM 0) fun y12 => idxA x11 y12)
/-- the chosen bit -/
theorem bits_pick {A B : Nat} {c3 c4 c5 c8 c1 c2 : Option AV} (h : AH) (hA : A < 2) (hB : B < 2) : ∀ o ∈ bops, ∃ d, pick [some (.str o.1), c1, c2, c3, c4, c5, some (.int A), some (.int B), c8] h = .ok (.int ((o.2.2 (decide (A = 1)) (decide (B = 1))).toNat : Nat)) (h ++ [d]) := by
  have m : ∀ A B : Nat, A < 2 → B < 2 → CMulW A B := fun A B a b => CMulW_small (by omega) (by omega)
  have hm := m A B hA hB
  unfold pick
  refine bops_cases ?_ ?_ ?_ <;> simp only [seqS_eq, bdS_eq, bd_eq, ifS_eq, thn_nx, thn_rt, thn_bk, thn_ct, thn_exc, thn_bad, thS_ok, thS_exc, thS_bad, thE_ok, thE_exc, thE_bad, thIf_ok, thIf_exc, thIf_bad, ret_eq, setS_eq, retS_eq, skipS_eq, alloc_eq, callM_eq, evs_nil, evs_cons, asBool_bl, tru_bl, tru_int, tru_non, tru_tup, runR_nx, runR_rt, runR_exc, runR_bad, runR_ite, thn_ite, thS_ite, thE_ite, ite_app2, ite_app2S, add_ii, sub_ii, mul_ii, fdiv_ii, mod_ii, pow_ii, shl_ii, shr_ii, band_ii, bor_ii, bxor_ii, neg_i, lt_ii, le_ii, gt_ii, ge_ii, eq_ii, eq_ss, eq_bb, ne_ii, ne_ss, ne_bb, isN_non, isN_int, isN_tup, isN_ref, isN_str, int_i, int_b, abs_i, max_ii, min_ii, slotM, idx_r, idx_t, idxO_lst, idxO_fro, atO_some, stIx_r, len_r, lenO_lst, lenO_fro, list_r, listO_lst, listO_fro, andT_one, andT_two, orT_one, orT_two, andV_one, andV_two, orV_one, orV_two, asg_eq, subG_eq, onlyNx_eq, nxo_nx, lst_eq, tup_eq, pat_nm, forS_eq, okS_nx, okS_rt, okS_bk, okS_ct, okS_exc, okE_oke, List.getElem?_cons_zero, List.getElem?_cons_succ, List.set_cons_zero, List.set_cons_succ, ofString_inj, decide_eq_true_eq, Bool.not_eq_true', decide_eq_false_iff_not, reduceIte, if_true, if_false, Int.reduceLT, Int.reduceLE, Int.reduceEq, Int.reduceNe, decide_true, decide_false, Bool.false_eq_true, String.reduceEq, Bool.not_true, Bool.not_false, idxO_dct, stIxO_dct, keyV_str, keyV_int, isKd_nil, isKd_cons, dLook_nil, dLook_cons, dct_eq, dctO_ok, prs_nil, prs_cons, get_new, set_new, dPut, dHas, List.any_cons, List.any_nil, List.all_cons, List.all_nil, List.foldl_cons, List.foldl_nil, List.map_cons, List.map_nil, List.cons_append, List.nil_append, Option.some.injEq, Sum.inr.injEq, Sum.inl.injEq, Option.isSome_some, Bool.or_false, Bool.false_or, Bool.or_true, Bool.true_or, Bool.and_true, Bool.true_and, Bool.and_self, List.length_cons, List.length_nil, sizeLine_eq, Nat.reduceAdd, Nat.reduceLeDiff, Nat.reduceLT, and_self, and_true, true_and, Bool.or_self, Bool.and_false, Bool.false_and, reduceCtorEq, in_tup, memFlat_nil, memFlat_cons, eqFlat_ss, eqFlat_ii, flatA_str, flatA_int, cpow2, comp_eq, gs_nil, gs_cons, Nat.reducePow, Int.reduceToNat, Int.reducePow, Int.reduceSub, Int.reduceNeg, Int.reduceAdd, Int.reduceMul, hm]
  all_goals
    have eA : A = 0 ∨ A = 1 := by omega
    have eB : B = 0 ∨ B = 1 := by omega
    rcases eA with rfl | rfl <;> rcases eB with rfl | rfl <;> exact ⟨_, rfl⟩
theorem s_bits_split (cf : CF) : s_law_bits cf = (seqS (bdS (bd (bd (evsM [(slotM 1)]) intA) fun x23 => bd (ret (.int (4294967296))) fun y24 => modA x23 y24) (setS 1))
  (seqS (bdS (bd (bd (evsM [(slotM 2)]) intA) fun x21 => bd (ret (.int (4294967296))) fun y22 => modA x21 y22) (setS 2))
  (seqS (bdS (ret (.int (0))) (setS 3))
  (seqS (bdS (ret (.int (1))) (setS 4))
  (seqS (forS (bd (ret (.int (32))) rangeI1) (patS (.nm 5)) (seqS (bdS (bd (bd (evsM [(slotM 1)]) intA) fun x19 => bd (ret (.int (2))) fun y20 => modA x19 y20) (setS 6))
    (seqS (bdS (bd (bd (evsM [(slotM 2)]) intA) fun x17 => bd (ret (.int (2))) fun y18 => modA x17 y18) (setS 7))
    (seqS (bdS pick (setS 8))
    (seqS (bdS (bd (slotM 3) fun x7 => bd (bd (slotM 4) fun x9 => bd (slotM 8) fun y10 => mulA x9 y10) fun y8 => addA x7 y8) (setS 3))
    (seqS (bdS (bd (slotM 4) fun x5 => bd (ret (.int (2))) fun y6 => mulA x5 y6) (setS 4))
    (seqS (bdS (bd (slotM 1) fun x3 => bd (ret (.int (2))) fun y4 => fdivA x3 y4) (setS 1))
    (seqS (bdS (bd (slotM 2) fun x1 => bd (ret (.int (2))) fun y2 => fdivA x1 y2) (setS 2))
    skipS))))))))
  (seqS (bdS (slotM 3) retS)
  skipS)))))) := rfl
theorem lbits_ok (k : Nat) (a b : Int) (h : AH) : ∀ o ∈ bops, ∃ l, callA T fs (k + 1) "_law_bits" [.str o.1, .int a, .int b] h = .ok (.int ((o.2.1 (a % 4294967296).toNat (b % 4294967296).toNat % 2 ^ 32 : Nat) : Int)) (h ++ l) := by
  intro o ho
  generalize hA : (a % 4294967296).toNat = A
  generalize hB : (b % 4294967296).toNat = B
  have eA : a % 4294967296 = (A : Int) := by omega
  have eB : b % 4294967296 = (B : Int) := by omega
  have key : okE (callA T fs (k + 1) "_law_bits" [.str o.1, .int a, .int b] h) fun v h' => v = .int ((o.2.1 A B % 2 ^ 32 : Nat) : Int) ∧ ∃ l, h' = h ++ l := by
    rw [c_law_bits]
    apply okE_runR
    rw [s_bits_split]
    simp only [seqS_eq, bdS_eq, bd_eq, ifS_eq, thn_nx, thn_rt, thn_bk, thn_ct, thn_exc, thn_bad, thS_ok, thS_exc, thS_bad, thE_ok, thE_exc, thE_bad, thIf_ok, thIf_exc, thIf_bad, ret_eq, setS_eq, retS_eq, skipS_eq, alloc_eq, callM_eq, evs_nil, evs_cons, asBool_bl, tru_bl, tru_int, tru_non, tru_tup, runR_nx, runR_rt, runR_exc, runR_bad, runR_ite, thn_ite, thS_ite, thE_ite, ite_app2, ite_app2S, add_ii, sub_ii, mul_ii, fdiv_ii, mod_ii, pow_ii, shl_ii, shr_ii, band_ii, bor_ii, bxor_ii, neg_i, lt_ii, le_ii, gt_ii, ge_ii, eq_ii, eq_ss, eq_bb, ne_ii, ne_ss, ne_bb, isN_non, isN_int, isN_tup, isN_ref, isN_str, int_i, int_b, abs_i, max_ii, min_ii, slotM, idx_r, idx_t, idxO_lst, idxO_fro, atO_some, stIx_r, len_r, lenO_lst, lenO_fro, list_r, listO_lst, listO_fro, andT_one, andT_two, orT_one, orT_two, andV_one, andV_two, orV_one, orV_two, asg_eq, subG_eq, onlyNx_eq, nxo_nx, lst_eq, tup_eq, pat_nm, forS_eq, okS_nx, okS_rt, okS_bk, okS_ct, okS_exc, okE_oke, List.getElem?_cons_zero, List.getElem?_cons_succ, List.set_cons_zero, List.set_cons_succ, ofString_inj, decide_eq_true_eq, Bool.not_eq_true', decide_eq_false_iff_not, reduceIte, if_true, if_false, Int.reduceLT, Int.reduceLE, Int.reduceEq, Int.reduceNe, decide_true, decide_false, Bool.false_eq_true, String.reduceEq, Bool.not_true, Bool.not_false, idxO_dct, stIxO_dct, keyV_str, keyV_int, isKd_nil, isKd_cons, dLook_nil, dLook_cons, dct_eq, dctO_ok, prs_nil, prs_cons, get_new, set_new, dPut, dHas, List.any_cons, List.any_nil, List.all_cons, List.all_nil, List.foldl_cons, List.foldl_nil, List.map_cons, List.map_nil, List.cons_append, List.nil_append, Option.some.injEq, Sum.inr.injEq, Sum.inl.injEq, Option.isSome_some, Bool.or_false, Bool.false_or, Bool.or_true, Bool.true_or, Bool.and_true, Bool.true_and, Bool.and_self, List.length_cons, List.length_nil, sizeLine_eq, Nat.reduceAdd, Nat.reduceLeDiff, Nat.reduceLT, and_self, and_true, true_and, Bool.or_self, Bool.and_false, Bool.false_and, reduceCtorEq, in_tup, memFlat_nil, memFlat_cons, eqFlat_ss, eqFlat_ii, flatA_str, flatA_int, cpow2, comp_eq, gs_nil, gs_cons, Nat.reducePow, Int.reduceToNat, Int.reducePow, Int.reduceSub, Int.reduceNeg, Int.reduceAdd, Int.reduceMul, eA, eB, rng1 (j := 32) (by decide) (by decide)]
    apply okS_thn
    refine okS_forV (fun i s h' => (∃ l, h' = h ++ l) ∧ ∃ c5 c6 c7 c8, s = [some (.str o.1), some (.int ((A / 2 ^ i : Nat) : Int)), some (.int ((B / 2 ^ i : Nat) : Int)), some (.int ((o.2.1 A B % 2 ^ i : Nat) : Int)), some (.int ((2 ^ i : Nat) : Int)), c5, c6, c7, c8]) ?_ ?_ _ _ _ _ ⟨⟨[], by simp⟩, none, none, none, none, by simp [Nat.mod_one]⟩ (by simp) (by simp; unfold turnsMax; omega)
    · rintro i x s h' ex ⟨⟨l, rfl⟩, c5, c6, c7, c8, rfl⟩
      have hi : i < 32 := by
        have := (List.getElem?_eq_some_iff.mp ex).1
        simpa using this
      have p2 : 2 ^ i ≤ 2 ^ 32 := Nat.pow_le_pow_right (by decide) (by omega)
      have e2 : ∀ n : Nat, ((n : Int) % 2) = ((n % 2 : Nat) : Int) := fun n => by omega
      have e3 : ∀ n : Nat, ((n : Int) / 2) = ((n / 2 : Nat) : Int) := fun n => by omega
      have dv : ∀ n : Int, CDivW n 2 := fun n => CDivW_small (by decide) (by decide)
      obtain ⟨d, ed⟩ := bits_pick (c1 := some (.int ((A / 2 ^ i : Nat) : Int))) (c2 := some (.int ((B / 2 ^ i : Nat) : Int))) (c3 := some (.int ((o.2.1 A B % 2 ^ i : Nat) : Int))) (c4 := some (.int ((2 ^ i : Nat) : Int))) (c5 := some x) (c8 := c8) (A := A / 2 ^ i % 2) (B := B / 2 ^ i % 2) (h ++ l) (Nat.mod_lt _ (by decide)) (Nat.mod_lt _ (by decide)) o ho
      have hb : (o.2.2 (decide (A / 2 ^ i % 2 = 1)) (decide (B / 2 ^ i % 2 = 1))).toNat ≤ 1 := by
        cases o.2.2 (decide (A / 2 ^ i % 2 = 1)) (decide (B / 2 ^ i % 2 = 1)) <;> decide
      have m1 : ∀ n : Nat, n ≤ 1 → CMulW ((2 ^ i : Nat) : Int) (n : Int) := fun n hn => CMulW_small (by rw [Int.natAbs_natCast]; omega) (by omega)
      have m2 : CMulW ((2 ^ i : Nat) : Int) 2 := CMulW_small (by rw [Int.natAbs_natCast]; omega) (by omega)
      have d2 : ∀ n : Nat, n / 2 ^ i / 2 = n / 2 ^ (i + 1) := fun n => by rw [Nat.div_div_eq_div_mul, Nat.pow_succ]
      simp only [seqS_eq, bdS_eq, bd_eq, ifS_eq, thn_nx, thn_rt, thn_bk, thn_ct, thn_exc, thn_bad, thS_ok, thS_exc, thS_bad, thE_ok, thE_exc, thE_bad, thIf_ok, thIf_exc, thIf_bad, ret_eq, setS_eq, retS_eq, skipS_eq, alloc_eq, callM_eq, evs_nil, evs_cons, asBool_bl, tru_bl, tru_int, tru_non, tru_tup, runR_nx, runR_rt, runR_exc, runR_bad, runR_ite, thn_ite, thS_ite, thE_ite, ite_app2, ite_app2S, add_ii, sub_ii, mul_ii, fdiv_ii, mod_ii, pow_ii, shl_ii, shr_ii, band_ii, bor_ii, bxor_ii, neg_i, lt_ii, le_ii, gt_ii, ge_ii, eq_ii, eq_ss, eq_bb, ne_ii, ne_ss, ne_bb, isN_non, isN_int, isN_tup, isN_ref, isN_str, int_i, int_b, abs_i, max_ii, min_ii, slotM, idx_r, idx_t, idxO_lst, idxO_fro, atO_some, stIx_r, len_r, lenO_lst, lenO_fro, list_r, listO_lst, listO_fro, andT_one, andT_two, orT_one, orT_two, andV_one, andV_two, orV_one, orV_two, asg_eq, subG_eq, onlyNx_eq, nxo_nx, lst_eq, tup_eq, pat_nm, forS_eq, okS_nx, okS_rt, okS_bk, okS_ct, okS_exc, okE_oke, List.getElem?_cons_zero, List.getElem?_cons_succ, List.set_cons_zero, List.set_cons_succ, ofString_inj, decide_eq_true_eq, Bool.not_eq_true', decide_eq_false_iff_not, reduceIte, if_true, if_false, Int.reduceLT, Int.reduceLE, Int.reduceEq, Int.reduceNe, decide_true, decide_false, Bool.false_eq_true, String.reduceEq, Bool.not_true, Bool.not_false, idxO_dct, stIxO_dct, keyV_str, keyV_int, isKd_nil, isKd_cons, dLook_nil, dLook_cons, dct_eq, dctO_ok, prs_nil, prs_cons, get_new, set_new, dPut, dHas, List.any_cons, List.any_nil, List.all_cons, List.all_nil, List.foldl_cons, List.foldl_nil, List.map_cons, List.map_nil, List.cons_append, List.nil_append, Option.some.injEq, Sum.inr.injEq, Sum.inl.injEq, Option.isSome_some, Bool.or_false, Bool.false_or, Bool.or_true, Bool.true_or, Bool.and_true, Bool.true_and, Bool.and_self, List.length_cons, List.length_nil, sizeLine_eq, Nat.reduceAdd, Nat.reduceLeDiff, Nat.reduceLT, and_self, and_true, true_and, Bool.or_self, Bool.and_false, Bool.false_and, reduceCtorEq, in_tup, memFlat_nil, memFlat_cons, eqFlat_ss, eqFlat_ii, flatA_str, flatA_int, cpow2, comp_eq, gs_nil, gs_cons, Nat.reducePow, Int.reduceToNat, Int.reducePow, Int.reduceSub, Int.reduceNeg, Int.reduceAdd, Int.reduceMul, e2, e3, dv, ed, m1 _ hb, m2, d2]
      have st := bits_step (bops_bit o ho) A B i
      refine ⟨⟨l ++ [d], by rw [List.append_assoc]⟩, some x, some (.int ((A / 2 ^ i % 2 : Nat) : Int)), some (.int ((B / 2 ^ i % 2 : Nat) : Int)), some (.int ((o.2.2 (decide (A / 2 ^ i % 2 = 1)) (decide (B / 2 ^ i % 2 = 1))).toNat : Nat)), ?_⟩
      rw [st, Nat.pow_succ]
      push_cast
      rfl
    · rintro s h' ⟨⟨l, rfl⟩, c5, c6, c7, c8, rfl⟩
      simp only [List.length_map, List.length_range]
      simp only [seqS_eq, bdS_eq, bd_eq, ifS_eq, thn_nx, thn_rt, thn_bk, thn_ct, thn_exc, thn_bad, thS_ok, thS_exc, thS_bad, thE_ok, thE_exc, thE_bad, thIf_ok, thIf_exc, thIf_bad, ret_eq, setS_eq, retS_eq, skipS_eq, alloc_eq, callM_eq, evs_nil, evs_cons, asBool_bl, tru_bl, tru_int, tru_non, tru_tup, runR_nx, runR_rt, runR_exc, runR_bad, runR_ite, thn_ite, thS_ite, thE_ite, ite_app2, ite_app2S, add_ii, sub_ii, mul_ii, fdiv_ii, mod_ii, pow_ii, shl_ii, shr_ii, band_ii, bor_ii, bxor_ii, neg_i, lt_ii, le_ii, gt_ii, ge_ii, eq_ii, eq_ss, eq_bb, ne_ii, ne_ss, ne_bb, isN_non, isN_int, isN_tup, isN_ref, isN_str, int_i, int_b, abs_i, max_ii, min_ii, slotM, idx_r, idx_t, idxO_lst, idxO_fro, atO_some, stIx_r, len_r, lenO_lst, lenO_fro, list_r, listO_lst, listO_fro, andT_one, andT_two, orT_one, orT_two, andV_one, andV_two, orV_one, orV_two, asg_eq, subG_eq, onlyNx_eq, nxo_nx, lst_eq, tup_eq, pat_nm, forS_eq, okS_nx, okS_rt, okS_bk, okS_ct, okS_exc, okE_oke, List.getElem?_cons_zero, List.getElem?_cons_succ, List.set_cons_zero, List.set_cons_succ, ofString_inj, decide_eq_true_eq, Bool.not_eq_true', decide_eq_false_iff_not, reduceIte, if_true, if_false, Int.reduceLT, Int.reduceLE, Int.reduceEq, Int.reduceNe, decide_true, decide_false, Bool.false_eq_true, String.reduceEq, Bool.not_true, Bool.not_false, idxO_dct, stIxO_dct, keyV_str, keyV_int, isKd_nil, isKd_cons, dLook_nil, dLook_cons, dct_eq, dctO_ok, prs_nil, prs_cons, get_new, set_new, dPut, dHas, List.any_cons, List.any_nil, List.all_cons, List.all_nil, List.foldl_cons, List.foldl_nil, List.map_cons, List.map_nil, List.cons_append, List.nil_append, Option.some.injEq, Sum.inr.injEq, Sum.inl.injEq, Option.isSome_some, Bool.or_false, Bool.false_or, Bool.or_true, Bool.true_or, Bool.and_true, Bool.true_and, Bool.and_self, List.length_cons, List.length_nil, sizeLine_eq, Nat.reduceAdd, Nat.reduceLeDiff, Nat.reduceLT, and_self, and_true, true_and, Bool.or_self, Bool.and_false, Bool.false_and, reduceCtorEq, in_tup, memFlat_nil, memFlat_cons, eqFlat_ss, eqFlat_ii, flatA_str, flatA_int, cpow2, comp_eq, gs_nil, gs_cons, Nat.reducePow, Int.reduceToNat, Int.reducePow, Int.reduceSub, Int.reduceNeg, Int.reduceAdd, Int.reduceMul]
      exact ⟨l, rfl⟩
  obtain ⟨v, h', e1, rfl, l, rfl⟩ := okE_iff.mp key
  exact ⟨l, e1⟩
end K02
namespace K02
open PySem PySem.Spec PyProof.Rows L2 Ev
theorem wrap_nat {x : Wd} : wrapI (x.toNat : Int) = x.toInt := by
  rw [wrapI_eq]
  congr 1
  rw [BitVec.ofInt_natCast]
  apply BitVec.eq_of_toNat_eq
  simp
theorem mod_wd (x : Wd) : (x.toInt % 4294967296).toNat = x.toNat := by
  rw [BitVec.toInt_eq_toNat_cond]
  have := x.isLt
  simp only [Nat.reducePow] at this ⊢
  split <;> omega
theorem lbits_wd (k : Nat) (x y : Wd) (h : AH) : ∀ o ∈ bops, ∃ l, callA T fs (k + 1) "_law_bits" [.str o.1, .int x.toInt, .int y.toInt] h = .ok (.int ((o.2.1 x.toNat y.toNat % 2 ^ 32 : Nat) : Int)) (h ++ l) := by
  intro o ho
  obtain ⟨l, e⟩ := lbits_ok k x.toInt y.toInt h o ho
  rw [mod_wd, mod_wd] at e
  exact ⟨l, e⟩
theorem lbinary_ok (k : Nat) (a b : Wd) (h : AH) : ∀ o ∈ fops, ∃ l, callA T fs (k + 2) "_law_binary" [.str o.1, .int a.toInt, .int b.toInt] h = .ok (.int (o.2.1 a b).toInt) (h ++ l) := by
  have hm : CMulW a.toInt b.toInt := CMulW_small (by have := wd_lo a; have := wd_hi a; omega) (by have := wd_lo b; have := wd_hi b; omega)
  obtain ⟨l1, e1⟩ := lbits_wd k a b h ("and", Nat.land, and) (by simp [bops])
  obtain ⟨l2, e2⟩ := lbits_wd k a b h ("or", Nat.lor, or) (by simp [bops])
  obtain ⟨l3, e3⟩ := lbits_wd k a b h ("xor", Nat.xor, Bool.xor) (by simp [bops])
  have f1 : ((Nat.land a.toNat b.toNat % 2 ^ 32 : Nat) : Int) = ((a &&& b).toNat : Int) := by
    have := (a &&& b).isLt
    rw [BitVec.toNat_and] at this ⊢
    show (((a.toNat &&& b.toNat) % 2 ^ 32 : Nat) : Int) = _
    rw [Nat.mod_eq_of_lt this]
  have f2 : ((Nat.lor a.toNat b.toNat % 2 ^ 32 : Nat) : Int) = ((a ||| b).toNat : Int) := by
    have := (a ||| b).isLt
    rw [BitVec.toNat_or] at this ⊢
    show (((a.toNat ||| b.toNat) % 2 ^ 32 : Nat) : Int) = _
    rw [Nat.mod_eq_of_lt this]
  have f3 : ((Nat.xor a.toNat b.toNat % 2 ^ 32 : Nat) : Int) = ((a ^^^ b).toNat : Int) := by
    have := (a ^^^ b).isLt
    rw [BitVec.toNat_xor] at this ⊢
    show (((a.toNat ^^^ b.toNat) % 2 ^ 32 : Nat) : Int) = _
    rw [Nat.mod_eq_of_lt this]
  dsimp only at e1 e2 e3
  rw [f1] at e1
  rw [f2] at e2
  rw [f3] at e3
  refine fops_cases ?_ ?_ ?_ ?_ ?_ ?_ <;> rw [c_law_binary] <;> unfold s_law_binary <;> simp only [seqS_eq, bdS_eq, bd_eq, ifS_eq, thn_nx, thn_rt, thn_bk, thn_ct, thn_exc, thn_bad, thS_ok, thS_exc, thS_bad, thE_ok, thE_exc, thE_bad, thIf_ok, thIf_exc, thIf_bad, ret_eq, setS_eq, retS_eq, skipS_eq, alloc_eq, callM_eq, evs_nil, evs_cons, asBool_bl, tru_bl, tru_int, tru_non, tru_tup, runR_nx, runR_rt, runR_exc, runR_bad, runR_ite, thn_ite, thS_ite, thE_ite, ite_app2, ite_app2S, add_ii, sub_ii, mul_ii, fdiv_ii, mod_ii, pow_ii, shl_ii, shr_ii, band_ii, bor_ii, bxor_ii, neg_i, lt_ii, le_ii, gt_ii, ge_ii, eq_ii, eq_ss, eq_bb, ne_ii, ne_ss, ne_bb, isN_non, isN_int, isN_tup, isN_ref, isN_str, int_i, int_b, abs_i, max_ii, min_ii, slotM, idx_r, idx_t, idxO_lst, idxO_fro, atO_some, stIx_r, len_r, lenO_lst, lenO_fro, list_r, listO_lst, listO_fro, andT_one, andT_two, orT_one, orT_two, andV_one, andV_two, orV_one, orV_two, asg_eq, subG_eq, onlyNx_eq, nxo_nx, lst_eq, tup_eq, pat_nm, forS_eq, okS_nx, okS_rt, okS_bk, okS_ct, okS_exc, okE_oke, List.getElem?_cons_zero, List.getElem?_cons_succ, List.set_cons_zero, List.set_cons_succ, ofString_inj, decide_eq_true_eq, Bool.not_eq_true', decide_eq_false_iff_not, reduceIte, if_true, if_false, Int.reduceLT, Int.reduceLE, Int.reduceEq, Int.reduceNe, decide_true, decide_false, Bool.false_eq_true, String.reduceEq, Bool.not_true, Bool.not_false, idxO_dct, stIxO_dct, keyV_str, keyV_int, isKd_nil, isKd_cons, dLook_nil, dLook_cons, dct_eq, dctO_ok, prs_nil, prs_cons, get_new, set_new, dPut, dHas, List.any_cons, List.any_nil, List.all_cons, List.all_nil, List.foldl_cons, List.foldl_nil, List.map_cons, List.map_nil, List.cons_append, List.nil_append, Option.some.injEq, Sum.inr.injEq, Sum.inl.injEq, Option.isSome_some, Bool.or_false, Bool.false_or, Bool.or_true, Bool.true_or, Bool.and_true, Bool.true_and, Bool.and_self, List.length_cons, List.length_nil, sizeLine_eq, Nat.reduceAdd, Nat.reduceLeDiff, Nat.reduceLT, and_self, and_true, true_and, Bool.or_self, Bool.and_false, Bool.false_and, reduceCtorEq, in_tup, memFlat_nil, memFlat_cons, eqFlat_ss, eqFlat_ii, flatA_str, flatA_int, cpow2, comp_eq, gs_nil, gs_cons, Nat.reducePow, Int.reduceToNat, Int.reducePow, Int.reduceSub, Int.reduceNeg, Int.reduceAdd, Int.reduceMul, lwrapped_ok, hm, e1, e2, e3]
  · rw [wrap_add]; exact ⟨_, rfl⟩
  · rw [wrap_ite]; exact ⟨_, rfl⟩
  · rw [wrap_ite]; exact ⟨_, rfl⟩
  · rw [wrap_nat]; exact ⟨_, rfl⟩
  · rw [wrap_nat]; exact ⟨_, rfl⟩
  · rw [wrap_nat]; exact ⟨_, rfl⟩
/-- a drawn word -/
def rowsW : List AV := [.int 0, .int 1, .int (-1), .int 2, .int 5, .int 31, .int 32, .int 33, .int (-32), .int 2147483647, .int (-2147483648), .int 2147483646, .int (-2147483647), .int 65535, .int 65536, .int (-65536)]
theorem rowsW_at {v : Int} (h0 : 0 ≤ v) (h1 : v < 16) : ∃ w : Wd, atI rowsW v = some (wi w) := by
  have : v = 0 ∨ v = 1 ∨ v = 2 ∨ v = 3 ∨ v = 4 ∨ v = 5 ∨ v = 6 ∨ v = 7 ∨ v = 8 ∨ v = 9 ∨ v = 10 ∨ v = 11 ∨ v = 12 ∨ v = 13 ∨ v = 14 ∨ v = 15 := by omega
  have key : ∃ n : Int, -2147483648 ≤ n ∧ n < 2147483648 ∧ atI rowsW v = some (.int n) := by
    rcases this with rfl | rfl | rfl | rfl | rfl | rfl | rfl | rfl | rfl | rfl | rfl | rfl | rfl | rfl | rfl | rfl <;> exact ⟨_, by decide, by decide, rfl⟩
  obtain ⟨n, a, b, c⟩ := key
  exact ⟨BitVec.ofInt 32 n, by rw [c]; unfold wi; rw [wd_of a b]⟩
theorem word_ok (k : Nat) {r q : Nat} {ns : List Int} {h : AH} (S : StAt r q ns h) :
    ∃ (w : Wd) (h' : AH), callA T fs (k + 2) "_law_word" [.ref r] h = .ok (wi w) h' ∧ StAt r q ns h' ∧ h'.length = h.length + 1 ∧ ∀ i, i < h.length → i ≠ r → h'[i]? = h[i]? := by
  rw [c_law_word]
  unfold s_law_word
  obtain ⟨hr, hq⟩ := S.lt
  obtain ⟨v, h1, e1, S1, m1, v0, v1⟩ := draw_ok k (many := 3) (S.app (l := [.lst rowsW])) (by decide) (by decide)
  unfold rowsW at e1
  have g1 : h1[h.length]? = some (.lst rowsW) := by rw [m1.2 _ (by omega), get_new]
  have fr : ∀ i, i < h.length → i ≠ r → h1[i]? = h[i]? := fun i a b => by rw [m1.2 i b, List.getElem?_append_left a]
  have l1 : h1.length = h.length + 1 := by rw [m1.1]; simp
  by_cases ev : v = 0
  · obtain ⟨v2, h2, e2, S2, m2, w0, w1⟩ := draw_ok k (many := 4294967296) S1 (by decide) (by decide)
    simp only [seqS_eq, bdS_eq, bd_eq, ifS_eq, thn_nx, thn_rt, thn_bk, thn_ct, thn_exc, thn_bad, thS_ok, thS_exc, thS_bad, thE_ok, thE_exc, thE_bad, thIf_ok, thIf_exc, thIf_bad, ret_eq, setS_eq, retS_eq, skipS_eq, alloc_eq, callM_eq, evs_nil, evs_cons, asBool_bl, tru_bl, tru_int, tru_non, tru_tup, runR_nx, runR_rt, runR_exc, runR_bad, runR_ite, thn_ite, thS_ite, thE_ite, ite_app2, ite_app2S, add_ii, sub_ii, mul_ii, fdiv_ii, mod_ii, pow_ii, shl_ii, shr_ii, band_ii, bor_ii, bxor_ii, neg_i, lt_ii, le_ii, gt_ii, ge_ii, eq_ii, eq_ss, eq_bb, ne_ii, ne_ss, ne_bb, isN_non, isN_int, isN_tup, isN_ref, isN_str, int_i, int_b, abs_i, max_ii, min_ii, slotM, idx_r, idx_t, idxO_lst, idxO_fro, atO_some, stIx_r, len_r, lenO_lst, lenO_fro, list_r, listO_lst, listO_fro, andT_one, andT_two, orT_one, orT_two, andV_one, andV_two, orV_one, orV_two, asg_eq, subG_eq, onlyNx_eq, nxo_nx, lst_eq, tup_eq, pat_nm, forS_eq, okS_nx, okS_rt, okS_bk, okS_ct, okS_exc, okE_oke, List.getElem?_cons_zero, List.getElem?_cons_succ, List.set_cons_zero, List.set_cons_succ, ofString_inj, decide_eq_true_eq, Bool.not_eq_true', decide_eq_false_iff_not, reduceIte, if_true, if_false, Int.reduceLT, Int.reduceLE, Int.reduceEq, Int.reduceNe, decide_true, decide_false, Bool.false_eq_true, String.reduceEq, Bool.not_true, Bool.not_false, idxO_dct, stIxO_dct, keyV_str, keyV_int, isKd_nil, isKd_cons, dLook_nil, dLook_cons, dct_eq, dctO_ok, prs_nil, prs_cons, get_new, set_new, dPut, dHas, List.any_cons, List.any_nil, List.all_cons, List.all_nil, List.foldl_cons, List.foldl_nil, List.map_cons, List.map_nil, List.cons_append, List.nil_append, Option.some.injEq, Sum.inr.injEq, Sum.inl.injEq, Option.isSome_some, Bool.or_false, Bool.false_or, Bool.or_true, Bool.true_or, Bool.and_true, Bool.true_and, Bool.and_self, List.length_cons, List.length_nil, sizeLine_eq, Nat.reduceAdd, Nat.reduceLeDiff, Nat.reduceLT, and_self, and_true, true_and, Bool.or_self, Bool.and_false, Bool.false_and, reduceCtorEq, in_tup, memFlat_nil, memFlat_cons, eqFlat_ss, eqFlat_ii, flatA_str, flatA_int, cpow2, comp_eq, gs_nil, gs_cons, Nat.reducePow, Int.reduceToNat, Int.reducePow, Int.reduceSub, Int.reduceNeg, Int.reduceAdd, Int.reduceMul, e1, ev, e2]
    refine ⟨BitVec.ofInt 32 (v2 - 2147483648), h2, ?_, S2, by rw [m2.1, l1], fun i a b => by rw [m2.2 i b, fr i a b]⟩
    unfold wi
    rw [wd_of (by omega) (by omega)]
  · obtain ⟨v2, h2, e2, S2, m2, w0, w1⟩ := draw_ok k (many := 16) S1 (by decide) (by decide)
    obtain ⟨w, ew⟩ := rowsW_at w0 w1
    have g2 : h2[h.length]? = some (.lst rowsW) := by rw [m2.2 _ (by omega), g1]
    have ln : ((rowsW.length : Nat) : Int) = 16 := rfl
    simp only [seqS_eq, bdS_eq, bd_eq, ifS_eq, thn_nx, thn_rt, thn_bk, thn_ct, thn_exc, thn_bad, thS_ok, thS_exc, thS_bad, thE_ok, thE_exc, thE_bad, thIf_ok, thIf_exc, thIf_bad, ret_eq, setS_eq, retS_eq, skipS_eq, alloc_eq, callM_eq, evs_nil, evs_cons, asBool_bl, tru_bl, tru_int, tru_non, tru_tup, runR_nx, runR_rt, runR_exc, runR_bad, runR_ite, thn_ite, thS_ite, thE_ite, ite_app2, ite_app2S, add_ii, sub_ii, mul_ii, fdiv_ii, mod_ii, pow_ii, shl_ii, shr_ii, band_ii, bor_ii, bxor_ii, neg_i, lt_ii, le_ii, gt_ii, ge_ii, eq_ii, eq_ss, eq_bb, ne_ii, ne_ss, ne_bb, isN_non, isN_int, isN_tup, isN_ref, isN_str, int_i, int_b, abs_i, max_ii, min_ii, slotM, idx_r, idx_t, idxO_lst, idxO_fro, atO_some, stIx_r, len_r, lenO_lst, lenO_fro, list_r, listO_lst, listO_fro, andT_one, andT_two, orT_one, orT_two, andV_one, andV_two, orV_one, orV_two, asg_eq, subG_eq, onlyNx_eq, nxo_nx, lst_eq, tup_eq, pat_nm, forS_eq, okS_nx, okS_rt, okS_bk, okS_ct, okS_exc, okE_oke, List.getElem?_cons_zero, List.getElem?_cons_succ, List.set_cons_zero, List.set_cons_succ, ofString_inj, decide_eq_true_eq, Bool.not_eq_true', decide_eq_false_iff_not, reduceIte, if_true, if_false, Int.reduceLT, Int.reduceLE, Int.reduceEq, Int.reduceNe, decide_true, decide_false, Bool.false_eq_true, String.reduceEq, Bool.not_true, Bool.not_false, idxO_dct, stIxO_dct, keyV_str, keyV_int, isKd_nil, isKd_cons, dLook_nil, dLook_cons, dct_eq, dctO_ok, prs_nil, prs_cons, get_new, set_new, dPut, dHas, List.any_cons, List.any_nil, List.all_cons, List.all_nil, List.foldl_cons, List.foldl_nil, List.map_cons, List.map_nil, List.cons_append, List.nil_append, Option.some.injEq, Sum.inr.injEq, Sum.inl.injEq, Option.isSome_some, Bool.or_false, Bool.false_or, Bool.or_true, Bool.true_or, Bool.and_true, Bool.true_and, Bool.and_self, List.length_cons, List.length_nil, sizeLine_eq, Nat.reduceAdd, Nat.reduceLeDiff, Nat.reduceLT, and_self, and_true, true_and, Bool.or_self, Bool.and_false, Bool.false_and, reduceCtorEq, in_tup, memFlat_nil, memFlat_cons, eqFlat_ss, eqFlat_ii, flatA_str, flatA_int, cpow2, comp_eq, gs_nil, gs_cons, Nat.reducePow, Int.reduceToNat, Int.reducePow, Int.reduceSub, Int.reduceNeg, Int.reduceAdd, Int.reduceMul, e1, ev, g1, ln, e2, g2, ew]
    exact ⟨w, h2, rfl, S2, by rw [m2.1, l1], fun i a b => by rw [m2.2 i b, fr i a b]⟩
end K02
namespace K02
open PySem PySem.Spec PyProof.Rows L2 Ev
theorem stream_ok (k : Nat) {ns : List Int} (hl : ns.length ≤ 63) : ∃ h', callA T fs (k + 1) "_law_stream" [.ref 0] [.fro (ns.map AV.int)] = .ok (.ref 2) h' ∧ h'.length = 3 ∧ StAt 2 1 ns h' := by
  obtain ⟨h', e, a, _, b⟩ := stream_pre (cf := callA T fs k) (p := 0) (ns := ns) (h := [.fro (ns.map AV.int)]) rfl hl
  exact ⟨h', by rw [c_law_stream]; exact e, a, b⟩
def six : List AV := [.str "add", .str "min", .str "max", .str "and", .str "or", .str "xor"]
def sixD : PyData := .tuple [.str "add", .str "min", .str "max", .str "and", .str "or", .str "xor"]
theorem six_dat (h : AH) : datA 65 h (.tup six) = some sixD := by
  unfold six sixD
  simp [datA, datAs]
theorem six_lay : sixD.canLay0 = true := by
  unfold sixD
  simp only [PyData.canLay0, PyData.canLayAll0]
  decide +kernel
theorem six_ne (s : Sl) (h : AH) : neA (.tup six) (.tup six) s h = .ok (.bl false) h := by
  unfold neA rd eqB scalA eqDeep
  dsimp only
  rw [six_dat]
  dsimp only
  have e : SeqAt.shaped sixD = true := by
    unfold SeqAt.shaped
    rw [six_lay]
    simp [sixD, PyData.depth, PyData.depthAll]
  rw [if_pos ⟨e, e⟩, SeqAt.eqv_refl _ six_lay]
  rfl
abbrev SX (ns : List Int) := Sl → AH → Prop
abbrev DX (P : Sl → AH → Prop) : Dst := { nx := P, rt := fun v _ => v = .bl true }
abbrev cf : CF := callA T fs 5
def sl (a2 a3 a4 a5 a6 a7 a8 a9 a10 a11 : Option AV) : Sl := [some (.ref 0), some (.ref 2), a2, a3, a4, a5, a6, a7, a8, a9, a10, a11]
def A1 (ns : List Int) (s : Sl) (h : AH) : Prop := s = [some (.ref 0), some (.ref 2), none, none, none, none, none, none, none, none, none, none] ∧ StAt 2 1 ns h
def A2 (ns : List Int) (s : Sl) (h : AH) : Prop := ∃ n : Int, n.natAbs < 2 ^ 80 ∧ s = [some (.ref 0), some (.ref 2), some (.int n), none, none, none, none, none, none, none, none, none] ∧ StAt 2 1 ns h
def A4 (ns : List Int) (s : Sl) (h : AH) : Prop := ∃ n : Int, s = [some (.ref 0), some (.ref 2), some (.int n), none, none, none, none, none, none, none, none, none] ∧ StAt 2 1 ns h
def A6 (ns : List Int) (s : Sl) (h : AH) : Prop := ∃ (n : Int) (w : Nat) (ws : List Wd), ws.length ≤ 8 ∧ s = [some (.ref 0), some (.ref 2), some (.int n), some (.ref w), none, none, none, none, none, none, none, none] ∧ StAt 2 1 ns h ∧ h[w]? = some (.lst (ws.map wi)) ∧ w ≠ 1 ∧ w ≠ 2
def A7 (ns : List Int) (s : Sl) (h : AH) : Prop := ∃ (n : Int) (w : Nat) (ws : List Wd) (t : Nat) (ts : List Wd) (c5 c7 : Option AV), ws.length ≤ 8 ∧ w ≠ 1 ∧ w ≠ 2 ∧ ts.Perm ws ∧ s = [some (.ref 0), some (.ref 2), some (.int n), some (.ref w), some (.ref t), c5, none, c7, none, none, none, none] ∧ StAt 2 1 ns h ∧ h[w]? = some (.lst (ws.map wi)) ∧ h[t]? = some (.lst (ts.map wi)) ∧ t ≠ 1 ∧ t ≠ 2 ∧ t ≠ w
theorem p1 {ns : List Int} (hl : ns.length ≤ 63) : okS (s_law_1 cf [some (.ref 0), none, none, none, none, none, none, none, none, none, none, none] [.fro (ns.map AV.int)]) (DX (A1 ns)) := by
  unfold s_law_1 A1
  obtain ⟨h1, e1, l1, S1⟩ := stream_ok 4 hl
  simp only [seqS_eq, bdS_eq, bd_eq, ifS_eq, thn_nx, thn_rt, thn_bk, thn_ct, thn_exc, thn_bad, thS_ok, thS_exc, thS_bad, thE_ok, thE_exc, thE_bad, thIf_ok, thIf_exc, thIf_bad, ret_eq, setS_eq, retS_eq, skipS_eq, alloc_eq, callM_eq, evs_nil, evs_cons, asBool_bl, tru_bl, tru_int, tru_non, tru_tup, runR_nx, runR_rt, runR_exc, runR_bad, runR_ite, thn_ite, thS_ite, thE_ite, ite_app2, ite_app2S, add_ii, sub_ii, mul_ii, fdiv_ii, mod_ii, pow_ii, shl_ii, shr_ii, band_ii, bor_ii, bxor_ii, neg_i, lt_ii, le_ii, gt_ii, ge_ii, eq_ii, eq_ss, eq_bb, ne_ii, ne_ss, ne_bb, isN_non, isN_int, isN_tup, isN_ref, isN_str, int_i, int_b, abs_i, max_ii, min_ii, slotM, idx_r, idx_t, idxO_lst, idxO_fro, atO_some, stIx_r, len_r, lenO_lst, lenO_fro, list_r, listO_lst, listO_fro, andT_one, andT_two, orT_one, orT_two, andV_one, andV_two, orV_one, orV_two, asg_eq, subG_eq, onlyNx_eq, nxo_nx, lst_eq, tup_eq, pat_nm, forS_eq, okS_nx, okS_rt, okS_bk, okS_ct, okS_exc, okE_oke, List.getElem?_cons_zero, List.getElem?_cons_succ, List.set_cons_zero, List.set_cons_succ, ofString_inj, decide_eq_true_eq, Bool.not_eq_true', decide_eq_false_iff_not, reduceIte, if_true, if_false, Int.reduceLT, Int.reduceLE, Int.reduceEq, Int.reduceNe, decide_true, decide_false, Bool.false_eq_true, String.reduceEq, Bool.not_true, Bool.not_false, idxO_dct, stIxO_dct, keyV_str, keyV_int, isKd_nil, isKd_cons, dLook_nil, dLook_cons, dct_eq, dctO_ok, prs_nil, prs_cons, get_new, set_new, dPut, dHas, List.any_cons, List.any_nil, List.all_cons, List.all_nil, List.foldl_cons, List.foldl_nil, List.map_cons, List.map_nil, List.cons_append, List.nil_append, Option.some.injEq, Sum.inr.injEq, Sum.inl.injEq, Option.isSome_some, Bool.or_false, Bool.false_or, Bool.or_true, Bool.true_or, Bool.and_true, Bool.true_and, Bool.and_self, List.length_cons, List.length_nil, sizeLine_eq, Nat.reduceAdd, Nat.reduceLeDiff, Nat.reduceLT, and_self, and_true, true_and, Bool.or_self, Bool.and_false, Bool.false_and, reduceCtorEq, in_tup, memFlat_nil, memFlat_cons, eqFlat_ss, eqFlat_ii, flatA_str, flatA_int, cpow2, comp_eq, gs_nil, gs_cons, Nat.reducePow, Int.reduceToNat, Int.reducePow, Int.reduceSub, Int.reduceNeg, Int.reduceAdd, Int.reduceMul, e1]
  exact S1
theorem p2 {ns : List Int} {s : Sl} {h : AH} (p : A1 ns s h) : okS (s_law_2 cf s h) (DX (A2 ns)) := by
  obtain ⟨rfl, S⟩ := p
  unfold s_law_2
  unfold A2
  obtain ⟨v1, h1, e1, S1, m1, a1, b1⟩ := draw_ok 4 (many := 1152921504606846976) S (by decide) (by decide)
  obtain ⟨v2, h2, e2, S2, m2, a2, b2⟩ := draw_ok 4 (many := 1024) S1 (by decide) (by decide)
  have c1 : CMulW v1 1024 := CMulW_small (by omega) (by decide)
  have c2 : CMulW 1152921504606846976 512 := CMulW_small (by decide) (by decide)
  simp only [seqS_eq, bdS_eq, bd_eq, ifS_eq, thn_nx, thn_rt, thn_bk, thn_ct, thn_exc, thn_bad, thS_ok, thS_exc, thS_bad, thE_ok, thE_exc, thE_bad, thIf_ok, thIf_exc, thIf_bad, ret_eq, setS_eq, retS_eq, skipS_eq, alloc_eq, callM_eq, evs_nil, evs_cons, asBool_bl, tru_bl, tru_int, tru_non, tru_tup, runR_nx, runR_rt, runR_exc, runR_bad, runR_ite, thn_ite, thS_ite, thE_ite, ite_app2, ite_app2S, add_ii, sub_ii, mul_ii, fdiv_ii, mod_ii, pow_ii, shl_ii, shr_ii, band_ii, bor_ii, bxor_ii, neg_i, lt_ii, le_ii, gt_ii, ge_ii, eq_ii, eq_ss, eq_bb, ne_ii, ne_ss, ne_bb, isN_non, isN_int, isN_tup, isN_ref, isN_str, int_i, int_b, abs_i, max_ii, min_ii, slotM, idx_r, idx_t, idxO_lst, idxO_fro, atO_some, stIx_r, len_r, lenO_lst, lenO_fro, list_r, listO_lst, listO_fro, andT_one, andT_two, orT_one, orT_two, andV_one, andV_two, orV_one, orV_two, asg_eq, subG_eq, onlyNx_eq, nxo_nx, lst_eq, tup_eq, pat_nm, forS_eq, okS_nx, okS_rt, okS_bk, okS_ct, okS_exc, okE_oke, List.getElem?_cons_zero, List.getElem?_cons_succ, List.set_cons_zero, List.set_cons_succ, ofString_inj, decide_eq_true_eq, Bool.not_eq_true', decide_eq_false_iff_not, reduceIte, if_true, if_false, Int.reduceLT, Int.reduceLE, Int.reduceEq, Int.reduceNe, decide_true, decide_false, Bool.false_eq_true, String.reduceEq, Bool.not_true, Bool.not_false, idxO_dct, stIxO_dct, keyV_str, keyV_int, isKd_nil, isKd_cons, dLook_nil, dLook_cons, dct_eq, dctO_ok, prs_nil, prs_cons, get_new, set_new, dPut, dHas, List.any_cons, List.any_nil, List.all_cons, List.all_nil, List.foldl_cons, List.foldl_nil, List.map_cons, List.map_nil, List.cons_append, List.nil_append, Option.some.injEq, Sum.inr.injEq, Sum.inl.injEq, Option.isSome_some, Bool.or_false, Bool.false_or, Bool.or_true, Bool.true_or, Bool.and_true, Bool.true_and, Bool.and_self, List.length_cons, List.length_nil, sizeLine_eq, Nat.reduceAdd, Nat.reduceLeDiff, Nat.reduceLT, and_self, and_true, true_and, Bool.or_self, Bool.and_false, Bool.false_and, reduceCtorEq, in_tup, memFlat_nil, memFlat_cons, eqFlat_ss, eqFlat_ii, flatA_str, flatA_int, cpow2, comp_eq, gs_nil, gs_cons, Nat.reducePow, Int.reduceToNat, Int.reducePow, Int.reduceSub, Int.reduceNeg, Int.reduceAdd, Int.reduceMul, e1, c1, c2, e2]
  exact ⟨_, by omega, rfl, S2⟩
theorem p3 {ns : List Int} {s : Sl} {h : AH} (p : A2 ns s h) : okS (s_law_3 cf s h) (DX (A2 ns)) := by
  obtain ⟨n, hn, rfl, S⟩ := p
  unfold s_law_3
  unfold s_law_4 A2
  obtain ⟨v1, h1, e1, S1, m1, a1, b1⟩ := draw_ok 4 (many := 2) S (by decide) (by decide)
  by_cases z : v1 = 0
  · obtain ⟨v2, h2, e2, S2, m2, a2, b2⟩ := draw_ok 4 (many := 9) S1 (by decide) (by decide)
    obtain ⟨v3, h3, e3, S3, m3, a3, b3⟩ := draw_ok 4 (many := 5) S2 (by decide) (by decide)
    have c1 : CMulW 2147483648 (v2 - 4) := CMulW_small (by decide) (by omega)
    simp only [seqS_eq, bdS_eq, bd_eq, ifS_eq, thn_nx, thn_rt, thn_bk, thn_ct, thn_exc, thn_bad, thS_ok, thS_exc, thS_bad, thE_ok, thE_exc, thE_bad, thIf_ok, thIf_exc, thIf_bad, ret_eq, setS_eq, retS_eq, skipS_eq, alloc_eq, callM_eq, evs_nil, evs_cons, asBool_bl, tru_bl, tru_int, tru_non, tru_tup, runR_nx, runR_rt, runR_exc, runR_bad, runR_ite, thn_ite, thS_ite, thE_ite, ite_app2, ite_app2S, add_ii, sub_ii, mul_ii, fdiv_ii, mod_ii, pow_ii, shl_ii, shr_ii, band_ii, bor_ii, bxor_ii, neg_i, lt_ii, le_ii, gt_ii, ge_ii, eq_ii, eq_ss, eq_bb, ne_ii, ne_ss, ne_bb, isN_non, isN_int, isN_tup, isN_ref, isN_str, int_i, int_b, abs_i, max_ii, min_ii, slotM, idx_r, idx_t, idxO_lst, idxO_fro, atO_some, stIx_r, len_r, lenO_lst, lenO_fro, list_r, listO_lst, listO_fro, andT_one, andT_two, orT_one, orT_two, andV_one, andV_two, orV_one, orV_two, asg_eq, subG_eq, onlyNx_eq, nxo_nx, lst_eq, tup_eq, pat_nm, forS_eq, okS_nx, okS_rt, okS_bk, okS_ct, okS_exc, okE_oke, List.getElem?_cons_zero, List.getElem?_cons_succ, List.set_cons_zero, List.set_cons_succ, ofString_inj, decide_eq_true_eq, Bool.not_eq_true', decide_eq_false_iff_not, reduceIte, if_true, if_false, Int.reduceLT, Int.reduceLE, Int.reduceEq, Int.reduceNe, decide_true, decide_false, Bool.false_eq_true, String.reduceEq, Bool.not_true, Bool.not_false, idxO_dct, stIxO_dct, keyV_str, keyV_int, isKd_nil, isKd_cons, dLook_nil, dLook_cons, dct_eq, dctO_ok, prs_nil, prs_cons, get_new, set_new, dPut, dHas, List.any_cons, List.any_nil, List.all_cons, List.all_nil, List.foldl_cons, List.foldl_nil, List.map_cons, List.map_nil, List.cons_append, List.nil_append, Option.some.injEq, Sum.inr.injEq, Sum.inl.injEq, Option.isSome_some, Bool.or_false, Bool.false_or, Bool.or_true, Bool.true_or, Bool.and_true, Bool.true_and, Bool.and_self, List.length_cons, List.length_nil, sizeLine_eq, Nat.reduceAdd, Nat.reduceLeDiff, Nat.reduceLT, and_self, and_true, true_and, Bool.or_self, Bool.and_false, Bool.false_and, reduceCtorEq, in_tup, memFlat_nil, memFlat_cons, eqFlat_ss, eqFlat_ii, flatA_str, flatA_int, cpow2, comp_eq, gs_nil, gs_cons, Nat.reducePow, Int.reduceToNat, Int.reducePow, Int.reduceSub, Int.reduceNeg, Int.reduceAdd, Int.reduceMul, e1, z, e2, c1, e3]
    exact ⟨_, by omega, rfl, S3⟩
  · simp only [seqS_eq, bdS_eq, bd_eq, ifS_eq, thn_nx, thn_rt, thn_bk, thn_ct, thn_exc, thn_bad, thS_ok, thS_exc, thS_bad, thE_ok, thE_exc, thE_bad, thIf_ok, thIf_exc, thIf_bad, ret_eq, setS_eq, retS_eq, skipS_eq, alloc_eq, callM_eq, evs_nil, evs_cons, asBool_bl, tru_bl, tru_int, tru_non, tru_tup, runR_nx, runR_rt, runR_exc, runR_bad, runR_ite, thn_ite, thS_ite, thE_ite, ite_app2, ite_app2S, add_ii, sub_ii, mul_ii, fdiv_ii, mod_ii, pow_ii, shl_ii, shr_ii, band_ii, bor_ii, bxor_ii, neg_i, lt_ii, le_ii, gt_ii, ge_ii, eq_ii, eq_ss, eq_bb, ne_ii, ne_ss, ne_bb, isN_non, isN_int, isN_tup, isN_ref, isN_str, int_i, int_b, abs_i, max_ii, min_ii, slotM, idx_r, idx_t, idxO_lst, idxO_fro, atO_some, stIx_r, len_r, lenO_lst, lenO_fro, list_r, listO_lst, listO_fro, andT_one, andT_two, orT_one, orT_two, andV_one, andV_two, orV_one, orV_two, asg_eq, subG_eq, onlyNx_eq, nxo_nx, lst_eq, tup_eq, pat_nm, forS_eq, okS_nx, okS_rt, okS_bk, okS_ct, okS_exc, okE_oke, List.getElem?_cons_zero, List.getElem?_cons_succ, List.set_cons_zero, List.set_cons_succ, ofString_inj, decide_eq_true_eq, Bool.not_eq_true', decide_eq_false_iff_not, reduceIte, if_true, if_false, Int.reduceLT, Int.reduceLE, Int.reduceEq, Int.reduceNe, decide_true, decide_false, Bool.false_eq_true, String.reduceEq, Bool.not_true, Bool.not_false, idxO_dct, stIxO_dct, keyV_str, keyV_int, isKd_nil, isKd_cons, dLook_nil, dLook_cons, dct_eq, dctO_ok, prs_nil, prs_cons, get_new, set_new, dPut, dHas, List.any_cons, List.any_nil, List.all_cons, List.all_nil, List.foldl_cons, List.foldl_nil, List.map_cons, List.map_nil, List.cons_append, List.nil_append, Option.some.injEq, Sum.inr.injEq, Sum.inl.injEq, Option.isSome_some, Bool.or_false, Bool.false_or, Bool.or_true, Bool.true_or, Bool.and_true, Bool.true_and, Bool.and_self, List.length_cons, List.length_nil, sizeLine_eq, Nat.reduceAdd, Nat.reduceLeDiff, Nat.reduceLT, and_self, and_true, true_and, Bool.or_self, Bool.and_false, Bool.false_and, reduceCtorEq, in_tup, memFlat_nil, memFlat_cons, eqFlat_ss, eqFlat_ii, flatA_str, flatA_int, cpow2, comp_eq, gs_nil, gs_cons, Nat.reducePow, Int.reduceToNat, Int.reducePow, Int.reduceSub, Int.reduceNeg, Int.reduceAdd, Int.reduceMul, e1, z]
    exact ⟨n, hn, rfl, S1⟩
theorem p5 {ns : List Int} {s : Sl} {h : AH} (p : A2 ns s h) : okS (s_law_5 cf s h) (DX (A4 ns)) := by
  obtain ⟨n, hn, rfl, S⟩ := p
  unfold s_law_5
  unfold s_law_6 A4
  obtain ⟨v1, h1, e1, S1, m1, a1, b1⟩ := draw_ok 4 (many := 3) S (by decide) (by decide)
  by_cases z : v1 = 0
  · obtain ⟨v2, h2, e2, S2, m2, a2, b2⟩ := draw_ok 4 (many := 8589934592) S1 (by decide) (by decide)
    have g : ∀ x : Int, x.natAbs < 2 ^ 160 → CMulW x 1099511627776 := fun x hx => by
      unfold CMulW
      have := log2_le_of hx (by decide)
      have : Int.natAbs 1099511627776 < 2 ^ 64 := by decide
      have := log2_le_of this (by decide)
      omega
    have c1 : CMulW n 1099511627776 := g n (by omega)
    have c2 : CMulW (n * 1099511627776) 1099511627776 := g _ (by omega)
    simp only [seqS_eq, bdS_eq, bd_eq, ifS_eq, thn_nx, thn_rt, thn_bk, thn_ct, thn_exc, thn_bad, thS_ok, thS_exc, thS_bad, thE_ok, thE_exc, thE_bad, thIf_ok, thIf_exc, thIf_bad, ret_eq, setS_eq, retS_eq, skipS_eq, alloc_eq, callM_eq, evs_nil, evs_cons, asBool_bl, tru_bl, tru_int, tru_non, tru_tup, runR_nx, runR_rt, runR_exc, runR_bad, runR_ite, thn_ite, thS_ite, thE_ite, ite_app2, ite_app2S, add_ii, sub_ii, mul_ii, fdiv_ii, mod_ii, pow_ii, shl_ii, shr_ii, band_ii, bor_ii, bxor_ii, neg_i, lt_ii, le_ii, gt_ii, ge_ii, eq_ii, eq_ss, eq_bb, ne_ii, ne_ss, ne_bb, isN_non, isN_int, isN_tup, isN_ref, isN_str, int_i, int_b, abs_i, max_ii, min_ii, slotM, idx_r, idx_t, idxO_lst, idxO_fro, atO_some, stIx_r, len_r, lenO_lst, lenO_fro, list_r, listO_lst, listO_fro, andT_one, andT_two, orT_one, orT_two, andV_one, andV_two, orV_one, orV_two, asg_eq, subG_eq, onlyNx_eq, nxo_nx, lst_eq, tup_eq, pat_nm, forS_eq, okS_nx, okS_rt, okS_bk, okS_ct, okS_exc, okE_oke, List.getElem?_cons_zero, List.getElem?_cons_succ, List.set_cons_zero, List.set_cons_succ, ofString_inj, decide_eq_true_eq, Bool.not_eq_true', decide_eq_false_iff_not, reduceIte, if_true, if_false, Int.reduceLT, Int.reduceLE, Int.reduceEq, Int.reduceNe, decide_true, decide_false, Bool.false_eq_true, String.reduceEq, Bool.not_true, Bool.not_false, idxO_dct, stIxO_dct, keyV_str, keyV_int, isKd_nil, isKd_cons, dLook_nil, dLook_cons, dct_eq, dctO_ok, prs_nil, prs_cons, get_new, set_new, dPut, dHas, List.any_cons, List.any_nil, List.all_cons, List.all_nil, List.foldl_cons, List.foldl_nil, List.map_cons, List.map_nil, List.cons_append, List.nil_append, Option.some.injEq, Sum.inr.injEq, Sum.inl.injEq, Option.isSome_some, Bool.or_false, Bool.false_or, Bool.or_true, Bool.true_or, Bool.and_true, Bool.true_and, Bool.and_self, List.length_cons, List.length_nil, sizeLine_eq, Nat.reduceAdd, Nat.reduceLeDiff, Nat.reduceLT, and_self, and_true, true_and, Bool.or_self, Bool.and_false, Bool.false_and, reduceCtorEq, in_tup, memFlat_nil, memFlat_cons, eqFlat_ss, eqFlat_ii, flatA_str, flatA_int, cpow2, comp_eq, gs_nil, gs_cons, Nat.reducePow, Int.reduceToNat, Int.reducePow, Int.reduceSub, Int.reduceNeg, Int.reduceAdd, Int.reduceMul, e1, z, c1, c2, e2]
    exact ⟨_, rfl, S2⟩
  · simp only [seqS_eq, bdS_eq, bd_eq, ifS_eq, thn_nx, thn_rt, thn_bk, thn_ct, thn_exc, thn_bad, thS_ok, thS_exc, thS_bad, thE_ok, thE_exc, thE_bad, thIf_ok, thIf_exc, thIf_bad, ret_eq, setS_eq, retS_eq, skipS_eq, alloc_eq, callM_eq, evs_nil, evs_cons, asBool_bl, tru_bl, tru_int, tru_non, tru_tup, runR_nx, runR_rt, runR_exc, runR_bad, runR_ite, thn_ite, thS_ite, thE_ite, ite_app2, ite_app2S, add_ii, sub_ii, mul_ii, fdiv_ii, mod_ii, pow_ii, shl_ii, shr_ii, band_ii, bor_ii, bxor_ii, neg_i, lt_ii, le_ii, gt_ii, ge_ii, eq_ii, eq_ss, eq_bb, ne_ii, ne_ss, ne_bb, isN_non, isN_int, isN_tup, isN_ref, isN_str, int_i, int_b, abs_i, max_ii, min_ii, slotM, idx_r, idx_t, idxO_lst, idxO_fro, atO_some, stIx_r, len_r, lenO_lst, lenO_fro, list_r, listO_lst, listO_fro, andT_one, andT_two, orT_one, orT_two, andV_one, andV_two, orV_one, orV_two, asg_eq, subG_eq, onlyNx_eq, nxo_nx, lst_eq, tup_eq, pat_nm, forS_eq, okS_nx, okS_rt, okS_bk, okS_ct, okS_exc, okE_oke, List.getElem?_cons_zero, List.getElem?_cons_succ, List.set_cons_zero, List.set_cons_succ, ofString_inj, decide_eq_true_eq, Bool.not_eq_true', decide_eq_false_iff_not, reduceIte, if_true, if_false, Int.reduceLT, Int.reduceLE, Int.reduceEq, Int.reduceNe, decide_true, decide_false, Bool.false_eq_true, String.reduceEq, Bool.not_true, Bool.not_false, idxO_dct, stIxO_dct, keyV_str, keyV_int, isKd_nil, isKd_cons, dLook_nil, dLook_cons, dct_eq, dctO_ok, prs_nil, prs_cons, get_new, set_new, dPut, dHas, List.any_cons, List.any_nil, List.all_cons, List.all_nil, List.foldl_cons, List.foldl_nil, List.map_cons, List.map_nil, List.cons_append, List.nil_append, Option.some.injEq, Sum.inr.injEq, Sum.inl.injEq, Option.isSome_some, Bool.or_false, Bool.false_or, Bool.or_true, Bool.true_or, Bool.and_true, Bool.true_and, Bool.and_self, List.length_cons, List.length_nil, sizeLine_eq, Nat.reduceAdd, Nat.reduceLeDiff, Nat.reduceLT, and_self, and_true, true_and, Bool.or_self, Bool.and_false, Bool.false_and, reduceCtorEq, in_tup, memFlat_nil, memFlat_cons, eqFlat_ss, eqFlat_ii, flatA_str, flatA_int, cpow2, comp_eq, gs_nil, gs_cons, Nat.reducePow, Int.reduceToNat, Int.reducePow, Int.reduceSub, Int.reduceNeg, Int.reduceAdd, Int.reduceMul, e1, z]
    exact ⟨n, rfl, S1⟩
theorem p7 {ns : List Int} {s : Sl} {h : AH} (p : A4 ns s h) : okS (s_law_7 cf s h) (DX (A4 ns)) := by
  obtain ⟨n, rfl, S⟩ := p
  unfold s_law_7
  unfold s_law_8 A4
  have sx := six_ne
  unfold six at sx
  simp only [seqS_eq, bdS_eq, bd_eq, ifS_eq, thn_nx, thn_rt, thn_bk, thn_ct, thn_exc, thn_bad, thS_ok, thS_exc, thS_bad, thE_ok, thE_exc, thE_bad, thIf_ok, thIf_exc, thIf_bad, ret_eq, setS_eq, retS_eq, skipS_eq, alloc_eq, callM_eq, evs_nil, evs_cons, asBool_bl, tru_bl, tru_int, tru_non, tru_tup, runR_nx, runR_rt, runR_exc, runR_bad, runR_ite, thn_ite, thS_ite, thE_ite, ite_app2, ite_app2S, add_ii, sub_ii, mul_ii, fdiv_ii, mod_ii, pow_ii, shl_ii, shr_ii, band_ii, bor_ii, bxor_ii, neg_i, lt_ii, le_ii, gt_ii, ge_ii, eq_ii, eq_ss, eq_bb, ne_ii, ne_ss, ne_bb, isN_non, isN_int, isN_tup, isN_ref, isN_str, int_i, int_b, abs_i, max_ii, min_ii, slotM, idx_r, idx_t, idxO_lst, idxO_fro, atO_some, stIx_r, len_r, lenO_lst, lenO_fro, list_r, listO_lst, listO_fro, andT_one, andT_two, orT_one, orT_two, andV_one, andV_two, orV_one, orV_two, asg_eq, subG_eq, onlyNx_eq, nxo_nx, lst_eq, tup_eq, pat_nm, forS_eq, okS_nx, okS_rt, okS_bk, okS_ct, okS_exc, okE_oke, List.getElem?_cons_zero, List.getElem?_cons_succ, List.set_cons_zero, List.set_cons_succ, ofString_inj, decide_eq_true_eq, Bool.not_eq_true', decide_eq_false_iff_not, reduceIte, if_true, if_false, Int.reduceLT, Int.reduceLE, Int.reduceEq, Int.reduceNe, decide_true, decide_false, Bool.false_eq_true, String.reduceEq, Bool.not_true, Bool.not_false, idxO_dct, stIxO_dct, keyV_str, keyV_int, isKd_nil, isKd_cons, dLook_nil, dLook_cons, dct_eq, dctO_ok, prs_nil, prs_cons, get_new, set_new, dPut, dHas, List.any_cons, List.any_nil, List.all_cons, List.all_nil, List.foldl_cons, List.foldl_nil, List.map_cons, List.map_nil, List.cons_append, List.nil_append, Option.some.injEq, Sum.inr.injEq, Sum.inl.injEq, Option.isSome_some, Bool.or_false, Bool.false_or, Bool.or_true, Bool.true_or, Bool.and_true, Bool.true_and, Bool.and_self, List.length_cons, List.length_nil, sizeLine_eq, Nat.reduceAdd, Nat.reduceLeDiff, Nat.reduceLT, and_self, and_true, true_and, Bool.or_self, Bool.and_false, Bool.false_and, reduceCtorEq, in_tup, memFlat_nil, memFlat_cons, eqFlat_ss, eqFlat_ii, flatA_str, flatA_int, cpow2, comp_eq, gs_nil, gs_cons, Nat.reducePow, Int.reduceToNat, Int.reducePow, Int.reduceSub, Int.reduceNeg, Int.reduceAdd, Int.reduceMul, wrapped_ok, lwrapped_ok, sx]
  exact ⟨n, rfl, S⟩
theorem p9 {ns : List Int} {s : Sl} {h : AH} (p : A4 ns s h) : okS (s_law_9 cf s h) (DX (A6 ns)) := by
  obtain ⟨n, rfl, S⟩ := p
  unfold s_law_9
  unfold A6
  obtain ⟨v1, h1, e1, S1, m1, a1, b1⟩ := draw_ok 4 (many := 9) S (by decide) (by decide)
  have r1 : ∀ s h, rangeI1 (.int v1) s h = .ok (.vals ((List.range v1.toNat).map fun (k : Nat) => AV.int (0 + (k : Int)))) h := fun s h => rng1 a1 (by omega)
  simp only [seqS_eq, bdS_eq, bd_eq, ifS_eq, thn_nx, thn_rt, thn_bk, thn_ct, thn_exc, thn_bad, thS_ok, thS_exc, thS_bad, thE_ok, thE_exc, thE_bad, thIf_ok, thIf_exc, thIf_bad, ret_eq, setS_eq, retS_eq, skipS_eq, alloc_eq, callM_eq, evs_nil, evs_cons, asBool_bl, tru_bl, tru_int, tru_non, tru_tup, runR_nx, runR_rt, runR_exc, runR_bad, runR_ite, thn_ite, thS_ite, thE_ite, ite_app2, ite_app2S, add_ii, sub_ii, mul_ii, fdiv_ii, mod_ii, pow_ii, shl_ii, shr_ii, band_ii, bor_ii, bxor_ii, neg_i, lt_ii, le_ii, gt_ii, ge_ii, eq_ii, eq_ss, eq_bb, ne_ii, ne_ss, ne_bb, isN_non, isN_int, isN_tup, isN_ref, isN_str, int_i, int_b, abs_i, max_ii, min_ii, slotM, idx_r, idx_t, idxO_lst, idxO_fro, atO_some, stIx_r, len_r, lenO_lst, lenO_fro, list_r, listO_lst, listO_fro, andT_one, andT_two, orT_one, orT_two, andV_one, andV_two, orV_one, orV_two, asg_eq, subG_eq, onlyNx_eq, nxo_nx, lst_eq, tup_eq, pat_nm, forS_eq, okS_nx, okS_rt, okS_bk, okS_ct, okS_exc, okE_oke, List.getElem?_cons_zero, List.getElem?_cons_succ, List.set_cons_zero, List.set_cons_succ, ofString_inj, decide_eq_true_eq, Bool.not_eq_true', decide_eq_false_iff_not, reduceIte, if_true, if_false, Int.reduceLT, Int.reduceLE, Int.reduceEq, Int.reduceNe, decide_true, decide_false, Bool.false_eq_true, String.reduceEq, Bool.not_true, Bool.not_false, idxO_dct, stIxO_dct, keyV_str, keyV_int, isKd_nil, isKd_cons, dLook_nil, dLook_cons, dct_eq, dctO_ok, prs_nil, prs_cons, get_new, set_new, dPut, dHas, List.any_cons, List.any_nil, List.all_cons, List.all_nil, List.foldl_cons, List.foldl_nil, List.map_cons, List.map_nil, List.cons_append, List.nil_append, Option.some.injEq, Sum.inr.injEq, Sum.inl.injEq, Option.isSome_some, Bool.or_false, Bool.false_or, Bool.or_true, Bool.true_or, Bool.and_true, Bool.true_and, Bool.and_self, List.length_cons, List.length_nil, sizeLine_eq, Nat.reduceAdd, Nat.reduceLeDiff, Nat.reduceLT, and_self, and_true, true_and, Bool.or_self, Bool.and_false, Bool.false_and, reduceCtorEq, in_tup, memFlat_nil, memFlat_cons, eqFlat_ss, eqFlat_ii, flatA_str, flatA_int, cpow2, comp_eq, gs_nil, gs_cons, Nat.reducePow, Int.reduceToNat, Int.reducePow, Int.reduceSub, Int.reduceNeg, Int.reduceAdd, Int.reduceMul, e1, r1]
  obtain ⟨lr, lq⟩ := S1.lt
  apply okS_thS
  refine okE_compV (fun i acc h' => ∃ ws : List Wd, acc = ws.map wi ∧ ws.length ≤ i ∧ StAt 2 1 ns h' ∧ h1.length < h'.length) ?_ ?_ _ _ _ _ ⟨[], rfl, Nat.le_refl _, S1.app, by simp⟩ get_new (by simp) (by simp; unfold turnsMax; omega)
  · rintro i x acc h' ex ⟨ws, rfl, hw, S', lt⟩ hD
    refine ⟨_, bind_nm, ?_⟩
    obtain ⟨w, h2, e2, S2, l2, f2⟩ := word_ok 3 S'
    simp only [seqS_eq, bdS_eq, bd_eq, ifS_eq, thn_nx, thn_rt, thn_bk, thn_ct, thn_exc, thn_bad, thS_ok, thS_exc, thS_bad, thE_ok, thE_exc, thE_bad, thIf_ok, thIf_exc, thIf_bad, ret_eq, setS_eq, retS_eq, skipS_eq, alloc_eq, callM_eq, evs_nil, evs_cons, asBool_bl, tru_bl, tru_int, tru_non, tru_tup, runR_nx, runR_rt, runR_exc, runR_bad, runR_ite, thn_ite, thS_ite, thE_ite, ite_app2, ite_app2S, add_ii, sub_ii, mul_ii, fdiv_ii, mod_ii, pow_ii, shl_ii, shr_ii, band_ii, bor_ii, bxor_ii, neg_i, lt_ii, le_ii, gt_ii, ge_ii, eq_ii, eq_ss, eq_bb, ne_ii, ne_ss, ne_bb, isN_non, isN_int, isN_tup, isN_ref, isN_str, int_i, int_b, abs_i, max_ii, min_ii, slotM, idx_r, idx_t, idxO_lst, idxO_fro, atO_some, stIx_r, len_r, lenO_lst, lenO_fro, list_r, listO_lst, listO_fro, andT_one, andT_two, orT_one, orT_two, andV_one, andV_two, orV_one, orV_two, asg_eq, subG_eq, onlyNx_eq, nxo_nx, lst_eq, tup_eq, pat_nm, forS_eq, okS_nx, okS_rt, okS_bk, okS_ct, okS_exc, okE_oke, List.getElem?_cons_zero, List.getElem?_cons_succ, List.set_cons_zero, List.set_cons_succ, ofString_inj, decide_eq_true_eq, Bool.not_eq_true', decide_eq_false_iff_not, reduceIte, if_true, if_false, Int.reduceLT, Int.reduceLE, Int.reduceEq, Int.reduceNe, decide_true, decide_false, Bool.false_eq_true, String.reduceEq, Bool.not_true, Bool.not_false, idxO_dct, stIxO_dct, keyV_str, keyV_int, isKd_nil, isKd_cons, dLook_nil, dLook_cons, dct_eq, dctO_ok, prs_nil, prs_cons, get_new, set_new, dPut, dHas, List.any_cons, List.any_nil, List.all_cons, List.all_nil, List.foldl_cons, List.foldl_nil, List.map_cons, List.map_nil, List.cons_append, List.nil_append, Option.some.injEq, Sum.inr.injEq, Sum.inl.injEq, Option.isSome_some, Bool.or_false, Bool.false_or, Bool.or_true, Bool.true_or, Bool.and_true, Bool.true_and, Bool.and_self, List.length_cons, List.length_nil, sizeLine_eq, Nat.reduceAdd, Nat.reduceLeDiff, Nat.reduceLT, and_self, and_true, true_and, Bool.or_self, Bool.and_false, Bool.false_and, reduceCtorEq, in_tup, memFlat_nil, memFlat_cons, eqFlat_ss, eqFlat_ii, flatA_str, flatA_int, cpow2, comp_eq, gs_nil, gs_cons, Nat.reducePow, Int.reduceToNat, Int.reducePow, Int.reduceSub, Int.reduceNeg, Int.reduceAdd, Int.reduceMul, wipeA, e2]
    have g2 : h2[h1.length]? = some (.lst (ws.map wi)) := by rw [f2 _ lt (by omega)]; exact hD
    have hi : i < v1.toNat := by
      have := (List.getElem?_eq_some_iff.mp ex).1
      simpa using this
    refine ⟨g2, by rw [List.length_map]; omega, ws ++ [w], by simp, by simp; omega, S2.set (by omega) (by omega), by simp; omega⟩
  · rintro acc h' ⟨ws, rfl, hw, S', lt⟩ hD
    simp only [seqS_eq, bdS_eq, bd_eq, ifS_eq, thn_nx, thn_rt, thn_bk, thn_ct, thn_exc, thn_bad, thS_ok, thS_exc, thS_bad, thE_ok, thE_exc, thE_bad, thIf_ok, thIf_exc, thIf_bad, ret_eq, setS_eq, retS_eq, skipS_eq, alloc_eq, callM_eq, evs_nil, evs_cons, asBool_bl, tru_bl, tru_int, tru_non, tru_tup, runR_nx, runR_rt, runR_exc, runR_bad, runR_ite, thn_ite, thS_ite, thE_ite, ite_app2, ite_app2S, add_ii, sub_ii, mul_ii, fdiv_ii, mod_ii, pow_ii, shl_ii, shr_ii, band_ii, bor_ii, bxor_ii, neg_i, lt_ii, le_ii, gt_ii, ge_ii, eq_ii, eq_ss, eq_bb, ne_ii, ne_ss, ne_bb, isN_non, isN_int, isN_tup, isN_ref, isN_str, int_i, int_b, abs_i, max_ii, min_ii, slotM, idx_r, idx_t, idxO_lst, idxO_fro, atO_some, stIx_r, len_r, lenO_lst, lenO_fro, list_r, listO_lst, listO_fro, andT_one, andT_two, orT_one, orT_two, andV_one, andV_two, orV_one, orV_two, asg_eq, subG_eq, onlyNx_eq, nxo_nx, lst_eq, tup_eq, pat_nm, forS_eq, okS_nx, okS_rt, okS_bk, okS_ct, okS_exc, okE_oke, List.getElem?_cons_zero, List.getElem?_cons_succ, List.set_cons_zero, List.set_cons_succ, ofString_inj, decide_eq_true_eq, Bool.not_eq_true', decide_eq_false_iff_not, reduceIte, if_true, if_false, Int.reduceLT, Int.reduceLE, Int.reduceEq, Int.reduceNe, decide_true, decide_false, Bool.false_eq_true, String.reduceEq, Bool.not_true, Bool.not_false, idxO_dct, stIxO_dct, keyV_str, keyV_int, isKd_nil, isKd_cons, dLook_nil, dLook_cons, dct_eq, dctO_ok, prs_nil, prs_cons, get_new, set_new, dPut, dHas, List.any_cons, List.any_nil, List.all_cons, List.all_nil, List.foldl_cons, List.foldl_nil, List.map_cons, List.map_nil, List.cons_append, List.nil_append, Option.some.injEq, Sum.inr.injEq, Sum.inl.injEq, Option.isSome_some, Bool.or_false, Bool.false_or, Bool.or_true, Bool.true_or, Bool.and_true, Bool.true_and, Bool.and_self, List.length_cons, List.length_nil, sizeLine_eq, Nat.reduceAdd, Nat.reduceLeDiff, Nat.reduceLT, and_self, and_true, true_and, Bool.or_self, Bool.and_false, Bool.false_and, reduceCtorEq, in_tup, memFlat_nil, memFlat_cons, eqFlat_ss, eqFlat_ii, flatA_str, flatA_int, cpow2, comp_eq, gs_nil, gs_cons, Nat.reducePow, Int.reduceToNat, Int.reducePow, Int.reduceSub, Int.reduceNeg, Int.reduceAdd, Int.reduceMul]
    simp at hw
    exact ⟨n, h1.length, ws, by omega, rfl, S', hD, by omega, by omega⟩
theorem p10 {ns : List Int} {s : Sl} {h : AH} (p : A6 ns s h) : okS (s_law_10 cf s h) (DX (A7 ns)) := by
  obtain ⟨n, w, ws, hw, rfl, S, gw, w1, w2⟩ := p
  unfold s_law_10
  unfold A7
  obtain ⟨lr, lq⟩ := S.lt
  have lw := (List.getElem?_eq_some_iff.mp gw).1
  simp only [seqS_eq, bdS_eq, bd_eq, ifS_eq, thn_nx, thn_rt, thn_bk, thn_ct, thn_exc, thn_bad, thS_ok, thS_exc, thS_bad, thE_ok, thE_exc, thE_bad, thIf_ok, thIf_exc, thIf_bad, ret_eq, setS_eq, retS_eq, skipS_eq, alloc_eq, callM_eq, evs_nil, evs_cons, asBool_bl, tru_bl, tru_int, tru_non, tru_tup, runR_nx, runR_rt, runR_exc, runR_bad, runR_ite, thn_ite, thS_ite, thE_ite, ite_app2, ite_app2S, add_ii, sub_ii, mul_ii, fdiv_ii, mod_ii, pow_ii, shl_ii, shr_ii, band_ii, bor_ii, bxor_ii, neg_i, lt_ii, le_ii, gt_ii, ge_ii, eq_ii, eq_ss, eq_bb, ne_ii, ne_ss, ne_bb, isN_non, isN_int, isN_tup, isN_ref, isN_str, int_i, int_b, abs_i, max_ii, min_ii, slotM, idx_r, idx_t, idxO_lst, idxO_fro, atO_some, stIx_r, len_r, lenO_lst, lenO_fro, list_r, listO_lst, listO_fro, andT_one, andT_two, orT_one, orT_two, andV_one, andV_two, orV_one, orV_two, asg_eq, subG_eq, onlyNx_eq, nxo_nx, lst_eq, tup_eq, pat_nm, forS_eq, okS_nx, okS_rt, okS_bk, okS_ct, okS_exc, okE_oke, List.getElem?_cons_zero, List.getElem?_cons_succ, List.set_cons_zero, List.set_cons_succ, ofString_inj, decide_eq_true_eq, Bool.not_eq_true', decide_eq_false_iff_not, reduceIte, if_true, if_false, Int.reduceLT, Int.reduceLE, Int.reduceEq, Int.reduceNe, decide_true, decide_false, Bool.false_eq_true, String.reduceEq, Bool.not_true, Bool.not_false, idxO_dct, stIxO_dct, keyV_str, keyV_int, isKd_nil, isKd_cons, dLook_nil, dLook_cons, dct_eq, dctO_ok, prs_nil, prs_cons, get_new, set_new, dPut, dHas, List.any_cons, List.any_nil, List.all_cons, List.all_nil, List.foldl_cons, List.foldl_nil, List.map_cons, List.map_nil, List.cons_append, List.nil_append, Option.some.injEq, Sum.inr.injEq, Sum.inl.injEq, Option.isSome_some, Bool.or_false, Bool.false_or, Bool.or_true, Bool.true_or, Bool.and_true, Bool.true_and, Bool.and_self, List.length_cons, List.length_nil, sizeLine_eq, Nat.reduceAdd, Nat.reduceLeDiff, Nat.reduceLT, and_self, and_true, true_and, Bool.or_self, Bool.and_false, Bool.false_and, reduceCtorEq, in_tup, memFlat_nil, memFlat_cons, eqFlat_ss, eqFlat_ii, flatA_str, flatA_int, cpow2, comp_eq, gs_nil, gs_cons, Nat.reducePow, Int.reduceToNat, Int.reducePow, Int.reduceSub, Int.reduceNeg, Int.reduceAdd, Int.reduceMul, gw]
  exact ⟨n, w, ws, h.length, ws, none, none, hw, w1, w2, List.Perm.refl _, rfl, S.app, get_app gw, get_new, by omega, by omega, by omega⟩
theorem p11 {ns : List Int} {s : Sl} {h : AH} (p : A7 ns s h) : okS (s_law_11 cf s h) (DX (A7 ns)) := by
  obtain ⟨n, w, ws, t, ts, c5, c7, hw, w1, w2, pt, rfl, S, gw, gt, t1, t2, t3⟩ := p
  have lts : ts.length = ws.length := pt.length_eq
  unfold s_law_11
  unfold s_law_12 s_law_13 A7
  have r1 : ∀ s h, rangeI1 (.int ((ts.map wi).length : Nat)) s h = .ok (.vals ((List.range ts.length).map fun (k : Nat) => AV.int (0 + (k : Int)))) h := fun s h => by
    rw [rng1 (by omega) (by rw [List.length_map]; omega)]
    simp
  simp only [seqS_eq, bdS_eq, bd_eq, ifS_eq, thn_nx, thn_rt, thn_bk, thn_ct, thn_exc, thn_bad, thS_ok, thS_exc, thS_bad, thE_ok, thE_exc, thE_bad, thIf_ok, thIf_exc, thIf_bad, ret_eq, setS_eq, retS_eq, skipS_eq, alloc_eq, callM_eq, evs_nil, evs_cons, asBool_bl, tru_bl, tru_int, tru_non, tru_tup, runR_nx, runR_rt, runR_exc, runR_bad, runR_ite, thn_ite, thS_ite, thE_ite, ite_app2, ite_app2S, add_ii, sub_ii, mul_ii, fdiv_ii, mod_ii, pow_ii, shl_ii, shr_ii, band_ii, bor_ii, bxor_ii, neg_i, lt_ii, le_ii, gt_ii, ge_ii, eq_ii, eq_ss, eq_bb, ne_ii, ne_ss, ne_bb, isN_non, isN_int, isN_tup, isN_ref, isN_str, int_i, int_b, abs_i, max_ii, min_ii, slotM, idx_r, idx_t, idxO_lst, idxO_fro, atO_some, stIx_r, len_r, lenO_lst, lenO_fro, list_r, listO_lst, listO_fro, andT_one, andT_two, orT_one, orT_two, andV_one, andV_two, orV_one, orV_two, asg_eq, subG_eq, onlyNx_eq, nxo_nx, lst_eq, tup_eq, pat_nm, forS_eq, okS_nx, okS_rt, okS_bk, okS_ct, okS_exc, okE_oke, List.getElem?_cons_zero, List.getElem?_cons_succ, List.set_cons_zero, List.set_cons_succ, ofString_inj, decide_eq_true_eq, Bool.not_eq_true', decide_eq_false_iff_not, reduceIte, if_true, if_false, Int.reduceLT, Int.reduceLE, Int.reduceEq, Int.reduceNe, decide_true, decide_false, Bool.false_eq_true, String.reduceEq, Bool.not_true, Bool.not_false, idxO_dct, stIxO_dct, keyV_str, keyV_int, isKd_nil, isKd_cons, dLook_nil, dLook_cons, dct_eq, dctO_ok, prs_nil, prs_cons, get_new, set_new, dPut, dHas, List.any_cons, List.any_nil, List.all_cons, List.all_nil, List.foldl_cons, List.foldl_nil, List.map_cons, List.map_nil, List.cons_append, List.nil_append, Option.some.injEq, Sum.inr.injEq, Sum.inl.injEq, Option.isSome_some, Bool.or_false, Bool.false_or, Bool.or_true, Bool.true_or, Bool.and_true, Bool.true_and, Bool.and_self, List.length_cons, List.length_nil, sizeLine_eq, Nat.reduceAdd, Nat.reduceLeDiff, Nat.reduceLT, and_self, and_true, true_and, Bool.or_self, Bool.and_false, Bool.false_and, reduceCtorEq, in_tup, memFlat_nil, memFlat_cons, eqFlat_ss, eqFlat_ii, flatA_str, flatA_int, cpow2, comp_eq, gs_nil, gs_cons, Nat.reducePow, Int.reduceToNat, Int.reducePow, Int.reduceSub, Int.reduceNeg, Int.reduceAdd, Int.reduceMul, gt, r1]
  refine okS_forV (fun i s h => ∃ (ts : List Wd) (c5 c7 : Option AV), ts.Perm ws ∧ s = [some (.ref 0), some (.ref 2), some (.int n), some (.ref w), some (.ref t), c5, none, c7, none, none, none, none] ∧ StAt 2 1 ns h ∧ h[w]? = some (.lst (ws.map wi)) ∧ h[t]? = some (.lst (ts.map wi))) ?_ ?_ _ _ _ _ ⟨ts, c5, c7, pt, rfl, S, gw, gt⟩ (by simp) (by simp; unfold turnsMax; omega)
  · rintro i x s h ex ⟨ts', c5, c7, pt', rfl, S, gw, gt⟩
    have lts' : ts'.length = ws.length := pt'.length_eq
    have hi : i < ts.length := by
      have := (List.getElem?_eq_some_iff.mp ex).1
      simpa using this
    obtain rfl : AV.int (0 + (i : Int)) = x := by
      rw [List.getElem?_map, List.getElem?_range hi] at ex
      simpa using ex
    obtain ⟨v, h1, e1, S1, m1, a1, b1⟩ := draw_ok 4 (many := ((ts'.map wi).length : Nat)) S (by simp; omega) (by simp; omega)
    rw [List.length_map] at b1
    have gt1 : h1[t]? = some (.lst (ts'.map wi)) := by rw [m1.2 _ t2]; exact gt
    have gw1 : h1[w]? = some (.lst (ws.map wi)) := by rw [m1.2 _ w2]; exact gw
    have hv : v.toNat < ts'.length := by omega
    have hi' : i < ts'.length := by omega
    have x1 : ixN (ts'.map wi).length v = some v.toNat := by
      unfold ixN
      rw [List.length_map, if_pos a1, if_pos b1]
    have x2 : ixN (ts'.map wi).length (0 + (i : Int)) = some i := by
      unfold ixN
      rw [List.length_map, if_pos (by omega), if_pos (by omega)]
      congr 1
      omega
    have y1 : atI (ts'.map wi) v = some (wi ts'[v.toNat]) := by
      unfold atI
      rw [x1, Option.bind_some, List.getElem?_map, List.getElem?_eq_getElem hv]
      rfl
    have y2 : atI (ts'.map wi) (0 + (i : Int)) = some (wi ts'[i]) := by
      unfold atI
      rw [x2, Option.bind_some, List.getElem?_map, List.getElem?_eq_getElem hi']
      rfl
    have x3 : ∀ y, ixN ((ts'.map wi).set i y).length v = some v.toNat := fun y => by rw [List.length_set]; exact x1
    simp only [seqS_eq, bdS_eq, bd_eq, ifS_eq, thn_nx, thn_rt, thn_bk, thn_ct, thn_exc, thn_bad, thS_ok, thS_exc, thS_bad, thE_ok, thE_exc, thE_bad, thIf_ok, thIf_exc, thIf_bad, ret_eq, setS_eq, retS_eq, skipS_eq, alloc_eq, callM_eq, evs_nil, evs_cons, asBool_bl, tru_bl, tru_int, tru_non, tru_tup, runR_nx, runR_rt, runR_exc, runR_bad, runR_ite, thn_ite, thS_ite, thE_ite, ite_app2, ite_app2S, add_ii, sub_ii, mul_ii, fdiv_ii, mod_ii, pow_ii, shl_ii, shr_ii, band_ii, bor_ii, bxor_ii, neg_i, lt_ii, le_ii, gt_ii, ge_ii, eq_ii, eq_ss, eq_bb, ne_ii, ne_ss, ne_bb, isN_non, isN_int, isN_tup, isN_ref, isN_str, int_i, int_b, abs_i, max_ii, min_ii, slotM, idx_r, idx_t, idxO_lst, idxO_fro, atO_some, stIx_r, len_r, lenO_lst, lenO_fro, list_r, listO_lst, listO_fro, andT_one, andT_two, orT_one, orT_two, andV_one, andV_two, orV_one, orV_two, asg_eq, subG_eq, onlyNx_eq, nxo_nx, lst_eq, tup_eq, pat_nm, forS_eq, okS_nx, okS_rt, okS_bk, okS_ct, okS_exc, okE_oke, List.getElem?_cons_zero, List.getElem?_cons_succ, List.set_cons_zero, List.set_cons_succ, ofString_inj, decide_eq_true_eq, Bool.not_eq_true', decide_eq_false_iff_not, reduceIte, if_true, if_false, Int.reduceLT, Int.reduceLE, Int.reduceEq, Int.reduceNe, decide_true, decide_false, Bool.false_eq_true, String.reduceEq, Bool.not_true, Bool.not_false, idxO_dct, stIxO_dct, keyV_str, keyV_int, isKd_nil, isKd_cons, dLook_nil, dLook_cons, dct_eq, dctO_ok, prs_nil, prs_cons, get_new, set_new, dPut, dHas, List.any_cons, List.any_nil, List.all_cons, List.all_nil, List.foldl_cons, List.foldl_nil, List.map_cons, List.map_nil, List.cons_append, List.nil_append, Option.some.injEq, Sum.inr.injEq, Sum.inl.injEq, Option.isSome_some, Bool.or_false, Bool.false_or, Bool.or_true, Bool.true_or, Bool.and_true, Bool.true_and, Bool.and_self, List.length_cons, List.length_nil, sizeLine_eq, Nat.reduceAdd, Nat.reduceLeDiff, Nat.reduceLT, and_self, and_true, true_and, Bool.or_self, Bool.and_false, Bool.false_and, reduceCtorEq, in_tup, memFlat_nil, memFlat_cons, eqFlat_ss, eqFlat_ii, flatA_str, flatA_int, cpow2, comp_eq, gs_nil, gs_cons, Nat.reducePow, Int.reduceToNat, Int.reducePow, Int.reduceSub, Int.reduceNeg, Int.reduceAdd, Int.reduceMul, gt, e1, gt1, y1, y2, stIxO_lst x2, get_set_eq, Option.map, stIxO_lst (x3 _)]
    refine ⟨(ts'.set i ts'[v.toNat]).set v.toNat ts'[i], _, _, (swap_perm hi' hv).trans pt', rfl, (S1.set t2 t1).set t2 t1, ?_, ?_⟩
    · rw [get_set_ne (Ne.symm t3), get_set_ne (Ne.symm t3)]
      exact gw1
    · simp only [get_set_eq, gt1, Option.map, List.map_set]
  · rintro s h ⟨ts, c5, c7, pt, rfl, S, gw, gt⟩
    exact ⟨n, w, ws, t, ts, c5, c7, hw, w1, w2, pt, rfl, S, gw, gt, t1, t2, t3⟩
end K02
namespace K02
open PySem PySem.Spec PyProof.Rows L2 Ev
/-- the loop over the operators: what stays -/
def AL (ns : List Int) (w t : Nat) (ws ts : List Wd) (h : AH) : Prop := ws.length ≤ 8 ∧ ts.Perm ws ∧ StAt 2 1 ns h ∧ h[w]? = some (.lst (ws.map wi)) ∧ h[t]? = some (.lst (ts.map wi))
theorem AL.app {ns : List Int} {w t : Nat} {ws ts : List Wd} {h l : AH} (p : AL ns w t ws ts h) : AL ns w t ws ts (h ++ l) := by
  obtain ⟨a, b, c, d, e⟩ := p
  exact ⟨a, b, c.app, get_app d, get_app e⟩
def SLo (w t : Nat) (n : Int) (o : String) (s : Sl) : Prop := ∃ c5 c7 c8 c9 c10 c11, s = [some (.ref 0), some (.ref 2), some (.int n), some (.ref w), some (.ref t), c5, some (.str o), c7, c8, c9, c10, c11]
variable {ns : List Int} {w t : Nat} {ws ts : List Wd} {n : Int}
theorem p15 {s : Sl} {h : AH} : ∀ o ∈ fops, SLo w t n o.1 s → AL ns w t ws ts h → okS (s_law_15 cf s h) (DX fun s h => (∃ c5 c7 c9 c10 c11, s = [some (.ref 0), some (.ref 2), some (.int n), some (.ref w), some (.ref t), c5, some (.str o.1), c7, some (wi o.2.2), c9, c10, c11]) ∧ AL ns w t ws ts h) := by
  refine fops_cases ?_ ?_ ?_ ?_ ?_ ?_ <;> rintro ⟨c5, c7, c8, c9, c10, c11, rfl⟩ p <;> unfold s_law_15 <;> simp only [seqS_eq, bdS_eq, bd_eq, ifS_eq, thn_nx, thn_rt, thn_bk, thn_ct, thn_exc, thn_bad, thS_ok, thS_exc, thS_bad, thE_ok, thE_exc, thE_bad, thIf_ok, thIf_exc, thIf_bad, ret_eq, setS_eq, retS_eq, skipS_eq, alloc_eq, callM_eq, evs_nil, evs_cons, asBool_bl, tru_bl, tru_int, tru_non, tru_tup, runR_nx, runR_rt, runR_exc, runR_bad, runR_ite, thn_ite, thS_ite, thE_ite, ite_app2, ite_app2S, add_ii, sub_ii, mul_ii, fdiv_ii, mod_ii, pow_ii, shl_ii, shr_ii, band_ii, bor_ii, bxor_ii, neg_i, lt_ii, le_ii, gt_ii, ge_ii, eq_ii, eq_ss, eq_bb, ne_ii, ne_ss, ne_bb, isN_non, isN_int, isN_tup, isN_ref, isN_str, int_i, int_b, abs_i, max_ii, min_ii, slotM, idx_r, idx_t, idxO_lst, idxO_fro, atO_some, stIx_r, len_r, lenO_lst, lenO_fro, list_r, listO_lst, listO_fro, andT_one, andT_two, orT_one, orT_two, andV_one, andV_two, orV_one, orV_two, asg_eq, subG_eq, onlyNx_eq, nxo_nx, lst_eq, tup_eq, pat_nm, forS_eq, okS_nx, okS_rt, okS_bk, okS_ct, okS_exc, okE_oke, List.getElem?_cons_zero, List.getElem?_cons_succ, List.set_cons_zero, List.set_cons_succ, ofString_inj, decide_eq_true_eq, Bool.not_eq_true', decide_eq_false_iff_not, reduceIte, if_true, if_false, Int.reduceLT, Int.reduceLE, Int.reduceEq, Int.reduceNe, decide_true, decide_false, Bool.false_eq_true, String.reduceEq, Bool.not_true, Bool.not_false, idxO_dct, stIxO_dct, keyV_str, keyV_int, isKd_nil, isKd_cons, dLook_nil, dLook_cons, dct_eq, dctO_ok, prs_nil, prs_cons, get_new, set_new, dPut, dHas, List.any_cons, List.any_nil, List.all_cons, List.all_nil, List.foldl_cons, List.foldl_nil, List.map_cons, List.map_nil, List.cons_append, List.nil_append, Option.some.injEq, Sum.inr.injEq, Sum.inl.injEq, Option.isSome_some, Bool.or_false, Bool.false_or, Bool.or_true, Bool.true_or, Bool.and_true, Bool.true_and, Bool.and_self, List.length_cons, List.length_nil, sizeLine_eq, Nat.reduceAdd, Nat.reduceLeDiff, Nat.reduceLT, and_self, and_true, true_and, Bool.or_self, Bool.and_false, Bool.false_and, reduceCtorEq, in_tup, memFlat_nil, memFlat_cons, eqFlat_ss, eqFlat_ii, flatA_str, flatA_int, cpow2, comp_eq, gs_nil, gs_cons, Nat.reducePow, Int.reduceToNat, Int.reducePow, Int.reduceSub, Int.reduceNeg, Int.reduceAdd, Int.reduceMul]<;> exact ⟨⟨c5, c7, c9, c10, c11, rfl⟩, p.app⟩
theorem p17 {s : Sl} {h : AH} {o : String × (Wd → Wd → Wd) × Wd} (ho : o ∈ fops) {c5 c7 c10 c11 : Option AV} (p : AL ns w t ws ts h) (hs : s = [some (.ref 0), some (.ref 2), some (.int n), some (.ref w), some (.ref t), c5, some (.str o.1), c7, some (wi o.2.2), some (wi o.2.2), c10, c11]) :
    okS (s_law_17 cf s h) (DX fun s h => (∃ c10, s = [some (.ref 0), some (.ref 2), some (.int n), some (.ref w), some (.ref t), c5, some (.str o.1), c7, some (wi o.2.2), some (wi (ws.foldl o.2.1 o.2.2)), c10, c11]) ∧ AL ns w t ws ts h) := by
  subst hs
  obtain ⟨hl, pt, S, gw, gt⟩ := p
  unfold s_law_17 s_law_18
  simp only [seqS_eq, bdS_eq, bd_eq, ifS_eq, thn_nx, thn_rt, thn_bk, thn_ct, thn_exc, thn_bad, thS_ok, thS_exc, thS_bad, thE_ok, thE_exc, thE_bad, thIf_ok, thIf_exc, thIf_bad, ret_eq, setS_eq, retS_eq, skipS_eq, alloc_eq, callM_eq, evs_nil, evs_cons, asBool_bl, tru_bl, tru_int, tru_non, tru_tup, runR_nx, runR_rt, runR_exc, runR_bad, runR_ite, thn_ite, thS_ite, thE_ite, ite_app2, ite_app2S, add_ii, sub_ii, mul_ii, fdiv_ii, mod_ii, pow_ii, shl_ii, shr_ii, band_ii, bor_ii, bxor_ii, neg_i, lt_ii, le_ii, gt_ii, ge_ii, eq_ii, eq_ss, eq_bb, ne_ii, ne_ss, ne_bb, isN_non, isN_int, isN_tup, isN_ref, isN_str, int_i, int_b, abs_i, max_ii, min_ii, slotM, idx_r, idx_t, idxO_lst, idxO_fro, atO_some, stIx_r, len_r, lenO_lst, lenO_fro, list_r, listO_lst, listO_fro, andT_one, andT_two, orT_one, orT_two, andV_one, andV_two, orV_one, orV_two, asg_eq, subG_eq, onlyNx_eq, nxo_nx, lst_eq, tup_eq, pat_nm, forS_eq, okS_nx, okS_rt, okS_bk, okS_ct, okS_exc, okE_oke, List.getElem?_cons_zero, List.getElem?_cons_succ, List.set_cons_zero, List.set_cons_succ, ofString_inj, decide_eq_true_eq, Bool.not_eq_true', decide_eq_false_iff_not, reduceIte, if_true, if_false, Int.reduceLT, Int.reduceLE, Int.reduceEq, Int.reduceNe, decide_true, decide_false, Bool.false_eq_true, String.reduceEq, Bool.not_true, Bool.not_false, idxO_dct, stIxO_dct, keyV_str, keyV_int, isKd_nil, isKd_cons, dLook_nil, dLook_cons, dct_eq, dctO_ok, prs_nil, prs_cons, get_new, set_new, dPut, dHas, List.any_cons, List.any_nil, List.all_cons, List.all_nil, List.foldl_cons, List.foldl_nil, List.map_cons, List.map_nil, List.cons_append, List.nil_append, Option.some.injEq, Sum.inr.injEq, Sum.inl.injEq, Option.isSome_some, Bool.or_false, Bool.false_or, Bool.or_true, Bool.true_or, Bool.and_true, Bool.true_and, Bool.and_self, List.length_cons, List.length_nil, sizeLine_eq, Nat.reduceAdd, Nat.reduceLeDiff, Nat.reduceLT, and_self, and_true, true_and, Bool.or_self, Bool.and_false, Bool.false_and, reduceCtorEq, in_tup, memFlat_nil, memFlat_cons, eqFlat_ss, eqFlat_ii, flatA_str, flatA_int, cpow2, comp_eq, gs_nil, gs_cons, Nat.reducePow, Int.reduceToNat, Int.reducePow, Int.reduceSub, Int.reduceNeg, Int.reduceAdd, Int.reduceMul, itOf_lst gw]
  refine okS_forL (xs := ws.map wi) (fun i s h => AL ns w t ws ts h ∧ ∃ c10, s = [some (.ref 0), some (.ref 2), some (.int n), some (.ref w), some (.ref t), c5, some (.str o.1), c7, some (wi o.2.2), some (wi ((ws.take i).foldl o.2.1 o.2.2)), c10, c11]) ?_ ?_ ?_ _ _ _ _ ⟨⟨hl, pt, S, gw, gt⟩, c10, rfl⟩ (by simp) (by simp; unfold turnsMax; omega)
  · rintro i s h ⟨p, _⟩
    exact lstOf_lst p.2.2.2.1
  · rintro i x s h ex ⟨p, c, rfl⟩
    rw [List.getElem?_map] at ex
    cases hz : ws[i]? with
    | none => rw [hz] at ex; cases ex
    | some z =>
      rw [hz] at ex
      obtain rfl : wi z = x := by simpa using ex
      obtain ⟨l, e⟩ := lbinary_ok 3 ((ws.take i).foldl o.2.1 o.2.2) z h o ho
      unfold wi
      simp only [seqS_eq, bdS_eq, bd_eq, ifS_eq, thn_nx, thn_rt, thn_bk, thn_ct, thn_exc, thn_bad, thS_ok, thS_exc, thS_bad, thE_ok, thE_exc, thE_bad, thIf_ok, thIf_exc, thIf_bad, ret_eq, setS_eq, retS_eq, skipS_eq, alloc_eq, callM_eq, evs_nil, evs_cons, asBool_bl, tru_bl, tru_int, tru_non, tru_tup, runR_nx, runR_rt, runR_exc, runR_bad, runR_ite, thn_ite, thS_ite, thE_ite, ite_app2, ite_app2S, add_ii, sub_ii, mul_ii, fdiv_ii, mod_ii, pow_ii, shl_ii, shr_ii, band_ii, bor_ii, bxor_ii, neg_i, lt_ii, le_ii, gt_ii, ge_ii, eq_ii, eq_ss, eq_bb, ne_ii, ne_ss, ne_bb, isN_non, isN_int, isN_tup, isN_ref, isN_str, int_i, int_b, abs_i, max_ii, min_ii, slotM, idx_r, idx_t, idxO_lst, idxO_fro, atO_some, stIx_r, len_r, lenO_lst, lenO_fro, list_r, listO_lst, listO_fro, andT_one, andT_two, orT_one, orT_two, andV_one, andV_two, orV_one, orV_two, asg_eq, subG_eq, onlyNx_eq, nxo_nx, lst_eq, tup_eq, pat_nm, forS_eq, okS_nx, okS_rt, okS_bk, okS_ct, okS_exc, okE_oke, List.getElem?_cons_zero, List.getElem?_cons_succ, List.set_cons_zero, List.set_cons_succ, ofString_inj, decide_eq_true_eq, Bool.not_eq_true', decide_eq_false_iff_not, reduceIte, if_true, if_false, Int.reduceLT, Int.reduceLE, Int.reduceEq, Int.reduceNe, decide_true, decide_false, Bool.false_eq_true, String.reduceEq, Bool.not_true, Bool.not_false, idxO_dct, stIxO_dct, keyV_str, keyV_int, isKd_nil, isKd_cons, dLook_nil, dLook_cons, dct_eq, dctO_ok, prs_nil, prs_cons, get_new, set_new, dPut, dHas, List.any_cons, List.any_nil, List.all_cons, List.all_nil, List.foldl_cons, List.foldl_nil, List.map_cons, List.map_nil, List.cons_append, List.nil_append, Option.some.injEq, Sum.inr.injEq, Sum.inl.injEq, Option.isSome_some, Bool.or_false, Bool.false_or, Bool.or_true, Bool.true_or, Bool.and_true, Bool.true_and, Bool.and_self, List.length_cons, List.length_nil, sizeLine_eq, Nat.reduceAdd, Nat.reduceLeDiff, Nat.reduceLT, and_self, and_true, true_and, Bool.or_self, Bool.and_false, Bool.false_and, reduceCtorEq, in_tup, memFlat_nil, memFlat_cons, eqFlat_ss, eqFlat_ii, flatA_str, flatA_int, cpow2, comp_eq, gs_nil, gs_cons, Nat.reducePow, Int.reduceToNat, Int.reducePow, Int.reduceSub, Int.reduceNeg, Int.reduceAdd, Int.reduceMul, e]
      refine ⟨p.app, some (wi z), ?_⟩
      rw [List.take_add_one, hz]
      simp [wi]
  · rintro s h ⟨p, c, rfl⟩
    rw [List.length_map, List.take_length]
    exact ⟨⟨c, rfl⟩, p⟩
theorem p20 {s : Sl} {h : AH} {o : String × (Wd → Wd → Wd) × Wd} (ho : o ∈ fops) {c5 c7 c10 : Option AV} {g : Nat} (p : AL ns w t ws ts h) (gg : h[g]? = some (.lst (ws.map wi))) (hs : s = [some (.ref 0), some (.ref 2), some (.int n), some (.ref w), some (.ref t), c5, some (.str o.1), c7, some (wi o.2.2), some (wi (ws.foldl o.2.1 o.2.2)), c10, some (.ref g)]) :
    okS (s_law_20 cf s h) (DX fun s' h => s' = s ∧ AL ns w t ws ts h) := by
  subst hs
  have p' := p
  obtain ⟨hl, pt, S, gw, gt⟩ := p
  unfold s_law_20 s_law_21
  have f1 := fold_ok 2 gg (by unfold turnsMax; omega) o ho
  have gn : (h ++ [AO.lst (ts.map wi)])[h.length]? = some (.lst (ts.map wi)) := get_new
  have f2 := fold_ok 2 gn (by have := pt.length_eq; unfold turnsMax; omega) o ho
  rw [fold_perm ho pt] at f2
  have mm : ws.map wi = (ws.map fun x => x.toInt).map AV.int := by rw [List.map_map]; rfl
  have nl : ∀ s, neA (.ref g) (.ref w) s h = .ok (.bl false) h := fun s => ne_lists (ns := ws.map fun x => x.toInt) (by rw [← mm]; exact lstOf_lst gg) (by rw [← mm]; exact lstOf_lst gw)
  unfold wi
  simp only [seqS_eq, bdS_eq, bd_eq, ifS_eq, thn_nx, thn_rt, thn_bk, thn_ct, thn_exc, thn_bad, thS_ok, thS_exc, thS_bad, thE_ok, thE_exc, thE_bad, thIf_ok, thIf_exc, thIf_bad, ret_eq, setS_eq, retS_eq, skipS_eq, alloc_eq, callM_eq, evs_nil, evs_cons, asBool_bl, tru_bl, tru_int, tru_non, tru_tup, runR_nx, runR_rt, runR_exc, runR_bad, runR_ite, thn_ite, thS_ite, thE_ite, ite_app2, ite_app2S, add_ii, sub_ii, mul_ii, fdiv_ii, mod_ii, pow_ii, shl_ii, shr_ii, band_ii, bor_ii, bxor_ii, neg_i, lt_ii, le_ii, gt_ii, ge_ii, eq_ii, eq_ss, eq_bb, ne_ii, ne_ss, ne_bb, isN_non, isN_int, isN_tup, isN_ref, isN_str, int_i, int_b, abs_i, max_ii, min_ii, slotM, idx_r, idx_t, idxO_lst, idxO_fro, atO_some, stIx_r, len_r, lenO_lst, lenO_fro, list_r, listO_lst, listO_fro, andT_one, andT_two, orT_one, orT_two, andV_one, andV_two, orV_one, orV_two, asg_eq, subG_eq, onlyNx_eq, nxo_nx, lst_eq, tup_eq, pat_nm, forS_eq, okS_nx, okS_rt, okS_bk, okS_ct, okS_exc, okE_oke, List.getElem?_cons_zero, List.getElem?_cons_succ, List.set_cons_zero, List.set_cons_succ, ofString_inj, decide_eq_true_eq, Bool.not_eq_true', decide_eq_false_iff_not, reduceIte, if_true, if_false, Int.reduceLT, Int.reduceLE, Int.reduceEq, Int.reduceNe, decide_true, decide_false, Bool.false_eq_true, String.reduceEq, Bool.not_true, Bool.not_false, idxO_dct, stIxO_dct, keyV_str, keyV_int, isKd_nil, isKd_cons, dLook_nil, dLook_cons, dct_eq, dctO_ok, prs_nil, prs_cons, get_new, set_new, dPut, dHas, List.any_cons, List.any_nil, List.all_cons, List.all_nil, List.foldl_cons, List.foldl_nil, List.map_cons, List.map_nil, List.cons_append, List.nil_append, Option.some.injEq, Sum.inr.injEq, Sum.inl.injEq, Option.isSome_some, Bool.or_false, Bool.false_or, Bool.or_true, Bool.true_or, Bool.and_true, Bool.true_and, Bool.and_self, List.length_cons, List.length_nil, sizeLine_eq, Nat.reduceAdd, Nat.reduceLeDiff, Nat.reduceLT, and_self, and_true, true_and, Bool.or_self, Bool.and_false, Bool.false_and, reduceCtorEq, in_tup, memFlat_nil, memFlat_cons, eqFlat_ss, eqFlat_ii, flatA_str, flatA_int, cpow2, comp_eq, gs_nil, gs_cons, Nat.reducePow, Int.reduceToNat, Int.reducePow, Int.reduceSub, Int.reduceNeg, Int.reduceAdd, Int.reduceMul, neutral_ok 4 h o ho, f1, nl, gt, f2]
  exact p'.app
theorem any_false {h : AH} {p : Nat} {s : Sl} {m : Nat} (e : h[p]? = some (.lst (List.replicate m (.bl false)))) : anyA [.ref p] s h = .ok (.bl false) h := by
  unfold anyA onBlsL rd lstB
  dsimp only
  rw [lstOf_lst e]
  have k : ∀ m : Nat, blsOf (List.replicate m (.bl false)) = some (List.replicate m false) := by
    intro m
    induction m with
    | zero => rfl
    | succ m ih => rw [List.replicate_succ, blsOf, ih]; rfl
  dsimp only
  rw [k]
  simp
theorem p22 {s : Sl} {h : AH} {o : String × (Wd → Wd → Wd) × Wd} (ho : o ∈ fops) {c5 c7 c9 c10 c11 : Option AV} (p : AL ns w t ws ts h) (hs : s = [some (.ref 0), some (.ref 2), some (.int n), some (.ref w), some (.ref t), c5, some (.str o.1), c7, some (wi o.2.2), c9, c10, c11]) :
    okS (s_law_22 cf s h) (DX fun s' h => s' = s ∧ AL ns w t ws ts h) := by
  subst hs
  have p' := p
  obtain ⟨hl, pt, S, gw, gt⟩ := p
  obtain ⟨lc, la, lz⟩ := fops_laws o ho
  unfold s_law_22 s_law_23
  simp only [seqS_eq, bdS_eq, bd_eq, ifS_eq, thn_nx, thn_rt, thn_bk, thn_ct, thn_exc, thn_bad, thS_ok, thS_exc, thS_bad, thE_ok, thE_exc, thE_bad, thIf_ok, thIf_exc, thIf_bad, ret_eq, setS_eq, retS_eq, skipS_eq, alloc_eq, callM_eq, evs_nil, evs_cons, asBool_bl, tru_bl, tru_int, tru_non, tru_tup, runR_nx, runR_rt, runR_exc, runR_bad, runR_ite, thn_ite, thS_ite, thE_ite, ite_app2, ite_app2S, add_ii, sub_ii, mul_ii, fdiv_ii, mod_ii, pow_ii, shl_ii, shr_ii, band_ii, bor_ii, bxor_ii, neg_i, lt_ii, le_ii, gt_ii, ge_ii, eq_ii, eq_ss, eq_bb, ne_ii, ne_ss, ne_bb, isN_non, isN_int, isN_tup, isN_ref, isN_str, int_i, int_b, abs_i, max_ii, min_ii, slotM, idx_r, idx_t, idxO_lst, idxO_fro, atO_some, stIx_r, len_r, lenO_lst, lenO_fro, list_r, listO_lst, listO_fro, andT_one, andT_two, orT_one, orT_two, andV_one, andV_two, orV_one, orV_two, asg_eq, subG_eq, onlyNx_eq, nxo_nx, lst_eq, tup_eq, pat_nm, forS_eq, okS_nx, okS_rt, okS_bk, okS_ct, okS_exc, okE_oke, List.getElem?_cons_zero, List.getElem?_cons_succ, List.set_cons_zero, List.set_cons_succ, ofString_inj, decide_eq_true_eq, Bool.not_eq_true', decide_eq_false_iff_not, reduceIte, if_true, if_false, Int.reduceLT, Int.reduceLE, Int.reduceEq, Int.reduceNe, decide_true, decide_false, Bool.false_eq_true, String.reduceEq, Bool.not_true, Bool.not_false, idxO_dct, stIxO_dct, keyV_str, keyV_int, isKd_nil, isKd_cons, dLook_nil, dLook_cons, dct_eq, dctO_ok, prs_nil, prs_cons, get_new, set_new, dPut, dHas, List.any_cons, List.any_nil, List.all_cons, List.all_nil, List.foldl_cons, List.foldl_nil, List.map_cons, List.map_nil, List.cons_append, List.nil_append, Option.some.injEq, Sum.inr.injEq, Sum.inl.injEq, Option.isSome_some, Bool.or_false, Bool.false_or, Bool.or_true, Bool.true_or, Bool.and_true, Bool.true_and, Bool.and_self, List.length_cons, List.length_nil, sizeLine_eq, Nat.reduceAdd, Nat.reduceLeDiff, Nat.reduceLT, and_self, and_true, true_and, Bool.or_self, Bool.and_false, Bool.false_and, reduceCtorEq, in_tup, memFlat_nil, memFlat_cons, eqFlat_ss, eqFlat_ii, flatA_str, flatA_int, cpow2, comp_eq, gs_nil, gs_cons, Nat.reducePow, Int.reduceToNat, Int.reducePow, Int.reduceSub, Int.reduceNeg, Int.reduceAdd, Int.reduceMul, itOf_lst gw]
  apply okS_thIf
  apply okE_thE
  apply okE_thE
  apply okE_thE
  refine okE_compL (xs := ws.map wi) (q := w) (fun i acc h' => AL ns w t ws ts h' ∧ h.length < h'.length ∧ acc = List.replicate i (.bl false)) ?_ ?_ ?_ _ _ _ _ ⟨p'.app, by simp, rfl⟩ get_new (by simp) (by simp; unfold turnsMax; omega)
  · rintro i acc h' ⟨p, _⟩
    exact lstOf_lst p.2.2.2.1
  · rintro i x acc h' ex ⟨p, lt, rfl⟩ hD
    refine ⟨_, bind_nm, ?_⟩
    rw [List.getElem?_map] at ex
    cases hz : ws[i]? with
    | none => rw [hz] at ex; cases ex
    | some z =>
      rw [hz] at ex
      obtain rfl : wi z = x := by simpa using ex
      have hi := (List.getElem?_eq_some_iff.mp hz).1
      have b1 := binary_ok 3 z o.2.2 h' o ho
      have b2 := binary_ok 3 o.2.2 z h' o ho
      rw [lc o.2.2 z] at b2
      rw [lz] at b1 b2
      unfold wi
      simp only [seqS_eq, bdS_eq, bd_eq, ifS_eq, thn_nx, thn_rt, thn_bk, thn_ct, thn_exc, thn_bad, thS_ok, thS_exc, thS_bad, thE_ok, thE_exc, thE_bad, thIf_ok, thIf_exc, thIf_bad, ret_eq, setS_eq, retS_eq, skipS_eq, alloc_eq, callM_eq, evs_nil, evs_cons, asBool_bl, tru_bl, tru_int, tru_non, tru_tup, runR_nx, runR_rt, runR_exc, runR_bad, runR_ite, thn_ite, thS_ite, thE_ite, ite_app2, ite_app2S, add_ii, sub_ii, mul_ii, fdiv_ii, mod_ii, pow_ii, shl_ii, shr_ii, band_ii, bor_ii, bxor_ii, neg_i, lt_ii, le_ii, gt_ii, ge_ii, eq_ii, eq_ss, eq_bb, ne_ii, ne_ss, ne_bb, isN_non, isN_int, isN_tup, isN_ref, isN_str, int_i, int_b, abs_i, max_ii, min_ii, slotM, idx_r, idx_t, idxO_lst, idxO_fro, atO_some, stIx_r, len_r, lenO_lst, lenO_fro, list_r, listO_lst, listO_fro, andT_one, andT_two, orT_one, orT_two, andV_one, andV_two, orV_one, orV_two, asg_eq, subG_eq, onlyNx_eq, nxo_nx, lst_eq, tup_eq, pat_nm, forS_eq, okS_nx, okS_rt, okS_bk, okS_ct, okS_exc, okE_oke, List.getElem?_cons_zero, List.getElem?_cons_succ, List.set_cons_zero, List.set_cons_succ, ofString_inj, decide_eq_true_eq, Bool.not_eq_true', decide_eq_false_iff_not, reduceIte, if_true, if_false, Int.reduceLT, Int.reduceLE, Int.reduceEq, Int.reduceNe, decide_true, decide_false, Bool.false_eq_true, String.reduceEq, Bool.not_true, Bool.not_false, idxO_dct, stIxO_dct, keyV_str, keyV_int, isKd_nil, isKd_cons, dLook_nil, dLook_cons, dct_eq, dctO_ok, prs_nil, prs_cons, get_new, set_new, dPut, dHas, List.any_cons, List.any_nil, List.all_cons, List.all_nil, List.foldl_cons, List.foldl_nil, List.map_cons, List.map_nil, List.cons_append, List.nil_append, Option.some.injEq, Sum.inr.injEq, Sum.inl.injEq, Option.isSome_some, Bool.or_false, Bool.false_or, Bool.or_true, Bool.true_or, Bool.and_true, Bool.true_and, Bool.and_self, List.length_cons, List.length_nil, sizeLine_eq, Nat.reduceAdd, Nat.reduceLeDiff, Nat.reduceLT, and_self, and_true, true_and, Bool.or_self, Bool.and_false, Bool.false_and, reduceCtorEq, in_tup, memFlat_nil, memFlat_cons, eqFlat_ss, eqFlat_ii, flatA_str, flatA_int, cpow2, comp_eq, gs_nil, gs_cons, Nat.reducePow, Int.reduceToNat, Int.reducePow, Int.reduceSub, Int.reduceNeg, Int.reduceAdd, Int.reduceMul, wipeA, b1, b2]
      have lw := (List.getElem?_eq_some_iff.mp gw).1
      have ltt := (List.getElem?_eq_some_iff.mp gt).1
      obtain ⟨q1, q2, q3, q4, q5⟩ := p
      obtain ⟨lr, lq⟩ := S.lt
      refine ⟨hD, by rw [List.length_replicate]; omega, ⟨q1, q2, q3.set (by omega) (by omega), (get_set_ne (by omega)).trans q4, (get_set_ne (by omega)).trans q5⟩, by simpa using lt, ?_⟩
      rw [List.replicate_succ']
  · rintro acc h' ⟨p, lt, rfl⟩ hD
    simp only [seqS_eq, bdS_eq, bd_eq, ifS_eq, thn_nx, thn_rt, thn_bk, thn_ct, thn_exc, thn_bad, thS_ok, thS_exc, thS_bad, thE_ok, thE_exc, thE_bad, thIf_ok, thIf_exc, thIf_bad, ret_eq, setS_eq, retS_eq, skipS_eq, alloc_eq, callM_eq, evs_nil, evs_cons, asBool_bl, tru_bl, tru_int, tru_non, tru_tup, runR_nx, runR_rt, runR_exc, runR_bad, runR_ite, thn_ite, thS_ite, thE_ite, ite_app2, ite_app2S, add_ii, sub_ii, mul_ii, fdiv_ii, mod_ii, pow_ii, shl_ii, shr_ii, band_ii, bor_ii, bxor_ii, neg_i, lt_ii, le_ii, gt_ii, ge_ii, eq_ii, eq_ss, eq_bb, ne_ii, ne_ss, ne_bb, isN_non, isN_int, isN_tup, isN_ref, isN_str, int_i, int_b, abs_i, max_ii, min_ii, slotM, idx_r, idx_t, idxO_lst, idxO_fro, atO_some, stIx_r, len_r, lenO_lst, lenO_fro, list_r, listO_lst, listO_fro, andT_one, andT_two, orT_one, orT_two, andV_one, andV_two, orV_one, orV_two, asg_eq, subG_eq, onlyNx_eq, nxo_nx, lst_eq, tup_eq, pat_nm, forS_eq, okS_nx, okS_rt, okS_bk, okS_ct, okS_exc, okE_oke, List.getElem?_cons_zero, List.getElem?_cons_succ, List.set_cons_zero, List.set_cons_succ, ofString_inj, decide_eq_true_eq, Bool.not_eq_true', decide_eq_false_iff_not, reduceIte, if_true, if_false, Int.reduceLT, Int.reduceLE, Int.reduceEq, Int.reduceNe, decide_true, decide_false, Bool.false_eq_true, String.reduceEq, Bool.not_true, Bool.not_false, idxO_dct, stIxO_dct, keyV_str, keyV_int, isKd_nil, isKd_cons, dLook_nil, dLook_cons, dct_eq, dctO_ok, prs_nil, prs_cons, get_new, set_new, dPut, dHas, List.any_cons, List.any_nil, List.all_cons, List.all_nil, List.foldl_cons, List.foldl_nil, List.map_cons, List.map_nil, List.cons_append, List.nil_append, Option.some.injEq, Sum.inr.injEq, Sum.inl.injEq, Option.isSome_some, Bool.or_false, Bool.false_or, Bool.or_true, Bool.true_or, Bool.and_true, Bool.true_and, Bool.and_self, List.length_cons, List.length_nil, sizeLine_eq, Nat.reduceAdd, Nat.reduceLeDiff, Nat.reduceLT, and_self, and_true, true_and, Bool.or_self, Bool.and_false, Bool.false_and, reduceCtorEq, in_tup, memFlat_nil, memFlat_cons, eqFlat_ss, eqFlat_ii, flatA_str, flatA_int, cpow2, comp_eq, gs_nil, gs_cons, Nat.reducePow, Int.reduceToNat, Int.reducePow, Int.reduceSub, Int.reduceNeg, Int.reduceAdd, Int.reduceMul, any_false hD]
    exact p
theorem p14 {s : Sl} {h : AH} (p : A7 ns s h) : okS (s_law_14 cf s h) (DX fun _ _ => True) := by
  obtain ⟨n, w, ws, t, ts, c5, c7, hw, w1, w2, pt, rfl, S, gw, gt, t1, t2, t3⟩ := p
  unfold s_law_14
  simp only [seqS_eq, bdS_eq, bd_eq, ifS_eq, thn_nx, thn_rt, thn_bk, thn_ct, thn_exc, thn_bad, thS_ok, thS_exc, thS_bad, thE_ok, thE_exc, thE_bad, thIf_ok, thIf_exc, thIf_bad, ret_eq, setS_eq, retS_eq, skipS_eq, alloc_eq, callM_eq, evs_nil, evs_cons, asBool_bl, tru_bl, tru_int, tru_non, tru_tup, runR_nx, runR_rt, runR_exc, runR_bad, runR_ite, thn_ite, thS_ite, thE_ite, ite_app2, ite_app2S, add_ii, sub_ii, mul_ii, fdiv_ii, mod_ii, pow_ii, shl_ii, shr_ii, band_ii, bor_ii, bxor_ii, neg_i, lt_ii, le_ii, gt_ii, ge_ii, eq_ii, eq_ss, eq_bb, ne_ii, ne_ss, ne_bb, isN_non, isN_int, isN_tup, isN_ref, isN_str, int_i, int_b, abs_i, max_ii, min_ii, slotM, idx_r, idx_t, idxO_lst, idxO_fro, atO_some, stIx_r, len_r, lenO_lst, lenO_fro, list_r, listO_lst, listO_fro, andT_one, andT_two, orT_one, orT_two, andV_one, andV_two, orV_one, orV_two, asg_eq, subG_eq, onlyNx_eq, nxo_nx, lst_eq, tup_eq, pat_nm, forS_eq, okS_nx, okS_rt, okS_bk, okS_ct, okS_exc, okE_oke, List.getElem?_cons_zero, List.getElem?_cons_succ, List.set_cons_zero, List.set_cons_succ, ofString_inj, decide_eq_true_eq, Bool.not_eq_true', decide_eq_false_iff_not, reduceIte, if_true, if_false, Int.reduceLT, Int.reduceLE, Int.reduceEq, Int.reduceNe, decide_true, decide_false, Bool.false_eq_true, String.reduceEq, Bool.not_true, Bool.not_false, idxO_dct, stIxO_dct, keyV_str, keyV_int, isKd_nil, isKd_cons, dLook_nil, dLook_cons, dct_eq, dctO_ok, prs_nil, prs_cons, get_new, set_new, dPut, dHas, List.any_cons, List.any_nil, List.all_cons, List.all_nil, List.foldl_cons, List.foldl_nil, List.map_cons, List.map_nil, List.cons_append, List.nil_append, Option.some.injEq, Sum.inr.injEq, Sum.inl.injEq, Option.isSome_some, Bool.or_false, Bool.false_or, Bool.or_true, Bool.true_or, Bool.and_true, Bool.true_and, Bool.and_self, List.length_cons, List.length_nil, sizeLine_eq, Nat.reduceAdd, Nat.reduceLeDiff, Nat.reduceLT, and_self, and_true, true_and, Bool.or_self, Bool.and_false, Bool.false_and, reduceCtorEq, in_tup, memFlat_nil, memFlat_cons, eqFlat_ss, eqFlat_ii, flatA_str, flatA_int, cpow2, comp_eq, gs_nil, gs_cons, Nat.reducePow, Int.reduceToNat, Int.reducePow, Int.reduceSub, Int.reduceNeg, Int.reduceAdd, Int.reduceMul, itOf_tup]
  refine okS_forV (fun i s h => AL ns w t ws ts h ∧ ∃ c5 c6 c7 c8 c9 c10 c11, s = [some (.ref 0), some (.ref 2), some (.int n), some (.ref w), some (.ref t), c5, c6, c7, c8, c9, c10, c11]) ?_ (fun _ _ _ => trivial) _ _ _ _ ⟨⟨hw, pt, S, gw, gt⟩, _, _, _, _, _, _, _, rfl⟩ (by simp) (by simp; unfold turnsMax; omega)
  rintro i x s h ex ⟨p, c5, c6, c7, c8, c9, c10, c11, rfl⟩
  have ho : ∃ o ∈ fops, x = .str o.1 := by
    have hm := List.mem_of_getElem? ex
    simp only [List.mem_cons, List.not_mem_nil, or_false] at hm
    rcases hm with rfl | rfl | rfl | rfl | rfl | rfl
    · exact ⟨("add", _), by unfold fops; simp; rfl, rfl⟩
    · exact ⟨("min", _), by unfold fops; simp; rfl, rfl⟩
    · exact ⟨("max", _), by unfold fops; simp; rfl, rfl⟩
    · exact ⟨("and", _), by unfold fops; simp; rfl, rfl⟩
    · exact ⟨("or", _), by unfold fops; simp; rfl, rfl⟩
    · exact ⟨("xor", _), by unfold fops; simp; rfl, rfl⟩
  obtain ⟨o, ho, rfl⟩ := ho
  rw [pat_nm, okS_nx]
  simp only [List.set_cons_zero, List.set_cons_succ]
  generalize hD : ({ nx := fun s h => AL ns w t ws ts h ∧ ∃ c5 c6 c7 c8 c9 c10 c11, s = [some (.ref 0), some (.ref 2), some (.int n), some (.ref w), some (.ref t), c5, c6, c7, c8, c9, c10, c11], rt := _, ct := _, bk := _, ex := _ } : Dst) = D
  have up : ∀ {r : RS} {P : Sl → AH → Prop}, okS r (DX P) → okS r { D with nx := P } := fun {r P} q => by
    subst hD
    cases r <;> first | exact q | exact q.elim
  refine okS_seq _ (up (p15 o ho ⟨_, _, _, _, _, _, rfl⟩ p)) ?_
  rintro s h ⟨⟨c5, c7, c9, c10, c11, rfl⟩, p⟩
  refine okS_seq _ (up (P := fun s' h' => s' = [some (.ref 0), some (.ref 2), some (.int n), some (.ref w), some (.ref t), c5, some (.str o.1), c7, some (wi o.2.2), some (wi o.2.2), c10, c11] ∧ h' = h) ?_) ?_
  · unfold s_law_16
    simp only [seqS_eq, bdS_eq, bd_eq, ifS_eq, thn_nx, thn_rt, thn_bk, thn_ct, thn_exc, thn_bad, thS_ok, thS_exc, thS_bad, thE_ok, thE_exc, thE_bad, thIf_ok, thIf_exc, thIf_bad, ret_eq, setS_eq, retS_eq, skipS_eq, alloc_eq, callM_eq, evs_nil, evs_cons, asBool_bl, tru_bl, tru_int, tru_non, tru_tup, runR_nx, runR_rt, runR_exc, runR_bad, runR_ite, thn_ite, thS_ite, thE_ite, ite_app2, ite_app2S, add_ii, sub_ii, mul_ii, fdiv_ii, mod_ii, pow_ii, shl_ii, shr_ii, band_ii, bor_ii, bxor_ii, neg_i, lt_ii, le_ii, gt_ii, ge_ii, eq_ii, eq_ss, eq_bb, ne_ii, ne_ss, ne_bb, isN_non, isN_int, isN_tup, isN_ref, isN_str, int_i, int_b, abs_i, max_ii, min_ii, slotM, idx_r, idx_t, idxO_lst, idxO_fro, atO_some, stIx_r, len_r, lenO_lst, lenO_fro, list_r, listO_lst, listO_fro, andT_one, andT_two, orT_one, orT_two, andV_one, andV_two, orV_one, orV_two, asg_eq, subG_eq, onlyNx_eq, nxo_nx, lst_eq, tup_eq, pat_nm, forS_eq, okS_nx, okS_rt, okS_bk, okS_ct, okS_exc, okE_oke, List.getElem?_cons_zero, List.getElem?_cons_succ, List.set_cons_zero, List.set_cons_succ, ofString_inj, decide_eq_true_eq, Bool.not_eq_true', decide_eq_false_iff_not, reduceIte, if_true, if_false, Int.reduceLT, Int.reduceLE, Int.reduceEq, Int.reduceNe, decide_true, decide_false, Bool.false_eq_true, String.reduceEq, Bool.not_true, Bool.not_false, idxO_dct, stIxO_dct, keyV_str, keyV_int, isKd_nil, isKd_cons, dLook_nil, dLook_cons, dct_eq, dctO_ok, prs_nil, prs_cons, get_new, set_new, dPut, dHas, List.any_cons, List.any_nil, List.all_cons, List.all_nil, List.foldl_cons, List.foldl_nil, List.map_cons, List.map_nil, List.cons_append, List.nil_append, Option.some.injEq, Sum.inr.injEq, Sum.inl.injEq, Option.isSome_some, Bool.or_false, Bool.false_or, Bool.or_true, Bool.true_or, Bool.and_true, Bool.true_and, Bool.and_self, List.length_cons, List.length_nil, sizeLine_eq, Nat.reduceAdd, Nat.reduceLeDiff, Nat.reduceLT, and_self, and_true, true_and, Bool.or_self, Bool.and_false, Bool.false_and, reduceCtorEq, in_tup, memFlat_nil, memFlat_cons, eqFlat_ss, eqFlat_ii, flatA_str, flatA_int, cpow2, comp_eq, gs_nil, gs_cons, Nat.reducePow, Int.reduceToNat, Int.reducePow, Int.reduceSub, Int.reduceNeg, Int.reduceAdd, Int.reduceMul]
  rintro s h' ⟨rfl, rfl⟩
  refine okS_seq _ (up (p17 ho p rfl)) ?_
  rintro s h ⟨⟨c10, rfl⟩, p⟩
  refine okS_seq _ (up (P := fun s' h' => s' = [some (.ref 0), some (.ref 2), some (.int n), some (.ref w), some (.ref t), c5, some (.str o.1), c7, some (wi o.2.2), some (wi (ws.foldl o.2.1 o.2.2)), c10, some (.ref h.length)] ∧ h' = h ++ [.lst (ws.map wi)]) ?_) ?_
  · unfold s_law_19
    simp only [seqS_eq, bdS_eq, bd_eq, ifS_eq, thn_nx, thn_rt, thn_bk, thn_ct, thn_exc, thn_bad, thS_ok, thS_exc, thS_bad, thE_ok, thE_exc, thE_bad, thIf_ok, thIf_exc, thIf_bad, ret_eq, setS_eq, retS_eq, skipS_eq, alloc_eq, callM_eq, evs_nil, evs_cons, asBool_bl, tru_bl, tru_int, tru_non, tru_tup, runR_nx, runR_rt, runR_exc, runR_bad, runR_ite, thn_ite, thS_ite, thE_ite, ite_app2, ite_app2S, add_ii, sub_ii, mul_ii, fdiv_ii, mod_ii, pow_ii, shl_ii, shr_ii, band_ii, bor_ii, bxor_ii, neg_i, lt_ii, le_ii, gt_ii, ge_ii, eq_ii, eq_ss, eq_bb, ne_ii, ne_ss, ne_bb, isN_non, isN_int, isN_tup, isN_ref, isN_str, int_i, int_b, abs_i, max_ii, min_ii, slotM, idx_r, idx_t, idxO_lst, idxO_fro, atO_some, stIx_r, len_r, lenO_lst, lenO_fro, list_r, listO_lst, listO_fro, andT_one, andT_two, orT_one, orT_two, andV_one, andV_two, orV_one, orV_two, asg_eq, subG_eq, onlyNx_eq, nxo_nx, lst_eq, tup_eq, pat_nm, forS_eq, okS_nx, okS_rt, okS_bk, okS_ct, okS_exc, okE_oke, List.getElem?_cons_zero, List.getElem?_cons_succ, List.set_cons_zero, List.set_cons_succ, ofString_inj, decide_eq_true_eq, Bool.not_eq_true', decide_eq_false_iff_not, reduceIte, if_true, if_false, Int.reduceLT, Int.reduceLE, Int.reduceEq, Int.reduceNe, decide_true, decide_false, Bool.false_eq_true, String.reduceEq, Bool.not_true, Bool.not_false, idxO_dct, stIxO_dct, keyV_str, keyV_int, isKd_nil, isKd_cons, dLook_nil, dLook_cons, dct_eq, dctO_ok, prs_nil, prs_cons, get_new, set_new, dPut, dHas, List.any_cons, List.any_nil, List.all_cons, List.all_nil, List.foldl_cons, List.foldl_nil, List.map_cons, List.map_nil, List.cons_append, List.nil_append, Option.some.injEq, Sum.inr.injEq, Sum.inl.injEq, Option.isSome_some, Bool.or_false, Bool.false_or, Bool.or_true, Bool.true_or, Bool.and_true, Bool.true_and, Bool.and_self, List.length_cons, List.length_nil, sizeLine_eq, Nat.reduceAdd, Nat.reduceLeDiff, Nat.reduceLT, and_self, and_true, true_and, Bool.or_self, Bool.and_false, Bool.false_and, reduceCtorEq, in_tup, memFlat_nil, memFlat_cons, eqFlat_ss, eqFlat_ii, flatA_str, flatA_int, cpow2, comp_eq, gs_nil, gs_cons, Nat.reducePow, Int.reduceToNat, Int.reducePow, Int.reduceSub, Int.reduceNeg, Int.reduceAdd, Int.reduceMul, p.2.2.2.1]
  rintro s h' ⟨rfl, rfl⟩
  refine okS_seq _ (up (p20 ho p.app get_new rfl)) ?_
  rintro s h' ⟨rfl, p⟩
  refine okS_seq _ (up (p22 ho p rfl)) ?_
  rintro s h' ⟨rfl, p⟩
  subst hD
  exact ⟨p, _, _, _, _, _, _, _, rfl⟩
theorem law_true : ∀ ns : List Int, ns.length ≤ 63 → (∀ z ∈ ns, Builtin.Int.intBits z ≤ 1048576) → ∃ h', callA T fs 6 d_law.key [.ref 0] [.fro (ns.map AV.int)] = .ok (.bl true) h' := by
  intro ns hl _
  have key : okE (callA T fs 6 "law" [.ref 0] [.fro (ns.map AV.int)]) fun v _ => v = .bl true := by
    rw [c_law]
    apply okE_runR
    refine okS.imp (D := DX fun _ _ => False) ?_ (fun _ _ x => x.elim) (fun _ _ x => x) (fun _ _ x => x) (fun _ _ x => x) (fun _ _ _ _ x => x)
    unfold s_law
    refine okS_seq _ (p1 hl) fun s h p => ?_
    refine okS_seq _ (p2 p) fun s h p => ?_
    refine okS_seq _ (p3 p) fun s h p => ?_
    refine okS_seq _ (p5 p) fun s h p => ?_
    refine okS_seq _ (p7 p) fun s h p => ?_
    refine okS_seq _ (p9 p) fun s h p => ?_
    refine okS_seq _ (p10 p) fun s h p => ?_
    refine okS_seq _ (p11 p) fun s h p => ?_
    refine okS_seq _ (p14 p) fun s h p => ?_
    unfold s_law_24
    simp only [seqS_eq, bdS_eq, bd_eq, ifS_eq, thn_nx, thn_rt, thn_bk, thn_ct, thn_exc, thn_bad, thS_ok, thS_exc, thS_bad, thE_ok, thE_exc, thE_bad, thIf_ok, thIf_exc, thIf_bad, ret_eq, setS_eq, retS_eq, skipS_eq, alloc_eq, callM_eq, evs_nil, evs_cons, asBool_bl, tru_bl, tru_int, tru_non, tru_tup, runR_nx, runR_rt, runR_exc, runR_bad, runR_ite, thn_ite, thS_ite, thE_ite, ite_app2, ite_app2S, add_ii, sub_ii, mul_ii, fdiv_ii, mod_ii, pow_ii, shl_ii, shr_ii, band_ii, bor_ii, bxor_ii, neg_i, lt_ii, le_ii, gt_ii, ge_ii, eq_ii, eq_ss, eq_bb, ne_ii, ne_ss, ne_bb, isN_non, isN_int, isN_tup, isN_ref, isN_str, int_i, int_b, abs_i, max_ii, min_ii, slotM, idx_r, idx_t, idxO_lst, idxO_fro, atO_some, stIx_r, len_r, lenO_lst, lenO_fro, list_r, listO_lst, listO_fro, andT_one, andT_two, orT_one, orT_two, andV_one, andV_two, orV_one, orV_two, asg_eq, subG_eq, onlyNx_eq, nxo_nx, lst_eq, tup_eq, pat_nm, forS_eq, okS_nx, okS_rt, okS_bk, okS_ct, okS_exc, okE_oke, List.getElem?_cons_zero, List.getElem?_cons_succ, List.set_cons_zero, List.set_cons_succ, ofString_inj, decide_eq_true_eq, Bool.not_eq_true', decide_eq_false_iff_not, reduceIte, if_true, if_false, Int.reduceLT, Int.reduceLE, Int.reduceEq, Int.reduceNe, decide_true, decide_false, Bool.false_eq_true, String.reduceEq, Bool.not_true, Bool.not_false, idxO_dct, stIxO_dct, keyV_str, keyV_int, isKd_nil, isKd_cons, dLook_nil, dLook_cons, dct_eq, dctO_ok, prs_nil, prs_cons, get_new, set_new, dPut, dHas, List.any_cons, List.any_nil, List.all_cons, List.all_nil, List.foldl_cons, List.foldl_nil, List.map_cons, List.map_nil, List.cons_append, List.nil_append, Option.some.injEq, Sum.inr.injEq, Sum.inl.injEq, Option.isSome_some, Bool.or_false, Bool.false_or, Bool.or_true, Bool.true_or, Bool.and_true, Bool.true_and, Bool.and_self, List.length_cons, List.length_nil, sizeLine_eq, Nat.reduceAdd, Nat.reduceLeDiff, Nat.reduceLT, and_self, and_true, true_and, Bool.or_self, Bool.and_false, Bool.false_and, reduceCtorEq, in_tup, memFlat_nil, memFlat_cons, eqFlat_ss, eqFlat_ii, flatA_str, flatA_int, cpow2, comp_eq, gs_nil, gs_cons, Nat.reducePow, Int.reduceToNat, Int.reducePow, Int.reduceSub, Int.reduceNeg, Int.reduceAdd, Int.reduceMul]
  obtain ⟨v, h', e1, rfl⟩ := okE_iff.mp key
  exact ⟨h', e1⟩
end K02
namespace K02
open PySem PySem.Spec PyProof.Rows L2 Ev
theorem b_d_wrapped : BindOk d_wrapped := ⟨fun _ _ _ _ _ _ us hl => match us, hl with | [_], _ => rfl⟩
theorem b_d_divided : BindOk d_divided := ⟨fun _ _ _ _ _ _ us hl => match us, hl with | [_, _], _ => rfl⟩
theorem b_d_arithmetic : BindOk d_arithmetic := ⟨fun _ _ _ _ _ _ us hl => match us, hl with | [_, _, _], _ => rfl⟩
theorem b_d_bits : BindOk d_bits := ⟨fun _ _ _ _ _ _ us hl => match us, hl with | [_, _, _], _ => rfl⟩
theorem b_d_compared : BindOk d_compared := ⟨fun _ _ _ _ _ _ us hl => match us, hl with | [_, _, _], _ => rfl⟩
theorem b_d_binary : BindOk d_binary := ⟨fun _ _ _ _ _ _ us hl => match us, hl with | [_, _, _], _ => rfl⟩
theorem b_d_neutral : BindOk d_neutral := ⟨fun _ _ _ _ _ _ us hl => match us, hl with | [_], _ => rfl⟩
theorem b_d_fold : BindOk d_fold := ⟨fun _ _ _ _ _ _ us hl => match us, hl with | [_, _], _ => rfl⟩
theorem b_d_law_stream : BindOk d_law_stream := ⟨fun _ _ _ _ _ _ us hl => match us, hl with | [_], _ => rfl⟩
theorem b_d_law_draw : BindOk d_law_draw := ⟨fun _ _ _ _ _ _ us hl => match us, hl with | [_, _], _ => rfl⟩
theorem b_d_law_word : BindOk d_law_word := ⟨fun _ _ _ _ _ _ us hl => match us, hl with | [_], _ => rfl⟩
theorem b_d_law_wrapped : BindOk d_law_wrapped := ⟨fun _ _ _ _ _ _ us hl => match us, hl with | [_], _ => rfl⟩
theorem b_d_law_bits : BindOk d_law_bits := ⟨fun _ _ _ _ _ _ us hl => match us, hl with | [_, _, _], _ => rfl⟩
theorem b_d_law_shifted : BindOk d_law_shifted := ⟨fun _ _ _ _ _ _ us hl => match us, hl with | [_, _, _], _ => rfl⟩
theorem b_d_law_binary : BindOk d_law_binary := ⟨fun _ _ _ _ _ _ us hl => match us, hl with | [_, _, _], _ => rfl⟩
theorem b_d_law_unary : BindOk d_law_unary := ⟨fun _ _ _ _ _ _ us hl => match us, hl with | [_, _], _ => rfl⟩
theorem b_d_law : BindOk d_law := ⟨fun _ _ _ _ _ _ us hl => match us, hl with | [_], _ => rfl⟩
theorem binds : ∀ d ∈ fs, BindOk d := by
  intro d hd
  simp only [fs, List.mem_cons, List.mem_nil_iff, or_false] at hd
  rcases hd with rfl | rfl | rfl | rfl | rfl | rfl | rfl | rfl | rfl | rfl | rfl | rfl | rfl | rfl | rfl | rfl | rfl
  · exact b_d_wrapped
  · exact b_d_divided
  · exact b_d_arithmetic
  · exact b_d_bits
  · exact b_d_compared
  · exact b_d_binary
  · exact b_d_neutral
  · exact b_d_fold
  · exact b_d_law_stream
  · exact b_d_law_draw
  · exact b_d_law_word
  · exact b_d_law_wrapped
  · exact b_d_law_bits
  · exact b_d_law_shifted
  · exact b_d_law_binary
  · exact b_d_law_unary
  · exact b_d_law
def loose : List PySem.Str := (["FOLDING", "LEAST", "GREATEST", "MODULUS", "wrapped", "divided", "arithmetic", "bits", "compared", "binary", "neutral", "fold", "_law_stream", "_law_draw", "_law_word", "_law_wrapped", "_law_bits", "_law_shifted", "_law_binary", "_law_unary"] : List PySem.Str)
abbrev R : PySem.W.OpenRow := PySem.W.OpenLaw.row PySem.Challenge.rw_drawever_k02_wrapping_and_folding
abbrev hk : PySem.W.Hook := He.hookX 5 (fac T) (fs.map ddOf) [] [] (conB T)
def ob (s : PySem.W.SharedT) : He.AlX := He.obsX 5 (fac T) (fs.map ddOf) [] [] (conB T) (HandSHeadRun.getT s)
theorem ob_eq (s : PySem.W.SharedT) : ob s = hk.obs s.abs := He.obsX_eq (HandSHeadRun.getT_eq s)
theorem run (w : World) : HandSHeadRun.RunEq R (PySem.W.view R.prog [22]) hk ob 4000 loose w := by
  intro os
  kernel_rfl
end K02
open PySem PySem.W PySem.Calls PyProof.Rows
set_option maxRecDepth 100000 in
set_option maxHeartbeats 0 in
theorem PySem.Challenge.cw_drawever_k02_wrapping_and_folding_holds : PySem.Challenge.rw_drawever_k02_wrapping_and_folding.Holds := by
  w_on; o_law
  refine HandSHeadRun.head_any (r := OpenLaw.row PySem.Challenge.rw_drawever_k02_wrapping_and_folding) (q := view (OpenLaw.row PySem.Challenge.rw_drawever_k02_wrapping_and_folding).prog [22]) (H := K02.hk) (ob := K02.ob) (M := 4000) (loose := K02.loose) (d := HandSHeadRun.topDef (OpenLaw.row PySem.Challenge.rw_drawever_k02_wrapping_and_folding).prog 22) (kwd := []) K02.ob_eq
    (by kernel_rfl) (fun s => by kernel_rfl) K02.run (by kernel_rfl) (by kernel_rfl) (by kernel_rfl) (by rfl) (by first | assumption | decide +kernel) (by decide +kernel) ⟨rfl, rfl, rfl, rfl, rfl, by decide +kernel⟩ ?hw ?hc
  case hw => w_witness2
  case hc =>
    exact Ev.walk_ev (l := PySem.Challenge.rw_drawever_k02_wrapping_and_folding) (dl := K02.d_law) (k := 6) (x := "script") rfl (by kernel_rfl) ⟨rfl, by decide, by decide⟩ (by kernel_rfl) rfl (by rfl) (by rfl) (by decide +kernel) K02.binds K02.law_true
