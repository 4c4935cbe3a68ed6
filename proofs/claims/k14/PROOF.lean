import PyProof.Rows.All
import Wide.All
import OpenK.AllK
import Wide.FinOn
import HandS.ForMost
import HandS.ForExc
import HandS.HeadHook1
import HandS.Wide
import HandS.WideMore
import HandS.TupMul
import HandS.TupLe
import HandS.CallSlots
import HandS.Flow
import HandS.StrMore
import HandS.Text
import HandS.IsInst
import HandS.WordsExc
import HandS.HeadEnd
import HandS.HeadHook2
import HandS.HeadHook3
import HandS.HeadHook4
import HandS.EndBits
import KE.DataEq
import HandS.Head0
import HandS.Head1
import HandS.Head2
import PySem.Challenge.RW_drawever_k14_tokens
set_option Elab.async false
set_option linter.all false
set_option maxRecDepth 100000
set_option maxHeartbeats 4000000
/-! Ev: a small evaluator of the text's own syntax over plain values, and its soundness over the hand layer. -/
namespace Ev
open PySem PySem.Spec PyProof.Rows L2
/-! ### values, objects -/
inductive AV where
  | non | bl (b : Bool) | int (i : Int) | str (x : Str) | tup (xs : List AV) | ref (i : Nat) | kd (x : Str)
inductive AO where
  | lst (xs : List AV)
  | fro (xs : List AV)
  | dct (kvs : List (AV × AV))
  | ins (c : Str) (fs : List (Str × AV))
abbrev AH := List AO
abbrev Sl := List (Option AV)
mutual
def VR (K : PySem.W.Frag) (ρ : List Addr) (H : Hp) : AV → V → Prop
  | .non, v => v = .non
  | .bl b, v => v = .bl b
  | .int i, v => v = .int i
  | .str x, v => v = .str x
  | .tup xs, v => ∃ a ys, v = .ref a ∧ SqT K H a ys ∧ VRs K ρ H xs ys
  | .ref i, v => ∃ a, ρ[i]? = some a ∧ v = .ref a
  | .kd x, v => v = .ref (He.ga K x)
def VRs (K : PySem.W.Frag) (ρ : List Addr) (H : Hp) : List AV → List V → Prop
  | [], ys => ys = []
  | x :: xs, ys => ∃ y r, ys = y :: r ∧ VR K ρ H x y ∧ VRs K ρ H xs r
end
section
variable {K : PySem.W.Frag} {ρ ρ' : List Addr} {H H' : Hp}
theorem VR.tup {xs : List AV} {v : V} : VR K ρ H (.tup xs) v ↔ ∃ a ys, v = .ref a ∧ SqT K H a ys ∧ VRs K ρ H xs ys := by rw [VR]
theorem VR.ref {i : Nat} {v : V} : VR K ρ H (.ref i) v ↔ ∃ a, ρ[i]? = some a ∧ v = .ref a := by rw [VR]
theorem VR.kd {x : Str} {v : V} : VR K ρ H (.kd x) v ↔ v = .ref (He.ga K x) := by rw [VR]
theorem VR.int {i : Int} {v : V} : VR K ρ H (.int i) v ↔ v = .int i := by rw [VR]
theorem VR.bl {i : Bool} {v : V} : VR K ρ H (.bl i) v ↔ v = .bl i := by rw [VR]
theorem VR.str {i : Str} {v : V} : VR K ρ H (.str i) v ↔ v = .str i := by rw [VR]
theorem VR.non {v : V} : VR K ρ H .non v ↔ v = .non := by rw [VR]
theorem VRs.nil {ys : List V} : VRs K ρ H [] ys ↔ ys = [] := by rw [VRs]
theorem VRs.cons {x : AV} {xs : List AV} {ys : List V} : VRs K ρ H (x :: xs) ys ↔ ∃ y r, ys = y :: r ∧ VR K ρ H x y ∧ VRs K ρ H xs r := by rw [VRs]
/-- the heap has grown or was written at tracked lists: tuples stay -/
structure Ext (ρ : List Addr) (H : Hp) (ρ' : List Addr) (H' : Hp) : Prop where
  tup : ∀ a xs, H a = some (.tup xs) → H' a = some (.tup xs)
  frz : ∀ a o u, H a = some (.frz o u) → H' a = some (.frz o u)
  ref : ∀ (i : Nat) (a : Addr), ρ[i]? = some a → ρ'[i]? = some a
theorem Ext.refl : Ext ρ H ρ H := ⟨fun _ _ h => h, fun _ _ _ h => h, fun _ _ h => h⟩
theorem Ext.trans {ρ2 : List Addr} {H2 : Hp} (a : Ext ρ H ρ' H') (b : Ext ρ' H' ρ2 H2) : Ext ρ H ρ2 H2 :=
  ⟨fun c xs h => b.tup c xs (a.tup c xs h), fun c o u h => b.frz c o u (a.frz c o u h), fun i c h => b.ref i c (a.ref i c h)⟩
theorem Ext.sqT (e : Ext ρ H ρ' H') {a : Addr} {xs : List V} (h : SqT K H a xs) : SqT K H' a xs := by
  rcases h with (h | ⟨o, h⟩) | h
  · exact .inl (.inl (e.tup _ _ h))
  · exact .inl (.inr ⟨o, e.frz _ _ _ h⟩)
  · exact .inr h
mutual
theorem VR.mono (e : Ext ρ H ρ' H') : ∀ {x : AV} {v : V}, VR K ρ H x v → VR K ρ' H' x v
  | .non, v, h => VR.non.mpr (VR.non.mp h)
  | .bl b, v, h => VR.bl.mpr (VR.bl.mp h)
  | .int i, v, h => VR.int.mpr (VR.int.mp h)
  | .str x, v, h => VR.str.mpr (VR.str.mp h)
  | .tup xs, v, h => by
    obtain ⟨a, ys, e1, h1, h2⟩ := VR.tup.mp h
    exact VR.tup.mpr ⟨a, ys, e1, e.sqT h1, VRs.mono e h2⟩
  | .ref i, v, h => by
    obtain ⟨a, h1, h2⟩ := VR.ref.mp h
    exact VR.ref.mpr ⟨a, e.ref _ _ h1, h2⟩
  | .kd x, v, h => VR.kd.mpr (VR.kd.mp h)
theorem VRs.mono (e : Ext ρ H ρ' H') : ∀ {xs : List AV} {ys : List V}, VRs K ρ H xs ys → VRs K ρ' H' xs ys
  | [], ys, h => VRs.nil.mpr (VRs.nil.mp h)
  | x :: xs, ys, h => by
    obtain ⟨y, r, e1, h1, h2⟩ := VRs.cons.mp h
    exact VRs.cons.mpr ⟨y, r, e1, VR.mono e h1, VRs.mono e h2⟩
end
theorem VRs.length : ∀ {xs : List AV} {ys : List V}, VRs K ρ H xs ys → xs.length = ys.length
  | [], ys, h => by rw [VRs.nil.mp h]; rfl
  | x :: xs, ys, h => by
    obtain ⟨y, r, rfl, _, h2⟩ := VRs.cons.mp h
    simp [VRs.length h2]
theorem VRs.get : ∀ {xs : List AV} {ys : List V} {i : Nat} {x : AV}, VRs K ρ H xs ys → xs[i]? = some x → ∃ y, ys[i]? = some y ∧ VR K ρ H x y
  | x :: xs, ys, 0, z, h, e => by
    obtain ⟨y, r, rfl, h1, _⟩ := VRs.cons.mp h
    obtain rfl : x = z := by simpa using e
    exact ⟨y, rfl, h1⟩
  | x :: xs, ys, i + 1, z, h, e => by
    obtain ⟨y, r, rfl, _, h2⟩ := VRs.cons.mp h
    obtain ⟨w, h3, h4⟩ := VRs.get (i := i) h2 (by simpa using e)
    exact ⟨w, by simpa using h3, h4⟩
theorem VRs.getV : ∀ {xs : List AV} {ys : List V} {i : Nat} {y : V}, VRs K ρ H xs ys → ys[i]? = some y → ∃ x, xs[i]? = some x ∧ VR K ρ H x y := fun {xs ys i y} h e => by
  have hl : i < xs.length := by rw [h.length]; exact (List.getElem?_eq_some_iff.mp e).1
  obtain ⟨z, h1, h2⟩ := h.get (List.getElem?_eq_getElem hl)
  rw [e] at h1
  cases h1
  exact ⟨_, List.getElem?_eq_getElem hl, h2⟩
theorem VRs.append : ∀ {xs xs' : List AV} {ys ys' : List V}, VRs K ρ H xs ys → VRs K ρ H xs' ys' → VRs K ρ H (xs ++ xs') (ys ++ ys')
  | [], xs', ys, ys', h, h' => by rw [VRs.nil.mp h]; exact h'
  | x :: xs, xs', ys, ys', h, h' => by
    obtain ⟨y, r, rfl, h1, h2⟩ := VRs.cons.mp h
    exact VRs.cons.mpr ⟨y, r ++ ys', rfl, h1, VRs.append h2 h'⟩
theorem VRs.one {x : AV} {y : V} (h : VR K ρ H x y) : VRs K ρ H [x] [y] := VRs.cons.mpr ⟨y, [], rfl, h, VRs.nil.mpr rfl⟩
theorem VRs.set : ∀ {xs : List AV} {ys : List V} {x : AV} {y : V} (i : Nat), VRs K ρ H xs ys → VR K ρ H x y → VRs K ρ H (xs.set i x) (ys.set i y)
  | [], ys, x, y, i, h, _ => by rw [VRs.nil.mp h]; exact VRs.nil.mpr (by simp)
  | z :: xs, ys, x, y, 0, h, q => by
    obtain ⟨w, r, rfl, _, h2⟩ := VRs.cons.mp h
    exact VRs.cons.mpr ⟨y, r, rfl, q, h2⟩
  | z :: xs, ys, x, y, i + 1, h, q => by
    obtain ⟨w, r, rfl, h1, h2⟩ := VRs.cons.mp h
    exact VRs.cons.mpr ⟨w, r.set i y, rfl, h1, VRs.set i h2 q⟩
theorem VRs.drop : ∀ {xs : List AV} {ys : List V} (n : Nat), VRs K ρ H xs ys → VRs K ρ H (xs.drop n) (ys.drop n)
  | xs, ys, 0, h => by simpa using h
  | [], ys, n + 1, h => by rw [VRs.nil.mp h]; exact VRs.nil.mpr (by simp)
  | x :: xs, ys, n + 1, h => by
    obtain ⟨y, r, rfl, _, h2⟩ := VRs.cons.mp h
    simpa using VRs.drop n h2
theorem VRs.take : ∀ {xs : List AV} {ys : List V} (n : Nat), VRs K ρ H xs ys → VRs K ρ H (xs.take n) (ys.take n)
  | xs, ys, 0, h => by simpa using VRs.nil.mpr rfl
  | [], ys, n + 1, h => by rw [VRs.nil.mp h]; exact VRs.nil.mpr (by simp)
  | x :: xs, ys, n + 1, h => by
    obtain ⟨y, r, rfl, h1, h2⟩ := VRs.cons.mp h
    exact VRs.cons.mpr ⟨y, r.take n, by simp, h1, VRs.take n h2⟩
theorem VRs.of_map {α : Type} {f : α → AV} {g : α → V} (h : ∀ a, VR K ρ H (f a) (g a)) : ∀ l : List α, VRs K ρ H (l.map f) (l.map g)
  | [] => VRs.nil.mpr rfl
  | a :: l => VRs.cons.mpr ⟨g a, l.map g, rfl, h a, VRs.of_map h l⟩
end
/-! ### objects -/
/-- the address of a class of the text -/
abbrev CT := Str → Option Addr
/-- attributes, by name and in order -/
def FR (K : PySem.W.Frag) (ρ : List Addr) (H : Hp) : List (Str × AV) → List (Str × V) → Prop
  | [], gs => gs = []
  | f :: fs, gs => ∃ w r, gs = (f.1, w) :: r ∧ VR K ρ H f.2 w ∧ FR K ρ H fs r
def keyV : AV → Option Key
  | .int i => some (.inl i)
  | .str x => some (.inr x)
  | _ => none
def keysV : List AV → Option (List Key)
  | [] => some []
  | x :: xs => match keyV x, keysV xs with
    | some k, some ks => some (k :: ks)
    | _, _ => none
/-- entries whose keys are ints and texts | tuples of such -/
def DKR (K : PySem.W.Frag) (ρ : List Addr) (H : Hp) : List (AV × AV) → List (Key × V) → Prop
  | [], gs => gs = []
  | f :: fs, gs => ∃ k w r, gs = (k, w) :: r ∧ keyV f.1 = some k ∧ VR K ρ H f.2 w ∧ DKR K ρ H fs r
def DTR (K : PySem.W.Frag) (ρ : List Addr) (H : Hp) : List (AV × AV) → List (List Key × V) → Prop
  | [], gs => gs = []
  | f :: fs, gs => ∃ xs k w r, gs = (k, w) :: r ∧ f.1 = .tup xs ∧ keysV xs = some k ∧ VR K ρ H f.2 w ∧ DTR K ρ H fs r
def OR (K : PySem.W.Frag) (ct : CT) (ρ : List Addr) (H : Hp) (a : Addr) : AO → Prop
  | .lst xs => ∃ ys, H a = some (.lst ys) ∧ VRs K ρ H xs ys
  | .fro xs => ∃ ys, VRs K ρ H xs ys ∧ ((∃ o, H a = some (.frz o (.lst ys))) ∨
      ∃ (o : Obj) (its : Array Value) (n : Nat), K.lookup a = some o ∧ o.cls = .type "list" ∧ o.dict = none ∧ o.data = .seq its n ∧ its.size ≤ sizeLine ∧ Vals ys its.toList)
  | .dct kvs => (∃ gs, H a = some (.dK gs) ∧ DKR K ρ H kvs gs) ∨ (kvs ≠ [] ∧ ∃ gs, H a = some (.dT gs) ∧ DTR K ρ H kvs gs)
  | .ins c fs => ∃ C dx gs, H a = some (.ins C dx gs) ∧ ct c = some C ∧ FR K ρ H fs gs
def isFro (h : AH) (i : Nat) : Prop := ∃ xs, h[i]? = some (.fro xs)
structure HR (K : PySem.W.Frag) (ct : CT) (ρ : List Addr) (H : Hp) (h : AH) : Prop where
  len : ρ.length = h.length
  nd : ∀ (i j : Nat) (a : Addr), ρ[i]? = some a → ρ[j]? = some a → i ≠ j → isFro h i ∨ isFro h j
  ob : ∀ (i : Nat) (a : Addr) (o : AO), ρ[i]? = some a → h[i]? = some o → OR K ct ρ H a o
section
variable {K : PySem.W.Frag} {ct : CT} {ρ ρ' : List Addr} {H H' : Hp} {a p : Addr} {h : AH}
theorem FR.mono (e : Ext ρ H ρ' H') : ∀ {fs : List (Str × AV)} {gs : List (Str × V)}, FR K ρ H fs gs → FR K ρ' H' fs gs
  | [], gs, h => h
  | f :: fs, gs, h => by
    obtain ⟨w, r, e1, h1, h2⟩ := h
    exact ⟨w, r, e1, h1.mono e, FR.mono e h2⟩
theorem DKR.mono (e : Ext ρ H ρ' H') : ∀ {fs : List (AV × AV)} {gs : List (Key × V)}, DKR K ρ H fs gs → DKR K ρ' H' fs gs
  | [], gs, h => h
  | f :: fs, gs, h => by
    obtain ⟨k, w, r, e1, hk, h1, h2⟩ := h
    exact ⟨k, w, r, e1, hk, h1.mono e, DKR.mono e h2⟩
theorem DTR.mono (e : Ext ρ H ρ' H') : ∀ {fs : List (AV × AV)} {gs : List (List Key × V)}, DTR K ρ H fs gs → DTR K ρ' H' fs gs
  | [], gs, h => h
  | f :: fs, gs, h => by
    obtain ⟨xs, k, w, r, e1, hx, hk, h1, h2⟩ := h
    exact ⟨xs, k, w, r, e1, hx, hk, h1.mono e, DTR.mono e h2⟩
theorem OR.mono (e : Ext ρ H ρ' H') (ha : H a ≠ none → H' a = H a) : ∀ {o : AO}, OR K ct ρ H a o → OR K ct ρ' H' a o
  | .lst xs, ⟨ys, h1, h2⟩ => ⟨ys, (ha (by rw [h1]; simp)).trans h1, h2.mono e⟩
  | .fro xs, ⟨ys, h2, .inl ⟨o, h1⟩⟩ => ⟨ys, h2.mono e, .inl ⟨o, e.frz _ _ _ h1⟩⟩
  | .fro xs, ⟨ys, h2, .inr h1⟩ => ⟨ys, h2.mono e, .inr h1⟩
  | .dct kvs, .inl ⟨gs, h1, h2⟩ => .inl ⟨gs, (ha (by rw [h1]; simp)).trans h1, h2.mono e⟩
  | .dct kvs, .inr ⟨n, gs, h1, h2⟩ => .inr ⟨n, gs, (ha (by rw [h1]; simp)).trans h1, h2.mono e⟩
  | .ins c fs, ⟨C, dx, gs, h1, h2, h3⟩ => ⟨C, dx, gs, (ha (by rw [h1]; simp)).trans h1, h2, h3.mono e⟩
/-- an object that is read only leans on nothing that is written -/
theorem OR.fro (e : Ext ρ H ρ' H') {xs : List AV} : OR K ct ρ H a (.fro xs) → OR K ct ρ' H' a (.fro xs)
  | ⟨ys, h2, .inl ⟨o, h1⟩⟩ => ⟨ys, h2.mono e, .inl ⟨o, e.frz _ _ _ h1⟩⟩
  | ⟨ys, h2, .inr h1⟩ => ⟨ys, h2.mono e, .inr h1⟩
theorem OR.tracked : ∀ {o : AO}, (∀ xs, o ≠ .fro xs) → OR K ct ρ H a o → ∃ u, H a = some u
  | .lst xs, _, ⟨ys, h1, h2⟩ => ⟨_, h1⟩
  | .fro xs, n, _ => (n xs rfl).elim
  | .dct kvs, _, .inl ⟨gs, h1, h2⟩ => ⟨_, h1⟩
  | .dct kvs, _, .inr ⟨n, gs, h1, h2⟩ => ⟨_, h1⟩
  | .ins c fs, _, ⟨C, dx, gs, h1, h2, h3⟩ => ⟨_, h1⟩
theorem HR.at_ (r : HR K ct ρ H h) {i : Nat} {o : AO} (e : h[i]? = some o) : ∃ a, ρ[i]? = some a ∧ OR K ct ρ H a o := by
  have hl : i < ρ.length := by rw [r.len]; exact (List.getElem?_eq_some_iff.mp e).1
  exact ⟨ρ[i], List.getElem?_eq_getElem hl, r.ob i _ o (List.getElem?_eq_getElem hl) e⟩
/-- something new that is not tracked here: a tuple -/
theorem Ext.new {u : HO} (hp : H p = none) : Ext ρ H ρ (upd H p u) :=
  ⟨fun a xs e => by rw [upd_ne (ne_of_none e hp)]; exact e, fun a o u e => by rw [upd_ne (ne_of_none e hp)]; exact e, fun _ _ e => e⟩
theorem upd_keep {u : HO} (hp : H p = none) : H a ≠ none → upd H p u a = H a := fun h => upd_ne (by rintro rfl; exact h hp)
theorem HR.new {u : HO} (r : HR K ct ρ H h) (hp : H p = none) : HR K ct ρ (upd H p u) h :=
  ⟨r.len, r.nd, fun i a o e1 e2 => (r.ob i a o e1 e2).mono (Ext.new hp) (upd_keep hp)⟩
/-- a new tracked object -/
theorem Ext.push {u : HO} (hp : H p = none) : Ext ρ H (ρ ++ [p]) (upd H p u) :=
  ⟨(Ext.new (ρ := ρ) hp).tup, (Ext.new (ρ := ρ) hp).frz, fun i a e => by
    rw [List.getElem?_append_left (List.getElem?_eq_some_iff.mp e).1]; exact e⟩
theorem isFro.push {o : AO} {i : Nat} : isFro h i → isFro (h ++ [o]) i := fun ⟨xs, e⟩ => ⟨xs, by rw [List.getElem?_append_left (List.getElem?_eq_some_iff.mp e).1]; exact e⟩
theorem HR.push {u : HO} {o : AO} (r : HR K ct ρ H h) (hp : H p = none) (ho : OR K ct (ρ ++ [p]) (upd H p u) p o) : HR K ct (ρ ++ [p]) (upd H p u) (h ++ [o]) := by
  have old : ∀ (i : Nat) (a : Addr), (ρ ++ [p])[i]? = some a → (i < ρ.length ∧ ρ[i]? = some a) ∨ (i = ρ.length ∧ a = p) := fun i a e => by
    by_cases hi : i < ρ.length
    · rw [List.getElem?_append_left hi] at e
      exact .inl ⟨hi, e⟩
    · have h2 : i < (ρ ++ [p]).length := (List.getElem?_eq_some_iff.mp e).1
      have h3 : i = ρ.length := by simp at h2; omega
      subst h3
      exact .inr ⟨rfl, by simpa using e.symm⟩
  have froP : ∀ (i : Nat), ρ[i]? = some p → isFro h i := fun i e => by
    have hl : i < h.length := by rw [← r.len]; exact (List.getElem?_eq_some_iff.mp e).1
    have e2 := List.getElem?_eq_getElem hl
    by_cases q : ∃ xs, h[i] = .fro xs
    · obtain ⟨xs, q⟩ := q
      exact ⟨xs, by rw [e2, q]⟩
    · obtain ⟨u, hu⟩ := (r.ob i p _ e e2).tracked fun xs z => q ⟨xs, z⟩
      rw [hp] at hu
      cases hu
  refine ⟨by simp [r.len], fun i j a e1 e2 hne => ?_, fun i a o' e1 e2 => ?_⟩
  · rcases old i a e1 with ⟨i1, i2⟩ | ⟨i1, i2⟩
    · rcases old j a e2 with ⟨j1, j2⟩ | ⟨j1, j2⟩
      · exact (r.nd i j a i2 j2 hne).imp isFro.push isFro.push
      · subst j2
        exact .inl (froP i i2).push
    · rcases old j a e2 with ⟨j1, j2⟩ | ⟨j1, j2⟩
      · subst i2
        exact .inr (froP j j2).push
      · exact (hne (i1.trans j1.symm)).elim
  · rcases old i a e1 with ⟨i1, i2⟩ | ⟨i1, i2⟩
    · rw [List.getElem?_append_left (by rw [← r.len]; exact i1)] at e2
      exact (r.ob i a o' i2 e2).mono (Ext.push hp) (upd_keep hp)
    · subst i2
      rw [i1, r.len] at e2
      have e3 : (h ++ [o])[h.length]? = some o := by simp
      rw [e3] at e2
      cases e2
      exact ho
/-- what may be written here -/
def MutO : HO → Prop
  | .tup _ => False
  | .frz _ _ => False
  | _ => True
theorem Ext.write {u u' : HO} (ha : H a = some u) (hm : MutO u) : Ext ρ H ρ (upd H a u') := by
  refine ⟨fun b xs e => ?_, fun b o v e => ?_, fun _ _ e => e⟩
  · rw [upd_ne (by rintro rfl; rw [ha] at e; cases e; exact hm)]; exact e
  · rw [upd_ne (by rintro rfl; rw [ha] at e; cases e; exact hm)]; exact e
theorem notFro {i : Nat} {o : AO} (e : h[i]? = some o) (n : ∀ xs, o ≠ .fro xs) : ¬ isFro h i := fun ⟨xs, q⟩ => by
  rw [e] at q
  exact n xs (Option.some.inj q)
theorem HR.write {u u' : HO} {o : AO} {i : Nat} (r : HR K ct ρ H h) (hi : ρ[i]? = some a) (hf : ¬ isFro h i) (ha : H a = some u) (hm : MutO u) (ho : OR K ct ρ (upd H a u') a o) (hf2 : ∀ xs, o ≠ .fro xs) : HR K ct ρ (upd H a u') (h.set i o) := by
  have hil : i < h.length := by rw [← r.len]; exact (List.getElem?_eq_some_iff.mp hi).1
  have keep : ∀ j, isFro h j → isFro (h.set i o) j := fun j ⟨xs, e⟩ => ⟨xs, by
    rw [List.getElem?_set_ne (by rintro rfl; exact hf ⟨xs, e⟩)]
    exact e⟩
  refine ⟨by simp [r.len], fun j k b e1 e2 hne => (r.nd j k b e1 e2 hne).imp (keep j) (keep k), fun j b o' e1 e2 => ?_⟩
  by_cases hj : j = i
  · subst hj
    rw [hi] at e1
    cases e1
    rw [List.getElem?_set_self hil] at e2
    cases e2
    exact ho
  · rw [List.getElem?_set_ne (fun q => hj q.symm)] at e2
    by_cases hb : b = a
    · subst hb
      rcases r.nd j i b e1 hi hj with ⟨xs, q⟩ | q
      · rw [e2] at q
        cases q
        exact OR.fro (Ext.write ha hm) (r.ob j b _ e1 e2)
      · exact (hf q).elim
    · exact (r.ob j b o' e1 e2).mono (Ext.write ha hm) fun _ => upd_ne hb
end
/-! ### slots -/
def SR (K : PySem.W.Frag) (ρ : List Addr) (H : Hp) (s : Sl) (σ : L2.St) : Prop :=
  s.length = σ.length ∧ ∀ (i : Nat) (x : AV), s[i]? = some (some x) → ∃ v, σ[i]? = some (some v) ∧ VR K ρ H x v
section
variable {K : PySem.W.Frag} {ρ ρ' : List Addr} {H H' : Hp} {s : Sl} {σ : L2.St}
theorem SR.mono (e : Ext ρ H ρ' H') (r : SR K ρ H s σ) : SR K ρ' H' s σ :=
  ⟨r.1, fun i x h => let ⟨v, h1, h2⟩ := r.2 i x h; ⟨v, h1, h2.mono e⟩⟩
theorem SR.set {x : AV} {v : V} (r : SR K ρ H s σ) (i : Nat) (h : VR K ρ H x v) : SR K ρ H (s.set i (some x)) (σ.set i (some v)) := by
  refine ⟨by simp [r.1], fun j y e => ?_⟩
  by_cases hj : i = j
  · subst hj
    by_cases hl : i < s.length
    · rw [List.getElem?_set_self hl] at e
      cases e
      exact ⟨v, by rw [List.getElem?_set_self (by rw [← r.1]; exact hl)], h⟩
    · rw [List.getElem?_eq_none (by simpa using hl)] at e
      cases e
  · rw [List.getElem?_set_ne hj] at e
    obtain ⟨w, h1, h2⟩ := r.2 j y e
    exact ⟨w, by rw [List.getElem?_set_ne hj]; exact h1, h2⟩
end
end Ev
namespace Ev
open PySem PySem.Spec PyProof.Rows L2
/-! ### the evaluator's results -/
inductive RE (α : Type) where
  | ok (a : α) (h : AH)
  | exc (c : Str) (fs : List (Str × AV)) (h : AH)
  | bad
abbrev EM (α : Type) := Sl → AH → RE α
def ret {α : Type} (a : α) : EM α := fun _ h => .ok a h
def bad {α : Type} : EM α := fun _ _ => .bad
def bd {α β : Type} (m : EM α) (f : α → EM β) : EM β := fun s h => match m s h with
  | .ok a h' => f a s h'
  | .exc c fs h' => .exc c fs h'
  | .bad => .bad
/-- a new object -/
def alloc (o : AO) : EM AV := fun _ h => .ok (.ref h.length) (h ++ [o])
def heapM : EM AH := fun _ h => .ok h h
/-- an exception -/
def ExR (K : PySem.W.Frag) (ct : CT) (ρ : List Addr) (H : Hp) (c : Str) (fs : List (Str × AV)) (cls : Value) (d : Option Addr) : Prop :=
  ∃ C, ct c = some C ∧ cls = .ref C ∧ (fs = [] ∨ ∃ dd gs, d = some dd ∧ H dd = some (.xd gs) ∧ FR K ρ H fs gs)
abbrev Rl (α β : Type) := List Addr → Hp → α → β → Prop
def post {α β : Type} (R : Rl α β) (K : PySem.W.Frag) (ct : CT) (W : WX) (ρ : List Addr) (H : Hp) (σ : L2.St) (Q : β → Hp → Prop) : RE α → Prop
  | .ok v h' => ∀ ρ' H' v', Ext ρ H ρ' H' → HR K ct ρ' H' h' → R ρ' H' v v' → Q v' H'
  | .exc c fs h' => ∀ ρ' H' cls d, Ext ρ H ρ' H' → HR K ct ρ' H' h' → ExR K ct ρ' H' c fs cls d → W cls d σ H'
  | .bad => False
abbrev RV (K : PySem.W.Frag) : Rl AV V := fun ρ H a b => VR K ρ H a b
abbrev RB : Rl Bool Bool := fun _ _ a b => a = b
abbrev RL (K : PySem.W.Frag) : Rl (List AV) (List V) := fun ρ H a b => VRs K ρ H a b
section
variable {K : PySem.W.Frag} {ct : CT} {W : WX} {ρ ρ' : List Addr} {H H' : Hp} {σ : L2.St} {α β γ δ ε : Type} {R : Rl α β}
theorem post.mono {Q Q' : β → Hp → Prop} : ∀ {r : RE α}, post R K ct W ρ H σ Q r → (∀ v H, Q v H → Q' v H) → post R K ct W ρ H σ Q' r
  | .ok v h', p, i => fun ρ' H' v' a b c => i _ _ (p ρ' H' v' a b c)
  | .exc c fs h', p, i => p
  | .bad, p, i => p
theorem post.ext {Q : β → Hp → Prop} (e : Ext ρ H ρ' H') : ∀ {r : RE α}, post R K ct W ρ H σ Q r → post R K ct W ρ' H' σ Q r
  | .ok v h', p => fun ρ2 H2 v' a b c => p ρ2 H2 v' (e.trans a) b c
  | .exc c fs h', p => fun ρ2 H2 cls d a b c => p ρ2 H2 cls d (e.trans a) b c
  | .bad, p => p
/-- a reading by the evaluator, with values pending: P is kept by Ext -/
def TP {γ : Type} (K : PySem.W.Frag) (ct : CT) (W : WX) (P : List Addr → Hp → γ → Prop) (R : Rl α β) (f : γ → EM α) : L2.St → Hp → (β → Hp → Prop) → Prop := fun σ H Q =>
  ∃ ρ s h g, SR K ρ H s σ ∧ HR K ct ρ H h ∧ P ρ H g ∧ post R K ct W ρ H σ Q (f g s h)
def T0 (K : PySem.W.Frag) (ct : CT) (W : WX) (R : Rl α β) (m : EM α) : L2.St → Hp → (β → Hp → Prop) → Prop := fun σ H Q =>
  ∃ ρ s h, SR K ρ H s σ ∧ HR K ct ρ H h ∧ post R K ct W ρ H σ Q (m s h)
structure Mono {γ : Type} (P : List Addr → Hp → γ → Prop) : Prop where
  go : ∀ (ρ : List Addr) (H : Hp) (ρ' : List Addr) (H' : Hp) (g : γ), Ext ρ H ρ' H' → P ρ H g → P ρ' H' g
theorem mono_V {v : V} : Mono (fun ρ H (x : AV) => RV K ρ H x v) := ⟨fun _ _ _ _ _ e h => VR.mono e h⟩
theorem mono_L {vs : List V} : Mono (fun ρ H (x : List AV) => RL K ρ H x vs) := ⟨fun _ _ _ _ _ e h => VRs.mono e h⟩
theorem mono_B {b : Bool} : Mono (fun ρ H (x : Bool) => RB ρ H x b) := ⟨fun _ _ _ _ _ _ h => h⟩
theorem mono_2 {γ δ : Type} {P : List Addr → Hp → γ → Prop} {P' : List Addr → Hp → δ → Prop} (a : Mono P) (b : Mono P') : Mono (fun ρ H (x : γ × δ) => P ρ H x.1 ∧ P' ρ H x.2) :=
  ⟨fun _ _ _ _ _ e h => ⟨a.go _ _ _ _ _ e h.1, b.go _ _ _ _ _ e h.2⟩⟩
theorem T0.mono {m : EM α} {Q Q' : β → Hp → Prop} (t : T0 K ct W R m σ H Q) (i : ∀ v H, Q v H → Q' v H) : T0 K ct W R m σ H Q' :=
  let ⟨ρ, s, h, a, b, p⟩ := t; ⟨ρ, s, h, a, b, p.mono i⟩
theorem TP.mono {P : List Addr → Hp → γ → Prop} {m : γ → EM α} {Q Q' : β → Hp → Prop} (t : TP K ct W P R m σ H Q) (i : ∀ v H, Q v H → Q' v H) : TP K ct W P R m σ H Q' :=
  let ⟨ρ, s, h, g, a, b, c, p⟩ := t; ⟨ρ, s, h, g, a, b, c, p.mono i⟩
/-- THE BIND: the first part now, the rest with its value pending -/
theorem TP.bd {P : List Addr → Hp → γ → Prop} {R' : Rl δ ε} {m : γ → EM δ} {k : γ → δ → EM α} {Q : β → Hp → Prop} (mo : Mono P) (t : TP K ct W P R (fun g => bd (m g) (k g)) σ H Q) :
    TP K ct W P R' m σ H fun v' H1 => TP K ct W (fun ρ H (x : γ × δ) => P ρ H x.1 ∧ R' ρ H x.2 v') R (fun x => k x.1 x.2) σ H1 Q := by
  obtain ⟨ρ, s, h, g, a, b, c, p⟩ := t
  refine ⟨ρ, s, h, g, a, b, c, ?_⟩
  unfold Ev.bd at p; (try dsimp only at p)
  cases e : m g s h with
  | ok v h1 =>
    rw [e] at p
    intro ρ' H' v' ex hr hv
    exact ⟨ρ', s, h1, (g, v), a.mono ex, hr, ⟨mo.go _ _ _ _ _ ex c, hv⟩, post.ext ex p⟩
  | exc c' fs h1 =>
    rw [e] at p
    exact p
  | bad =>
    rw [e] at p
    exact p
theorem T0.bd {R' : Rl δ ε} {m : EM δ} {k : δ → EM α} {Q : β → Hp → Prop} (t : T0 K ct W R (bd m k) σ H Q) :
    T0 K ct W R' m σ H fun v' H1 => TP K ct W (fun ρ H (x : δ) => R' ρ H x v') R k σ H1 Q := by
  obtain ⟨ρ, s, h, a, b, p⟩ := t
  refine ⟨ρ, s, h, a, b, ?_⟩
  unfold Ev.bd at p; (try dsimp only at p)
  cases e : m s h with
  | ok v h1 =>
    rw [e] at p
    intro ρ' H' v' ex hr hv
    exact ⟨ρ', s, h1, v, a.mono ex, hr, hv, post.ext ex p⟩
  | exc c' fs h1 =>
    rw [e] at p
    exact p
  | bad =>
    rw [e] at p
    exact p
/-- a part that does not look at what is pending -/
theorem TP.zero {P : List Addr → Hp → γ → Prop} {m : EM α} {Q : β → Hp → Prop} (t : TP K ct W P R (fun _ => m) σ H Q) : T0 K ct W R m σ H Q :=
  let ⟨ρ, s, h, _, a, b, _, p⟩ := t; ⟨ρ, s, h, a, b, p⟩
theorem TP.bd0 {P : List Addr → Hp → γ → Prop} {R' : Rl δ ε} {m : EM δ} {k : γ → δ → EM α} {Q : β → Hp → Prop} (mo : Mono P) (t : TP K ct W P R (fun g => Ev.bd m (k g)) σ H Q) :
    T0 K ct W R' m σ H fun v' H1 => TP K ct W (fun ρ H (x : γ × δ) => P ρ H x.1 ∧ R' ρ H x.2 v') R (fun x => k x.1 x.2) σ H1 Q := (TP.bd (m := fun _ => m) mo t).zero
/-- the answer is there -/
theorem TP.ret {P : List Addr → Hp → γ → Prop} {f : γ → α} {Q : β → Hp → Prop} {v' : β} (t : TP K ct W P R (fun g => ret (f g)) σ H Q) (hv : ∀ ρ g, P ρ H g → R ρ H (f g) v') : Q v' H := by
  obtain ⟨ρ, s, h, g, a, b, c, p⟩ := t
  exact p ρ H v' Ext.refl b (hv ρ g c)
end
/-! ### judgements -/
abbrev AE (X : Cx) (ct : CT) (W : WX) (e : Expr) (m : EM AV) : Prop := PE X e (T0 X.K ct W (RV X.K) m)
abbrev AT (X : Cx) (ct : CT) (W : WX) (e : Expr) (m : EM Bool) : Prop := PT X e (T0 X.K ct W RB m)
abbrev AW (X : Cx) (ct : CT) (W : WX) (e : Expr) (m : EM Bool) : Prop := PW X e (T0 X.K ct W RB m)
abbrev AA (X : Cx) (ct : CT) (W : WX) (es : List Expr) (m : EM (List AV)) : Prop := PA X es (T0 X.K ct W (RL X.K) m)
section
variable {X : Cx} {ct : CT} {W : WX}
theorem pe_imp {e : Expr} {t t' : TE} (h : PE X e t) (i : ∀ σ H Q, t' σ H Q → t σ H Q) : PE X e t' := ⟨fun pins s σ H Q I q => h.run pins s σ H Q I (i σ H Q q)⟩
theorem pt_imp {e : Expr} {t t' : TT} (h : PT X e t) (i : ∀ σ H Q, t' σ H Q → t σ H Q) : PT X e t' := ⟨fun pins s σ H Q I q => h.run pins s σ H Q I (i σ H Q q)⟩
theorem pw_imp {e : Expr} {t t' : TT} (h : PW X e t) (i : ∀ σ H Q, t' σ H Q → t σ H Q) : PW X e t' := ⟨fun wh pins s σ H Q I q => h.run wh pins s σ H Q I (i σ H Q q)⟩
theorem pa_imp {es : List Expr} {t t' : TA} (h : PA X es t) (i : ∀ σ H Q, t' σ H Q → t σ H Q) : PA X es t' := ⟨fun pos pins s σ H Q I q => h.run pos pins s σ H Q I (i σ H Q q)⟩
theorem ae_bad {e : Expr} : AE X ct W e bad := ⟨fun pins s σ H Q I q => by obtain ⟨_, _, _, _, _, p⟩ := q; exact p.elim⟩
theorem at_bad {e : Expr} : AT X ct W e bad := ⟨fun pins s σ H Q I q => by obtain ⟨_, _, _, _, _, p⟩ := q; exact p.elim⟩
theorem aw_bad {e : Expr} : AW X ct W e bad := ⟨fun wh pins s σ H Q I q => by obtain ⟨_, _, _, _, _, p⟩ := q; exact p.elim⟩
/-! ### names and constants -/
def slotM (i : Nat) : EM AV := fun s h => match s[i]? with
  | some (some v) => .ok v h
  | _ => .bad
theorem ae_var {i : Nat} {x : Str} {pos : Pos} (h : PE X (.Name x pos) (tVar i)) : AE X ct W (.Name x pos) (slotM i) := by
  refine pe_imp h fun σ H Q t => ?_
  obtain ⟨ρ, s, h, a, b, p⟩ := t
  unfold slotM at p
  split at p
  · rename_i v e
    obtain ⟨w, e1, r⟩ := a.2 i v e
    exact ⟨w, e1, p ρ H w Ext.refl b r⟩
  · exact p.elim
theorem ae_const {e : Expr} {x : AV} {v : V} (h : PE X e (tC v)) (r : ∀ ρ H, VR X.K ρ H x v) : AE X ct W e (ret x) := by
  refine pe_imp h fun σ H Q t => ?_
  obtain ⟨ρ, s, h, a, b, p⟩ := t
  exact p ρ H v Ext.refl b (r ρ H)
/-! ### two-place operations -/
/-- what a rule by values asks is given by the evaluator's operation -/
def Op2 (X : Cx) (ct : CT) (r : R2) (f : AV → AV → EM AV) : Prop :=
  ∀ (W : WX) (x' y' : V) (σ : L2.St) (H : Hp) (Q : VK), (∃ ρ s h x y, SR X.K ρ H s σ ∧ HR X.K ct ρ H h ∧ VR X.K ρ H x x' ∧ VR X.K ρ H y y' ∧ post (RV X.K) X.K ct W ρ H σ Q (f x y s h)) → r x' y' H Q
theorem ae_bin {a b : Expr} {op : Operator} {pos : Pos} {r : R2} {f : AV → AV → EM AV} {ma mb : EM AV} (ho : OpR X (binaryOp op) r) (hr : Op2 X ct r f) (ha : AE X ct W a ma) (hb : AE X ct W b mb) :
    AE X ct W (.BinOp a op b pos) (bd ma fun x => bd mb fun y => f x y) := by
  refine pe_imp (pe_op ho ha hb) fun σ H Q t => ?_
  refine T0.mono (T0.bd (R' := RV X.K) t) fun x' H1 t1 => ?_
  refine T0.mono (TP.bd0 (R' := RV X.K) mono_V t1) fun y' H2 t2 => ?_
  obtain ⟨ρ, s, h, ⟨x, y⟩, a, b, c, p⟩ := t2
  exact hr W x' y' σ H2 Q ⟨ρ, s, h, x, y, a, b, c.1, c.2, p⟩
theorem Op2.or {r r' : R2} {f f' g : AV → AV → EM AV} (h : Op2 X ct r f) (h' : Op2 X ct r' f') (c : ∀ x y, g x y = f x y ∨ g x y = f' x y) : Op2 X ct (fun x y H Q => r x y H Q ∨ r' x y H Q) g :=
  fun W x' y' σ H Q ⟨ρ, s, hh, x, y, a, b, c1, c2, p⟩ => by
    rcases c x y with e | e
    · rw [e] at p
      exact .inl (h W x' y' σ H Q ⟨ρ, s, hh, x, y, a, b, c1, c2, p⟩)
    · rw [e] at p
      exact .inr (h' W x' y' σ H Q ⟨ρ, s, hh, x, y, a, b, c1, c2, p⟩)
/-- ints alone -/
def onInts (f : Int → Int → EM AV) : AV → AV → EM AV
  | .int i, .int j => f i j
  | _, _ => bad
theorem op2_I {C : Int → Int → Prop} [∀ i j, Decidable (C i j)] {g : Int → Int → V} {ga : Int → Int → AV} (e : ∀ ρ H i j, VR X.K ρ H (ga i j) (g i j)) :
    Op2 X ct (rI C g) (onInts fun i j => if C i j then ret (ga i j) else bad) := by
  intro W x' y' σ H Q ⟨ρ, s, h, x, y, a, b, c1, c2, p⟩
  unfold onInts at p
  split at p
  · rename_i i j
    dsimp only at p
    split at p
    · rename_i hc
      exact ⟨i, j, VR.int.mp c1, VR.int.mp c2, hc, p ρ H _ Ext.refl b (e ρ H i j)⟩
    · exact p.elim
  · exact p.elim
theorem op2_I0 {g : Int → Int → V} {ga : Int → Int → AV} (e : ∀ ρ H i j, VR X.K ρ H (ga i j) (g i j)) : Op2 X ct (rI0 g) (onInts fun i j => ret (ga i j)) := by
  intro W x' y' σ H Q ⟨ρ, s, h, x, y, a, b, c1, c2, p⟩
  unfold onInts at p
  split at p
  · rename_i i j
    exact ⟨i, j, VR.int.mp c1, VR.int.mp c2, p ρ H _ Ext.refl b (e ρ H i j)⟩
  · exact p.elim
end
end Ev
namespace Ev
open PySem PySem.Spec PyProof.Rows L2
section
variable {X : Cx} {ct : CT}
/-! ### reading a list, a tuple -/
/-- the items of a list object -/
def lstOf (h : AH) (i : Nat) : Option (List AV) := match h[i]? with
  | some (.lst xs) => some xs
  | some (.fro xs) => some xs
  | _ => none
theorem lstOf_ok {K : PySem.W.Frag} {ρ : List Addr} {H : Hp} {h : AH} {i : Nat} {a : Addr} {xs : List AV} (r : HR K ct ρ H h) (hi : ρ[i]? = some a) (e : lstOf h i = some xs) : ∃ ys, SqL K H a ys ∧ VRs K ρ H xs ys := by
  unfold lstOf at e
  split at e
  · rename_i zs e1
    cases e
    obtain ⟨ys, h1, h2⟩ := r.ob i a _ hi e1
    exact ⟨ys, SqL.of h1, h2⟩
  · rename_i zs e1
    cases e
    obtain ⟨ys, h2, h1⟩ := r.ob i a _ hi e1
    exact ⟨ys, h1.elim (fun ⟨o, h1⟩ => .inl (.inr ⟨o, h1⟩)) .inr, h2⟩
  · cases e
theorem lst_own {K : PySem.W.Frag} {ρ : List Addr} {H : Hp} {h : AH} {i : Nat} {a : Addr} {xs : List AV} (r : HR K ct ρ H h) (hi : ρ[i]? = some a) (e : h[i]? = some (.lst xs)) : ∃ ys, H a = some (.lst ys) ∧ VRs K ρ H xs ys := r.ob i a _ hi e
/-- the items of a tuple or of a list object -/
def seqOf (h : AH) : AV → Option (List AV)
  | .tup xs => some xs
  | .ref i => lstOf h i
  | _ => none
theorem seqOf_ok {K : PySem.W.Frag} {ρ : List Addr} {H : Hp} {h : AH} {x : AV} {x' : V} {xs : List AV} (r : HR K ct ρ H h) (hx : VR K ρ H x x') (e : seqOf h x = some xs) : ∃ p ys, x' = .ref p ∧ (SqL K H p ys ∨ SqT K H p ys) ∧ VRs K ρ H xs ys := by
  unfold seqOf at e
  split at e
  · cases e
    obtain ⟨a, ys, rfl, h1, h2⟩ := VR.tup.mp hx
    exact ⟨a, ys, rfl, .inr h1, h2⟩
  · obtain ⟨a, h1, rfl⟩ := VR.ref.mp hx
    obtain ⟨ys, h2, h3⟩ := lstOf_ok r h1 e
    exact ⟨a, ys, rfl, .inl h2, h3⟩
  · cases e
/-! ### new objects -/
theorem new_tup {K : PySem.W.Frag} {W : WX} {ρ : List Addr} {H : Hp} {σ : L2.St} {h : AH} {Q : VK} {xs : List AV} {ys : List V} (r : HR K ct ρ H h) (v : VRs K ρ H xs ys) (p : post (RV K) K ct W ρ H σ Q (.ok (.tup xs) h)) :
    ∀ q, H q = none → Q (.ref q) (upd H q (.tup ys)) := fun q hq =>
  p ρ (upd H q (.tup ys)) (.ref q) (Ext.new hq) (r.new hq) (VR.tup.mpr ⟨q, ys, rfl, .inl (.inl upd_same), v.mono (Ext.new hq)⟩)
theorem new_lst {K : PySem.W.Frag} {W : WX} {ρ : List Addr} {H : Hp} {σ : L2.St} {h : AH} {Q : VK} {xs : List AV} {ys : List V} (r : HR K ct ρ H h) (v : VRs K ρ H xs ys) (p : post (RV K) K ct W ρ H σ Q (.ok (.ref h.length) (h ++ [.lst xs]))) :
    ∀ q, H q = none → Q (.ref q) (upd H q (.lst ys)) := fun q hq =>
  p (ρ ++ [q]) (upd H q (.lst ys)) (.ref q) (Ext.push hq) (r.push hq ⟨ys, upd_same, v.mono (Ext.push hq)⟩) (VR.ref.mpr ⟨q, by rw [← r.len]; simp, rfl⟩)
/-! ### + -/
def onStrs (f : Str → Str → EM AV) : AV → AV → EM AV
  | .str i, .str j => f i j
  | _, _ => bad
def onTups (f : List AV → List AV → EM AV) : AV → AV → EM AV
  | .tup i, .tup j => f i j
  | _, _ => bad
def catS (x y : Str) : EM AV := if x.length + y.length ≤ sizeLine then ret (.str (x ++ y)) else bad
def catT (xs ys : List AV) : EM AV := match xs with
  | [] => bad
  | x :: r => if (x :: r).length + ys.length ≤ sizeLine then ret (.tup (x :: r ++ ys)) else bad
def catL : AV → AV → EM AV
  | .ref i, .ref j => fun s h => match h[i]?, h[j]? with
    | some (.lst xs), some (.lst ys) => if xs.length + ys.length ≤ sizeLine then alloc (.lst (xs ++ ys)) s h else .bad
    | _, _ => .bad
  | _, _ => bad
def addA : AV → AV → EM AV
  | .int i, .int j => ret (.int (i + j))
  | .str i, .str j => catS i j
  | .tup xs, .tup ys => catT xs ys
  | .ref i, .ref j => catL (.ref i) (.ref j)
  | _, _ => bad
theorem op2_catS : Op2 X ct (fun x y H Q => ∃ i j, x = .str i ∧ y = .str j ∧ i.length + j.length ≤ sizeLine ∧ Q (.str (i ++ j)) H) (onStrs catS) := by
  intro W x' y' σ H Q ⟨ρ, s, h, x, y, a, b, c1, c2, p⟩
  unfold onStrs at p
  split at p
  · rename_i i j
    unfold catS at p
    split at p
    · rename_i hc
      exact ⟨i, j, VR.str.mp c1, VR.str.mp c2, hc, p ρ H _ Ext.refl b (VR.str.mpr rfl)⟩
    · exact p.elim
  · exact p.elim
theorem op2_catT : Op2 X ct (rCatT X.K) (onTups catT) := by
  intro W x' y' σ H Q ⟨ρ, s, h, x, y, a, b, c1, c2, p⟩
  unfold onTups at p
  split at p
  · rename_i xs ys
    obtain ⟨t, zs, rfl, h1, h2⟩ := VR.tup.mp c1
    obtain ⟨u, ws, rfl, h3, h4⟩ := VR.tup.mp c2
    unfold catT at p
    split at p
    · exact p.elim
    · rename_i x r
      split at p
      · rename_i hc
        refine ⟨t, u, zs, ws, rfl, rfl, h1, h3, ?_, ?_, fun e => ?_, fun e => ?_⟩
        · intro e
          subst e
          have := h2.length
          simp at this
        · rw [← h2.length, ← h4.length]; exact hc
        · subst e
          have e2 : ys = [] := by
            have := h4.length
            simpa using this
          subst e2
          refine p ρ H _ Ext.refl b ?_
          rw [List.append_nil]
          exact c1
        · exact new_tup b (h2.append h4) p
      · exact p.elim
  · exact p.elim
theorem op2_catL : Op2 X ct rCat catL := by
  intro W x' y' σ H Q ⟨ρ, s, h, x, y, a, b, c1, c2, p⟩
  unfold catL at p
  split at p
  · rename_i i j
    obtain ⟨l, h1, rfl⟩ := VR.ref.mp c1
    obtain ⟨m, h2, rfl⟩ := VR.ref.mp c2
    split at p
    · rename_i xs ys e1 e2
      obtain ⟨zs, h3, h4⟩ := lst_own b h1 e1
      obtain ⟨ws, h5, h6⟩ := lst_own b h2 e2
      split at p
      · rename_i hc
        exact ⟨l, m, zs, ws, rfl, rfl, h3, h5, by rw [← h4.length, ← h6.length]; exact hc, new_lst b (h4.append h6) p⟩
      · exact p.elim
    · exact p.elim
  · exact p.elim
abbrev rAddAll (K : PySem.W.Frag) : R2 := fun x y H Q => (rI0 fun i j => .int (i + j)) x y H Q ∨ ((fun x y H Q => ∃ i j, x = .str i ∧ y = .str j ∧ i.length + j.length ≤ sizeLine ∧ Q (.str (i ++ j)) H : R2) x y H Q ∨ (rCatT K x y H Q ∨ rCat x y H Q))
theorem op_addAll : OpR X (binaryOp .Add) (rAddAll X.K) := op_add.or (op_add_str.or (op_catT.or op_cat))
theorem op2_add : Op2 X ct (rAddAll X.K) addA := by
  refine Op2.or (f := onInts fun i j => ret (.int (i + j))) (f' := fun x y => match x, y with | .int _, .int _ => bad | x, y => addA x y) (op2_I0 fun _ _ _ _ => VR.int.mpr rfl) ?_ ?_
  · refine Op2.or (f := onStrs catS) (f' := fun x y => match x, y with | .tup xs, .tup ys => catT xs ys | .ref i, .ref j => catL (.ref i) (.ref j) | x, y => bad) op2_catS ?_ ?_
    · refine Op2.or (f := onTups catT) (f' := catL) op2_catT op2_catL ?_
      intro x y
      cases x <;> cases y <;> first | exact .inl rfl | exact .inr rfl
    · intro x y
      cases x <;> cases y <;> first | exact .inl rfl | exact .inr rfl
  · intro x y
    cases x <;> cases y <;> first | exact .inl rfl | exact .inr rfl
/-! ### * -/
instance (i j : Int) : Decidable (CMulW i j) := inferInstanceAs (Decidable (_ < _))
instance (i j : Int) : Decidable (CDivW i j) := inferInstanceAs (Decidable (_ ∧ _))
instance (i j : Int) : Decidable (CPow i j) := inferInstanceAs (Decidable (_ ∧ _))
def repL : AV → AV → EM AV
  | .ref i, .int k => fun s h => match h[i]? with
    | some (.lst xs) => if -(2 ^ 63) ≤ k ∧ k < 2 ^ 63 ∧ xs.length * k.toNat ≤ sizeLine then alloc (.lst (List.replicate k.toNat xs).flatten) s h else .bad
    | _ => .bad
  | _, _ => bad
def repT : AV → AV → EM AV
  | .tup xs, .int k => if xs.isEmpty = false ∧ 2 ≤ k ∧ k ≤ 1000 ∧ xs.length ≤ 1000 then ret (.tup (List.replicate k.toNat xs).flatten) else bad
  | _, _ => bad
theorem VRs.rep {K : PySem.W.Frag} {ρ : List Addr} {H : Hp} {xs : List AV} {ys : List V} (h : VRs K ρ H xs ys) : ∀ k : Nat, VRs K ρ H (List.replicate k xs).flatten (List.replicate k ys).flatten
  | 0 => VRs.nil.mpr rfl
  | k + 1 => by
    rw [List.replicate_succ, List.replicate_succ, List.flatten_cons, List.flatten_cons]
    exact h.append (VRs.rep h k)
theorem op2_repL : Op2 X ct rRep repL := by
  intro W x' y' σ H Q ⟨ρ, s, h, x, y, a, b, c1, c2, p⟩
  unfold repL at p
  split at p
  · rename_i i k
    obtain ⟨l, h1, rfl⟩ := VR.ref.mp c1
    split at p
    · rename_i xs e1
      obtain ⟨zs, h3, h4⟩ := lst_own b h1 e1
      split at p
      · rename_i hc
        exact ⟨l, k, zs, rfl, VR.int.mp c2, h3, hc.1, hc.2.1, by rw [← h4.length]; exact hc.2.2, new_lst b (h4.rep _) p⟩
      · exact p.elim
    · exact p.elim
  · exact p.elim
theorem op2_repT : Op2 X ct (rRepT X.K) repT := by
  intro W x' y' σ H Q ⟨ρ, s, h, x, y, a, b, c1, c2, p⟩
  unfold repT at p
  split at p
  · rename_i xs k
    obtain ⟨t, zs, rfl, h1, h2⟩ := VR.tup.mp c1
    split at p
    · rename_i hc
      refine ⟨t, k, zs, rfl, VR.int.mp c2, h1, ?_, hc.2.1, hc.2.2.1, by rw [← h2.length]; exact hc.2.2.2, new_tup b (h2.rep _) p⟩
      rintro rfl
      have e := h2.length
      have e2 := hc.1
      cases xs with
      | nil => cases e2
      | cons _ _ => simp at e
    · exact p.elim
  · exact p.elim
def mulA : AV → AV → EM AV
  | .int i, .int j => if CMulW i j then ret (.int (i * j)) else bad
  | .ref i, .int k => repL (.ref i) (.int k)
  | .tup i, .int k => repT (.tup i) (.int k)
  | _, _ => bad
abbrev rMulAll (K : PySem.W.Frag) : R2 := fun x y H Q => (rI CMulW fun i j => .int (i * j)) x y H Q ∨ (rRep x y H Q ∨ rRepT K x y H Q)
theorem op_mulAll : OpR X (binaryOp .Mult) (rMulAll X.K) := op_mulW.or (op_rep.or op_repT)
theorem op2_mul : Op2 X ct (rMulAll X.K) mulA := by
  refine Op2.or (f := onInts fun i j => if CMulW i j then ret (.int (i * j)) else bad) (f' := fun x y => match x, y with | .int _, .int _ => bad | x, y => mulA x y) (op2_I fun _ _ _ _ => VR.int.mpr rfl) ?_ ?_
  · refine Op2.or (f := repL) (f' := repT) op2_repL op2_repT ?_
    intro x y
    cases x <;> cases y <;> first | exact .inl rfl | exact .inr rfl
  · intro x y
    cases x <;> cases y <;> first | exact .inl rfl | exact .inr rfl
/-! ### the other operators of ints -/
def subA : AV → AV → EM AV := onInts fun i j => ret (.int (i - j))
def fdivA : AV → AV → EM AV := onInts fun i j => if CDivW i j then ret (.int (i / j)) else bad
def modA : AV → AV → EM AV := onInts fun i j => if 0 < j then ret (.int (i % j)) else bad
def powA : AV → AV → EM AV := onInts fun i j => if CPow i j then ret (.int (i ^ j.toNat)) else bad
def shlA : AV → AV → EM AV := onInts fun i j => if CPow i j then ret (.int (i * 2 ^ j.toNat)) else bad
def shrA : AV → AV → EM AV := onInts fun i j => if 0 ≤ j then ret (.int (i / 2 ^ j.toNat)) else bad
def bandA : AV → AV → EM AV := onInts fun i j => ret (.int (Builtin.bitAnd i j))
def borA : AV → AV → EM AV := onInts fun i j => ret (.int (Builtin.bitOr i j))
def bxorA : AV → AV → EM AV := onInts fun i j => ret (.int (Builtin.bitXor i j))
/-- a two-place operator -/
def binP : Operator → Option (AV → AV → EM AV)
  | .Add => some addA
  | .Sub => some subA
  | .Mult => some mulA
  | .FloorDiv => some fdivA
  | .Mod => some modA
  | .Pow => some powA
  | .LShift => some shlA
  | .RShift => some shrA
  | .BitAnd => some bandA
  | .BitOr => some borA
  | .BitXor => some bxorA
  | _ => none
theorem binP_ok {op : Operator} {f : AV → AV → EM AV} (h : binP op = some f) : ∃ r, OpR X (binaryOp op) r ∧ Op2 X ct r f := by
  cases op <;> cases h
  · exact ⟨_, op_addAll, op2_add⟩
  · exact ⟨_, op_sub, op2_I0 fun _ _ _ _ => VR.int.mpr rfl⟩
  · exact ⟨_, op_mulAll, op2_mul⟩
  · exact ⟨_, op_mod, op2_I fun _ _ _ _ => VR.int.mpr rfl⟩
  · exact ⟨_, op_pow, op2_I fun _ _ _ _ => VR.int.mpr rfl⟩
  · exact ⟨_, op_shl, op2_I fun _ _ _ _ => VR.int.mpr rfl⟩
  · exact ⟨_, op_shr, op2_I fun _ _ _ _ => VR.int.mpr rfl⟩
  · exact ⟨_, op_or, op2_I0 fun _ _ _ _ => VR.int.mpr rfl⟩
  · exact ⟨_, op_xor, op2_I0 fun _ _ _ _ => VR.int.mpr rfl⟩
  · exact ⟨_, op_and, op2_I0 fun _ _ _ _ => VR.int.mpr rfl⟩
  · exact ⟨_, op_fdivW, op2_I fun _ _ _ _ => VR.int.mpr rfl⟩
/-! ### one-place operators, truth -/
def negA : AV → EM AV
  | .int i => ret (.int (-i))
  | _ => bad
theorem ae_neg {W : WX} {e : Expr} {pos : Pos} {m : EM AV} (he : AE X ct W e m) : AE X ct W (.UnaryOp .USub e pos) (bd m negA) := by
  refine pe_imp (pe_un un_neg he) fun σ H Q t => ?_
  refine T0.mono (T0.bd (R' := RV X.K) t) fun x' H1 t1 => ?_
  obtain ⟨ρ, s, h, x, a, b, c, p⟩ := t1
  unfold negA at p
  split at p
  · rename_i i
    exact ⟨i, VR.int.mp c, p ρ H1 _ Ext.refl b (VR.int.mpr rfl)⟩
  · exact p.elim
def truA : AV → EM Bool
  | .non => ret false
  | .bl b => ret b
  | .int i => ret (i != 0)
  | .str x => if x.length ≤ sizeLine then ret ((x.length : Int) != 0) else bad
  | .tup xs => ret (!xs.isEmpty)
  | .ref i => fun s h => match h[i]? with
    | some (.lst xs) => .ok (!xs.isEmpty) h
    | some (.fro xs) => .ok (!xs.isEmpty) h
    | some (.dct kvs) => if (kvs.all fun kv => (keyV kv.1).isSome) = true then .ok (!kvs.isEmpty) h else .bad
    | _ => .bad
  | .kd _ => bad
theorem VRs.isEmpty {K : PySem.W.Frag} {ρ : List Addr} {H : Hp} {xs : List AV} {ys : List V} (h : VRs K ρ H xs ys) : xs.isEmpty = ys.isEmpty := by
  have := h.length
  cases xs <;> cases ys <;> simp at this ⊢
theorem DKR.isEmpty {K : PySem.W.Frag} {ρ : List Addr} {H : Hp} : ∀ {kvs : List (AV × AV)} {gs : List (Key × V)}, DKR K ρ H kvs gs → kvs.isEmpty = gs.isEmpty
  | [], gs, h => by
    have e : gs = [] := h
    rw [e]
    rfl
  | f :: fs, gs, h => by
    obtain ⟨k, w, r, rfl, _⟩ := h
    rfl
theorem DTR.not_key {K : PySem.W.Frag} {ρ : List Addr} {H : Hp} : ∀ {kvs : List (AV × AV)} {gs : List (List Key × V)}, DTR K ρ H kvs gs → kvs ≠ [] → (kvs.all fun kv => (keyV kv.1).isSome) = true → False
  | [], gs, _, n, _ => n rfl
  | f :: fs, gs, h, _, e => by
    obtain ⟨xs, k, w, r, _, h1, _⟩ := h
    rw [List.all_cons, h1] at e
    cases e
/-- a value's truth, by the machine's rule -/
theorem tru_of {W : WX} {σ : L2.St} {H : Hp} {x' : V} {Q : Bool → Hp → Prop} (t : TP X.K ct W (fun ρ H (x : AV) => RV X.K ρ H x x') RB truA σ H Q) : ∃ k, TruV X.K x' H k ∧ Q k H := by
  obtain ⟨ρ, s, h, x, a, b, c, p⟩ := t
  unfold truA at p
  split at p
  · rw [VR.non.mp c]
    exact ⟨_, rfl, p ρ H _ Ext.refl b rfl⟩
  · rw [VR.bl.mp c]
    exact ⟨_, rfl, p ρ H _ Ext.refl b rfl⟩
  · rw [VR.int.mp c]
    exact ⟨_, rfl, p ρ H _ Ext.refl b rfl⟩
  · split at p
    · rename_i hc
      rw [VR.str.mp c]
      exact ⟨_, ⟨hc, rfl⟩, p ρ H _ Ext.refl b rfl⟩
    · exact p.elim
  · obtain ⟨q, ys, rfl, h1, h2⟩ := VR.tup.mp c
    exact ⟨_, .inr (.inl ⟨ys, h1, rfl⟩), p ρ H _ Ext.refl b (by rw [h2.isEmpty])⟩
  · obtain ⟨q, h1, rfl⟩ := VR.ref.mp c
    split at p
    · rename_i xs e
      obtain ⟨ys, h2, h3⟩ := b.ob _ _ _ h1 e
      exact ⟨_, .inl ⟨ys, SqL.of h2, rfl⟩, p ρ H _ Ext.refl b (by rw [h3.isEmpty])⟩
    · rename_i xs e
      obtain ⟨ys, h3, h2⟩ := b.ob _ _ _ h1 e
      exact ⟨_, .inl ⟨ys, h2.elim (fun ⟨o, h1⟩ => .inl (.inr ⟨o, h1⟩)) .inr, rfl⟩, p ρ H _ Ext.refl b (by rw [h3.isEmpty])⟩
    · rename_i kvs e
      split at p
      · rename_i hk
        rcases b.ob _ _ _ h1 e with ⟨gs, h2, h3⟩ | ⟨hn, gs, h2, h3⟩
        · exact ⟨_, .inr (.inr ⟨gs, h2, rfl⟩), p ρ H _ Ext.refl b (by rw [h3.isEmpty])⟩
        · exact (h3.not_key hn hk).elim
      · exact p.elim
    · exact p.elim
  · exact p.elim
end
end Ev
namespace Ev
open PySem PySem.Spec PyProof.Rows L2
section
variable {X : Cx} {ct : CT}
/-! ### == -/
/-- scalars that are told apart as data are -/
def scalA : AV → AV → Option Bool
  | .non, .non => some true
  | .non, .int _ => some false
  | .int _, .non => some false
  | .non, .bl _ => some false
  | .bl _, .non => some false
  | .non, .str _ => some false
  | .str _, .non => some false
  | .int i, .int j => some (decide (i = j))
  | .bl i, .bl j => some (decide (i = j))
  | .str i, .str j => some (decide (i = j))
  | .int _, .str _ => some false
  | .str _, .int _ => some false
  | .bl _, .str _ => some false
  | .str _, .bl _ => some false
  | _, _ => none
mutual
/-- the data that a value is -/
def datA : Nat → AH → AV → Option PyData
  | _, _, .non => some .none
  | _, _, .bl b => some (.bool b)
  | _, _, .int i => some (.int i)
  | _, _, .str x => some (.str x)
  | 0, _, _ => none
  | _ + 1, _, .kd _ => none
  | n + 1, h, .tup xs => match datAs n h xs with
    | some ds => some (.tuple ds)
    | none => none
  | n + 1, h, .ref i => match lstOf h i with
    | some xs => match datAs n h xs with
      | some ds => some (.list ds)
      | none => none
    | none => none
def datAs : Nat → AH → List AV → Option (List PyData)
  | _, _, [] => some []
  | n, h, x :: xs => match datA n h x, datAs n h xs with
    | some d, some ds => some (d :: ds)
    | _, _ => none
end
section
variable {K : PySem.W.Frag} {ρ : List Addr} {H : Hp} {h : AH}
mutual
theorem datA_ok (r : HR K ct ρ H h) : ∀ (n : Nat) (x : AV) {d : PyData} {v : V}, datA n h x = some d → VR K ρ H x v → Dp K H v d
  | n, .non, d, v, e, q => by rw [datA] at e; cases e; rw [VR.non.mp q]; exact .non
  | n, .bl b, d, v, e, q => by rw [datA] at e; cases e; rw [VR.bl.mp q]; exact .bl b
  | n, .int b, d, v, e, q => by rw [datA] at e; cases e; rw [VR.int.mp q]; exact .int b
  | n, .str b, d, v, e, q => by rw [datA] at e; cases e; rw [VR.str.mp q]; exact .str b
  | 0, .tup xs, d, v, e, q => by rw [datA] at e; cases e; all_goals simp
  | 0, .ref xs, d, v, e, q => by rw [datA] at e; cases e; all_goals simp
  | 0, .kd xs, d, v, e, q => by rw [datA] at e; cases e; all_goals simp
  | n + 1, .kd xs, d, v, e, q => by rw [datA] at e; cases e
  | n + 1, .tup xs, d, v, e, q => by
    rw [datA] at e
    split at e
    · rename_i ds e1
      cases e
      obtain ⟨a, ys, rfl, h1, h2⟩ := VR.tup.mp q
      exact .tup h1 (datAs_ok r n xs e1 h2)
    · cases e
  | n + 1, .ref i, d, v, e, q => by
    rw [datA] at e
    split at e
    · rename_i xs e0
      split at e
      · rename_i ds e1
        cases e
        obtain ⟨a, h1, rfl⟩ := VR.ref.mp q
        obtain ⟨ys, h2, h3⟩ := lstOf_ok r h1 e0
        exact .lst h2 (datAs_ok r n xs e1 h3)
      · cases e
    · cases e
theorem datAs_ok (r : HR K ct ρ H h) : ∀ (n : Nat) (xs : List AV) {ds : List PyData} {vs : List V}, datAs n h xs = some ds → VRs K ρ H xs vs → DpAll K H vs ds
  | n, [], ds, vs, e, q => by rw [datAs] at e; cases e; rw [VRs.nil.mp q]; exact .nil
  | n, x :: xs, ds, vs, e, q => by
    rw [datAs] at e
    split at e
    · rename_i d ds' e1 e2
      cases e
      obtain ⟨y, r', rfl, h1, h2⟩ := VRs.cons.mp q
      exact .cons (datA_ok r n x e1 h1) (datAs_ok r n xs e2 h2)
    · cases e
end
end
/-- a reading of the heap -/
def rd {α : Type} (f : AH → Option α) : EM α := fun _ h => match f h with
  | some a => .ok a h
  | none => .bad
def eqDeep (x y : AV) (h : AH) : Option Bool := match datA 65 h x, datA 65 h y with
  | some d, some e => if SeqAt.shaped d = true ∧ SeqAt.shaped e = true then some (PyData.eqv d e) else none
  | _, _ => none
def eqB (x y : AV) (h : AH) : Option Bool := match scalA x y with
  | some b => some b
  | none => eqDeep x y h
def eqA (x y : AV) : EM AV := rd fun h => (eqB x y h).map AV.bl
def neA (x y : AV) : EM AV := rd fun h => (eqB x y h).map fun b => AV.bl (!b)
theorem post_rd {α β : Type} {R : Rl α β} {K : PySem.W.Frag} {ct : CT} {W : WX} {ρ : List Addr} {H : Hp} {σ : L2.St} {Q : β → Hp → Prop} {f : AH → Option α} {s : Sl} {h : AH} {v : β} (b : HR K ct ρ H h) (p : post R K ct W ρ H σ Q (rd f s h)) : ∃ a, f h = some a ∧ ((∀ v, R ρ H a v → Q v H)) := by
  unfold rd at p
  split at p
  · rename_i a e
    exact ⟨a, e, fun v hv => p ρ H v Ext.refl b hv⟩
  · exact p.elim
theorem scalA_ok {K : PySem.W.Frag} {ρ : List Addr} {H : Hp} {x y : AV} {x' y' : V} {b : Bool} (e : scalA x y = some b) (c1 : VR K ρ H x x') (c2 : VR K ρ H y y') : scal x' y' = true ∧ decide (x' = y') = b := by
  unfold scalA at e
  split at e <;> cases e <;> (first | rw [VR.non.mp c1] | rw [VR.int.mp c1] | rw [VR.bl.mp c1] | rw [VR.str.mp c1]) <;> (first | rw [VR.non.mp c2] | rw [VR.int.mp c2] | rw [VR.bl.mp c2] | rw [VR.str.mp c2]) <;> simp [scal]
abbrev rEqAll (K : PySem.W.Frag) : R2 := fun x y H Q => rEq x y H Q ∨ rEqD K x y H Q
abbrev rNeAll (K : PySem.W.Frag) : R2 := fun x y H Q => rNe x y H Q ∨ rNeD K x y H Q
theorem eqB_ok {K : PySem.W.Frag} {ρ : List Addr} {H : Hp} {h : AH} {x y : AV} {x' y' : V} {b : Bool} (r : HR K ct ρ H h) (e : eqB x y h = some b) (c1 : VR K ρ H x x') (c2 : VR K ρ H y y') :
    (scal x' y' = true ∧ decide (x' = y') = b) ∨ ∃ d e, Dp K H x' d ∧ Dp K H y' e ∧ SeqAt.shaped d = true ∧ SeqAt.shaped e = true ∧ PyData.eqv d e = b := by
  unfold eqB at e
  split at e
  · rename_i bb e1
    cases e
    exact .inl (scalA_ok e1 c1 c2)
  · unfold eqDeep at e
    split at e
    · rename_i d e2 h2 h3
      split at e
      · rename_i hs
        cases e
        exact .inr ⟨d, e2, datA_ok r _ _ h2 c1, datA_ok r _ _ h3 c2, hs.1, hs.2, rfl⟩
      · cases e
    · cases e
theorem op2_eq : Op2 X ct (rEqAll X.K) eqA := by
  intro W x' y' σ H Q ⟨ρ, s, h, x, y, a, b, c1, c2, p⟩
  obtain ⟨z, e, q⟩ := post_rd (v := x') b p
  obtain ⟨k, e1, rfl⟩ := Option.map_eq_some_iff.mp e
  rcases eqB_ok b e1 c1 c2 with ⟨h1, h2⟩ | ⟨d, e, h1, h2, h3, h4, h5⟩
  · exact .inl ⟨h1, by rw [h2]; exact q _ (VR.bl.mpr rfl)⟩
  · exact .inr ⟨d, e, h1, h2, h3, h4, by rw [h5]; exact q _ (VR.bl.mpr rfl)⟩
theorem op2_ne : Op2 X ct (rNeAll X.K) neA := by
  intro W x' y' σ H Q ⟨ρ, s, h, x, y, a, b, c1, c2, p⟩
  obtain ⟨z, e, q⟩ := post_rd (v := x') b p
  obtain ⟨k, e1, rfl⟩ := Option.map_eq_some_iff.mp e
  rcases eqB_ok b e1 c1 c2 with ⟨h1, h2⟩ | ⟨d, e, h1, h2, h3, h4, h5⟩
  · exact .inl ⟨h1, by rw [h2]; exact q _ (VR.bl.mpr rfl)⟩
  · exact .inr ⟨d, e, h1, h2, h3, h4, by rw [h5]; exact q _ (VR.bl.mpr rfl)⟩
/-! ### order -/
def ltA : AV → AV → EM AV := onInts fun i j => ret (.bl (decide (i < j)))
def leA : AV → AV → EM AV := onInts fun i j => ret (.bl (decide (i ≤ j)))
def gtA : AV → AV → EM AV := onInts fun i j => ret (.bl (decide (j < i)))
def geA : AV → AV → EM AV := onInts fun i j => ret (.bl (decide (j ≤ i)))
/-! ### is None -/
def isN : AV → AV → EM AV
  | .non, .non => ret (.bl true)
  | _, .non => ret (.bl false)
  | _, _ => bad
def isNotN : AV → AV → EM AV
  | .non, .non => ret (.bl false)
  | _, .non => ret (.bl true)
  | _, _ => bad
theorem VR.non_iff {K : PySem.W.Frag} {ρ : List Addr} {H : Hp} {x : AV} {x' : V} (c : VR K ρ H x x') : x' = .non ↔ x = .non := by
  cases x with
  | non => simp [VR.non.mp c]
  | bl _ => simp [VR.bl.mp c]
  | int _ => simp [VR.int.mp c]
  | str _ => simp [VR.str.mp c]
  | tup _ => obtain ⟨_, _, e, _⟩ := VR.tup.mp c; simp [e]
  | ref _ => obtain ⟨_, _, e⟩ := VR.ref.mp c; simp [e]
  | kd _ => simp [VR.kd.mp c]
theorem op2_isN : Op2 X ct (fun x y H Q => y = .non ∧ Q (.bl (decide (x = .non))) H) isN := by
  intro W x' y' σ H Q ⟨ρ, s, h, x, y, a, b, c1, c2, p⟩
  unfold isN at p
  split at p
  · rw [VR.non.mp c2, VR.non.mp c1]
    exact ⟨rfl, p ρ H _ Ext.refl b (VR.bl.mpr rfl)⟩
  · rename_i n
    have e : decide (x' = .non) = false := decide_eq_false fun q => n (c1.non_iff.mp q)
    rw [VR.non.mp c2, e]
    exact ⟨rfl, p ρ H _ Ext.refl b (VR.bl.mpr rfl)⟩
  · exact p.elim
theorem op2_isNotN : Op2 X ct (fun x y H Q => y = .non ∧ Q (.bl (!decide (x = .non))) H) isNotN := by
  intro W x' y' σ H Q ⟨ρ, s, h, x, y, a, b, c1, c2, p⟩
  unfold isNotN at p
  split at p
  · rw [VR.non.mp c2, VR.non.mp c1]
    exact ⟨rfl, p ρ H _ Ext.refl b (VR.bl.mpr rfl)⟩
  · rename_i n
    have e : decide (x' = .non) = false := decide_eq_false fun q => n (c1.non_iff.mp q)
    rw [VR.non.mp c2, e]
    exact ⟨rfl, p ρ H _ Ext.refl b (VR.bl.mpr rfl)⟩
  · exact p.elim
/-! ### in -/
def flatA : AV → Bool
  | .tup _ => false
  | .ref _ => false
  | .kd _ => false
  | _ => true
/-- == of flat values -/
def eqFlat : AV → AV → Bool
  | .non, .non => true
  | .bl a, .bl b => a == b
  | .bl a, .int b => (if a then 1 else 0) == b
  | .int a, .bl b => a == (if b then 1 else 0)
  | .int a, .int b => a == b
  | .str a, .str b => a == b
  | _, _ => false
def memFlat (x : AV) (xs : List AV) : Bool := xs.any fun y => eqFlat y x
/-- one sign in a text -/
def signIn (x z : Str) : Option Bool := match x.cps.toList with
  | [c] => some (decide (c ∈ z.cps.toList))
  | _ => none
def inB (x y : AV) (h : AH) : Option Bool := match x, y with
  | .str c, .str z => signIn c z
  | x, y => match seqOf h y with
    | some xs => if (flatA x && xs.all flatA) = true then some (memFlat x xs) else none
    | none => none
theorem flat_ok {K : PySem.W.Frag} {ρ : List Addr} {H : Hp} {x : AV} {x' : V} (c : VR K ρ H x x') (f : flatA x = true) : flatV x' = true := by
  cases x with
  | non => simp [VR.non.mp c, flatV]
  | bl _ => simp [VR.bl.mp c, flatV]
  | int _ => simp [VR.int.mp c, flatV]
  | str _ => simp [VR.str.mp c, flatV]
  | tup _ => cases f
  | ref _ => cases f
  | kd _ => cases f
theorem flats_ok {K : PySem.W.Frag} {ρ : List Addr} {H : Hp} : ∀ {xs : List AV} {ys : List V}, VRs K ρ H xs ys → xs.all flatA = true → ys.all flatV = true
  | [], ys, c, _ => by rw [VRs.nil.mp c]; rfl
  | x :: xs, ys, c, f => by
    obtain ⟨y, r, rfl, h1, h2⟩ := VRs.cons.mp c
    rw [List.all_cons, Bool.and_eq_true] at f ⊢
    exact ⟨flat_ok h1 f.1, flats_ok h2 f.2⟩
theorem eqFlat_ok {K : PySem.W.Frag} {ρ : List Addr} {H : Hp} {x y : AV} {x' y' : V} (c : VR K ρ H x x') (d : VR K ρ H y y') (f : flatA x = true) (g : flatA y = true) : eqV x' y' = eqFlat x y := by
  cases x <;> (try (exact absurd f Bool.false_ne_true)) <;> cases y <;> (try (exact absurd g Bool.false_ne_true)) <;> (first | rw [VR.non.mp c] | rw [VR.int.mp c] | rw [VR.bl.mp c] | rw [VR.str.mp c]) <;> (first | rw [VR.non.mp d] | rw [VR.int.mp d] | rw [VR.bl.mp d] | rw [VR.str.mp d]) <;> rfl
theorem mem_ok {K : PySem.W.Frag} {ρ : List Addr} {H : Hp} {x : AV} {x' : V} (c : VR K ρ H x x') (f : flatA x = true) : ∀ {xs : List AV} {ys : List V}, VRs K ρ H xs ys → xs.all flatA = true → inV x' ys = memFlat x xs
  | [], ys, d, _ => by rw [VRs.nil.mp d]; rfl
  | y :: xs, ys, d, g => by
    obtain ⟨y', r, rfl, h1, h2⟩ := VRs.cons.mp d
    rw [List.all_cons, Bool.and_eq_true] at g
    have ih := mem_ok c f h2 g.2
    unfold inV memFlat at ih ⊢
    rw [List.any_cons, List.any_cons, ih, eqFlat_ok h1 c g.1 f]
def rInAll (K : PySem.W.Frag) (neg : Bool) : R2 := fun x y H Q => (fun x y H Q => ∃ (c : Nat) (z : Str), x = .str ⟨#[c]⟩ ∧ y = .str z ∧ Q (.bl (if neg then !decide (c ∈ z.cps.toList) else decide (c ∈ z.cps.toList))) H : R2) x y H Q ∨ rIn K neg x y H Q
theorem in_of {K : PySem.W.Frag} {ρ : List Addr} {H : Hp} {h : AH} {x y : AV} {x' y' : V} {b neg : Bool} {Q : VK} (r : HR K ct ρ H h) (e : inB x y h = some b) (c1 : VR K ρ H x x') (c2 : VR K ρ H y y') (q : Q (.bl (if neg then !b else b)) H) : rInAll K neg x' y' H Q := by
  unfold inB at e
  split at e
  · rename_i c zz
    unfold signIn at e
    split at e
    · rename_i k ek
      cases e
      refine .inl ⟨k, zz, ?_, VR.str.mp c2, q⟩
      rw [VR.str.mp c1]
      have : c = ⟨#[k]⟩ := by
        obtain ⟨cp⟩ := c
        congr 1
        exact Array.toList_inj.mp ek
      rw [this]
    · cases e
  · split at e
    · rename_i xs e1
      split at e
      · rename_i hf
        cases e
        rw [Bool.and_eq_true] at hf
        obtain ⟨p, ys, rfl, h1, h2⟩ := seqOf_ok r c2 e1
        refine .inr ⟨p, ys, rfl, h1, flat_ok c1 hf.1, flats_ok h2 hf.2, ?_⟩
        rw [mem_ok c1 hf.1 h2 hf.2]
        exact q
      · cases e
    · cases e
def inA (x y : AV) : EM AV := rd fun h => (inB x y h).map AV.bl
def ninA (x y : AV) : EM AV := rd fun h => (inB x y h).map fun b => AV.bl (!b)
theorem op2_in : Op2 X ct (rInAll X.K false) inA := by
  intro W x' y' σ H Q ⟨ρ, s, h, x, y, a, b, c1, c2, p⟩
  obtain ⟨z, e, q⟩ := post_rd (v := x') b p
  obtain ⟨k, e1, rfl⟩ := Option.map_eq_some_iff.mp e
  exact in_of b e1 c1 c2 (q _ (VR.bl.mpr rfl))
theorem op2_nin : Op2 X ct (rInAll X.K true) ninA := by
  intro W x' y' σ H Q ⟨ρ, s, h, x, y, a, b, c1, c2, p⟩
  obtain ⟨z, e, q⟩ := post_rd (v := x') b p
  obtain ⟨k, e1, rfl⟩ := Option.map_eq_some_iff.mp e
  exact in_of b e1 c1 c2 (q _ (VR.bl.mpr rfl))
/-- a comparison -/
def cmpP : CmpOp → Option (AV → AV → EM AV)
  | .Eq => some eqA
  | .NotEq => some neA
  | .Lt => some ltA
  | .LtE => some leA
  | .Gt => some gtA
  | .GtE => some geA
  | .Is => some isN
  | .IsNot => some isNotN
  | .In => some inA
  | .NotIn => some ninA
theorem cmpP_ok (hu : X.A.units + 64 < cLine) {op : CmpOp} {f : AV → AV → EM AV} (h : cmpP op = some f) : ∃ r, OpR X (compareOp op) r ∧ Op2 X ct r f := by
  cases op <;> cases h
  · exact ⟨_, op_eq.or (op_eqD hu), op2_eq⟩
  · exact ⟨_, op_ne.or (op_neD hu), op2_ne⟩
  · exact ⟨_, op_lt, op2_I0 fun _ _ _ _ => VR.bl.mpr rfl⟩
  · exact ⟨_, op_le, op2_I0 fun _ _ _ _ => VR.bl.mpr rfl⟩
  · exact ⟨_, op_gt, op2_I0 fun _ _ _ _ => VR.bl.mpr rfl⟩
  · exact ⟨_, op_ge, op2_I0 fun _ _ _ _ => VR.bl.mpr rfl⟩
  · exact ⟨_, op_isN, op2_isN⟩
  · exact ⟨_, op_notN, op2_isNotN⟩
  · exact ⟨rInAll X.K false, op_in_sign.or op_in_seq, op2_in⟩
  · exact ⟨rInAll X.K true, op_notIn_sign.or op_notIn_seq, op2_nin⟩
end
end Ev
namespace Ev
open PySem PySem.Spec PyProof.Rows L2
section
variable {X : Cx} {ct : CT}
/-! ### dicts whose keys are ints and texts -/
def isKd (kvs : List (AV × AV)) : Bool := match kvs with
  | [] => true
  | kv :: _ => (keyV kv.1).isSome
def dLook (kvs : List (AV × AV)) (k : AV) : Option AV := match kvs with
  | [] => none
  | kv :: r => if keyV kv.1 = keyV k then some kv.2 else dLook r k
def dHas (kvs : List (AV × AV)) (k : AV) : Bool := kvs.any fun kv => decide (keyV kv.1 = keyV k)
def dPut (kvs : List (AV × AV)) (k v : AV) : List (AV × AV) :=
  if dHas kvs k = true then kvs.map (fun kv => if keyV kv.1 = keyV k then (kv.1, v) else kv) else kvs ++ [(k, v)]
section
variable {K : PySem.W.Frag} {ρ : List Addr} {H : Hp}
theorem OR.isK {a : Addr} {kvs : List (AV × AV)} (o : OR K ct ρ H a (.dct kvs)) (e : isKd kvs = true) : ∃ gs, H a = some (.dK gs) ∧ DKR K ρ H kvs gs := by
  rcases o with o | ⟨n, gs, h1, h2⟩
  · exact o
  · cases kvs with
    | nil => exact (n rfl).elim
    | cons kv r =>
      obtain ⟨xs, k, w, r', _, h3, _⟩ := h2
      have e2 : (keyV kv.1).isSome = true := e
      rw [h3] at e2
      cases e2
theorem keyV_ok {x : AV} {v : V} {k : Key} (e : keyV x = some k) (c : VR K ρ H x v) : v = kV k := by
  unfold keyV at e
  split at e <;> cases e
  · exact VR.int.mp c
  · exact VR.str.mp c
theorem kV_rep {x : AV} {k : Key} (e : keyV x = some k) : VR K ρ H x (kV k) := by
  unfold keyV at e
  split at e <;> cases e
  · exact VR.int.mpr rfl
  · exact VR.str.mpr rfl
theorem dLook_ok {k : AV} {kk : Key} (ek : keyV k = some kk) : ∀ {kvs : List (AV × AV)} {gs : List (Key × V)}, DKR K ρ H kvs gs → (∀ x, dLook kvs k = some x → ∃ v, valV gs kk = some v ∧ VR K ρ H x v) ∧ (dLook kvs k = none → valV gs kk = none)
  | [], gs, d => by
    have e : gs = [] := d
    subst e
    exact ⟨fun x h => (nomatch h), fun _ => rfl⟩
  | kv :: r, gs, d => by
    obtain ⟨k0, w, r', rfl, h0, h1, h2⟩ := d
    have ih := dLook_ok ek h2
    unfold dLook
    by_cases e : keyV kv.1 = keyV k
    · rw [if_pos e]
      have e2 : k0 = kk := by
        rw [h0, ek] at e
        exact Option.some.inj e
      refine ⟨fun x hx => ?_, fun hx => (nomatch hx)⟩
      cases hx
      exact ⟨w, valV_pos e2, h1⟩
    · rw [if_neg e]
      have e2 : ¬ k0 = kk := fun q => e (by rw [h0, ek, q])
      rw [valV_neg (p := (k0, w)) e2]
      exact ih
theorem dHas_ok {k : AV} {kk : Key} (ek : keyV k = some kk) : ∀ {kvs : List (AV × AV)} {gs : List (Key × V)}, DKR K ρ H kvs gs → (gs.any fun kv => decide (kv.1 = kk)) = dHas kvs k
  | [], gs, d => by
    have e : gs = [] := d
    subst e
    rfl
  | kv :: r, gs, d => by
    obtain ⟨k0, w, r', rfl, h0, h1, h2⟩ := d
    have ih := dHas_ok ek h2
    unfold dHas at ih ⊢
    rw [List.any_cons, List.any_cons, ih]
    congr 1
    rw [h0, ek]
    simp
theorem DKR.mapPut {k x : AV} {kk : Key} {v : V} (ek : keyV k = some kk) (c : VR K ρ H x v) : ∀ {kvs : List (AV × AV)} {gs : List (Key × V)}, DKR K ρ H kvs gs →
    DKR K ρ H (kvs.map (fun kv => if keyV kv.1 = keyV k then (kv.1, x) else kv)) (gs.map (fun kv => if kv.1 = kk then (kv.1, v) else kv))
  | [], gs, d => by
    have e : gs = [] := d
    subst e
    exact rfl
  | kv :: r, gs, d => by
    obtain ⟨k0, w, r', rfl, h0, h1, h2⟩ := d
    have ih := DKR.mapPut ek c h2
    rw [List.map_cons, List.map_cons]
    by_cases e : k0 = kk
    · rw [if_pos e, if_pos (by rw [h0, ek, e])]
      exact ⟨k0, v, _, rfl, h0, c, ih⟩
    · rw [if_neg e, if_neg (by rw [h0, ek]; exact fun q => e (Option.some.inj q))]
      exact ⟨k0, w, _, rfl, h0, h1, ih⟩
theorem DKR.snoc {k x : AV} {kk : Key} {v : V} (ek : keyV k = some kk) (c : VR K ρ H x v) : ∀ {kvs : List (AV × AV)} {gs : List (Key × V)}, DKR K ρ H kvs gs → DKR K ρ H (kvs ++ [(k, x)]) (gs ++ [(kk, v)])
  | [], gs, d => by
    have e : gs = [] := d
    subst e
    exact ⟨kk, v, [], rfl, ek, c, rfl⟩
  | kv :: r, gs, d => by
    obtain ⟨k0, w, r', rfl, h0, h1, h2⟩ := d
    exact ⟨k0, w, _, rfl, h0, h1, DKR.snoc ek c h2⟩
theorem dPut_ok {k x : AV} {kk : Key} {v : V} (ek : keyV k = some kk) (c : VR K ρ H x v) {kvs : List (AV × AV)} {gs : List (Key × V)} (d : DKR K ρ H kvs gs) : DKR K ρ H (dPut kvs k x) (putK gs kk v) := by
  unfold dPut putK
  rw [dHas_ok ek d]
  split
  · exact d.mapPut ek c
  · exact d.snoc ek c
theorem DKR.length : ∀ {kvs : List (AV × AV)} {gs : List (Key × V)}, DKR K ρ H kvs gs → kvs.length = gs.length
  | [], gs, d => by
    have e : gs = [] := d
    subst e
    rfl
  | kv :: r, gs, d => by
    obtain ⟨k0, w, r', rfl, h0, h1, h2⟩ := d
    simp [DKR.length h2]
end
/-! ### a[i] -/
/-- a dict's entry -/
def dGetK (h : AH) (i : Nat) (k : AV) : Option (Option AV) := match h[i]?, keyV k with
  | some (.dct kvs), some _ => if isKd kvs = true then some (dLook kvs k) else none
  | _, _ => none
theorem dGetK_ok {K : PySem.W.Frag} {ρ : List Addr} {H : Hp} {h : AH} {i : Nat} {k : AV} {y : V} {a : Addr} (r : HR K ct ρ H h) (hi : ρ[i]? = some a) (c : VR K ρ H k y) {o : Option AV} (e : dGetK h i k = some o) :
    ∃ o', DGet H a y o' ∧ (∀ x, o = some x → ∃ v, o' = some v ∧ VR K ρ H x v) ∧ (o = none → o' = none) := by
  unfold dGetK at e
  split at e
  · rename_i kvs kk e1 e2
    split at e
    · rename_i hk
      cases e
      obtain ⟨gs, h1, h2⟩ := (r.ob i a _ hi e1).isK hk
      obtain ⟨h3, h4⟩ := dLook_ok e2 h2
      rw [keyV_ok e2 c]
      exact ⟨_, DGet.k h1, h3, h4⟩
    · cases e
  · cases e
def idxB (x y : AV) (h : AH) : Option AV := match x with
  | .tup xs => match y with
    | .int i => atI xs i
    | _ => none
  | .str z => match y with
    | .int i => if z.length ≤ sizeLine then (atI z.cps.toList i).map fun c => AV.str ⟨#[c]⟩ else none
    | _ => none
  | .ref p => match h[p]? with
    | some (.dct _) => match dGetK h p y with
      | some (some v) => some v
      | _ => none
    | _ => match y, lstOf h p with
      | .int i, some xs => atI xs i
      | _, _ => none
  | _ => none
def idxA (x y : AV) : EM AV := rd (idxB x y)
theorem VRs.atI {K : PySem.W.Frag} {ρ : List Addr} {H : Hp} {xs : List AV} {ys : List V} {i : Int} {x : AV} (h : VRs K ρ H xs ys) (e : L2.atI xs i = some x) : ∃ y, L2.atI ys i = some y ∧ VR K ρ H x y := by
  unfold L2.atI at e ⊢
  rw [h.length] at e
  cases q : ixN ys.length i with
  | none => rw [q] at e; cases e
  | some j =>
    rw [q] at e
    exact h.get e
/-- a dict's item, by the machine's tail -/
def rIxD : R2 := fun x y H Q => ∃ a v, x = .ref a ∧ DGet H a y (some v) ∧ Q v H
theorem ix_dict (hu : X.A.units + 1 < cLine) : IxR X rIxD := by
  intro value slice pins s σ H x y v u Q I rx ry h hs
  obtain ⟨a, z, rfl, g, q⟩ := h
  cases rx
  unfold subscriptTail
  refine wpAny_bind ?_
  have hT := dict_typeIs I g
  rw [getitemInPython_of_ne hT.not_modules]
  refine wpAny_bind (wpAny_specialOf hT PySem.F.slot_dict_getitem.lookup ?_)
  have fin : wpAny (model X.prog X.w) X.A (subscripted slice false (.ref a) u) (fun r s₃ => wpAny (model X.prog X.w) X.A (letTemporaryGo value (.ref a) r >>= fun _ => pure r) (EP X pins σ Q) X.xe s₃) X.xe s := by
    rw [hs]
    exact wpAny_operating (wpAny_mono (d_getItem (Q := EP X pins σ Q) hu I g ry fun w' s3 I3 rw' => ⟨z, H, I3, rw', q⟩) (fun r s₃ h₃ => wpAny_bind (wpAny_letTemporaryGo (wpAny_pure h₃))) fun _ _ x => x)
  first
    | exact wpAny_pure (wpAny_bind fin)
    | exact wpAny_bind (wpAny_pure (wpAny_bind fin))
    | exact wpAny_bind fin
abbrev rIxAll (K : PySem.W.Frag) : R2 := fun x y H Q => rIx K x y H Q ∨ rIxD x y H Q
theorem ix_all (hu : X.A.units + 1 < cLine) : IxR X (rIxAll X.K) := ix_seq.or (ix_dict hu)
theorem op2_idx : Op2 X ct (rIxAll X.K) idxA := by
  intro W x' y' σ H Q ⟨ρ, s, h, x, y, a, b, c1, c2, p⟩
  obtain ⟨z, e, q⟩ := post_rd (v := x') b p
  unfold idxB at e
  split at e
  · rename_i xs
    split at e
    · rename_i i
      obtain ⟨t, zs, rfl, h1, h2⟩ := VR.tup.mp c1
      obtain ⟨w, h3, h4⟩ := h2.atI e
      exact .inl (.inr (.inl ⟨t, zs, i, w, rfl, VR.int.mp c2, h1, h3, q w h4⟩))
    · cases e
  · rename_i zz
    split at e
    · rename_i i
      split at e
      · rename_i hz
        obtain ⟨k, h3, rfl⟩ := Option.map_eq_some_iff.mp e
        exact .inl (.inr (.inr ⟨zz, i, k, VR.str.mp c1, VR.int.mp c2, hz, h3, q _ (VR.str.mpr rfl)⟩))
      · cases e
    · cases e
  · rename_i j
    obtain ⟨t, h1, rfl⟩ := VR.ref.mp c1
    split at e
    · split at e
      · rename_i v e1
        cases e
        obtain ⟨o', g, h2, _⟩ := dGetK_ok b h1 c2 e1
        obtain ⟨w, rfl, h3⟩ := h2 _ rfl
        exact .inr ⟨t, w, rfl, g, q w h3⟩
      · cases e
    · split at e
      · rename_i i xs e1
        obtain ⟨ys, h2, h3⟩ := lstOf_ok b h1 e1
        obtain ⟨w, h4, h5⟩ := h3.atI e
        exact .inl (.inl ⟨t, ys, i, w, rfl, VR.int.mp c2, h2, h4, q w h5⟩)
      · cases e
  · cases e
/-! ### a[i:j] -/
def cutA (xs : List AV) (lo hi : Option Int) : List AV := (xs.drop (HT.sIx xs.length 0 lo)).take (HT.sIx xs.length xs.length hi - HT.sIx xs.length 0 lo)
theorem VRs.cut {K : PySem.W.Frag} {ρ : List Addr} {H : Hp} {xs : List AV} {ys : List V} (h : VRs K ρ H xs ys) (lo hi : Option Int) : VRs K ρ H (cutA xs lo hi) (cutV ys lo hi) := by
  unfold cutA cutV
  rw [h.length]
  exact (h.drop _).take _
def slcA (x : AV) (lo hi : Option Int) : EM AV := match x with
  | .tup xs => if HT.sIx xs.length 0 lo = 0 ∧ HT.sIx xs.length xs.length hi = xs.length then bad else ret (.tup (cutA xs lo hi))
  | .str z => if z.length ≤ sizeLine then ret (.str (cutS z lo hi)) else bad
  | .ref i => fun s h => match lstOf h i with
    | some xs => alloc (.lst (cutA xs lo hi)) s h
    | none => .bad
  | _ => bad
abbrev rSlAll (K : PySem.W.Frag) : V → Option Int → Option Int → Hp → VK → Prop := fun x lo hi H Q => rSlL K x lo hi H Q ∨ (rSlT K x lo hi H Q ∨ rSlS x lo hi H Q)
theorem sl_all : SlR X (rSlAll X.K) := sl_list.or (sl_tup.or sl_str)
theorem slc_of {W : WX} {x' : V} {lo hi : Option Int} {σ : L2.St} {H : Hp} {Q : VK} (t : TP X.K ct W (fun ρ H (x : AV) => RV X.K ρ H x x') (RV X.K) (fun x => slcA x lo hi) σ H Q) : rSlAll X.K x' lo hi H Q := by
  obtain ⟨ρ, s, h, x, a, b, c, p⟩ := t
  unfold slcA at p
  dsimp only at p
  split at p
  · rename_i xs
    obtain ⟨q, ys, rfl, h1, h2⟩ := VR.tup.mp c
    split at p
    · exact p.elim
    · rename_i hc
      refine .inr (.inl ⟨q, ys, rfl, h1, ?_, new_tup b (h2.cut lo hi) p⟩)
      rw [← h2.length]
      exact hc
  · rename_i z
    split at p
    · rename_i hc
      exact .inr (.inr ⟨z, VR.str.mp c, hc, p ρ H _ Ext.refl b (VR.str.mpr rfl)⟩)
    · exact p.elim
  · obtain ⟨q, h1, rfl⟩ := VR.ref.mp c
    split at p
    · rename_i xs e1
      obtain ⟨ys, h2, h3⟩ := lstOf_ok b h1 e1
      exact .inl ⟨q, ys, rfl, h2, new_lst b (h3.cut lo hi) p⟩
    · exact p.elim
  · exact p.elim
end
end Ev
namespace Ev
open PySem PySem.Spec PyProof.Rows L2
/-! ### statements -/
inductive RS where
  | nx (s : Sl) (h : AH)
  | rt (v : AV) (h : AH)
  | bk (s : Sl) (h : AH)
  | ct (s : Sl) (h : AH)
  | exc (c : Str) (fs : List (Str × AV)) (s : Sl) (h : AH)
  | bad
abbrev SM := Sl → AH → RS
def badS : SM := fun _ _ => .bad
def skipS : SM := fun s h => .nx s h
def seqS (a b : SM) : SM := fun s h => match a s h with
  | .nx s' h' => b s' h'
  | r => r
/-- an expression ahead of a statement -/
def bdS {α : Type} (m : EM α) (f : α → SM) : SM := fun s h => match m s h with
  | .ok a h' => f a s h'
  | .exc c fs h' => .exc c fs s h'
  | .bad => .bad
def setS (i : Nat) (v : AV) : SM := fun s h => .nx (s.set i (some v)) h
def retS (v : AV) : SM := fun _ h => .rt v h
section
variable {K : PySem.W.Frag} {ct : CT} {W : WX} {ρ ρ' : List Addr} {H H' : Hp} {σ : L2.St}
def postS (K : PySem.W.Frag) (ct : CT) (W : WX) (ρ : List Addr) (H : Hp) (D : Ends) : RS → Prop
  | .nx s' h' => ∀ ρ' H' σ', Ext ρ H ρ' H' → HR K ct ρ' H' h' → SR K ρ' H' s' σ' → D.nx σ' H'
  | .rt v h' => ∀ ρ' H' v', Ext ρ H ρ' H' → HR K ct ρ' H' h' → VR K ρ' H' v v' → D.rt v' H'
  | .bk s' h' => ∀ ρ' H' σ', Ext ρ H ρ' H' → HR K ct ρ' H' h' → SR K ρ' H' s' σ' → D.bk σ' H'
  | .ct s' h' => ∀ ρ' H' σ', Ext ρ H ρ' H' → HR K ct ρ' H' h' → SR K ρ' H' s' σ' → D.ct σ' H'
  | .exc c fs s' h' => ∀ ρ' H' σ' cls d, Ext ρ H ρ' H' → HR K ct ρ' H' h' → SR K ρ' H' s' σ' → ExR K ct ρ' H' c fs cls d → W cls d σ' H'
  | .bad => False
def TS0 (K : PySem.W.Frag) (ct : CT) (W : WX) (m : SM) : TS := fun D σ H => ∃ ρ s h, SR K ρ H s σ ∧ HR K ct ρ H h ∧ postS K ct W ρ H D (m s h)
theorem postS.ext {D : Ends} (e : Ext ρ H ρ' H') : ∀ {r : RS}, postS K ct W ρ H D r → postS K ct W ρ' H' D r
  | .nx s' h', p => fun ρ2 H2 σ' a b c => p ρ2 H2 σ' (e.trans a) b c
  | .bk s' h', p => fun ρ2 H2 σ' a b c => p ρ2 H2 σ' (e.trans a) b c
  | .ct s' h', p => fun ρ2 H2 σ' a b c => p ρ2 H2 σ' (e.trans a) b c
  | .rt s' h', p => fun ρ2 H2 σ' a b c => p ρ2 H2 σ' (e.trans a) b c
  | .exc c fs s' h', p => fun ρ2 H2 σ' cls d a b c => p ρ2 H2 σ' cls d (e.trans a) b c
  | .bad, p => p
theorem TS0.seq {a b : SM} {D : Ends} {H : Hp} (t : TS0 K ct W (seqS a b) D σ H) : TS0 K ct W a { D with nx := TS0 K ct W b D } σ H := by
  obtain ⟨ρ, s, h, r, q, p⟩ := t
  refine ⟨ρ, s, h, r, q, ?_⟩
  unfold seqS at p
  split at p
  · rename_i s' h' e
    rw [e]
    exact fun ρ' H' σ' x y z => ⟨ρ', s', h', z, y, postS.ext x p⟩
  · rename_i r' n
    cases e : a s h with
    | nx s' h' => exact (n s' h' e).elim
    | _ => rw [e] at p; exact p
theorem TS0.bd {α β : Type} {R : Rl α β} {m : EM α} {f : α → SM} {D : Ends} {H : Hp} (t : TS0 K ct W (bdS m f) D σ H) :
    T0 K ct W R m σ H fun v' H1 => ∃ ρ s h v, SR K ρ H1 s σ ∧ HR K ct ρ H1 h ∧ R ρ H1 v v' ∧ postS K ct W ρ H1 D (f v s h) := by
  obtain ⟨ρ, s, h, r, q, p⟩ := t
  refine ⟨ρ, s, h, r, q, ?_⟩
  unfold bdS at p
  cases e : m s h with
  | ok v h1 =>
    rw [e] at p
    exact fun ρ' H' v' x y z => ⟨ρ', s, h1, v, r.mono x, y, z, postS.ext x p⟩
  | exc c fs h1 =>
    rw [e] at p
    exact fun ρ' H' cls d x y z => p ρ' H' σ cls d x y (r.mono x) z
  | bad =>
    rw [e] at p
    exact p
end
section
variable {X : Cx} {ct : CT} {W : WX}
abbrev AS (X : Cx) (ct : CT) (W : WX) (st : Stmt) (m : SM) : Prop := PS X st (TS0 X.K ct W m)
abbrev ASs (X : Cx) (ct : CT) (W : WX) (st : List Stmt) (m : SM) : Prop := PSs X st (TS0 X.K ct W m)
theorem ps_imp {e : Stmt} {t t' : TS} (h : PS X e t) (i : ∀ D σ H, t' D σ H → t D σ H) : PS X e t' := ⟨fun pins s σ H D I q => h.run pins s σ H D I (i D σ H q)⟩
theorem pss_imp {e : List Stmt} {t t' : TS} (h : PSs X e t) (i : ∀ D σ H, t' D σ H → t D σ H) : PSs X e t' := ⟨fun pins s σ H D I q => h.run pins s σ H D I (i D σ H q)⟩
theorem as_bad {st : Stmt} : AS X ct W st badS := ⟨fun pins s σ H D I q => by obtain ⟨_, _, _, _, _, p⟩ := q; exact p.elim⟩
theorem ass_bad {st : List Stmt} : ASs X ct W st badS := ⟨fun pins s σ H D I q => by obtain ⟨_, _, _, _, _, p⟩ := q; exact p.elim⟩
theorem skip_of {D : Ends} {σ : L2.St} {H : Hp} (t : TS0 X.K ct W skipS D σ H) : D.nx σ H := by
  obtain ⟨ρ, s, h, r, q, p⟩ := t
  exact p ρ H σ Ext.refl q r
theorem ass_nil : ASs X ct W [] skipS := pss_imp pss_nil fun D σ H t => skip_of t
theorem ass_cons {st : Stmt} {rest : List Stmt} {a b : SM} (h1 : AS X ct W st a) (h2 : ASs X ct W rest b) : ASs X ct W (st :: rest) (seqS a b) := pss_imp (pss_cons h1 h2) fun D σ H t => t.seq
theorem as_pass {pos : Pos} : AS X ct W (.Pass pos) skipS := ps_imp ps_pass fun D σ H t => skip_of t
theorem as_doc {x j pos pos'} : AS X ct W (.Expr (.Constant (.str x) j pos) pos') skipS := ps_imp ps_doc fun D σ H t => skip_of t
theorem as_break {pos : Pos} : AS X ct W (.Break pos) (fun s h => .bk s h) := ps_imp ps_break fun D σ H ⟨ρ, s, h, r, q, p⟩ => p ρ H σ Ext.refl q r
theorem as_continue {pos : Pos} : AS X ct W (.Continue pos) (fun s h => .ct s h) := ps_imp ps_continue fun D σ H ⟨ρ, s, h, r, q, p⟩ => p ρ H σ Ext.refl q r
theorem as_ret {e : Expr} {pos : Pos} {m : EM AV} (he : AE X ct W e m) : AS X ct W (.Return (some e) pos) (bdS m retS) := by
  refine ps_imp (ps_ret he) fun D σ H t => ?_
  refine T0.mono (TS0.bd (R := RV X.K) t) fun v' H1 t1 => ?_
  obtain ⟨ρ, s, h, v, r, q, c, p⟩ := t1
  exact p ρ H1 v' Ext.refl q c
theorem as_retN {pos : Pos} : AS X ct W (.Return none pos) (retS .non) := ps_imp ps_retN fun D σ H ⟨ρ, s, h, r, q, p⟩ => p ρ H .non Ext.refl q (VR.non.mpr rfl)
theorem as_expr {e : Expr} {pos : Pos} {m : EM AV} (he : AE X ct W e m) (hs : swapsWith e none pos.line X.env = pure false) : AS X ct W (.Expr e pos) (bdS m fun _ => skipS) := by
  refine ps_imp (ps_expr he hs) fun D σ H t => ?_
  refine T0.mono (TS0.bd (R := RV X.K) t) fun v' H1 t1 => ?_
  obtain ⟨ρ, s, h, v, r, q, c, p⟩ := t1
  exact p ρ H1 σ Ext.refl q r
theorem as_set {i : Nat} {x : Str} {e : Expr} {pos pos' : Pos} {m : EM AV} (h : PS X (.Assign [.Name x pos'] e pos) (tAsg (T0 X.K ct W (RV X.K) m) (gName i))) : AS X ct W (.Assign [.Name x pos'] e pos) (bdS m (setS i)) := by
  refine ps_imp h fun D σ H t => ?_
  refine T0.mono (TS0.bd (R := RV X.K) t) fun v' H1 t1 => ?_
  obtain ⟨ρ, s, h, v, r, q, c, p⟩ := t1
  exact p ρ H1 _ Ext.refl q (r.set i c)
def ifS (c : EM Bool) (a b : SM) : SM := bdS c fun k => if k = true then a else b
theorem as_if {c : Expr} {a b : List Stmt} {pos : Pos} {mc : EM Bool} {ma mb : SM} (hc : AT X ct W c mc) (ha : ASs X ct W a ma) (hb : ASs X ct W b mb) : AS X ct W (.If c a b pos) (ifS mc ma mb) := by
  refine ps_imp (ps_if hc ha hb) fun D σ H t => ?_
  refine T0.mono (TS0.bd (R := RB) t) fun k H1 t1 => ?_
  obtain ⟨ρ, s, h, k', r, q, c, p⟩ := t1
  obtain rfl : k' = k := c
  cases k' with
  | true => exact ⟨ρ, s, h, r, q, p⟩
  | false => exact ⟨ρ, s, h, r, q, p⟩
/-! ### while -/
def whileN (c : EM Bool) (b : SM) : Nat → SM
  | 0 => badS
  | f + 1 => bdS c fun k => if k = true then (fun s h => match b s h with
      | .nx s' h' => whileN c b f s' h'
      | .ct s' h' => whileN c b f s' h'
      | .bk s' h' => .nx s' h'
      | r => r) else skipS
/-- more turns than any loop here takes -/
def turnsMax : Nat := 1000000000000
theorem as_while {c : Expr} {body : List Stmt} {pos : Pos} {mc : EM Bool} {mb : SM} (hp : PassesOwn (model X.prog X.w) X.A X.env X.xe) (hc : AT X ct W c mc) (hb : ASs X ct W body mb) : AS X ct W (.While c body [] pos) (whileN mc mb turnsMax) := by
  refine ps_imp (ps_while hp hc hb) fun D σ H t => ?_
  refine ⟨fun m σ H => TS0 X.K ct W (whileN mc mb m) D σ H, ⟨turnsMax, t⟩, fun m σ H t => ?_⟩
  cases m with
  | zero =>
    obtain ⟨_, _, _, _, _, p⟩ := t
    exact p.elim
  | succ f =>
    refine T0.mono (TS0.bd (R := RB) t) fun k H1 t1 => ?_
    obtain ⟨ρ, s, h, k', r, q, c, p⟩ := t1
    obtain rfl : k' = k := c
    cases k' with
    | false =>
      exact p ρ H1 σ Ext.refl q r
    | true =>
      refine ⟨fun σ' H' => TS0 X.K ct W (whileN mc mb f) D σ' H', fun σ' H' n => ⟨f, Nat.lt_succ_self f, n⟩, ρ, s, h, r, q, ?_⟩
      rw [if_pos rfl] at p
      cases e : mb s h with
      | nx s' h' =>
        rw [e] at p
        exact fun ρ' H' σ' x y z => ⟨ρ', s', h', z, y, postS.ext x p⟩
      | ct s' h' =>
        rw [e] at p
        exact fun ρ' H' σ' x y z => ⟨ρ', s', h', z, y, postS.ext x p⟩
      | bk s' h' =>
        rw [e] at p
        exact p
      | rt v h' =>
        rw [e] at p
        exact p
      | exc c fs s' h' =>
        rw [e] at p
        exact p
      | bad =>
        rw [e] at p
        exact p
/-! ### what is walked -/
inductive IT where
  | vals (xs : List AV)
  | live (i : Nat)
/-- at turn n: an item, the end, or nothing that is known -/
def nextA (it : IT) (n : Nat) (h : AH) : Option (Option AV) := match it with
  | .vals xs => some xs[n]?
  | .live i => match lstOf h i with
    | some xs => some xs[n]?
    | none => none
def RJ (K : PySem.W.Frag) (ct : CT) : Rl IT L2.It := fun ρ H it J => ∀ n ρ' H' h', Ext ρ H ρ' H' → HR K ct ρ' H' h' → match nextA it n h' with
  | none => True
  | some none => J.stop n H'
  | some (some v) => J.go n H' ∧ ∀ x' H'', J.yld n H' x' H'' → Ext ρ' H' ρ' H'' ∧ HR K ct ρ' H'' h' ∧ VR K ρ' H'' v x'
abbrev AI (X : Cx) (ct : CT) (W : WX) (tg e : Expr) (m : EM IT) : Prop := PI X tg e (T0 X.K ct W (RJ X.K ct) m)
theorem pi_imp {tg e : Expr} {t t' : TI} (h : PI X tg e t) (i : ∀ σ H Q, t' σ H Q → t σ H Q) : PI X tg e t' := ⟨fun pins s σ H Q I q => h.run pins s σ H Q I (i σ H Q q)⟩
theorem ai_bad {tg e : Expr} : AI X ct W tg e bad := ⟨fun pins s σ H Q I q => by obtain ⟨_, _, _, _, _, p⟩ := q; exact p.elim⟩
theorem RJ.tup {K : PySem.W.Frag} {ρ : List Addr} {H : Hp} {a : Addr} {xs : List AV} {ys : List V} (h : SqT K H a ys) (c : VRs K ρ H xs ys) : RJ K ct ρ H (.vals xs) (Itt K a) := by
  intro n ρ' H' h' ex hr
  show match some xs[n]? with
  | none => True
  | some none => _
  | some (some v) => _
  have c' := c.mono ex
  have h' := ex.sqT h
  cases e : xs[n]? with
  | none =>
    exact ⟨ys, h', by rw [← c'.length]; exact List.getElem?_eq_none_iff.mp e⟩
  | some v =>
    obtain ⟨w, e1, r⟩ := c'.get e
    refine ⟨⟨ys, w, h', e1⟩, fun x' H'' y => ?_⟩
    obtain ⟨rfl, y⟩ := y
    have e2 := y ys h'
    rw [e1] at e2
    cases e2
    exact ⟨Ext.refl, hr, r⟩
theorem RJ.live {K : PySem.W.Frag} {ρ : List Addr} {H : Hp} {a : Addr} {i : Nat} (h : ρ[i]? = some a) : RJ K ct ρ H (.live i) (Itl K a) := by
  intro n ρ' H' h' ex hr
  have hi := ex.ref _ _ h
  unfold nextA
  dsimp only
  split
  · trivial
  · rename_i e0
    split at e0
    · rename_i xs e1
      have e := Option.some.inj e0
      obtain ⟨ys, h2, c⟩ := lstOf_ok hr hi e1
      exact ⟨ys, h2, by rw [← c.length]; exact List.getElem?_eq_none_iff.mp e⟩
    · cases e0
  · rename_i v e0
    split at e0
    · rename_i xs e1
      have e := Option.some.inj e0
      obtain ⟨ys, h2, c⟩ := lstOf_ok hr hi e1
      obtain ⟨w, e3, r⟩ := c.get e
      refine ⟨⟨ys, w, h2, e3⟩, fun x' H'' y => ?_⟩
      obtain ⟨rfl, y⟩ := y
      have e2 := y ys h2
      rw [e3] at e2
      cases e2
      exact ⟨Ext.refl, hr, r⟩
    · cases e0
def charsA (z : Str) : List AV := z.cps.toList.map fun c => AV.str ⟨#[c]⟩
theorem RJ.str {K : PySem.W.Frag} {ρ : List Addr} {H : Hp} {z : Str} : RJ K ct ρ H (.vals (charsA z)) (Its z) := by
  intro n ρ' H' h' ex hr
  show match some (charsA z)[n]? with
  | none => True
  | some none => _
  | some (some v) => _
  unfold charsA
  rw [List.getElem?_map, Array.getElem?_toList]
  cases e : z.cps[n]? with
  | none =>
    exact Array.getElem?_eq_none_iff.mp e
  | some c =>
    refine ⟨(Array.getElem?_eq_some_iff.mp e).1, fun x' H'' y => ?_⟩
    obtain ⟨rfl, c', e2, rfl⟩ := y
    rw [e] at e2
    cases e2
    exact ⟨Ext.refl, hr, VR.str.mpr rfl⟩
def itOf : AV → EM IT
  | .tup xs => ret (.vals xs)
  | .str z => ret (.vals (charsA z))
  | .ref i => fun s h => match lstOf h i with
    | some _ => .ok (.live i) h
    | none => .bad
  | _ => bad
theorem ai_seq {tg e : Expr} {m : EM AV} (he : AE X ct W e m) : AI X ct W tg e (bd m itOf) := by
  refine ⟨fun pins s σ H R I t => ?_⟩
  obtain ⟨ρ, sl, h, a, b, p⟩ := t
  unfold Ev.bd at p
  cases e0 : m sl h with
  | bad => rw [e0] at p; exact p.elim
  | exc c fs h1 =>
    rw [e0] at p
    exact (pi_list he).run pins s σ H R I ⟨ρ, sl, h, a, b, by rw [e0]; exact p⟩
  | ok v h1 =>
    rw [e0] at p
    cases v with
    | tup xs =>
      refine (pi_tup he).run pins s σ H R I ⟨ρ, sl, h, a, b, ?_⟩
      rw [e0]
      intro ρ' H' v' ex hr hv
      obtain ⟨q, ys, rfl, h2, h3⟩ := VR.tup.mp hv
      exact ⟨q, rfl, ⟨ys, h2⟩, p ρ' H' _ ex hr (RJ.tup h2 h3)⟩
    | str z =>
      refine (pi_str he).run pins s σ H R I ⟨ρ, sl, h, a, b, ?_⟩
      rw [e0]
      intro ρ' H' v' ex hr hv
      exact ⟨z, VR.str.mp hv, p ρ' H' _ ex hr RJ.str⟩
    | ref i =>
      have p : post (RJ X.K ct) X.K ct W ρ H σ R (match lstOf h1 i with
        | some _ => .ok (.live i) h1
        | none => .bad) := p
      split at p
      · rename_i xs e1
        refine (pi_list he).run pins s σ H R I ⟨ρ, sl, h, a, b, ?_⟩
        rw [e0]
        intro ρ' H' v' ex hr hv
        obtain ⟨q, h1, rfl⟩ := VR.ref.mp hv
        obtain ⟨ys, h2, _⟩ := lstOf_ok hr h1 e1
        exact ⟨q, rfl, ⟨ys, h2⟩, p ρ' H' _ ex hr (RJ.live h1)⟩
      · exact p.elim
    | _ => exact p.elim
/-! ### targets -/
/-- what a target does with a value -/
def TG0 (K : PySem.W.Frag) (ct : CT) (W : WX) (g : AV → SM) : TG := fun v' σ H Q => ∃ ρ s h v, SR K ρ H s σ ∧ HR K ct ρ H h ∧ VR K ρ H v v' ∧ postS K ct W ρ H { nx := Q, rt := fun _ _ => False } (g v s h)
abbrev AG (X : Cx) (ct : CT) (W : WX) (tg : Expr) (g : AV → SM) : Prop := PG X tg (TG0 X.K ct W g)
theorem pg_imp {e : Expr} {t t' : TG} (h : PG X e t) (i : ∀ v σ H Q, t' v σ H Q → t v σ H Q) : PG X e t' := ⟨fun pins s σ H v u Q I r q => h.run pins s σ H v u Q I r (i v σ H Q q)⟩
theorem ag_bad {e : Expr} : AG X ct W e (fun _ => badS) := ⟨fun pins s σ H v u Q I r q => by obtain ⟨_, _, _, _, _, _, _, p⟩ := q; exact p.elim⟩
theorem ag_name {i : Nat} {e : Expr} (h : PG X e (gName i)) : AG X ct W e (setS i) := by
  refine pg_imp h fun v' σ H Q t => ?_
  obtain ⟨ρ, s, h, v, a, b, c, p⟩ := t
  exact p ρ H _ Ext.refl b (a.set i c)
/-! ### for -/
def forN (it : IT) (g : AV → SM) (b : SM) : Nat → Nat → SM
  | 0, _ => badS
  | f + 1, n => fun s h => match nextA it n h with
    | none => .bad
    | some none => .nx s h
    | some (some v) => match g v s h with
      | .nx s1 h1 => (match b s1 h1 with
        | .nx s2 h2 => forN it g b f (n + 1) s2 h2
        | .ct s2 h2 => forN it g b f (n + 1) s2 h2
        | .bk s2 h2 => .nx s2 h2
        | r => r)
      | .exc c fs s1 h1 => .exc c fs s1 h1
      | _ => .bad
def forS (m : EM IT) (g : AV → SM) (b : SM) : SM := bdS m fun it => forN it g b turnsMax 0
theorem as_for {tg iter : Expr} {body : List Stmt} {pos : Pos} {mi : EM IT} {g : AV → SM} {mb : SM} (hp : PassesOwn (model X.prog X.w) X.A X.env X.xe) (hc : X.calm = true) (hi : AI X ct W tg iter mi) (hg : AG X ct W tg g) (hb : ASs X ct W body mb)
    (hs : ∀ x, foldedSetIterable iter X.env x = pure x) : AS X ct W (.For tg iter body [] pos) (forS mi g mb) := by
  refine ps_imp (ps_for hp hc hi hg hb hs) fun D σ H t => ?_
  refine T0.mono (TS0.bd (R := RJ X.K ct) t) fun J H1 t1 => ?_
  obtain ⟨ρ0, s0, h0, it, r0, q0, c0, p0⟩ := t1
  refine ⟨fun i m σ H => ∃ ρ s h, Ext ρ0 H1 ρ H ∧ SR X.K ρ H s σ ∧ HR X.K ct ρ H h ∧ postS X.K ct W ρ H D (forN it g mb m i s h), ⟨turnsMax, ρ0, s0, h0, Ext.refl, r0, q0, p0⟩, fun i m σ H t => ?_⟩
  obtain ⟨ρ, s, h, ex, r, q, p⟩ := t
  cases m with
  | zero => exact p.elim
  | succ f =>
    have jr := c0 i ρ H h ex q
    unfold forN at p
    cases e : nextA it i h with
    | none => rw [e] at p; exact p.elim
    | some o =>
      rw [e] at p jr
      cases o with
      | none => exact .inl ⟨jr, p ρ H σ Ext.refl q r⟩
      | some v =>
        obtain ⟨j1, j2⟩ := jr
        refine .inr ⟨j1, fun σ' H' => ∃ ρ s h, Ext ρ0 H1 ρ H' ∧ SR X.K ρ H' s σ' ∧ HR X.K ct ρ H' h ∧ postS X.K ct W ρ H' D (forN it g mb f (i + 1) s h), fun σ' H' n => ⟨f, Nat.lt_succ_self f, n⟩, fun x' H' y => ?_⟩
        obtain ⟨ex2, hr2, hv⟩ := j2 x' H' y
        refine ⟨ρ, s, h, v, r.mono ex2, hr2, hv, ?_⟩
        dsimp only at p
        cases eg : g v s h with
        | nx s1 h1 =>
          rw [eg] at p
          intro ρ1 Hg σ1 ex3 hr3 sr3
          refine ⟨ρ1, s1, h1, sr3, hr3, ?_⟩
          dsimp only at p
          cases eb : mb s1 h1 with
          | nx s2 h2 =>
            rw [eb] at p
            exact fun ρ' H' σ' x y z => ⟨ρ', s2, h2, ((ex.trans ex2).trans ex3).trans x, z, y, postS.ext ((ex2.trans ex3).trans x) p⟩
          | ct s2 h2 =>
            rw [eb] at p
            exact fun ρ' H' σ' x y z => ⟨ρ', s2, h2, ((ex.trans ex2).trans ex3).trans x, z, y, postS.ext ((ex2.trans ex3).trans x) p⟩
          | bk s2 h2 =>
            rw [eb] at p
            exact fun ρ' H' σ' x y z => p ρ' H' σ' ((ex2.trans ex3).trans x) y z
          | rt v2 h2 =>
            rw [eb] at p
            exact fun ρ' H' σ' x y z => p ρ' H' σ' ((ex2.trans ex3).trans x) y z
          | exc c2 fs2 s2 h2 =>
            rw [eb] at p
            exact fun ρ' H' σ' cls d x y z => p ρ' H' σ' cls d ((ex2.trans ex3).trans x) y z
          | bad =>
            rw [eb] at p
            exact p
        | exc c fs s1 h1 =>
          rw [eg] at p
          exact fun ρ' H' σ' cls d x y z => p ρ' H' σ' cls d (ex2.trans x) y z
        | bk _ _ => rw [eg] at p; exact p.elim
        | ct _ _ => rw [eg] at p; exact p.elim
        | rt _ _ => rw [eg] at p; exact p.elim
        | bad => rw [eg] at p; exact p.elim
end
end Ev
namespace Ev
open PySem PySem.Spec PyProof.Rows L2
/-! ### targets that are names, and tuples of them -/
inductive Pat where
  | nm (i : Nat)
  | tp (ps : List Pat)
mutual
def bindP : Pat → AV → Sl → Option Sl
  | .nm i, v, s => some (s.set i (some v))
  | .tp ps, .tup vs, s => bindPs ps vs s
  | .tp _, _, _ => none
def bindPs : List Pat → List AV → Sl → Option Sl
  | [], [], s => some s
  | p :: ps, v :: vs, s => match bindP p v s with
    | some s' => bindPs ps vs s'
    | none => none
  | _, _, _ => none
end
mutual
def patSlots : Pat → List Nat
  | .nm i => [i]
  | .tp ps => patsSlots ps
def patsSlots : List Pat → List Nat
  | [] => []
  | p :: ps => patSlots p ++ patsSlots ps
end
mutual
def gPat (K : PySem.W.Frag) : Pat → TG
  | .nm i => gName i
  | .tp ps => gTup K ps.length (gPats K ps)
def gPats (K : PySem.W.Frag) : List Pat → TGs
  | [] => gNil
  | p :: ps => gCons (gPat K p) (gPats K ps)
end
theorem wipe_set {σ : L2.St} {i : Nat} {x : Option V} : ∀ {vs : List Nat}, i ∈ vs → wipe (σ.set i x) vs = wipe σ vs
  | v :: vs, h => by
    unfold wipe
    by_cases e : i ∈ vs
    · rw [wipe_set e]
    · rcases List.mem_cons.mp h with rfl | h
      · have : ∀ {us : List Nat}, i ∉ us → wipe (σ.set i x) us = (wipe σ us).set i x := by
          intro us
          induction us with
          | nil => intro _; rfl
          | cons u us ih =>
            intro hn
            rw [List.mem_cons, not_or] at hn
            unfold wipe
            rw [ih hn.2, List.set_comm _ _ hn.1]
        rw [this e, List.set_set]
      · exact (e h).elim
mutual
theorem pat_ok {K : PySem.W.Frag} {ρ : List Addr} {H : Hp} : ∀ (p : Pat) {v : AV} {v' : V} {s s' : Sl} {σ : L2.St} {Q : L2.St → Hp → Prop}, bindP p v s = some s' → VR K ρ H v v' → SR K ρ H s σ →
    (∀ σ', SR K ρ H s' σ' → (∀ vs, (∀ i ∈ patSlots p, i ∈ vs) → wipe σ' vs = wipe σ vs) → Q σ' H) → gPat K p v' σ H Q
  | .nm i, v, v', s, s', σ, Q, e, c, r, q => by
    rw [bindP] at e
    cases e
    rw [gPat]
    exact q _ (r.set i c) fun vs h => wipe_set (h i (by rw [patSlots]; simp))
  | .tp ps, v, v', s, s', σ, Q, e, c, r, q => by
    cases v with
    | tup vs =>
      rw [bindP] at e
      obtain ⟨a, ys, rfl, h1, h2⟩ := VR.tup.mp c
      rw [gPat]
      have hl : ps.length = vs.length := pats_len ps e
      refine ⟨a, ys, rfl, h1, by rw [← h2.length]; exact hl.symm, pats_ok ps e h2 r fun σ' r' w => q σ' r' fun vs h => w vs fun i hi => h i (by rw [patSlots]; exact hi)⟩
    | _ => rw [bindP] at e; cases e; all_goals simp
theorem pats_len : ∀ (ps : List Pat) {vs : List AV} {s s' : Sl}, bindPs ps vs s = some s' → ps.length = vs.length
  | [], [], s, s', e => rfl
  | [], _ :: _, s, s', e => by rw [bindPs] at e; cases e; all_goals simp
  | p :: ps, [], s, s', e => by rw [bindPs] at e; cases e; all_goals simp
  | p :: ps, v :: vs, s, s', e => by
    rw [bindPs] at e
    split at e
    · simp [pats_len ps e]
    · cases e
theorem pats_ok {K : PySem.W.Frag} {ρ : List Addr} {H : Hp} : ∀ (ps : List Pat) {vs : List AV} {vs' : List V} {s s' : Sl} {σ : L2.St} {Q : L2.St → Hp → Prop}, bindPs ps vs s = some s' → VRs K ρ H vs vs' → SR K ρ H s σ →
    (∀ σ', SR K ρ H s' σ' → (∀ vs, (∀ i ∈ patsSlots ps, i ∈ vs) → wipe σ' vs = wipe σ vs) → Q σ' H) → gPats K ps vs' σ H Q
  | [], [], vs', s, s', σ, Q, e, c, r, q => by
    rw [bindPs] at e
    cases e
    rw [gPats]
    exact ⟨VRs.nil.mp c, q σ r fun _ _ => rfl⟩
  | [], _ :: _, vs', s, s', σ, Q, e, c, r, q => by rw [bindPs] at e; cases e; all_goals simp
  | p :: ps, [], vs', s, s', σ, Q, e, c, r, q => by rw [bindPs] at e; cases e; all_goals simp
  | p :: ps, v :: vs, vs', s, s', σ, Q, e, c, r, q => by
    rw [bindPs] at e
    split at e
    · rename_i s1 e1
      obtain ⟨y, ys, rfl, h1, h2⟩ := VRs.cons.mp c
      rw [gPats]
      refine ⟨y, ys, rfl, pat_ok p e1 h1 r fun σ1 r1 w1 => pats_ok ps e h2 r1 fun σ2 r2 w2 => q σ2 r2 fun vs h => ?_⟩
      rw [w2 vs fun i hi => h i (by rw [patsSlots]; exact List.mem_append_right _ hi), w1 vs fun i hi => h i (by rw [patsSlots]; exact List.mem_append_left _ hi)]
    · cases e
end
def patS (p : Pat) (v : AV) : SM := fun s h => match bindP p v s with
  | some s' => .nx s' h
  | none => .bad
section
variable {X : Cx} {ct : CT} {W : WX}
theorem ag_pat {p : Pat} {e : Expr} (h : PG X e (gPat X.K p)) : AG X ct W e (patS p) := by
  refine pg_imp h fun v' σ H Q t => ?_
  obtain ⟨ρ, s, h, v, a, b, c, q⟩ := t
  unfold patS at q
  split at q
  · rename_i s' e1
    exact pat_ok p e1 c a fun σ' r' _ => q ρ H σ' Ext.refl b r'
  · exact q.elim
/-! ### list comprehensions -/
def wipeA (s : Sl) : List Nat → Sl
  | [] => s
  | v :: vs => (wipeA s vs).set v none
theorem wipe_ok {K : PySem.W.Frag} {ρ : List Addr} {H : Hp} {s : Sl} {σ : L2.St} (r : SR K ρ H s σ) : ∀ vs : List Nat, SR K ρ H (wipeA s vs) (wipe σ vs)
  | [] => r
  | v :: vs => by
    have ih := wipe_ok r vs
    unfold wipeA wipe
    refine ⟨by simp [ih.1], fun i x e => ?_⟩
    by_cases h : v = i
    · subst h
      by_cases hl : v < (wipeA s vs).length
      · rw [List.getElem?_set_self hl] at e; cases e
      · rw [List.getElem?_eq_none (by simpa using hl)] at e; cases e
    · rw [List.getElem?_set_ne h] at e ⊢
      exact ih.2 i x e
/-- the turns of [e for p in it if c]: D the new list; s0 the slots with the own names forgotten -/
def compN (it : IT) (p : Pat) (c : EM Bool) (e : EM AV) (D : Nat) (s0 : Sl) : Nat → Nat → AH → RE AV
  | 0, _, _ => .bad
  | f + 1, n, h => match nextA it n h with
    | none => .bad
    | some none => .ok (.ref D) h
    | some (some v) => match bindP p v s0 with
      | none => .bad
      | some s1 => match c s1 h with
        | .ok false h2 => compN it p c e D s0 f (n + 1) h2
        | .ok true h2 => (match e s1 h2 with
          | .ok y h3 => (match h3[D]? with
            | some (.lst acc) => if acc.length < sizeLine then compN it p c e D s0 f (n + 1) (h3.set D (.lst (acc ++ [y]))) else .bad
            | _ => .bad)
          | _ => .bad)
        | _ => .bad
def compM (m : EM IT) (p : Pat) (own : List Nat) (c : EM Bool) (e : EM AV) : EM AV := bd m fun it s h => compN it p c e h.length (wipeA s own) turnsMax 0 (h ++ [.lst []])
abbrev W0 : WX := fun _ _ _ _ => False
theorem comp_rd {own : List Nat} {mi : EM IT} {p : Pat} {mc : EM Bool} {me : EM AV} (hp : ∀ i ∈ patSlots p, i ∈ own) {σ : L2.St} {H : Hp} {Q : VK} (t : T0 X.K ct W (RV X.K) (compM mi p own mc me) σ H Q) :
    tLc (T0 X.K ct W (RJ X.K ct) mi) (gPat X.K p) (T0 X.K ct W0 RB mc) (T0 X.K ct W0 (RV X.K) me) own σ H Q := by
  refine T0.mono (T0.bd (R' := RJ X.K ct) t) fun J H1 t1 => ?_
  obtain ⟨ρ0, s0, h0, it, r0, q0, c0, p0⟩ := t1
  intro D hD
  have e0 := Ext.push (ρ := ρ0) (u := .lst []) hD
  have q1 : HR X.K ct (ρ0 ++ [D]) (upd H1 D (.lst [])) (h0 ++ [.lst []]) := q0.push hD ⟨[], upd_same, VRs.nil.mpr rfl⟩
  have hDi : (ρ0 ++ [D])[h0.length]? = some D := by rw [← q0.len]; simp
  refine ⟨fun i m H' => ∃ ρ h, Ext (ρ0 ++ [D]) (upd H1 D (.lst [])) ρ H' ∧ HR X.K ct ρ H' h ∧ post (RV X.K) X.K ct W ρ H' σ Q (compN it p mc me h0.length (wipeA s0 own) m i h), ⟨turnsMax, _, _, Ext.refl, q1, post.ext e0 p0⟩, fun i m H' t => ?_⟩
  obtain ⟨ρ, h, ex, q, pp⟩ := t
  have hDn := ex.ref _ _ hDi
  cases m with
  | zero => exact pp.elim
  | succ f =>
    have jr := c0 i ρ H' h (e0.trans ex) q
    unfold compN at pp
    cases e : nextA it i h with
    | none => rw [e] at pp; exact pp.elim
    | some o =>
      rw [e] at pp jr
      cases o with
      | none => exact .inl ⟨jr, pp ρ H' _ Ext.refl q (VR.ref.mpr ⟨D, hDn, rfl⟩)⟩
      | some v =>
        obtain ⟨j1, j2⟩ := jr
        refine .inr ⟨j1, fun H' => ∃ ρ h, Ext (ρ0 ++ [D]) (upd H1 D (.lst [])) ρ H' ∧ HR X.K ct ρ H' h ∧ post (RV X.K) X.K ct W ρ H' σ Q (compN it p mc me h0.length (wipeA s0 own) f (i + 1) h), fun H' n => ⟨f, Nat.lt_succ_self f, n⟩, fun x' H2 y => ?_⟩
        obtain ⟨ex2, hr2, hv⟩ := j2 x' H2 y
        have sr := wipe_ok ((r0.mono e0).mono (ex.trans ex2)) own
        dsimp only at pp
        split at pp
        · exact pp.elim
        · rename_i s1 eb
          refine pat_ok p eb hv sr fun σ2 sr2 w2 => ⟨(w2 _ hp).trans ?_, ?_⟩
          · have ww : ∀ us : List Nat, (∀ u ∈ us, u ∈ own) → wipe (wipe σ us) own = wipe σ own := by
              intro us
              induction us with
              | nil => intro _; rfl
              | cons u us ih =>
                intro hu
                show wipe ((wipe σ us).set u none) _ = _
                rw [wipe_set (hu u (by simp)), ih fun v hv => hu v (by simp [hv])]
            exact ww _ fun _ h => h
          · refine ⟨ρ, s1, h, sr2, hr2, ?_⟩
            cases ec : mc s1 h with
            | bad => rw [ec] at pp; exact pp.elim
            | exc _ _ _ => rw [ec] at pp; exact pp.elim
            | ok b h2 =>
              rw [ec] at pp
              intro ρ3 H3 b' ex3 hr3 hb
              obtain rfl : b = b' := hb
              cases b with
              | false =>
                exact ⟨ρ3, h2, (ex.trans ex2).trans ex3, hr3, post.ext (ex2.trans ex3) pp⟩
              | true =>
                refine ⟨ρ3, s1, h2, sr2.mono ex3, hr3, ?_⟩
                dsimp only at pp
                cases ee : me s1 h2 with
                | bad => rw [ee] at pp; exact pp.elim
                | exc _ _ _ => rw [ee] at pp; exact pp.elim
                | ok y h3 =>
                  rw [ee] at pp
                  intro ρ4 H4 y' ex4 hr4 hy
                  have hD4 := (ex2.trans (ex3.trans ex4)).ref _ _ hDn
                  dsimp only at pp
                  split at pp
                  · rename_i acc ea
                    obtain ⟨ys, h5, h6⟩ := hr4.ob _ _ _ hD4 ea
                    split at pp
                    · rename_i hl
                      refine ⟨ys, h5, by rw [← h6.length]; exact hl, ρ4, _, ?_, hr4.write hD4 (notFro ea (by simp)) h5 trivial ?_ (by simp), post.ext ((ex2.trans (ex3.trans ex4)).trans (Ext.write h5 trivial)) pp⟩
                      · exact ((ex.trans ex2).trans (ex3.trans ex4)).trans (Ext.write h5 trivial)
                      · exact ⟨ys ++ [y'], upd_same, (h6.append (VRs.one hy)).mono (Ext.write h5 trivial)⟩
                    · exact pp.elim
                  · exact pp.elim
theorem ae_comp {elt tg iter : Expr} {ifs : List Expr} {scope : Scope} {own : List (Str × Nat)} {pos : Pos} {mi : EM IT} {p : Pat} {mc : EM Bool} {me : EM AV} (hc : X.calm = true) (hN : X.N.Nodup) (hi : AI X ct W tg iter mi) (ok : BlkOk X.N X.env.scope scope own)
    (hp : ∀ i ∈ patSlots p, i ∈ own.map (·.2))
    (hg : ∀ (s : Shared) (H : Hp) (C : Addr) (cl : List (Str × Addr)) (fp : List Addr), PG (X.blk s H scope (compEnvC scope cl C X.env) fp) tg (gPat X.K p))
    (ht : ∀ (s : Shared) (H : Hp) (C : Addr) (cl : List (Str × Addr)) (fp : List Addr), PTs (X.blk s H scope (compEnvC scope cl C X.env) fp) ifs (T0 X.K ct W0 RB mc))
    (he : ∀ (s : Shared) (H : Hp) (C : Addr) (cl : List (Str × Addr)) (fp : List Addr), PE (X.blk s H scope (compEnvC scope cl C X.env) fp) elt (T0 X.K ct W0 (RV X.K) me)) (hs : ∀ x, foldedSetIterable iter X.env x = pure x) :
    AE X ct W (.ListComp elt [⟨tg, iter, ifs, 0⟩] scope pos) (compM mi p (own.map (·.2)) mc me) := pe_imp (pe_lc hc hN hi ok hg ht he hs) fun σ H Q t => comp_rd hp t
/-- x = [..], the name a local -/
theorem as_setLc {i : Nat} {y : Str} {py : Pos} {elt tg iter : Expr} {ifs : List Expr} {scope : Scope} {own : List (Str × Nat)} {pos spos : Pos} {mi : EM IT} {p : Pat} {mc : EM Bool} {me : EM AV} (hc : X.calm = true) (hN : X.N.Nodup) (hy : X.N[i]? = some y) (hyl : X.env.scope.names.lookup y = some .local)
    (hsw : swapsWith (.ListComp elt [⟨tg, iter, ifs, 0⟩] scope pos) (some (.Name y py)) spos.line X.env = pure true) (hi : AI X ct W tg iter mi) (ok : BlkOk X.N X.env.scope scope own)
    (hp : ∀ i ∈ patSlots p, i ∈ own.map (·.2))
    (hg : ∀ (s : Shared) (H : Hp) (C : Addr) (cl : List (Str × Addr)) (fp : List Addr), PG (X.blk s H scope (compEnvC scope cl C X.env) fp) tg (gPat X.K p))
    (ht : ∀ (s : Shared) (H : Hp) (C : Addr) (cl : List (Str × Addr)) (fp : List Addr), PTs (X.blk s H scope (compEnvC scope cl C X.env) fp) ifs (T0 X.K ct W0 RB mc))
    (he : ∀ (s : Shared) (H : Hp) (C : Addr) (cl : List (Str × Addr)) (fp : List Addr), PE (X.blk s H scope (compEnvC scope cl C X.env) fp) elt (T0 X.K ct W0 (RV X.K) me)) (hs : ∀ x, foldedSetIterable iter X.env x = pure x) :
    AS X ct W (.Assign [.Name y py] (.ListComp elt [⟨tg, iter, ifs, 0⟩] scope pos) spos) (bdS (compM mi p (own.map (·.2)) mc me) (setS i)) := by
  refine ps_imp (ps_setLc hc hN hy hyl hsw hi ok hg ht he hs) fun D σ H t => ?_
  refine comp_rd hp (T0.mono (TS0.bd (R := RV X.K) t) fun v' H1 t1 => ?_)
  obtain ⟨ρ, s, h, v, r, q, c, p⟩ := t1
  exact p ρ H1 _ Ext.refl q (r.set i c)
end
end Ev
namespace Ev
open PySem PySem.Spec PyProof.Rows L2
/-! ### argument lists -/
def evsM : List (EM AV) → EM (List AV)
  | [] => ret []
  | m :: ms => bd m fun x => bd (evsM ms) fun xs => ret (x :: xs)
def notStar : Expr → Bool
  | .Starred _ _ => false
  | _ => true
theorem starEach_cons {e : Expr} {es : List Expr} {env : Env} (h : notStar e = true) : starEach (e :: es) env = (false, eval e env) :: starEach es env := by
  cases e <;> first | rfl | cases h
theorem star_none : ∀ {es : List Expr} {pos : Pos} {env : Env}, es.all notStar = true → (backTo pos (starEach es env)).any (·.1) = false
  | [], _, _, _ => rfl
  | e :: es, pos, env, h => by
    rw [List.all_cons, Bool.and_eq_true] at h
    rw [starEach_cons h.1]
    show (backTo pos (starEach es env)).any (·.1) = false
    exact star_none h.2
section
variable {X : Cx} {ct : CT} {W : WX}
theorem aa_bad {es : List Expr} : AA X ct W es bad := ⟨fun pos pins s σ H Q I q => by obtain ⟨_, _, _, _, _, p⟩ := q; exact p.elim⟩
theorem aa_nil : AA X ct W [] (evsM []) := pa_imp pa_nil fun σ H Q ⟨ρ, s, h, a, b, p⟩ => p ρ H [] Ext.refl b (VRs.nil.mpr rfl)
theorem aa_cons {e : Expr} {es : List Expr} {m : EM AV} {ms : List (EM AV)} (h : notStar e = true) (he : AE X ct W e m) (hs : AA X ct W es (evsM ms)) : AA X ct W (e :: es) (evsM (m :: ms)) := by
  refine pa_imp (pa_cons he hs (starEach_cons h)) fun σ H Q t => ?_
  refine T0.mono (T0.bd (R' := RV X.K) t) fun x' H1 t1 => ?_
  refine T0.mono (TP.bd0 (R' := RL X.K) mono_V t1) fun xs' H2 t2 => ?_
  exact TP.ret t2 fun ρ g hg => VRs.cons.mpr ⟨x', xs', rfl, hg.1, hg.2⟩
/-! ### displays -/
def tupM (ms : List (EM AV)) : EM AV := bd (evsM ms) fun xs => if xs.length ≤ sizeLine then ret (.tup xs) else bad
def lstM (ms : List (EM AV)) : EM AV := bd (evsM ms) fun xs => if xs.length ≤ sizeLine then alloc (.lst xs) else bad
theorem ae_tup {es : List Expr} {k : Nat} {pos : Pos} {ms : List (EM AV)} (h : AA X ct W es (evsM ms)) : AE X ct W (.Tuple es k pos) (tupM ms) := by
  refine pe_imp (pe_tup h) fun σ H Q t => ?_
  refine T0.mono (T0.bd (R' := RL X.K) t) fun xs' H1 t1 => ?_
  obtain ⟨ρ, s, h, xs, a, b, c, p⟩ := t1
  dsimp only at p
  split at p
  · rename_i hl
    exact ⟨by rw [← VRs.length c]; exact hl, new_tup b c p⟩
  · exact p.elim
theorem ae_lst {es : List Expr} {pos : Pos} {ms : List (EM AV)} (h : AA X ct W es (evsM ms)) : AE X ct W (.List es pos) (lstM ms) := by
  refine pe_imp (pe_lst h) fun σ H Q t => ?_
  refine T0.mono (T0.bd (R' := RL X.K) t) fun xs' H1 t1 => ?_
  obtain ⟨ρ, s, h, xs, a, b, c, p⟩ := t1
  dsimp only at p
  split at p
  · rename_i hl
    exact ⟨by rw [← VRs.length c]; exact hl, new_lst b c p⟩
  · exact p.elim
/-! ### calls of the built-in functions, by values -/
def OpN (X : Cx) (ct : CT) (r : List V → Hp → VK → Prop) (f : List AV → EM AV) : Prop :=
  ∀ (W : WX) (xs' : List V) (σ : L2.St) (H : Hp) (Q : VK), (∃ ρ s h xs, SR X.K ρ H s σ ∧ HR X.K ct ρ H h ∧ VRs X.K ρ H xs xs' ∧ post (RV X.K) X.K ct W ρ H σ Q (f xs s h)) → r xs' H Q
theorem tCB_of {r : List V → Hp → VK → Prop} {f : List AV → EM AV} {ms : EM (List AV)} (hr : OpN X ct r f) : ∀ (σ : L2.St) (H : Hp) (Q : VK), T0 X.K ct W (RV X.K) (bd ms f) σ H Q → tCB r (T0 X.K ct W (RL X.K) ms) σ H Q := fun σ H Q t =>
  T0.mono (T0.bd (R' := RL X.K) t) fun xs' H1 ⟨ρ, s, h, xs, a, b, c, p⟩ => hr W xs' σ H1 Q ⟨ρ, s, h, xs, a, b, c, p⟩
theorem OpN.or {r r' : List V → Hp → VK → Prop} {f f' g : List AV → EM AV} (h : OpN X ct r f) (h' : OpN X ct r' f') (c : ∀ xs s hh, g xs s hh = f xs s hh ∨ g xs s hh = f' xs s hh) : OpN X ct (fun xs H Q => r xs H Q ∨ r' xs H Q) g :=
  fun W xs' σ H Q ⟨ρ, s, hh, xs, a, b, c1, p⟩ => by
    rcases c xs s hh with e | e
    · rw [e] at p
      exact .inl (h W xs' σ H Q ⟨ρ, s, hh, xs, a, b, c1, p⟩)
    · rw [e] at p
      exact .inr (h' W xs' σ H Q ⟨ρ, s, hh, xs, a, b, c1, p⟩)
theorem VRs.one_inv {K : PySem.W.Frag} {ρ : List Addr} {H : Hp} {x : AV} {ys : List V} (h : VRs K ρ H [x] ys) : ∃ y, ys = [y] ∧ VR K ρ H x y := by
  obtain ⟨y, r, rfl, h1, h2⟩ := VRs.cons.mp h
  rw [VRs.nil.mp h2]
  exact ⟨y, rfl, h1⟩
theorem VRs.two_inv {K : PySem.W.Frag} {ρ : List Addr} {H : Hp} {x x2 : AV} {ys : List V} (h : VRs K ρ H [x, x2] ys) : ∃ y y2, ys = [y, y2] ∧ VR K ρ H x y ∧ VR K ρ H x2 y2 := by
  obtain ⟨y, r, rfl, h1, h2⟩ := VRs.cons.mp h
  obtain ⟨y2, rfl, h3⟩ := VRs.one_inv h2
  exact ⟨y, y2, rfl, h1, h3⟩
def lenB (x : AV) (h : AH) : Option AV := match x with
  | .str z => if z.length ≤ sizeLine then some (.int z.length) else none
  | x => (seqOf h x).map fun xs => .int xs.length
def lenA : List AV → EM AV
  | [x] => rd (lenB x)
  | _ => bad
theorem opN_len : OpN X ct (fun xs H Q => ∃ x n, xs = [x] ∧ LenV X.K x H n ∧ Q (.int n) H) lenA := by
  intro W xs' σ H Q ⟨ρ, s, h, xs, a, b, c, p⟩
  unfold lenA at p
  split at p
  · rename_i x
    obtain ⟨y, rfl, cy⟩ := VRs.one_inv c
    obtain ⟨z, e, q⟩ := post_rd (v := y) b p
    unfold lenB at e
    split at e
    · rename_i z
      split at e
      · rename_i hl
        cases e
        rw [VR.str.mp cy]
        exact ⟨_, z.length, rfl, ⟨hl, rfl⟩, q _ (VR.int.mpr rfl)⟩
      · cases e
    · obtain ⟨zs, e1, rfl⟩ := Option.map_eq_some_iff.mp e
      obtain ⟨r, ys, rfl, h1, h2⟩ := seqOf_ok b cy e1
      refine ⟨_, ys.length, rfl, ?_, q _ (VR.int.mpr (by rw [h2.length]))⟩
      rcases h1 with h1 | h1
      · exact .inl ⟨ys, h1, rfl⟩
      · exact .inr ⟨ys, h1, rfl⟩
  · exact p.elim
def intA : List AV → EM AV
  | [.int i] => ret (.int i)
  | [.bl k] => ret (.int (if k then 1 else 0))
  | _ => bad
theorem opN_int : OpN X ct (fun xs H Q => (∃ i, xs = [.int i] ∧ Q (.int i) H) ∨ ∃ k, xs = [.bl k] ∧ Q (.int (if k then 1 else 0)) H) intA := by
  intro W xs' σ H Q ⟨ρ, s, h, xs, a, b, c, p⟩
  unfold intA at p
  split at p
  · obtain ⟨y, rfl, cy⟩ := VRs.one_inv c
    rw [VR.int.mp cy]
    exact .inl ⟨_, rfl, p ρ H _ Ext.refl b (VR.int.mpr rfl)⟩
  · obtain ⟨y, rfl, cy⟩ := VRs.one_inv c
    rw [VR.bl.mp cy]
    exact .inr ⟨_, rfl, p ρ H _ Ext.refl b (VR.int.mpr rfl)⟩
  · exact p.elim
def absA : List AV → EM AV
  | [.int i] => ret (.int (if i < 0 then -i else i))
  | _ => bad
theorem opN_abs : OpN X ct (fun xs H Q => ∃ i, xs = [.int i] ∧ Q (.int (if i < 0 then -i else i)) H) absA := by
  intro W xs' σ H Q ⟨ρ, s, h, xs, a, b, c, p⟩
  unfold absA at p
  split at p
  · obtain ⟨y, rfl, cy⟩ := VRs.one_inv c
    rw [VR.int.mp cy]
    exact ⟨_, rfl, p ρ H _ Ext.refl b (VR.int.mpr rfl)⟩
  · exact p.elim
/-- a list's ints -/
def intsOf : List AV → Option (List Int)
  | [] => some []
  | .int i :: r => match intsOf r with
    | some ns => some (i :: ns)
    | none => none
  | _ :: _ => none
def blsOf : List AV → Option (List Bool)
  | [] => some []
  | .bl i :: r => match blsOf r with
    | some ns => some (i :: ns)
    | none => none
  | _ :: _ => none
theorem intsOf_ok {K : PySem.W.Frag} {ρ : List Addr} {H : Hp} : ∀ {xs : List AV} {ns : List Int} {ys : List V}, intsOf xs = some ns → VRs K ρ H xs ys → ys = ns.map V.int
  | [], ns, ys, e, c => by
    rw [intsOf] at e
    cases e
    exact VRs.nil.mp c
  | x :: xs, ns, ys, e, c => by
    obtain ⟨y, r, rfl, h1, h2⟩ := VRs.cons.mp c
    unfold intsOf at e
    split at e
    · cases ‹_ :: _ = []›
    · rename_i i r' e0
      cases e0
      split at e
      · rename_i ms e1
        cases e
        rw [VR.int.mp h1, intsOf_ok e1 h2]
        rfl
      · cases e
    · cases e
theorem blsOf_ok {K : PySem.W.Frag} {ρ : List Addr} {H : Hp} : ∀ {xs : List AV} {ns : List Bool} {ys : List V}, blsOf xs = some ns → VRs K ρ H xs ys → ys = ns.map V.bl
  | [], ns, ys, e, c => by
    rw [blsOf] at e
    cases e
    exact VRs.nil.mp c
  | x :: xs, ns, ys, e, c => by
    obtain ⟨y, r, rfl, h1, h2⟩ := VRs.cons.mp c
    unfold blsOf at e
    split at e
    · cases ‹_ :: _ = []›
    · rename_i i r' e0
      cases e0
      split at e
      · rename_i ms e1
        cases e
        rw [VR.bl.mp h1, blsOf_ok e1 h2]
        rfl
      · cases e
    · cases e
/-- the items of a list object alone -/
def lstB (x : AV) (h : AH) : Option (List AV) := match x with
  | .ref i => lstOf h i
  | _ => none
theorem lstB_ok {K : PySem.W.Frag} {ρ : List Addr} {H : Hp} {h : AH} {x : AV} {x' : V} {xs : List AV} (r : HR K ct ρ H h) (c : VR K ρ H x x') (e : lstB x h = some xs) : ∃ a ys, x' = .ref a ∧ SqL K H a ys ∧ VRs K ρ H xs ys := by
  unfold lstB at e
  split at e
  · obtain ⟨a, h1, rfl⟩ := VR.ref.mp c
    obtain ⟨ys, h2, h3⟩ := lstOf_ok r h1 e
    exact ⟨a, ys, rfl, h2, h3⟩
  · cases e
/-- a function of a list's ints -/
def onIntsL (f : List Int → Option AV) : List AV → EM AV
  | [x] => rd fun h => match lstB x h with
    | some xs => match intsOf xs with
      | some ns => f ns
      | none => none
    | none => none
  | _ => bad
theorem onIntsL_inv {f : List Int → Option AV} {σ : L2.St} {H : Hp} {Q : VK} {xs' : List V} (t : ∃ ρ s h xs, SR X.K ρ H s σ ∧ HR X.K ct ρ H h ∧ VRs X.K ρ H xs xs' ∧ post (RV X.K) X.K ct W ρ H σ Q (onIntsL f xs s h)) :
    ∃ a ns z, xs' = [.ref a] ∧ SqL X.K H a (ns.map V.int) ∧ f ns = some z ∧ ∃ ρ, ∀ v, VR X.K ρ H z v → Q v H := by
  obtain ⟨ρ, s, h, xs, a, b, c, p⟩ := t
  unfold onIntsL at p
  split at p
  · rename_i x
    obtain ⟨y, rfl, cy⟩ := VRs.one_inv c
    obtain ⟨z, e, q⟩ := post_rd (v := y) b p
    split at e
    · rename_i xs e1
      split at e
      · rename_i ns e2
        obtain ⟨d, ys, rfl, h1, h2⟩ := lstB_ok b cy e1
        rw [intsOf_ok e2 h2] at h1
        exact ⟨d, ns, z, rfl, h1, e, ρ, q⟩
      · cases e
    · cases e
  · exact p.elim
def sumA : List AV → EM AV := onIntsL fun ns => some (.int ns.sum)
theorem opN_sum : OpN X ct (rSum X.K) sumA := fun W xs' σ H Q t => by
  obtain ⟨a, ns, z, rfl, h, e, ρ, q⟩ := onIntsL_inv t
  cases e
  exact ⟨a, ns, rfl, h, q _ (VR.int.mpr rfl)⟩
def greatest : List Int → Option Int
  | [] => none
  | n :: r => some (r.foldl max n)
def least : List Int → Option Int
  | [] => none
  | n :: r => some (r.foldl min n)
theorem foldl_max_ge : ∀ (r : List Int) (n : Int), n ≤ r.foldl max n ∧ ∀ y ∈ r, y ≤ r.foldl max n
  | [], n => ⟨Int.le_refl _, fun _ h => (nomatch h)⟩
  | m :: r, n => by
    obtain ⟨h1, h2⟩ := foldl_max_ge r (max n m)
    rw [List.foldl_cons]
    refine ⟨by omega, fun y hy => ?_⟩
    rcases List.mem_cons.mp hy with rfl | hy
    · omega
    · exact h2 y hy
theorem foldl_min_le : ∀ (r : List Int) (n : Int), r.foldl min n ≤ n ∧ ∀ y ∈ r, r.foldl min n ≤ y
  | [], n => ⟨Int.le_refl _, fun _ h => (nomatch h)⟩
  | m :: r, n => by
    obtain ⟨h1, h2⟩ := foldl_min_le r (min n m)
    rw [List.foldl_cons]
    refine ⟨by omega, fun y hy => ?_⟩
    rcases List.mem_cons.mp hy with rfl | hy
    · omega
    · exact h2 y hy
def maxA : List AV → EM AV
  | [.int i, .int j] => ret (.int (if j > i then j else i))
  | [x] => onIntsL (fun ns => (greatest ns).map AV.int) [x]
  | _ => bad
def minA : List AV → EM AV
  | [.int i, .int j] => ret (.int (if j < i then j else i))
  | [x] => onIntsL (fun ns => (least ns).map AV.int) [x]
  | _ => bad
abbrev rMax2 : List V → Hp → VK → Prop := fun xs H Q => ∃ i j, xs = [.int i, .int j] ∧ Q (.int (if j > i then j else i)) H
abbrev rMin2 : List V → Hp → VK → Prop := fun xs H Q => ∃ i j, xs = [.int i, .int j] ∧ Q (.int (if j < i then j else i)) H
theorem opN_max : OpN X ct (fun xs H Q => rMax2 xs H Q ∨ rMax X.K xs H Q) maxA := fun W xs' σ H Q t => by
  obtain ⟨ρ, s, h, xs, a, b, c, p⟩ := t
  unfold maxA at p
  split at p
  · obtain ⟨y, y2, rfl, h1, h2⟩ := VRs.two_inv c
    rw [VR.int.mp h1, VR.int.mp h2]
    exact .inl ⟨_, _, rfl, p ρ H _ Ext.refl b (VR.int.mpr rfl)⟩
  · obtain ⟨d, ns, z, rfl, h, e, ρ', q⟩ := onIntsL_inv (W := W) ⟨ρ, s, h, _, a, b, c, p⟩
    obtain ⟨k, e1, rfl⟩ := Option.map_eq_some_iff.mp e
    cases ns with
    | nil => cases e1
    | cons n r =>
      cases e1
      refine .inr ⟨d, n :: r, rfl, h, by simp, fun m hm hall => ?_⟩
      obtain ⟨g1, g2⟩ := foldl_max_ge r n
      have e2 : r.foldl max n = m := by
        have hle : m ≤ r.foldl max n := by
          rcases List.mem_cons.mp hm with rfl | hm
          · exact g1
          · exact g2 m hm
        have hge : r.foldl max n ≤ m := by
          have key : ∀ (l : List Int) (k : Int), k ≤ m → (∀ y ∈ l, y ≤ m) → l.foldl max k ≤ m := by
            intro l
            induction l with
            | nil => intro k hk _; exact hk
            | cons x l ih =>
              intro k hk hl
              exact ih (max k x) (by have := hl x (by simp); omega) fun y hy => hl y (by simp [hy])
          exact key r n (hall n (by simp)) fun y hy => hall y (by simp [hy])
        omega
      rw [← e2]
      exact q _ (VR.int.mpr rfl)
  · exact p.elim
theorem opN_min : OpN X ct (fun xs H Q => rMin2 xs H Q ∨ rMin X.K xs H Q) minA := fun W xs' σ H Q t => by
  obtain ⟨ρ, s, h, xs, a, b, c, p⟩ := t
  unfold minA at p
  split at p
  · obtain ⟨y, y2, rfl, h1, h2⟩ := VRs.two_inv c
    rw [VR.int.mp h1, VR.int.mp h2]
    exact .inl ⟨_, _, rfl, p ρ H _ Ext.refl b (VR.int.mpr rfl)⟩
  · obtain ⟨d, ns, z, rfl, h, e, ρ', q⟩ := onIntsL_inv (W := W) ⟨ρ, s, h, _, a, b, c, p⟩
    obtain ⟨k, e1, rfl⟩ := Option.map_eq_some_iff.mp e
    cases ns with
    | nil => cases e1
    | cons n r =>
      cases e1
      refine .inr ⟨d, n :: r, rfl, h, by simp, fun m hm hall => ?_⟩
      obtain ⟨g1, g2⟩ := foldl_min_le r n
      have e2 : r.foldl min n = m := by
        have hge : r.foldl min n ≤ m := by
          rcases List.mem_cons.mp hm with rfl | hm
          · exact g1
          · exact g2 m hm
        have hle : m ≤ r.foldl min n := by
          have key : ∀ (l : List Int) (k : Int), m ≤ k → (∀ y ∈ l, m ≤ y) → m ≤ l.foldl min k := by
            intro l
            induction l with
            | nil => intro k hk _; exact hk
            | cons x l ih =>
              intro k hk hl
              exact ih (min k x) (by have := hl x (by simp); omega) fun y hy => hl y (by simp [hy])
          exact key r n (hall n (by simp)) fun y hy => hall y (by simp [hy])
        omega
      rw [← e2]
      exact q _ (VR.int.mpr rfl)
  · exact p.elim
def onBlsL (f : List Bool → Bool) : List AV → EM AV
  | [x] => rd fun h => match lstB x h with
    | some xs => (blsOf xs).map fun bs => AV.bl (f bs)
    | none => none
  | _ => bad
def anyA : List AV → EM AV := onBlsL fun bs => bs.any id
def allA : List AV → EM AV := onBlsL fun bs => bs.all id
theorem onBlsL_inv {f : List Bool → Bool} {σ : L2.St} {H : Hp} {Q : VK} {xs' : List V} (t : ∃ ρ s h xs, SR X.K ρ H s σ ∧ HR X.K ct ρ H h ∧ VRs X.K ρ H xs xs' ∧ post (RV X.K) X.K ct W ρ H σ Q (onBlsL f xs s h)) :
    ∃ a bs, xs' = [.ref a] ∧ SqL X.K H a (bs.map V.bl) ∧ Q (.bl (f bs)) H := by
  obtain ⟨ρ, s, h, xs, a, b, c, p⟩ := t
  unfold onBlsL at p
  split at p
  · rename_i x
    obtain ⟨y, rfl, cy⟩ := VRs.one_inv c
    obtain ⟨z, e, q⟩ := post_rd (v := y) b p
    split at e
    · rename_i xs e1
      obtain ⟨bs, e2, rfl⟩ := Option.map_eq_some_iff.mp e
      obtain ⟨d, ys, rfl, h1, h2⟩ := lstB_ok b cy e1
      rw [blsOf_ok e2 h2] at h1
      exact ⟨d, bs, rfl, h1, q _ (VR.bl.mpr rfl)⟩
    · cases e
  · exact p.elim
theorem opN_any : OpN X ct (rAny X.K) anyA := fun W xs' σ H Q t => onBlsL_inv t
theorem opN_all : OpN X ct (rAll X.K) allA := fun W xs' σ H Q t => onBlsL_inv t
def listA : List AV → EM AV
  | [x] => fun s h => match seqOf h x with
    | some xs => alloc (.lst xs) s h
    | none => .bad
  | _ => bad
theorem opN_list : OpN X ct (fun xs H Q => ∃ p ys, xs = [.ref p] ∧ (SqL X.K H p ys ∨ SqT X.K H p ys) ∧ ∀ l, H l = none → Q (.ref l) (upd H l (.lst ys))) listA := by
  intro W xs' σ H Q ⟨ρ, s, h, xs, a, b, c, p⟩
  unfold listA at p
  split at p
  · rename_i x
    obtain ⟨y, rfl, cy⟩ := VRs.one_inv c
    split at p
    · rename_i zs e
      obtain ⟨r, ys, rfl, h1, h2⟩ := seqOf_ok b cy e
      exact ⟨r, ys, rfl, h1, new_lst b h2 p⟩
    · exact p.elim
  · exact p.elim
def tupleA : List AV → EM AV
  | [.tup xs] => ret (.tup xs)
  | [x] => fun s h => match lstB x h with
    | some xs => .ok (.tup xs) h
    | none => .bad
  | _ => bad
theorem opN_tuple : OpN X ct (fun xs H Q => ∃ p ys, xs = [.ref p] ∧ ((SqL X.K H p ys ∧ ∀ l, H l = none → Q (.ref l) (upd H l (.tup ys))) ∨ (SqT X.K H p ys ∧ Q (.ref p) H))) tupleA := by
  intro W xs' σ H Q ⟨ρ, s, h, xs, a, b, c, p⟩
  unfold tupleA at p
  split at p
  · obtain ⟨y, rfl, cy⟩ := VRs.one_inv c
    obtain ⟨r, ys, rfl, h1, h2⟩ := VR.tup.mp cy
    exact ⟨r, ys, rfl, .inr ⟨h1, p ρ H _ Ext.refl b cy⟩⟩
  · obtain ⟨y, rfl, cy⟩ := VRs.one_inv c
    dsimp only at p
    split at p
    · rename_i zs e
      obtain ⟨r, ys, rfl, h1, h2⟩ := lstB_ok b cy e
      exact ⟨r, ys, rfl, .inl ⟨h1, new_tup b h2 p⟩⟩
    · exact p.elim
  · exact p.elim
/-- what is known of a built-in: a function or a class -/
structure BltOk (X : Cx) (ct : CT) (x : Str) (f : List AV → EM AV) : Prop where
  dbg : (x == ("__debug__" : Str)) = false
  nm : x ≠ "__name__"
  rule : (∃ id r, bootBuiltins x = some (.builtin id) ∧ CallR X (.builtin id) r ∧ OpN X ct r f) ∨ ∃ T r, bootBuiltins x = some (.type T) ∧ CallR X (.type T) r ∧ OpN X ct r f
def blts : List (Str × (List AV → EM AV)) := [("len", lenA), ("int", intA), ("abs", absA), ("sum", sumA), ("max", maxA), ("min", minA), ("any", anyA), ("all", allA), ("list", listA), ("tuple", tupleA)]
theorem blt_ok (hc : X.calm = true) {x : Str} {f : List AV → EM AV} (h : (x, f) ∈ blts) : BltOk X ct x f := by
  simp only [blts, List.mem_cons, List.mem_nil_iff, or_false, Prod.mk.injEq] at h
  rcases h with ⟨rfl, rfl⟩ | ⟨rfl, rfl⟩ | ⟨rfl, rfl⟩ | ⟨rfl, rfl⟩ | ⟨rfl, rfl⟩ | ⟨rfl, rfl⟩ | ⟨rfl, rfl⟩ | ⟨rfl, rfl⟩ | ⟨rfl, rfl⟩ | ⟨rfl, rfl⟩ <;> refine ⟨by decide +kernel, by decide +kernel, ?_⟩
  · exact .inl ⟨_, _, by decide +kernel, call_len, opN_len⟩
  · exact .inr ⟨_, _, by decide +kernel, call_int1, opN_int⟩
  · exact .inl ⟨_, _, by decide +kernel, call_abs, opN_abs⟩
  · exact .inl ⟨_, _, by decide +kernel, cr_sum hc, opN_sum⟩
  · exact .inl ⟨_, _, by decide +kernel, (call_max2 hc).or (cr_max hc), opN_max⟩
  · exact .inl ⟨_, _, by decide +kernel, (call_min2 hc).or (cr_min hc), opN_min⟩
  · exact .inl ⟨_, _, by decide +kernel, cr_any hc, opN_any⟩
  · exact .inl ⟨_, _, by decide +kernel, cr_all hc, opN_all⟩
  · exact .inr ⟨_, _, by decide +kernel, call_list_of, opN_list⟩
  · exact .inr ⟨_, _, by decide +kernel, call_tuple_of, opN_tuple⟩
theorem ae_blt {x : Str} {p pos : Pos} {e : Expr} {es : List Expr} {f : List AV → EM AV} {ms : EM (List AV)} (k : BltOk X ct x f) (hg : Gl X x) (hm : X.mg x = none) (hs : (e :: es).all notStar = true) (ha : AA X ct W (e :: es) ms) :
    AE X ct W (.Call (.Name x p) (e :: es) [] pos) (bd ms f) := by
  rw [List.all_cons, Bool.and_eq_true] at hs
  rcases k.rule with ⟨id, r, hv, hc, hr⟩ | ⟨T, r, hv, hc, hr⟩
  · exact pe_imp (pe_callB hc hg hm hv ha k.nm k.dbg (starEach_cons hs.1) (star_none hs.2)) (tCB_of hr)
  · exact pe_imp (pe_callTy hc hg hm hv ha k.nm k.dbg (starEach_cons hs.1) (star_none hs.2)) (tCB_of hr)
end
end Ev
namespace Ev
open PySem PySem.Spec PyProof.Rows L2
/-! ### what a def of the text promises: what the evaluator says -/
abbrev CF := Str → List AV → AH → RE AV
def spU (K : PySem.W.Frag) (ct : CT) (f : List AV → AH → RE AV) (n : Nat) : Sp := fun vs H Q E => vs.length = n ∧ ∃ ρ h xs, HR K ct ρ H h ∧ VRs K ρ H xs vs ∧ match f xs h with
  | .ok v h' => ∀ ρ' H' v', Ext ρ H ρ' H' → HR K ct ρ' H' h' → VR K ρ' H' v v' → Q v' H'
  | .exc c fs h' => ∀ ρ' H' cls d, Ext ρ H ρ' H' → HR K ct ρ' H' h' → ExR K ct ρ' H' c fs cls d → E cls d H'
  | .bad => False
/-- a def that is called by the evaluator's name key; f its address -/
structure FnI (P : Program) (w : World) (K : PySem.W.Frag) (mg : Str → Option Value) (base : Heap) (ct : CT) (cf : CF) (lev : Nat) (key : Str) (f : Addr) : Prop where
  ok : ∃ fd ps, FnOk P w K mg base (L2.CX P w) lev f fd ps (spU K ct (fun xs h => if xs.length = ps.length then cf key xs h else .bad) ps.length) ∧ Binds K fd ps []
  kp : PySem.W.keepIn K (.ref f) = true
section
variable {X : Cx} {ct : CT} {W : WX}
/-- a call, by the evaluator -/
def callM (cf : CF) (key : Str) (ms : EM (List AV)) : EM AV := bd ms fun xs _ h => cf key xs h
theorem sp_of {f : List AV → AH → RE AV} {n : Nat} {σ : L2.St} {H : Hp} {Q : VK} {vs : List V} {ρ : List Addr} {h : AH} {s : Sl} {xs : List AV} (hl : vs.length = n) (b : HR X.K ct ρ H h) (c : VRs X.K ρ H xs vs) (p : post (RV X.K) X.K ct W ρ H σ Q (f xs h)) : spU X.K ct (fun xs h => if xs.length = n then f xs h else .bad) n vs H Q (WE W σ) := by
  refine ⟨hl, ρ, h, xs, b, c, ?_⟩
  dsimp only
  rw [if_pos (c.length.trans hl)]
  cases e : f xs h with
  | ok v h' => rw [e] at p; exact p
  | exc c fs h' => rw [e] at p; exact p
  | bad => rw [e] at p; exact p
/-- f(e, ..) of a def of the text: the number of the arguments n is the def's -/
theorem ae_call {cf : CF} {lev : Nat} {x key : Str} {f : Addr} {p pos : Pos} {e : Expr} {es : List Expr} {ms : EM (List AV)} {ps : List Str} {fd : FuncData} (tk : Takes X W)
    (F : FnOk X.prog X.w X.K X.mg X.base (L2.CX X.prog X.w) lev f fd ps (spU X.K ct (fun xs h => if xs.length = ps.length then cf key xs h else .bad) ps.length)) (hb : Binds X.K fd ps []) (hk : PySem.W.keepIn X.K (.ref f) = true)
    (hr : Room lev X.A) (hg : Gl X x) (hm : X.mg x = some (.ref f)) (hd : (x == ("__debug__" : Str)) = false) (hs : (e :: es).all notStar = true) (ha : AA X ct W (e :: es) ms) (hn : ps.length = (e :: es).length) (hlen : ∀ s h xs h', ms s h = .ok xs h' → xs.length = (e :: es).length) :
    AE X ct W (.Call (.Name x p) (e :: es) [] pos) (callM cf key ms) := by
  rw [List.all_cons, Bool.and_eq_true] at hs
  refine pe_imp (pe_callSD (E := WE W) (dvs := []) (ds := []) F hr hg hm hk hb .nil (fun σ => passAt tk σ) ha hd (starEach_cons hs.1) (star_none hs.2)) fun σ H Q t => ?_
  obtain ⟨ρ, s, h, a, b, pp⟩ := t
  refine ⟨ρ, s, h, a, b, ?_⟩
  unfold callM Ev.bd at pp
  cases e1 : ms s h with
  | bad => rw [e1] at pp; exact pp
  | exc c fs h1 => rw [e1] at pp; exact pp
  | ok xs h1 =>
    rw [e1] at pp
    intro ρ' H' vs ex hr' hv
    show spU _ _ _ _ (vs ++ []) H' Q (WE W σ)
    rw [List.append_nil]
    exact sp_of (s := s) (by rw [← VRs.length hv, hlen s h xs h1 e1, hn]) hr' hv (post.ext ex pp)
theorem pe_callSD0 {CX : CXT} {k : Nat} {f : Addr} {fd : FuncData} {ps : List Str} {sp : Sp} {E : L2.St → XK} {x : Str} {p pos : Pos} (F : FnOk X.prog X.w X.K X.mg X.base CX k f fd ps sp) (hr : Room k X.A) (hg : Gl X x) (hm : X.mg x = some (.ref f)) (hk : PySem.W.keepIn X.K (.ref f) = true) (hb : Binds X.K fd ps []) (hx : ∀ σ, PassesAt CX X σ (E σ)) (hdb : (x == ("__debug__" : Str)) = false) :
    PE X (.Call (.Name x p) [] [] pos) (fun σ H Q => sp [] H Q (E σ)) := by
  refine ⟨fun pins s σ H Q I h => ?_⟩
  refine wpAny_Call_Name_kw (ld_glob I hg hm ?_ hdb)
  exact PySem.W.callWith_K0 I.kIn hk (run_fnSD (us := []) (vs := []) (dvs := []) (ds := []) F hr hb .nil (hx σ) I .nil h)
theorem ae_call0 {cf : CF} {lev : Nat} {x key : Str} {f : Addr} {p pos : Pos} {ps : List Str} {fd : FuncData} (tk : Takes X W)
    (F : FnOk X.prog X.w X.K X.mg X.base (L2.CX X.prog X.w) lev f fd ps (spU X.K ct (fun xs h => if xs.length = ps.length then cf key xs h else .bad) ps.length)) (hb : Binds X.K fd ps []) (hk : PySem.W.keepIn X.K (.ref f) = true)
    (hr : Room lev X.A) (hg : Gl X x) (hm : X.mg x = some (.ref f)) (hd : (x == ("__debug__" : Str)) = false) (hn : ps.length = 0) :
    AE X ct W (.Call (.Name x p) [] [] pos) (callM cf key (evsM [])) := by
  refine pe_imp (pe_callSD0 (E := WE W) F hr hg hm hk hb (fun σ => passAt tk σ) hd) fun σ H Q t => ?_
  obtain ⟨ρ, s, h, a, b, pp⟩ := t
  exact sp_of (s := s) (xs := []) (vs := []) (by rw [hn]; rfl) b (VRs.nil.mpr rfl) pp
theorem evs_len : ∀ {ms : List (EM AV)} {s : Sl} {h : AH} {xs : List AV} {h' : AH}, evsM ms s h = .ok xs h' → xs.length = ms.length
  | [], s, h, xs, h', e => by cases e; rfl
  | m :: ms, s, h, xs, h', e => by
    unfold evsM Ev.bd at e
    split at e
    · rename_i a h1 e1
      dsimp only at e
      split at e
      · rename_i ys h2 e2
        cases e
        simp [evs_len e2]
      · cases e
      · cases e
    · cases e
    · cases e
/-! ### subscripts as targets -/
def setIx (o i v : AV) (h : AH) : Option AH := match o with
  | .ref p => match h[p]? with
    | some (.lst xs) => match i with
      | .int k => match ixN xs.length k with
        | some j => some (h.set p (.lst (xs.set j v)))
        | none => none
      | _ => none
    | some (.dct kvs) => if (isKd kvs && (keyV i).isSome && decide (kvs.length < sizeLine)) = true then some (h.set p (.dct (dPut kvs i v))) else none
    | _ => none
  | _ => none
/-- o[i] = v by values -/
def stIxM (o i v : AV) : SM := fun s h => match setIx o i v h with
  | some h' => .nx s h'
  | none => .bad
def rSetD : TSet := fun o i v H Q => ∃ a H', o = .ref a ∧ DPut H a i v H' ∧ Q H'
theorem set_dict (hu : X.A.units + 1 < cLine) : PSet X rSetD := by
  intro pins s σ H o i v ov iv u Q I ro ri rv h
  obtain ⟨a, H', rfl, g, q⟩ := h
  cases ro
  exact d_setItem hu I g ri rv fun s' I' => ⟨H', I', q⟩
theorem PSet.or {r r' : TSet} (h : PSet X r) (h' : PSet X r') : PSet X (fun o i v H Q => r o i v H Q ∨ r' o i v H Q) := by
  intro pins s σ H o i v ov iv u Q I ro ri rv q
  rcases q with q | q
  · exact h pins s σ H o i v ov iv u Q I ro ri rv q
  · exact h' pins s σ H o i v ov iv u Q I ro ri rv q
abbrev rSetAll : TSet := fun o i v H Q => rSetL o i v H Q ∨ rSetD o i v H Q
theorem setIx_ok {K : PySem.W.Frag} {ρ : List Addr} {H : Hp} {h h' : AH} {o i v : AV} {o' i' v' : V} {Q : Hp → Prop} (b : HR K ct ρ H h) (co : VR K ρ H o o') (ci : VR K ρ H i i') (cv : VR K ρ H v v') (e : setIx o i v h = some h') (q : ∀ H', Ext ρ H ρ H' → HR K ct ρ H' h' → Q H') : rSetAll o' i' v' H Q := by
  unfold setIx at e
  split at e
  · rename_i p
    obtain ⟨a, h1, rfl⟩ := VR.ref.mp co
    split at e
    · rename_i xs e1
      split at e
      · rename_i k
        split at e
        · rename_i j ej
          cases e
          obtain ⟨ys, h2, h3⟩ := lst_own b h1 e1
          refine .inl ⟨a, ys, k, j, rfl, VR.int.mp ci, h2, by rw [← h3.length]; exact ej, q _ (Ext.write h2 trivial) (b.write h1 (notFro e1 (by simp)) h2 trivial ⟨_, upd_same, ?_⟩ (by simp))⟩
          exact (h3.set j cv).mono (Ext.write h2 trivial)
        · cases e
      · cases e
    · rename_i kvs e1
      split at e
      · rename_i hc
        cases e
        rw [Bool.and_eq_true, Bool.and_eq_true] at hc
        obtain ⟨⟨hc1, hc2⟩, hc3⟩ := hc
        obtain ⟨kk, ek⟩ := Option.isSome_iff_exists.mp hc2
        obtain ⟨gs, h2, h3⟩ := (b.ob _ _ _ h1 e1).isK hc1
        rw [keyV_ok ek ci]
        refine .inr ⟨a, _, rfl, DPut.k h2 (by rw [← h3.length]; exact of_decide_eq_true hc3), q _ (Ext.write h2 trivial) (b.write h1 (notFro e1 (by simp)) h2 trivial (.inl ⟨_, upd_same, ?_⟩) (by simp))⟩
        exact DKR.mono (Ext.write h2 trivial) (dPut_ok ek cv h3)
      · cases e
    · cases e
  · cases e
/-- the target o[i] -/
def subG (mo mi : EM AV) (v : AV) : SM := bdS mo fun o => bdS mi fun i => stIxM o i v
def notSlice : Expr → Bool
  | .Slice _ _ _ _ => false
  | _ => true
theorem noSlice_assign {o i : Expr} {pos : Pos} {env : Env} (h : notSlice i = true) (v : Value) : assign (.Subscript o i pos) env v = (do
      let ov ← holding [v] (eval o env)
      let iv ← holding [v, ov] (eval i env)
      standAt pos
      holding [v, ov, iv] (setItem ov iv v)
      release [v, ov, iv] []) := by
  cases i <;> first | rfl | cases h
theorem ag_sub {o i : Expr} {pos : Pos} {mo mi : EM AV} (hu : X.A.units + 1 < cLine) (ho : AE X ct W o mo) (hi : AE X ct W i mi) (hn : notSlice i = true) : AG X ct W (.Subscript o i pos) (subG mo mi) := by
  refine pg_imp (pg_sub ho hi (PSet.or set_list (set_dict hu)) (noSlice_assign hn)) fun v' σ H Q t => ?_
  obtain ⟨ρ, s, h, v, a, b, c, p⟩ := t
  refine ⟨ρ, s, h, a, b, ?_⟩
  unfold subG bdS at p
  cases e1 : mo s h with
  | bad => rw [e1] at p; exact p
  | exc c fs h1 =>
    rw [e1] at p
    exact fun ρ' H' cls d x y z => p ρ' H' σ cls d x y (a.mono x) z
  | ok ov h1 =>
    rw [e1] at p
    intro ρ1 H1 o' ex1 hr1 co
    refine ⟨ρ1, s, h1, a.mono ex1, hr1, ?_⟩
    dsimp only at p
    cases e2 : mi s h1 with
    | bad => rw [e2] at p; exact p
    | exc c fs h2 =>
      rw [e2] at p
      exact fun ρ' H' cls d x y z => p ρ' H' σ cls d (ex1.trans x) y ((a.mono ex1).mono x) z
    | ok iv h2 =>
      rw [e2] at p
      intro ρ2 H2 i' ex2 hr2 ci
      dsimp only at p
      unfold stIxM at p
      split at p
      · rename_i h3 e3
        refine setIx_ok hr2 (co.mono ex2) ci ((c.mono ex1).mono ex2) e3 fun H3 ex3 hr3 => ?_
        exact p ρ2 H3 σ ((ex1.trans ex2).trans ex3) hr3 (((a.mono ex1).mono ex2).mono ex3)
      · exact p.elim
/-! ### several targets -/
def gsM : List (AV → SM) → List AV → SM
  | [], [] => skipS
  | g :: gs, v :: vs => seqS (g v) (gsM gs vs)
  | _, _ => badS
/-- (a, b, ..) = a tuple -/
def tupG (gs : List (AV → SM)) (v : AV) : SM := match v with
  | .tup vs => gsM gs vs
  | _ => badS
/-- .. where each target's own flow is the plain one -/
def onlyNx (g : AV → SM) : AV → SM := fun v s h => match g v s h with
  | .nx s' h' => .nx s' h'
  | .exc c fs s' h' => .exc c fs s' h'
  | _ => .bad
def TGs0 (K : PySem.W.Frag) (ct : CT) (W : WX) (gs : List (AV → SM)) : TGs := fun vs' σ H Q => ∃ ρ s h vs, SR K ρ H s σ ∧ HR K ct ρ H h ∧ VRs K ρ H vs vs' ∧ postS K ct W ρ H { nx := Q, rt := fun _ _ => False } (gsM gs vs s h)
theorem pgs_imp {e : List Expr} {t t' : TGs} (h : PGs X e t) (i : ∀ v σ H Q, t' v σ H Q → t v σ H Q) : PGs X e t' := ⟨fun pins s σ H v u Q I r q => h.run pins s σ H v u Q I r (i v σ H Q q)⟩
theorem ags_nil : PGs X [] (TGs0 X.K ct W []) := by
  refine pgs_imp pgs_nil fun vs' σ H Q t => ?_
  obtain ⟨ρ, s, h, vs, a, b, c, p⟩ := t
  cases vs with
  | nil => exact ⟨VRs.nil.mp c, p ρ H σ Ext.refl b a⟩
  | cons _ _ => exact p.elim
theorem assignEach_cons {e : Expr} {es : List Expr} {env : Env} (h : notStar e = true) : assignEach (e :: es) env = (false, assign e env) :: assignEach es env := by
  cases e <;> first | rfl | cases h
theorem ags_cons {e : Expr} {es : List Expr} {g : AV → SM} {gs : List (AV → SM)} (hn : notStar e = true) (h : AG X ct W e g) (hs : PGs X es (TGs0 X.K ct W gs)) : PGs X (e :: es) (TGs0 X.K ct W (g :: gs)) := by
  refine pgs_imp (pgs_cons h hs (by rw [assignEach_cons hn]; rfl)) fun vs' σ H Q t => ?_
  obtain ⟨ρ, s, h, vs, a, b, c, p⟩ := t
  cases vs with
  | nil => exact p.elim
  | cons v vs =>
    obtain ⟨y, r, rfl, h1, h2⟩ := VRs.cons.mp c
    refine ⟨y, r, rfl, ρ, s, h, v, a, b, h1, ?_⟩
    have p : postS X.K ct W ρ H { nx := Q, rt := fun _ _ => False } (seqS (g v) (gsM gs vs) s h) := p
    unfold seqS at p
    split at p
    · rename_i s1 h1 e1
      rw [e1]
      exact fun ρ' H' σ' x y z => ⟨ρ', s1, h1, vs, z, y, h2.mono x, postS.ext x p⟩
    · rename_i r' n
      cases e1 : g v s h with
      | nx s' h' => exact (n s' h' e1).elim
      | _ => rw [e1] at p; exact p
theorem assignEach_len : ∀ (es : List Expr) (env : Env), (assignEach es env).length = es.length
  | [], _ => rfl
  | e :: es, env => by
    cases e <;> (show (assignEach es env).length + 1 = _; rw [assignEach_len es env]; rfl)
theorem assignEach_star : ∀ {es : List Expr} {env : Env}, es.all notStar = true → (assignEach es env).findIdx? (·.1) = none
  | [], _, _ => rfl
  | e :: es, env, h => by
    rw [List.all_cons, Bool.and_eq_true] at h
    rw [assignEach_cons h.1, List.findIdx?_cons, assignEach_star h.2]
    rfl
theorem ag_tup {es : List Expr} {k : Nat} {pos : Pos} {gs : List (AV → SM)} (hc : X.calm = true) (hn : es.all notStar = true) (hl : gs.length = es.length) (h : PGs X es (TGs0 X.K ct W gs)) : AG X ct W (.Tuple es k pos) (fun v => match v with | .tup vs => if vs.length = gs.length then gsM gs vs else badS | _ => badS) := by
  refine pg_imp (pg_tup hc h (assignEach_len es X.env) (assignEach_star hn)) fun v' σ H Q t => ?_
  obtain ⟨ρ, s, h, v, a, b, c, p⟩ := t
  cases v with
  | tup vs =>
    obtain ⟨q, ys, rfl, h1, h2⟩ := VR.tup.mp c
    dsimp only at p
    split at p
    · rename_i e
      exact ⟨q, ys, rfl, h1, by rw [← h2.length, e, hl], ρ, s, h, vs, a, b, h2, p⟩
    · exact p.elim
  | _ => exact p.elim
/-! ### target = value -/
def asgS (m : EM AV) (g : AV → SM) : SM := bdS m fun v => onlyNx g v
theorem swapsSole {tg e : Expr} {l : Nat} {env : Env} (h : (match e with | .ListComp .. | .SetComp .. | .DictComp .. => false | _ => true) = true) : swapsWithSole [tg] e l env = pure false := by
  cases e <;> first | rfl | cases h
theorem assignEach_one {tg : Expr} {env : Env} (h : notStar tg = true) : (assignEach [tg] env).map (·.2) = [assign tg env] := by
  rw [assignEach_cons h]
  rfl
theorem as_asg {tg e : Expr} {pos : Pos} {m : EM AV} {g : AV → SM} (he : AE X ct W e m) (hg : AG X ct W tg g) (hs : swapsWithSole [tg] e pos.line X.env = pure false) (hw : swappedStores [tg] e X.env = pure none) (hn : notStar tg = true) : AS X ct W (.Assign [tg] e pos) (asgS m g) := by
  refine ps_imp (ps_asg he hg hs hw (assignEach_one hn)) fun D σ H t => ?_
  refine T0.mono (TS0.bd (R := RV X.K) t) fun v' H1 t1 => ?_
  obtain ⟨ρ, s, h, v, r, q, c, p⟩ := t1
  refine ⟨ρ, s, h, v, r, q, c, ?_⟩
  unfold onlyNx at p
  cases e1 : g v s h with
  | nx s' h' => rw [e1] at p; exact p
  | exc c fs s' h' => rw [e1] at p; exact p
  | _ => rw [e1] at p; exact p.elim
end
end Ev
namespace Ev
open PySem PySem.Spec PyProof.Rows L2
section
variable {X : Cx} {ct : CT} {W : WX}
theorem TP.yes {α β γ : Type} {K : PySem.W.Frag} {R : Rl α β} {P : List Addr → Hp → γ → Prop} {f g : γ → EM α} {σ : L2.St} {H : Hp} {Q : β → Hp → Prop}
    (t : TP K ct W (fun ρ H (x : γ × Bool) => P ρ H x.1 ∧ RB ρ H x.2 true) R (fun z => if z.2 = true then f z.1 else g z.1) σ H Q) : TP K ct W P R f σ H Q := by
  obtain ⟨ρ, s, h, ⟨x, k⟩, a, b, c, p⟩ := t
  obtain rfl : k = true := c.2
  exact ⟨ρ, s, h, x, a, b, c.1, p⟩
theorem TP.no {α β γ : Type} {K : PySem.W.Frag} {R : Rl α β} {P : List Addr → Hp → γ → Prop} {f g : γ → EM α} {σ : L2.St} {H : Hp} {Q : β → Hp → Prop}
    (t : TP K ct W (fun ρ H (x : γ × Bool) => P ρ H x.1 ∧ RB ρ H x.2 false) R (fun z => if z.2 = true then f z.1 else g z.1) σ H Q) : TP K ct W P R g σ H Q := by
  obtain ⟨ρ, s, h, ⟨x, k⟩, a, b, c, p⟩ := t
  obtain rfl : k = false := c.2
  exact ⟨ρ, s, h, x, a, b, c.1, p⟩
/-! ### and, or, not -/
def orV : List (EM AV) → EM AV
  | [] => bad
  | [m] => m
  | m :: ms => bd m fun x => bd (truA x) fun k => if k = true then ret x else orV ms
def andV : List (EM AV) → EM AV
  | [] => bad
  | [m] => m
  | m :: ms => bd m fun x => bd (truA x) fun k => if k = true then andV ms else ret x
def orT : List (EM Bool) → EM Bool
  | [] => bad
  | [m] => m
  | m :: ms => bd m fun k => if k = true then ret true else orT ms
def andT : List (EM Bool) → EM Bool
  | [] => bad
  | [m] => m
  | m :: ms => bd m fun k => if k = true then andT ms else ret false
theorem ae_orV {pos : Pos} (f : Expr → EM AV) : ∀ (es : List Expr), (∀ e ∈ es, AE X ct W e (f e)) → AE X ct W (.BoolOp .Or es pos) (orV (es.map f))
  | [], _ => ae_bad
  | [e], h => pe_one (h e (by simp))
  | e :: e2 :: es, h => by
    have ih := ae_orV (pos := pos) f (e2 :: es) fun x hx => h x (List.mem_cons_of_mem _ hx)
    refine pe_imp (pe_orT (h e (by simp)) ih) fun σ H Q t => ?_
    refine T0.mono (T0.bd (R' := RV X.K) t) fun x' H1 t1 => ?_
    obtain ⟨k, h1, t2⟩ := tru_of (TP.bd (R' := RB) mono_V t1)
    refine ⟨k, h1, ?_⟩
    cases k with
    | true => exact (TP.yes (P := fun ρ H x => RV X.K ρ H x x') (f := fun x => ret x) (g := fun _ => orV ((e2 :: es).map f)) t2).ret (f := fun x => x) fun ρ g hg => hg
    | false => exact (TP.no (P := fun ρ H x => RV X.K ρ H x x') (f := fun x => ret x) (g := fun _ => orV ((e2 :: es).map f)) t2).zero
theorem ae_andV {pos : Pos} (f : Expr → EM AV) : ∀ (es : List Expr), (∀ e ∈ es, AE X ct W e (f e)) → AE X ct W (.BoolOp .And es pos) (andV (es.map f))
  | [], _ => ae_bad
  | [e], h => pe_one (h e (by simp))
  | e :: e2 :: es, h => by
    have ih := ae_andV (pos := pos) f (e2 :: es) fun x hx => h x (List.mem_cons_of_mem _ hx)
    refine pe_imp (pe_andT (h e (by simp)) ih) fun σ H Q t => ?_
    refine T0.mono (T0.bd (R' := RV X.K) t) fun x' H1 t1 => ?_
    obtain ⟨k, h1, t2⟩ := tru_of (TP.bd (R' := RB) mono_V t1)
    refine ⟨k, h1, ?_⟩
    cases k with
    | true => exact (TP.yes (P := fun ρ H x => RV X.K ρ H x x') (g := fun x => ret x) (f := fun _ => andV ((e2 :: es).map f)) t2).zero
    | false => exact (TP.no (P := fun ρ H x => RV X.K ρ H x x') (g := fun x => ret x) (f := fun _ => andV ((e2 :: es).map f)) t2).ret (f := fun x => x) fun ρ g hg => hg
theorem aw_orT {pos : Pos} (f : Expr → EM Bool) : ∀ (es : List Expr), (∀ e ∈ es, AT X ct W e (f e)) → AW X ct W (.BoolOp .Or es pos) (orT (es.map f))
  | [], _ => aw_bad
  | [e], h => pw_or1 (h e (by simp))
  | e :: e2 :: es, h => by
    have ih := aw_orT (pos := pos) f (e2 :: es) fun x hx => h x (List.mem_cons_of_mem _ hx)
    refine pw_imp (pw_or (h e (by simp)) ih) fun σ H Q t => ?_
    refine T0.mono (T0.bd (R' := RB) t) fun k H1 t1 => ?_
    obtain ⟨ρ, s, h, k', a, b, c, p⟩ := t1
    obtain rfl : k' = k := c
    cases k' with
    | true => exact p ρ H1 true Ext.refl b rfl
    | false => exact ⟨ρ, s, h, a, b, p⟩
theorem aw_andT {pos : Pos} (f : Expr → EM Bool) : ∀ (es : List Expr), (∀ e ∈ es, AT X ct W e (f e)) → AW X ct W (.BoolOp .And es pos) (andT (es.map f))
  | [], _ => aw_bad
  | [e], h => pw_and1 (h e (by simp))
  | e :: e2 :: es, h => by
    have ih := aw_andT (pos := pos) f (e2 :: es) fun x hx => h x (List.mem_cons_of_mem _ hx)
    refine pw_imp (pw_and (h e (by simp)) ih) fun σ H Q t => ?_
    refine T0.mono (T0.bd (R' := RB) t) fun k H1 t1 => ?_
    obtain ⟨ρ, s, h, k', a, b, c, p⟩ := t1
    obtain rfl : k' = k := c
    cases k' with
    | true => exact ⟨ρ, s, h, a, b, p⟩
    | false => exact p ρ H1 false Ext.refl b rfl
theorem ae_notV {e : Expr} {pos : Pos} {m : EM AV} (h : AE X ct W e m) : AE X ct W (.UnaryOp .Not e pos) (bd m fun x => bd (truA x) fun k => ret (.bl (!k))) := by
  refine pe_imp (pe_notT h) fun σ H Q t => ?_
  refine T0.mono (T0.bd (R' := RV X.K) t) fun x' H1 t1 => ?_
  obtain ⟨k, h1, t2⟩ := tru_of (TP.bd (R' := RB) mono_V t1)
  exact ⟨k, h1, t2.ret fun ρ g hg => VR.bl.mpr (by rw [show g.2 = k from hg.2])⟩
theorem at_not {e : Expr} {pos : Pos} {m : EM Bool} (h : AT X ct W e m) : AT X ct W (.UnaryOp .Not e pos) (bd m fun k => ret (!k)) := by
  refine pt_imp (pt_not h) fun σ H Q t => ?_
  refine T0.mono (T0.bd (R' := RB) t) fun k H1 t1 => ?_
  exact TP.ret t1 fun ρ g hg => by rw [show g = k from hg]
def notTest : Expr → Bool
  | .UnaryOp .Not _ _ => false
  | .BoolOp _ _ _ => false
  | .IfExp _ _ _ _ => false
  | .Compare _ _ _ _ => false
  | _ => true
theorem isTrue_plainE {e : Expr} {env : Env} (h : notTest e = true) (whole : Sem Value) : isTrue e env whole = (do let v ← whole; standAt e.pos; holding [v] (truthy v)) := by
  cases e with
  | UnaryOp op a p => cases op <;> first | rfl | cases h
  | BoolOp _ _ _ => cases h
  | IfExp _ _ _ _ => cases h
  | Compare _ _ _ _ => cases h
  | _ => rfl
theorem at_truth {e : Expr} {m : EM AV} (hn : notTest e = true) (h : AE X ct W e m) : AT X ct W e (bd m truA) := by
  refine pt_imp (pt_truth h (isTrue_plainE hn)) fun σ H Q t => ?_
  refine T0.mono (T0.bd (R' := RV X.K) t) fun x' H1 t1 => ?_
  exact tru_of t1
def asBool : AV → EM Bool
  | .bl b => ret b
  | _ => bad
theorem asBool_of {x' : V} {σ : L2.St} {H : Hp} {Q : Bool → Hp → Prop} (t : TP X.K ct W (fun ρ H (x : AV) => RV X.K ρ H x x') RB asBool σ H Q) : ∃ k, x' = .bl k ∧ Q k H := by
  obtain ⟨ρ, s, h, x, a, b, c, p⟩ := t
  unfold asBool at p
  split at p
  · exact ⟨_, VR.bl.mp c, p ρ H _ Ext.refl b rfl⟩
  · exact p.elim
/-! ### comparisons -/
theorem rd2_of {r : R2} {f : AV → AV → EM AV} (hr : Op2 X ct r f) {ta tb : EM AV} {σ : L2.St} {H : Hp} {Q : VK} (t : T0 X.K ct W (RV X.K) (bd ta fun x => bd tb fun y => f x y) σ H Q) : tOp r (T0 X.K ct W (RV X.K) ta) (T0 X.K ct W (RV X.K) tb) σ H Q := by
  refine T0.mono (T0.bd (R' := RV X.K) t) fun x' H1 t1 => ?_
  refine T0.mono (TP.bd0 (R' := RV X.K) mono_V t1) fun y' H2 t2 => ?_
  obtain ⟨ρ, s, h, ⟨x, y⟩, a, b, c, p⟩ := t2
  exact hr W x' y' σ H2 Q ⟨ρ, s, h, x, y, a, b, c.1, c.2, p⟩
theorem ae_cmp {a b : Expr} {op : CmpOp} {pos : Pos} {r : R2} {f : AV → AV → EM AV} {ma mb : EM AV} (ho : OpR X (compareOp op) r) (hr : Op2 X ct r f) (ha : AE X ct W a ma) (hb : AE X ct W b mb) (hm : behindInMarks op b = false) :
    AE X ct W (.Compare a [op] [b] pos) (bd ma fun x => bd mb fun y => f x y) := pe_imp (pe_cmpR ho ha hb hm) fun σ H Q t => rd2_of hr t
theorem bd_assoc {α β γ : Type} (m : EM α) (f : α → EM β) (g : β → EM γ) : bd (bd m f) g = bd m fun x => bd (f x) g := by
  funext s h
  unfold bd
  cases m s h <;> rfl
theorem at_cmp {a b : Expr} {op : CmpOp} {pos : Pos} {r : R2} {f : AV → AV → EM AV} {ma mb : EM AV} (ho : OpR X (compareOp op) r) (hr : Op2 X ct r f) (ha : AE X ct W a ma) (hb : AE X ct W b mb) (hm : behindInMarks op b = false) :
    AT X ct W (.Compare a [op] [b] pos) (bd (bd ma fun x => bd mb fun y => f x y) asBool) := by
  refine pt_imp (pt_cmpR ho ha hb hm) fun σ H Q t => ?_
  exact rd2_of hr (T0.mono (T0.bd (R' := RV X.K) t) fun x' H1 t1 => asBool_of t1)
/-- a op b op' c -/
def chainM (f g : AV → AV → EM AV) (ma mb mc : EM AV) : EM AV := bd ma fun x => bd mb fun y => bd (f x y) fun k => bd (asBool k) fun k => if k = true then bd mc fun z => g y z else ret (.bl false)
theorem chain_rd {r r' : R2} {f g : AV → AV → EM AV} (hr : Op2 X ct r f) (hr' : Op2 X ct r' g) {ma mb mc : EM AV} {σ : L2.St} {H : Hp} {Q : VK} (t : T0 X.K ct W (RV X.K) (chainM f g ma mb mc) σ H Q) :
    tChain r r' (T0 X.K ct W (RV X.K) ma) (T0 X.K ct W (RV X.K) mb) (T0 X.K ct W (RV X.K) mc) σ H Q := by
  refine T0.mono (T0.bd (R' := RV X.K) t) fun x' H1 t1 => ?_
  refine T0.mono (TP.bd0 (R' := RV X.K) mono_V t1) fun y' H2 t2 => ?_
  obtain ⟨ρ, s, h, ⟨x, y⟩, a, b, c, p⟩ := t2
  refine hr W x' y' σ H2 _ ⟨ρ, s, h, x, y, a, b, c.1, c.2, ?_⟩
  dsimp only at p
  unfold bd at p
  cases e1 : f x y s h with
  | bad => rw [e1] at p; exact p
  | exc c fs h1 => rw [e1] at p; exact p
  | ok v h1 =>
    rw [e1] at p
    intro ρ' H' v' ex hr3 hv
    dsimp only at p
    cases v with
    | bl k =>
      have p : post (RV X.K) X.K ct W ρ H2 σ Q ((if k = true then bd mc fun z => g y z else ret (.bl false)) s h1) := p
      refine ⟨k, VR.bl.mp hv, ?_⟩
      cases k with
      | true =>
        rw [if_pos rfl] at p
        have t3 : TP X.K ct W (fun ρ H (x : AV) => RV X.K ρ H x y') (RV X.K) (fun y => bd mc fun z => g y z) σ H' Q := ⟨ρ', s, h1, y, a.mono ex, hr3, c.2.mono ex, post.ext ex p⟩
        rw [if_pos rfl]
        refine T0.mono (TP.bd0 (R' := RV X.K) mono_V t3) fun z' H3 t4 => ?_
        obtain ⟨ρ, s, h, ⟨y, z⟩, a, b, c, p⟩ := t4
        exact hr' W y' z' σ H3 Q ⟨ρ, s, h, y, z, a, b, c.1, c.2, p⟩
      | false =>
        rw [if_neg Bool.false_ne_true] at p ⊢
        exact p ρ' H' _ ex hr3 (VR.bl.mpr rfl)
    | _ => exact p.elim
end
end Ev
namespace Ev
open PySem PySem.Spec PyProof.Rows L2
section
variable {X : Cx} {ct : CT} {W : WX}
/-! ### {k: v, ..} -/
def prsM : List (EM AV × EM AV) → EM (List (AV × AV))
  | [] => ret []
  | m :: ms => bd m.1 fun k => bd m.2 fun v => bd (prsM ms) fun r => ret ((k, v) :: r)
def dctM (ms : List (EM AV × EM AV)) : EM AV := fun s h => match prsM ms s (h ++ [.dct []]) with
  | .ok kvs h2 => (match h2[h.length]? with
    | some (.dct []) => if (kvs.all fun kv => (keyV kv.1).isSome) = true ∧ kvs.length ≤ 15 then .ok (.ref h.length) (h2.set h.length (.dct (kvs.foldl (fun d kv => dPut d kv.1 kv.2) []))) else .bad
    | _ => .bad)
  | .exc c fs h2 => .exc c fs h2
  | .bad => .bad
abbrev RP (K : PySem.W.Frag) : Rl (List (AV × AV)) (List (V × V)) := fun ρ H a b => VRs K ρ H (a.map (·.1)) (b.map (·.1)) ∧ VRs K ρ H (a.map (·.2)) (b.map (·.2))
theorem prs_of : ∀ {ms : List (EM AV × EM AV)} {σ : L2.St} {H : Hp} {Q : List (V × V) → Hp → Prop}, T0 X.K ct W (RP X.K) (prsM ms) σ H Q → tPairs (ms.map fun m => (T0 X.K ct W (RV X.K) m.1, T0 X.K ct W (RV X.K) m.2)) σ H Q
  | [], σ, H, Q, ⟨ρ, s, h, a, b, p⟩ => p ρ H [] Ext.refl b ⟨VRs.nil.mpr rfl, VRs.nil.mpr rfl⟩
  | m :: ms, σ, H, Q, t => by
    refine T0.mono (T0.bd (R' := RV X.K) t) fun x' H1 t1 => ?_
    refine T0.mono (TP.bd0 (R' := RV X.K) mono_V t1) fun y' H2 t2 => ?_
    refine prs_of (T0.mono (TP.bd0 (R' := RP X.K) (mono_2 mono_V mono_V) t2) fun ps H3 t3 => ?_)
    exact t3.ret fun ρ g hg => ⟨VRs.cons.mpr ⟨x', _, rfl, hg.1.1, hg.2.1⟩, VRs.cons.mpr ⟨y', _, rfl, hg.1.2, hg.2.2⟩⟩
theorem keys_all {K : PySem.W.Frag} {ρ : List Addr} {H : Hp} : ∀ {kvs : List (AV × AV)} {ps : List (V × V)}, VRs K ρ H (kvs.map (·.1)) (ps.map (·.1)) → VRs K ρ H (kvs.map (·.2)) (ps.map (·.2)) → (kvs.all fun kv => (keyV kv.1).isSome) = true →
    ∃ gs : List (Key × V), ps = gs.map (fun kv => (kV kv.1, kv.2)) ∧ DKR K ρ H kvs gs ∧ gs.length = kvs.length
  | [], [], _, _, _ => ⟨[], rfl, rfl, rfl⟩
  | [], _ :: _, a, _, _ => by have := a.length; simp at this
  | _ :: _, [], a, _, _ => by have := a.length; simp at this
  | kv :: kvs, p :: ps, a, b, e => by
    rw [List.all_cons, Bool.and_eq_true] at e
    obtain ⟨y, r, e1, h1, h2⟩ := VRs.cons.mp a
    obtain ⟨z, r', e2, h3, h4⟩ := VRs.cons.mp b
    cases e1
    cases e2
    obtain ⟨gs, e3, d, hl⟩ := keys_all h2 h4 e.2
    obtain ⟨k, ek⟩ := Option.isSome_iff_exists.mp e.1
    refine ⟨(k, p.2) :: gs, ?_, ⟨k, p.2, gs, rfl, ek, h3, d⟩, by simp [hl]⟩
    rw [List.map_cons, ← e3]
    congr 1
    rw [← keyV_ok ek h1]
theorem merge_ok {K : PySem.W.Frag} {ρ : List Addr} {H : Hp} : ∀ (kvs : List (AV × AV)) {gs : List (Key × V)} {kvs0 : List (AV × AV)} {gs0 : List (Key × V)}, DKR K ρ H kvs gs → DKR K ρ H kvs0 gs0 → DKR K ρ H (kvs.foldl (fun d kv => dPut d kv.1 kv.2) kvs0) (mergeK gs0 gs)
  | [], gs, kvs0, gs0, d, d0 => by
    have e : gs = [] := d
    subst e
    exact d0
  | kv :: kvs, gs, kvs0, gs0, d, d0 => by
    obtain ⟨k, w, r, rfl, ek, h1, h2⟩ := d
    exact merge_ok kvs (gs := r) (gs0 := putK gs0 k w) h2 (dPut_ok ek h1 d0)
theorem ae_dict {keys : List (Option Expr)} {values : List Expr} {pos : Pos} {ms : List (EM AV × EM AV)} (h : PPs X pos keys values (ms.map fun m => (T0 X.K ct W (RV X.K) m.1, T0 X.K ct W (RV X.K) m.2)))
    (hall : keys.all (·.isSome) = true) (hl : keys.length = values.length) (h0 : keys ≠ []) (h15 : keys.length ≤ 15) : AE X ct W (.Dict keys values pos) (dctM ms) := by
  refine pe_imp (pe_disp h hall hl h0 h15) fun σ H Q t => ?_
  obtain ⟨ρ, s, h, a, b, p⟩ := t
  intro q hq
  have ex := Ext.push (ρ := ρ) (u := .dK []) hq
  have b1 : HR X.K ct (ρ ++ [q]) (upd H q (.dK [])) (h ++ [.dct []]) := b.push hq (.inl ⟨[], upd_same, rfl⟩)
  have hqi : (ρ ++ [q])[h.length]? = some q := by rw [← b.len]; simp
  refine prs_of ⟨ρ ++ [q], s, h ++ [.dct []], a.mono ex, b1, ?_⟩
  unfold dctM at p
  cases e : prsM ms s (h ++ [.dct []]) with
  | bad => rw [e] at p; exact p
  | exc c fs h2 =>
    rw [e] at p
    exact fun ρ' H' cls d x y z => p ρ' H' cls d (ex.trans x) y z
  | ok kvs h2 =>
    rw [e] at p
    intro ρ' H' ps ex2 hr hv
    have hq2 := ex2.ref _ _ hqi
    dsimp only at p
    split at p
    · rename_i e1
      split at p
      · rename_i hc
        have o := hr.ob _ _ _ hq2 e1
        rcases o with ⟨gs0, h3, h4⟩ | ⟨n, _⟩
        · have e4 : gs0 = [] := h4
          subst e4
          obtain ⟨gs, e5, d, hl2⟩ := keys_all hv.1 hv.2 hc.1
          refine ⟨h3, gs, e5, by rw [hl2]; exact hc.2, ?_⟩
          refine p ρ' _ _ ((ex.trans ex2).trans (Ext.write h3 trivial)) (hr.write hq2 (notFro e1 (by simp)) h3 trivial (.inl ⟨_, upd_same, ?_⟩) (by simp)) (VR.ref.mpr ⟨q, hq2, rfl⟩)
          exact DKR.mono (Ext.write h3 trivial) (merge_ok kvs d rfl)
        · exact (n rfl).elim
      · exact p.elim
    · exact p.elim
/-! ### methods of lists -/
structure BmOk (X : Cx) (ct : CT) (T : String) (name : Str) (f : AV → List AV → EM AV) : Prop where
  pa : PlainAttrs T
  ok : ∃ id r, Slot T name id ∧ typeOf (.builtin id) = pure (.type "method_descriptor") ∧ MtR X id r ∧
    ∀ (W : WX) (x' : V) (xs' : List V) (σ : L2.St) (H : Hp) (Q : VK), (∃ ρ s h x xs, SR X.K ρ H s σ ∧ HR X.K ct ρ H h ∧ VR X.K ρ H x x' ∧ VRs X.K ρ H xs xs' ∧ post (RV X.K) X.K ct W ρ H σ Q (f x xs s h)) → r x' xs' H Q
/-- a list object is changed -/
def updL (i : Nat) (f : List AV → Option (AV × List AV)) : EM AV := fun _ h => match h[i]? with
  | some (.lst xs) => (match f xs with
    | some (v, ys) => .ok v (h.set i (.lst ys))
    | none => .bad)
  | _ => .bad
theorem updL_inv {i : Nat} {f : List AV → Option (AV × List AV)} {ρ : List Addr} {H : Hp} {σ : L2.St} {s : Sl} {h : AH} {Q : VK} {x' : V} (b : HR X.K ct ρ H h) (c : VR X.K ρ H (.ref i) x') (p : post (RV X.K) X.K ct W ρ H σ Q (updL i f s h)) :
    ∃ a xs ys v zs, x' = .ref a ∧ H a = some (.lst ys) ∧ VRs X.K ρ H xs ys ∧ f xs = some (v, zs) ∧ ∀ v' ws, VR X.K ρ H v v' → VRs X.K ρ H zs ws → Q v' (upd H a (.lst ws)) := by
  unfold updL at p
  obtain ⟨a, h1, rfl⟩ := VR.ref.mp c
  split at p
  · rename_i xs e1
    split at p
    · rename_i v zs e2
      obtain ⟨ys, h2, h3⟩ := lst_own b h1 e1
      refine ⟨a, xs, ys, v, zs, rfl, h2, h3, e2, fun v' ws hv hw => p ρ _ v' (Ext.write h2 trivial) (b.write h1 (notFro e1 (by simp)) h2 trivial ⟨ws, upd_same, hw.mono (Ext.write h2 trivial)⟩ (by simp)) (hv.mono (Ext.write h2 trivial))⟩
    · exact p.elim
  · exact p.elim
def appendA : AV → List AV → EM AV
  | .ref i, [y] => updL i fun xs => if xs.length < sizeLine then some (.non, xs ++ [y]) else none
  | _, _ => bad
theorem bm_append : BmOk X ct "list" "append" appendA := by
  refine ⟨PySem.F.plainAttrs_list, _, _, PySem.F.slot_list_append, PySem.F.type_list_append, mt_append, fun W x' xs' σ H Q ⟨ρ, s, h, x, xs, a, b, c, d, p⟩ => ?_⟩
  unfold appendA at p
  split at p
  · rename_i i y
    obtain ⟨y', rfl, cy⟩ := VRs.one_inv d
    obtain ⟨q, zs, ys, v, ws, rfl, h1, h2, e, k⟩ := updL_inv b c p
    split at e
    · rename_i hl
      cases e
      exact ⟨q, ys, y', rfl, rfl, h1, by rw [← h2.length]; exact hl, k _ _ (VR.non.mpr rfl) (h2.append (VRs.one cy))⟩
    · cases e
  · exact p.elim
theorem VRs.dropLast {K : PySem.W.Frag} {ρ : List Addr} {H : Hp} {xs : List AV} {ys : List V} (h : VRs K ρ H xs ys) : VRs K ρ H xs.dropLast ys.dropLast := by
  rw [List.dropLast_eq_take, List.dropLast_eq_take, h.length]
  exact h.take _
def popA : AV → List AV → EM AV
  | .ref i, [] => updL i fun xs => match xs[xs.length - 1]? with
    | some y => some (y, xs.dropLast)
    | none => none
  | _, _ => bad
theorem bm_pop : BmOk X ct "list" "pop" popA := by
  refine ⟨PySem.F.plainAttrs_list, _, _, PySem.F.slot_list_pop, PySem.F.type_list_pop, mt_pop, fun W x' xs' σ H Q ⟨ρ, s, h, x, xs, a, b, c, d, p⟩ => ?_⟩
  unfold popA at p
  split at p
  · rename_i i
    obtain ⟨q, zs, ys, v, ws, rfl, h1, h2, e, k⟩ := updL_inv b c p
    split at e
    · rename_i y e1
      cases e
      obtain ⟨y', e2, cy⟩ := h2.get e1
      exact ⟨q, ys, y', rfl, VRs.nil.mp d, h1, by rw [← h2.length]; exact e2, k _ _ cy h2.dropLast⟩
    · cases e
  · exact p.elim
def extendA : AV → List AV → EM AV
  | .ref i, [.ref j] => fun s h => match h[j]? with
    | some (.lst zs) => updL i (fun xs => if xs.length + zs.length ≤ sizeLine then some (.non, xs ++ zs) else none) s h
    | _ => .bad
  | _, _ => bad
theorem bm_extend : BmOk X ct "list" "extend" extendA := by
  refine ⟨PySem.F.plainAttrs_list, _, _, PySem.F.slot_list_extend, PySem.F.type_list_extend, mt_extend, fun W x' xs' σ H Q ⟨ρ, s, h, x, xs, a, b, c, d, p⟩ => ?_⟩
  unfold extendA at p
  split at p
  · rename_i i j
    obtain ⟨y', rfl, cy⟩ := VRs.one_inv d
    obtain ⟨m, h4, rfl⟩ := VR.ref.mp cy
    split at p
    · rename_i us e0
      obtain ⟨us', h5, h6⟩ := lst_own b h4 e0
      obtain ⟨q, zs, ys, v, ws, rfl, h1, h2, e, k⟩ := updL_inv b c p
      split at e
      · rename_i hl
        cases e
        exact ⟨q, m, ys, us', rfl, rfl, h1, h5, by rw [← h2.length, ← h6.length]; exact hl, k _ _ (VR.non.mpr rfl) (h2.append h6)⟩
      · cases e
    · exact p.elim
  · exact p.elim
def lstMt : List (Str × (AV → List AV → EM AV)) := [("append", appendA), ("pop", popA), ("extend", extendA)]
theorem lstMt_ok {x : Str} {f : AV → List AV → EM AV} (h : (x, f) ∈ lstMt) : BmOk X ct "list" x f := by
  simp only [lstMt, List.mem_cons, List.mem_nil_iff, or_false, Prod.mk.injEq] at h
  rcases h with ⟨rfl, rfl⟩ | ⟨rfl, rfl⟩ | ⟨rfl, rfl⟩
  · exact bm_append
  · exact bm_pop
  · exact bm_extend
def notSuper : Expr → Bool
  | .Call (.Name _ _) [] [] _ => false
  | _ => true
theorem attrBase {o : Expr} {m : Str} {env : Env} {w : Sem Value} (h : notSuper o = true) : attributeBase o m env w = w := by
  unfold attributeBase
  split
  · cases h
  · rfl
theorem few_of {es : List Expr} {env : Env} {pos : Pos} (h : es.all notStar = true) (hl : es.length < 30) : ((backTo pos (starEach es env)).all (fun x => !x.1) && (backToKw pos (keywordEach [] env)).all (fun x => x.1.isSome)
      && decide (es.length + ([] : List Keyword).length + (if ([] : List Keyword).isEmpty then 0 else 1) < 30)) = true := by
  have h1 : (backTo pos (starEach es env)).all (fun x => !x.1) = true := by
    have := star_none (pos := pos) (env := env) h
    rw [List.all_eq_not_any_not]
    simpa using this
  rw [h1]
  have h2 : (backToKw pos (keywordEach [] env)).all (fun x => x.1.isSome) = true := rfl
  rw [h2]
  simpa using hl
theorem lookup_mem_of {α β : Type} [BEq α] [LawfulBEq α] {x : α} {y : β} : ∀ {l : List (α × β)}, l.lookup x = some y → (x, y) ∈ l
  | [], h => by cases h
  | (a, b) :: l, h => by
    rw [List.lookup_cons] at h
    split at h
    · rename_i e
      cases h
      rw [beq_iff_eq.mp e]
      exact List.mem_cons_self
    · exact List.mem_cons_of_mem _ (lookup_mem_of h)
/-- a built-in type's method, the type seen at the receiver -/
def tBMany (X : Cx) (name : Str) (to : TE) (t : (List V → Hp → Prop) → L2.St → Hp → Prop) : TE := fun σ H Q => to σ H fun x H1 => ∃ T id r, PlainAttrs T ∧ Slot T name id ∧ typeOf (.builtin id) = pure (.type "method_descriptor") ∧ MtR X id r ∧ tyV X.K T x H1 ∧ t (fun xs H2 => r x xs H2 Q) σ H1
theorem pe_bmAny0 {o : Expr} {m : Str} {apos cpos : Pos} {to : TE} (ho : PE X o to) (hb : notSuper o = true) (hline : (apos.endLine == cpos.line) = true) :
    PE X (.Call (.Attribute o m apos) [] [] cpos) (tBMany X m to fun R _ H => R [] H) := by
  refine ⟨fun pins s σ H Q I h => ?_⟩
  refine wpAny_Call_method0_late (attrBase hb) hline (thn (ho.run pins s σ H _ I h) fun v s1 ⟨x, H1, I1, r1, T, id, r, pa, slot, hty, hm, ty, q1⟩ => ?_)
  obtain ⟨h1, h2⟩ := tyV_is I1 r1 ty
  exact ⟨T, id, pa, slot, hty, h1, h2, Calls.callWith_builtin rfl (PySem.evalArgs_none (hm pins s1 σ H1 x [] v [] Q I1 r1 .nil q1))⟩
theorem pe_bmAny {o e : Expr} {m : Str} {apos cpos : Pos} {es : List Expr} {to : TE} {t : TA} (ho : PE X o to) (ha : PA X (e :: es) t) (hs' : (e :: es).all notStar = true) (h30 : (e :: es).length < 30) (hb : notSuper o = true) (hline : (apos.endLine == cpos.line) = true) :
    PE X (.Call (.Attribute o m apos) (e :: es) [] cpos) (tBMany X m to fun R σ H => t σ H R) := by
  refine ⟨fun pins s σ H Q I h => ?_⟩
  have hs := hs'
  rw [List.all_cons, Bool.and_eq_true] at hs
  refine wpAny_Call_method_late (attrBase hb) (few_of hs' h30) hline rfl (thn (ho.run pins s σ H _ I h) fun v s1 ⟨x, H1, I1, r1, T, id, r, pa, slot, hty, hm, ty, q1⟩ => ?_)
  obtain ⟨h1, h2⟩ := tyV_is I1 r1 ty
  refine ⟨T, id, pa, slot, hty, h1, h2, ?_⟩
  have hA := ha.run cpos pins s1 σ H1 _ I1 q1
  rw [starEach_cons hs.1] at hA ⊢
  refine Calls.callWith_builtin (by show (false || (backTo cpos (starEach es X.env)).any (·.1)) = false; rw [star_none hs.2] <;> rfl) (Calls.evalArgs_plain ?_)
  exact thn hA fun us s2 ⟨vs, H2, I2, r2, q2⟩ => hm pins s2 σ H2 x vs v us Q I2 r1 r2 q2
end
end Ev
namespace Ev
open PySem PySem.Spec PyProof.Rows L2
section
variable {X : Cx} {ct : CT} {W : WX}
/-! ### methods of texts -/
/-- a text's method of texts alone that gives a value without a new object -/
def splitA : AV → List AV → EM AV
  | .str a, [.str b] => if (b.length == 0) = false ∧ a.length + 2 ≤ sizeLine then alloc (.lst ((Txt.split a b).map AV.str)) else bad
  | _, _ => bad
theorem bm_split : BmOk X ct "str" "split" splitA := by
  refine ⟨PySem.F.plainAttrs_str, _, _, PySem.F.slot_str_split, PySem.F.type_str_split, mt_split, fun W x' xs' σ H Q ⟨ρ, s, h, x, xs, a, b, c, d, p⟩ => ?_⟩
  unfold splitA at p
  split at p
  · rename_i z y
    obtain ⟨y', rfl, cy⟩ := VRs.one_inv d
    split at p
    · rename_i hc
      exact ⟨z, y, VR.str.mp c, by rw [VR.str.mp cy], hc.1, hc.2, fun q hq => new_lst b (VRs.of_map (f := AV.str) (g := V.str) (fun _ => VR.str.mpr rfl) _) p q hq⟩
    · exact p.elim
  · exact p.elim
def stripA : AV → List AV → EM AV
  | .str a, [.str b] => if a.length ≤ sizeLine then ret (.str (Txt.stripChars a b)) else bad
  | _, _ => bad
theorem bm_strip : BmOk X ct "str" "strip" stripA := by
  refine ⟨PySem.F.plainAttrs_str, _, _, PySem.F.slot_str_strip, PySem.F.type_str_strip, mt_stripChars, fun W x' xs' σ H Q ⟨ρ, s, h, x, xs, a, b, c, d, p⟩ => ?_⟩
  unfold stripA at p
  split at p
  · rename_i z y
    obtain ⟨y', rfl, cy⟩ := VRs.one_inv d
    split at p
    · rename_i hc
      exact ⟨z, y, VR.str.mp c, by rw [VR.str.mp cy], hc, p ρ H _ Ext.refl b (VR.str.mpr rfl)⟩
    · exact p.elim
  · exact p.elim
def strMt : List (Str × (AV → List AV → EM AV)) := [("split", splitA), ("strip", stripA)]
theorem strMt_ok {x : Str} {f : AV → List AV → EM AV} (h : (x, f) ∈ strMt) : BmOk X ct "str" x f := by
  simp only [strMt, List.mem_cons, List.mem_nil_iff, or_false, Prod.mk.injEq] at h
  rcases h with ⟨rfl, rfl⟩ | ⟨rfl, rfl⟩
  · exact bm_split
  · exact bm_strip
/-! ### methods by the receiver's kind -/
def kindA (x : AV) (h : AH) : Option String := match x with
  | .str _ => some "str"
  | .ref i => (match h[i]? with
    | some (.lst _) => some "list"
    | some (.fro _) => some "list"
    | _ => none)
  | _ => none
theorem kind_ok {K : PySem.W.Frag} {ρ : List Addr} {H : Hp} {h : AH} {x : AV} {x' : V} {T : String} (b : HR K ct ρ H h) (c : VR K ρ H x x') (e : kindA x h = some T) : tyV K T x' H := by
  unfold kindA at e
  split at e
  · cases e
    rw [VR.str.mp c]
    exact rfl
  · rename_i i
    split at e
    · rename_i xs e1
      cases e
      obtain ⟨a, h1, rfl⟩ := VR.ref.mp c
      obtain ⟨ys, h2, _⟩ := lstOf_ok (xs := xs) b h1 (by unfold lstOf; rw [e1])
      exact .inl ⟨rfl, ys, h2⟩
    · rename_i xs e1
      cases e
      obtain ⟨a, h1, rfl⟩ := VR.ref.mp c
      obtain ⟨ys, h2, _⟩ := lstOf_ok (xs := xs) b h1 (by unfold lstOf; rw [e1])
      exact .inl ⟨rfl, ys, h2⟩
    · cases e
  · cases e
def mtTab (T : String) : List (Str × (AV → List AV → EM AV)) := if T = "list" then lstMt else if T = "str" then strMt else []
theorem mtTab_ok {T : String} {x : Str} {f : AV → List AV → EM AV} (h : (x, f) ∈ mtTab T) : BmOk X ct T x f := by
  unfold mtTab at h
  split at h
  · rename_i e
    subst e
    exact lstMt_ok h
  · split at h
    · rename_i e
      subst e
      exact strMt_ok h
    · cases h
/-- o.m(..) of a text, a list -/
def methM (mo : EM AV) (m : Str) (ms : EM (List AV)) : EM AV := bd mo fun x s h => match kindA x h with
  | some T => (match (mtTab T).lookup m with
    | some f => bd ms (f x) s h
    | none => .bad)
  | none => .bad
theorem meth_rd {m : Str} {mo : EM AV} {ms : EM (List AV)} {t : (List V → Hp → Prop) → L2.St → Hp → Prop} (ht : ∀ σ H R, T0 X.K ct W (RL X.K) ms σ H R → t R σ H) {σ : L2.St} {H : Hp} {Q : VK} (t0 : T0 X.K ct W (RV X.K) (methM mo m ms) σ H Q) : tBMany X m (T0 X.K ct W (RV X.K) mo) t σ H Q := by
  refine T0.mono (T0.bd (R' := RV X.K) t0) fun x' H1 t1 => ?_
  obtain ⟨ρ, s, h, x, a, b, c, p⟩ := t1
  dsimp only at p
  split at p
  · rename_i T e
    split at p
    · rename_i f ef
      obtain ⟨pa, id, r, slot, hty, hm, hr⟩ := mtTab_ok (X := X) (ct := ct) (lookup_mem_of ef)
      refine ⟨T, id, r, pa, slot, hty, hm, kind_ok b c e, ?_⟩
      have t2 : TP X.K ct W (fun ρ H (x : AV) => RV X.K ρ H x x') (RV X.K) (fun x => bd ms (f x)) σ H1 Q := ⟨ρ, s, h, x, a, b, c, p⟩
      refine ht _ _ _ (T0.mono (TP.bd0 (R' := RL X.K) mono_V t2) fun xs' H2 t3 => ?_)
      obtain ⟨ρ, s, h, ⟨x, xs⟩, a, b, c, p⟩ := t3
      exact hr W x' xs' σ H2 Q ⟨ρ, s, h, x, xs, a, b, c.1, c.2, p⟩
    · exact p.elim
  · exact p.elim
theorem ae_meth {o : Expr} {m : Str} {apos cpos : Pos} {es : List Expr} {mo : EM AV} {f : Expr → EM AV} (ho : AE X ct W o mo) (ha : AA X ct W es (evsM (es.map f))) (hs : es.all notStar = true) (h30 : es.length < 30) (hb : notSuper o = true) (hline : (apos.endLine == cpos.line) = true) :
    AE X ct W (.Call (.Attribute o m apos) es [] cpos) (methM mo m (evsM (es.map f))) := by
  cases es with
  | nil =>
    exact pe_imp (pe_bmAny0 ho hb hline) fun σ H Q t => meth_rd (fun σ H R ⟨ρ, s, h, a, b, p⟩ => p ρ H [] Ext.refl b (VRs.nil.mpr rfl)) t
  | cons e es => exact pe_imp (pe_bmAny ho ha hs h30 hb hline) fun σ H Q t => meth_rd (fun σ H R t => t) t
/-! ### x op= e -/
def ipAdd : AV → AV → EM AV
  | .int i, .int j => ret (.int (i + j))
  | .str i, .str j => if i.length + j.length ≤ sizeLine then ret (.str (i ++ j)) else bad
  | _, _ => bad
def ipSub : AV → AV → EM AV
  | .int i, .int j => ret (.int (i - j))
  | _, _ => bad
theorem op2_ipAdd : Op2 X ct (fun x y H Q => rI0 (fun i j => .int (i + j)) x y H Q ∨ (∃ i j, x = .str i ∧ y = .str j ∧ i.length + j.length ≤ sizeLine ∧ Q (.str (i ++ j)) H)) ipAdd := by
  intro W x' y' σ H Q ⟨ρ, s, h, x, y, a, b, c1, c2, p⟩
  unfold ipAdd at p
  split at p
  · exact .inl ⟨_, _, VR.int.mp c1, VR.int.mp c2, p ρ H _ Ext.refl b (VR.int.mpr rfl)⟩
  · split at p
    · rename_i hl
      exact .inr ⟨_, _, VR.str.mp c1, VR.str.mp c2, hl, p ρ H _ Ext.refl b (VR.str.mpr rfl)⟩
    · exact p.elim
  · exact p.elim
theorem op2_ipSub : Op2 X ct (rI0 (fun i j => .int (i - j))) ipSub := by
  intro W x' y' σ H Q ⟨ρ, s, h, x, y, a, b, c1, c2, p⟩
  unfold ipSub at p
  split at p
  · exact ⟨_, _, VR.int.mp c1, VR.int.mp c2, p ρ H _ Ext.refl b (VR.int.mpr rfl)⟩
  · exact p.elim
def ipP : Operator → Option (AV → AV → EM AV)
  | .Add => some ipAdd
  | .Sub => some ipSub
  | _ => none
theorem ipP_ok {op : Operator} {f : AV → AV → EM AV} (h : ipP op = some f) : ∃ r, OpR X (inplaceOp op) r ∧ Op2 X ct r f := by
  unfold ipP at h
  split at h
  · cases h
    exact ⟨_, iop_add.or iop_add_str, op2_ipAdd⟩
  · cases h
    exact ⟨_, iop_sub, op2_ipSub⟩
  · cases h
def augM (i : Nat) (f : AV → AV → EM AV) (m : EM AV) : SM := bdS (bd (slotM i) fun x => bd m fun y => f x y) (setS i)
/-! ### isinstance, of a built-in type -/
def tyA (x : AV) (h : AH) : Option String := match x with
  | .non => some "NoneType"
  | .bl _ => some "bool"
  | .int _ => some "int"
  | .str _ => some "str"
  | .tup _ => some "tuple"
  | .ref i => (match h[i]? with
    | some (.lst _) => some "list"
    | some (.fro _) => some "list"
    | some (.dct _) => some "dict"
    | _ => none)
  | .kd _ => none
theorem tyA_ok {K : PySem.W.Frag} {ρ : List Addr} {H : Hp} {h : AH} {x : AV} {x' : V} {t : String} (b : HR K ct ρ H h) (c : VR K ρ H x x') (e : tyA x h = some t) : TyX K H x' (.type t) := by
  unfold tyA at e
  split at e
  · cases e; rw [VR.non.mp c]; exact .base .non
  · cases e; rw [VR.bl.mp c]; exact .base (.bl _)
  · cases e; rw [VR.int.mp c]; exact .base (.int _)
  · cases e; rw [VR.str.mp c]; exact .base (.str _)
  · cases e
    obtain ⟨a, ys, rfl, h1, _⟩ := VR.tup.mp c
    rcases h1 with (h1 | ⟨o, h1⟩) | ⟨o, its, n, h1, h2, h3⟩
    · exact .base (.tup h1)
    · exact .fTuple h1
    · exact .kTuple h1 h2
  · rename_i i
    obtain ⟨a, h1, rfl⟩ := VR.ref.mp c
    split at e
    · rename_i xs e1
      cases e
      obtain ⟨ys, h2, _⟩ := lst_own b h1 e1
      exact .base (.lst h2)
    · rename_i xs e1
      cases e
      obtain ⟨ys, h2, h3⟩ := b.ob i a _ h1 e1
      rcases h3 with ⟨o, h3⟩ | ⟨o, its, n, h3, h4, _⟩
      · exact .base (.frz h3)
      · exact .kList h3 h4
    · rename_i kvs e1
      cases e
      rcases b.ob i a _ h1 e1 with ⟨gs, h3, _⟩ | ⟨_, gs, h3, _⟩
      · exact .base (.dK h3)
      · exact .base (.dT h3)
    · cases e
  · cases e
def tysI : List String := ["NoneType", "bool", "int", "str", "tuple", "list", "dict"]
def isiB (t T : String) : Bool := t == T || (t == "bool" && T == "int")
theorem isi_tab : ∀ t ∈ tysI, ∀ T ∈ tysI, kitB t T = some (isiB t T) := by decide +kernel
theorem tyA_in {x : AV} {h : AH} {t : String} (e : tyA x h = some t) : t ∈ tysI := by
  unfold tyA at e
  repeat' split at e
  all_goals first | (cases e; decide) | cases e
def isiA (T : String) (x : AV) : EM AV := rd fun h => (tyA x h).map fun t => AV.bl (isiB t T)
/-- the names of the built-in types that are asked for -/
def isiT (x : Str) : Option String := if x = "int" then some "int" else if x = "bool" then some "bool" else if x = "str" then some "str" else if x = "tuple" then some "tuple" else if x = "list" then some "list" else if x = "dict" then some "dict" else none
theorem isiT_ok {x : Str} {T : String} (h : isiT x = some T) : bootBuiltins x = some (.type T) ∧ T ∈ tysI ∧ x ≠ "__name__" ∧ (x == ("__debug__" : Str)) = false := by
  unfold isiT at h
  repeat' split at h
  all_goals first | (rename_i e; cases h; rw [e]; exact ⟨by decide +kernel, by decide, by decide +kernel, by decide +kernel⟩) | cases h
theorem ae_isi {e : Expr} {x : Str} {T : String} {m : EM AV} {p p2 pos : Pos} (he : AE X ct W e m) (hs : notStar e = true) (hg : Gl X "isinstance") (hm : X.mg "isinstance" = none) (hg2 : Gl X x) (hm2 : X.mg x = none) (hT : isiT x = some T) :
    AE X ct W (.Call (.Name "isinstance" p) [e, .Name x p2] [] pos) (bd m (isiA T)) := by
  obtain ⟨h1, h2, h3, h4⟩ := isiT_ok hT
  have e2 : PE X (.Name x p2) (tC (.ty T)) := pe_bltn hg2 hm2 h1 rfl h3 h4
  have pa : PA X [e, .Name x p2] (tCons (T0 X.K ct W (RV X.K) m) (tCons (tC (.ty T)) tNil)) := pa_cons he (pa_cons e2 pa_nil rfl) (starEach_cons hs)
  refine pe_imp (pe_callB call_isi hg hm (by decide +kernel) pa (by decide +kernel) (by decide +kernel) (starEach_cons hs) rfl) fun σ H Q t => ?_
  refine T0.mono (T0.bd (R' := RV X.K) t) fun x' H1 t1 => ?_
  obtain ⟨ρ, s, h, v, a, b, c, p⟩ := t1
  obtain ⟨k, e1, q⟩ := post_rd (v := x') b p
  obtain ⟨t, e3, rfl⟩ := Option.map_eq_some_iff.mp e1
  exact ⟨x', .ty T, .type t, .type T, _, rfl, .ty T, tyA_ok b c e3, kit_ty (isi_tab t (tyA_in e3) T h2), q _ (VR.bl.mpr rfl)⟩
theorem as_aug {i : Nat} {x : Str} {e : Expr} {op : Operator} {pos pos' : Pos} {f : AV → AV → EM AV} {r : R2} {m : EM AV} (hN : X.N.Nodup) (hi : X.N[i]? = some x) (hx : Loc X.env.scope x) (he : AE X ct W e m) (ho : OpR X (inplaceOp op) r) (hr : Op2 X ct r f) (hf : X.fn x = true) :
    AS X ct W (.AugAssign (.Name x pos') op e pos) (augM i f m) := by
  refine ps_imp (ps_aug hN hi hx he ho (.inl hf)) fun D σ H t => ?_
  obtain ⟨ρ, s, h, a, b, p⟩ := TS0.bd (R := RV X.K) t
  unfold Ev.bd slotM at p
  cases es : s[i]? with
  | none => rw [es] at p; exact p.elim
  | some o =>
    cases o with
    | none => rw [es] at p; exact p.elim
    | some v =>
      rw [es] at p
      dsimp only at p
      obtain ⟨v', e1, cv⟩ := a.2 i v es
      refine ⟨v', e1, ?_⟩
      have t2 : TP X.K ct W (fun ρ H (x : AV) => RV X.K ρ H x v') (RV X.K) (fun x => bd m fun y => f x y) σ H _ := ⟨ρ, s, h, v, a, b, cv, p⟩
      refine T0.mono (TP.bd0 (R' := RV X.K) mono_V t2) fun y' H2 t3 => ?_
      obtain ⟨ρ, s, h, ⟨x, y⟩, a, b, c, p⟩ := t3
      refine hr W v' y' σ H2 _ ⟨ρ, s, h, x, y, a, b, c.1, c.2, p.mono fun z H3 q => ?_⟩
      obtain ⟨ρ, s, h, w, r, q, c, p⟩ := q
      exact p ρ H3 _ Ext.refl q (r.set i c)
end
end Ev
namespace Ev
open PySem PySem.Spec PyProof.Rows L2
/-! ### the evaluator -/
structure Tbl where
  con : List (Str × AV)
  gfn : List (Str × Nat)
  free : List Str
structure Dn where
  T : Tbl
  N : List Str
  cf : CF
structure Rc where
  E : Scope → Expr → EM AV
  T : Scope → Expr → EM Bool
  I : Scope → Expr → EM IT
  G : Scope → Expr → AV → SM
  S : Scope → Stmt → SM
def okNm (x : Str) : Bool := !(x == ("__debug__" : Str)) && !(x == ("__classdict__" : Str))
def visB (sc : Scope) (x : Str) : Bool := match sc.names.lookup x with
  | some .local => true
  | some .cell => true
  | some .free => true
  | _ => false
def locB (sc : Scope) (x : Str) : Bool := match sc.names.lookup x with
  | some .local => true
  | some .cell => true
  | _ => false
def gloB (sc : Scope) (x : Str) : Bool := match sc.names.lookup x with
  | some .globalImplicit => true
  | _ => false
def slotIx : List Str → Str → Option Nat
  | [], _ => none
  | y :: N, x => if y = x then some 0 else (slotIx N x).map (· + 1)
def nameM (D : Dn) (sc : Scope) (x : Str) : EM AV := if okNm x = true then
    (if visB sc x = true then (match slotIx D.N x with
      | some i => slotM i
      | none => bad)
    else if gloB sc x = true then (match D.T.con.lookup x with
      | some v => ret v
      | none => bad)
    else bad)
  else bad
def constM : Const → EM AV
  | .none => ret .non
  | .bool b => ret (.bl b)
  | .int i => ret (.int i)
  | .str x => ret (.str x)
  | _ => bad
/-- a target of names alone -/
def patOf (N : List Str) (sto : Str → Bool) : Nat → Expr → Option Pat
  | 0, _ => none
  | n + 1, .Name x _ => if sto x = true then (slotIx N x).map Pat.nm else none
  | n + 1, .Tuple es _ _ => if es.all notStar = true then (patsOf n es).map Pat.tp else none
  | _ + 1, _ => none
where
  patsOf : Nat → List Expr → Option (List Pat)
  | _, [] => some []
  | n, e :: es => match patOf N sto n e, patsOf n es with
    | some p, some ps => some (p :: ps)
    | _, _ => none
def rangeI1 : AV → EM IT
  | .int j => if -(2 ^ 62) ≤ j ∧ j < 2 ^ 62 then ret (.vals ((List.range j.toNat).map fun (k : Nat) => AV.int (0 + (k : Int)))) else bad
  | _ => bad
def rangeI2 : AV → AV → EM IT
  | .int i, .int j => if -(2 ^ 62) ≤ i ∧ i < 2 ^ 62 ∧ -(2 ^ 62) ≤ j ∧ j < 2 ^ 62 then ret (.vals ((List.range (j - i).toNat).map fun (k : Nat) => AV.int (i + (k : Int)))) else bad
  | _, _ => bad
def notSetE : Expr → Bool
  | .Set _ _ _ => false
  | _ => true
/-- x is the built-in of that name -/
def isBlt (D : Dn) (sc : Scope) (x : Str) : Bool := gloB sc x && D.T.free.contains x
def iterM (D : Dn) (r : Rc) (sc : Scope) (e : Expr) : EM IT := match e with
  | .Call (.Name x _) [a] [] _ => if x = "range" then (if (isBlt D sc x && notStar a) = true then bd (r.E sc a) rangeI1 else bad) else bd (r.E sc e) itOf
  | .Call (.Name x _) [a, b] [] _ => if x = "range" then (if (isBlt D sc x && notStar a && notStar b) = true then bd (r.E sc a) fun v => bd (r.E sc b) fun w => rangeI2 v w else bad) else bd (r.E sc e) itOf
  | e => bd (r.E sc e) itOf
/-- the own names of a comprehension, with their slots -/
def ownOf (N : List Str) : List (Str × NameKind) → List (Str × Nat)
  | [] => []
  | (x, k) :: l => match k with
    | .local => (match slotIx N x with
      | some i => (x, i) :: ownOf N l
      | none => ownOf N l)
    | .cell => (match slotIx N x with
      | some i => (x, i) :: ownOf N l
      | none => ownOf N l)
    | _ => ownOf N l
def testsM (r : Rc) (sc : Scope) : List Expr → EM Bool
  | [] => ret true
  | [c] => r.T sc c
  | _ => bad
def lcM (D : Dn) (r : Rc) (sc : Scope) (elt tg iter : Expr) (ifs : List Expr) (scope : Scope) : EM AV :=
  let own := ownOf D.N scope.names
  if (blkC D.N sc scope own && notSetE iter && decide (ifs.length ≤ 1)) = true then (match patOf D.N (locB scope) 5 tg with
    | some p => if (patSlots p).all (fun i => (own.map (·.2)).contains i) = true then compM (r.I sc iter) p (own.map (·.2)) (testsM r (relS scope sc) ifs) (r.E (relS scope sc) elt) else bad
    | none => bad)
  else bad
def prsOf (r : Rc) (sc : Scope) : List (Option Expr) → List Expr → Option (List (EM AV × EM AV))
  | [], [] => some []
  | some k :: ks, v :: vs => (prsOf r sc ks vs).map fun l => (r.E sc k, r.E sc v) :: l
  | _, _ => none
def isiE (D : Dn) (r : Rc) (sc : Scope) : List Expr → EM AV
  | [e, .Name t _] => if (isBlt D sc "isinstance" && isBlt D sc t && notStar e) = true then (match isiT t with
    | some T => bd (r.E sc e) (isiA T)
    | none => bad) else bad
  | _ => bad
def callE (D : Dn) (r : Rc) (sc : Scope) (x : Str) (args : List Expr) : EM AV :=
  if x = "isinstance" then isiE D r sc args else
  if (okNm x && gloB sc x && args.all notStar) = true then (match D.T.gfn.lookup x with
    | some n => if args.length = n then callM D.cf x (evsM (args.map (r.E sc))) else bad
    | none => if D.T.free.contains x = true then (match blts.lookup x, args with
      | some f, _ :: _ => bd (evsM (args.map (r.E sc))) f
      | _, _ => bad) else bad)
  else bad
def optM (r : Rc) (sc : Scope) : Option Expr → EM (Option Int)
  | none => ret none
  | some e => bd (r.E sc e) fun x => match x with
    | .int i => ret (some i)
    | _ => bad
def stepE (D : Dn) (r : Rc) (sc : Scope) (e : Expr) : EM AV := match e with
  | .Name x _ => nameM D sc x
  | .Constant c _ _ => constM c
  | .BinOp a op b _ => (match binP op with
    | some f => bd (r.E sc a) fun x => bd (r.E sc b) fun y => f x y
    | none => bad)
  | .UnaryOp .USub a _ => bd (r.E sc a) negA
  | .UnaryOp .Not a _ => bd (r.E sc a) fun x => bd (truA x) fun k => ret (.bl (!k))
  | .BoolOp .And vs _ => andV (vs.map (r.E sc))
  | .BoolOp .Or vs _ => orV (vs.map (r.E sc))
  | .Compare a [op] [b] _ => (match cmpP op with
    | some f => if behindInMarks op b = false then bd (r.E sc a) fun x => bd (r.E sc b) fun y => f x y else bad
    | none => bad)
  | .Compare a [op, op'] [b, c] _ => (match cmpP op, cmpP op' with
    | some f, some g => if lastMarks [op, op'] [b, c] = false then chainM f g (r.E sc a) (r.E sc b) (r.E sc c) else bad
    | _, _ => bad)
  | .IfExp c a b _ => bd (r.T sc c) fun k => if k = true then r.E sc a else r.E sc b
  | .Subscript a (.Slice lo hi none _) _ => bd (r.E sc a) fun x => bd (optM r sc lo) fun i => bd (optM r sc hi) fun j => slcA x i j
  | .Subscript a b _ => if notSlice b = true then bd (r.E sc a) fun x => bd (r.E sc b) fun y => idxA x y else bad
  | .Tuple es _ _ => if es.all notStar = true then tupM (es.map (r.E sc)) else bad
  | .List es _ => if es.all notStar = true then lstM (es.map (r.E sc)) else bad
  | .Dict keys values _ => (match prsOf r sc keys values with
    | some ms => if keys ≠ [] ∧ keys.length ≤ 15 then dctM ms else bad
    | none => bad)
  | .ListComp elt [⟨tg, iter, ifs, 0⟩] scope _ => lcM D r sc elt tg iter ifs scope
  | .Call (.Name x _) args [] _ => callE D r sc x args
  | .Call (.Attribute o m apos) args [] cpos => if (args.all notStar && decide (args.length < 30) && notSuper o && (apos.endLine == cpos.line)) = true then methM (r.E sc o) m (evsM (args.map (r.E sc))) else bad
  | _ => bad
def stepT (D : Dn) (r : Rc) (sc : Scope) (e : Expr) : EM Bool := match e with
  | .UnaryOp .Not a _ => bd (r.T sc a) fun k => ret (!k)
  | .BoolOp .And vs _ => andT (vs.map (r.T sc))
  | .BoolOp .Or vs _ => orT (vs.map (r.T sc))
  | .Compare a [op] [b] _ => (match cmpP op with
    | some f => if behindInMarks op b = false then bd (bd (r.E sc a) fun x => bd (r.E sc b) fun y => f x y) asBool else bad
    | none => bad)
  | .Compare a [op, op'] [b, c] _ => (match cmpP op, cmpP op' with
    | some f, some g => if lastMarks [op, op'] [b, c] = false then bd (chainM f g (r.E sc a) (r.E sc b) (r.E sc c)) asBool else bad
    | _, _ => bad)
  | e => if notTest e = true then bd (r.E sc e) truA else bad
def stepG (D : Dn) (r : Rc) (sc : Scope) (e : Expr) : AV → SM := match e with
  | .Name x _ => if locB sc x = true then (match slotIx D.N x with
    | some i => setS i
    | none => fun _ => badS) else fun _ => badS
  | .Subscript o i _ => if notSlice i = true then subG (r.E sc o) (r.E sc i) else fun _ => badS
  | .Tuple es _ _ => if es.all notStar = true then (fun v => match v with
    | .tup vs => if vs.length = es.length then gsM (es.map (r.G sc)) vs else badS
    | _ => badS) else fun _ => badS
  | _ => fun _ => badS
def notLc : Expr → Bool
  | .ListComp .. => false
  | .SetComp .. => false
  | .DictComp .. => false
  | _ => true
def isNm : Expr → Bool
  | .Name _ _ => true
  | _ => false
/-- no two stores are swapped -/
def notSwap (tg e : Expr) : Bool := match tg with
  | .Tuple ts _ _ => (match e with
    | .Tuple _ _ _ => ts.any fun t => !isNm t
    | _ => true)
  | .List _ _ => false
  | _ => true
def seqsM (l : List SM) : SM := l.foldr (fun a b => seqS a b) skipS
def stepS (D : Dn) (r : Rc) (sc : Scope) (st : Stmt) : SM := match st with
  | .Assign [.Name x _] (.ListComp elt [⟨tg, iter, ifs, 0⟩] scope _) _ => if (locB sc x) = true then (match slotIx D.N x with
    | some i => bdS (lcM D r sc elt tg iter ifs scope) (setS i)
    | none => badS) else badS
  | .Assign [.Name x _] e _ => if (locB sc x && notLc e) = true then (match slotIx D.N x with
    | some i => bdS (r.E sc e) (setS i)
    | none => badS) else badS
  | .Assign [tg] e _ => if (notLc e && notSwap tg e && notStar tg) = true then asgS (r.E sc e) (r.G sc tg) else badS
  | .AugAssign (.Name x _) op e _ => if locB sc x = true then (match slotIx D.N x, ipP op with
    | some i, some f => augM i f (r.E sc e)
    | _, _ => badS) else badS
  | .If c a b _ => ifS (r.T sc c) (seqsM (a.map (r.S sc))) (seqsM (b.map (r.S sc)))
  | .While c a [] _ => whileN (r.T sc c) (seqsM (a.map (r.S sc))) turnsMax
  | .For tg it a [] _ => if notSetE it = true then (match patOf D.N (locB sc) 5 tg with
    | some p => forS (r.I sc it) (patS p) (seqsM (a.map (r.S sc)))
    | none => badS) else badS
  | .Return (some e) _ => bdS (r.E sc e) retS
  | .Return none _ => retS .non
  | .Expr (.Constant (.str _) _ _) _ => skipS
  | .Expr e _ => if notLc e = true then bdS (r.E sc e) fun _ => skipS else badS
  | .Pass _ => skipS
  | .Break _ => fun s h => .bk s h
  | .Continue _ => fun s h => .ct s h
  | _ => badS
def stepR (D : Dn) (r : Rc) : Rc := ⟨stepE D r, stepT D r, iterM D r, stepG D r, stepS D r⟩
def rc (D : Dn) : Nat → Rc
  | 0 => ⟨fun _ _ => bad, fun _ _ => bad, fun _ _ => bad, fun _ _ _ => badS, fun _ _ => badS⟩
  | n + 1 => stepR D (rc D n)
/-- how deep the text's trees may be -/
def deep : Nat := 60
/-- a def of the text -/
structure FnD where
  key : Str
  at_ : Str × Option Str
  nm : Str
  ps : List Str
  N : List Str
  args : Arguments
  body : List Stmt
  sc : Scope
def startA (N : List Str) (vs : List AV) : Sl := vs.map some ++ List.replicate (N.length - vs.length) none
def runB (m : SM) (N : List Str) (vs : List AV) (h : AH) : RE AV := match m (startA N vs) h with
  | .nx _ h' => .ok .non h'
  | .rt v h' => .ok v h'
  | .exc c fs _ h' => .exc c fs h'
  | _ => .bad
def bodyM (T : Tbl) (cf : CF) (d : FnD) : SM := seqsM (d.body.map ((rc ⟨T, d.N, cf⟩ deep).S d.sc))
def findFn (fs : List FnD) (x : Str) : Option FnD := fs.find? fun d => decide (d.key = x)
/-- calls, k deep -/
def callA (T : Tbl) (fs : List FnD) : Nat → CF
  | 0 => fun _ _ _ => .bad
  | k + 1 => fun x vs h => match findFn fs x with
    | some d => if vs.length = d.ps.length then runB (bodyM T (callA T fs k) d) d.N vs h else .bad
    | none => .bad
end Ev
namespace Ev
open PySem PySem.Spec PyProof.Rows L2
/-! ### the evaluator is right -/
structure Kn (P : Program) (w : World) (K : PySem.W.Frag) (mg : Str → Option Value) (base : Heap) (T : Tbl) (cf : CF) (ct : CT) (lev : Nat) : Prop where
  con : ∀ x v, T.con.lookup x = some v → ∃ u v', mg x = some u ∧ RelV v' u ∧ ∀ ρ H, VR K ρ H v v'
  fn : ∀ x n, T.gfn.lookup x = some n → ∃ f fd ps, ps.length = n ∧ mg x = some (.ref f) ∧ PySem.W.keepIn K (.ref f) = true ∧ Binds K fd ps [] ∧
    FnOk P w K mg base (L2.CX P w) lev f fd ps (spU K ct (fun xs h => if xs.length = ps.length then cf x xs h else .bad) ps.length)
  free : ∀ x, T.free.contains x = true → mg x = none
structure XOk (X : Cx) (D : Dn) (ct : CT) (W : WX) (sc : Scope) (lev : Nat) : Prop where
  hN : X.N = D.N
  nd : X.N.Nodup
  hsc : X.env.scope = sc
  kd : sc.kind = .function
  room : Room (lev + 1) X.A
  calm : X.calm = true
  pass : PassesOwn (model X.prog X.w) X.A X.env X.xe
  tk : Takes X W
  kn : Kn X.prog X.w X.K X.mg X.base D.T D.cf ct lev
structure RcOk (D : Dn) (ct : CT) (lev : Nat) (r : Rc) : Prop where
  E : ∀ (X : Cx) (W : WX) (sc : Scope), XOk X D ct W sc lev → ∀ e, AE X ct W e (r.E sc e)
  T : ∀ (X : Cx) (W : WX) (sc : Scope), XOk X D ct W sc lev → ∀ e, AT X ct W e (r.T sc e)
  I : ∀ (X : Cx) (W : WX) (sc : Scope), XOk X D ct W sc lev → ∀ tg e, AI X ct W tg e (r.I sc e)
  G : ∀ (X : Cx) (W : WX) (sc : Scope), XOk X D ct W sc lev → (∀ x, X.fn x = true) → ∀ e, AG X ct W e (r.G sc e)
  S : ∀ (X : Cx) (W : WX) (sc : Scope), XOk X D ct W sc lev → (∀ x, X.fn x = true) → ∀ e, AS X ct W e (r.S sc e)
theorem slotIx_ok : ∀ {N : List Str} {x : Str} {i : Nat}, slotIx N x = some i → N[i]? = some x
  | [], x, i, h => by cases h
  | y :: N, x, i, h => by
    unfold slotIx at h
    split at h
    · rename_i e
      cases h
      rw [e]
      rfl
    · obtain ⟨j, hj, rfl⟩ := Option.map_eq_some_iff.mp h
      simpa using slotIx_ok hj
theorem okNm_ok {x : Str} (h : okNm x = true) : (x == ("__debug__" : Str)) = false ∧ (x == ("__classdict__" : Str)) = false := by
  unfold okNm at h
  rw [Bool.and_eq_true] at h
  exact ⟨by simpa using h.1, by simpa using h.2⟩
theorem visB_ok {sc : Scope} {x : Str} (h : visB sc x = true) : Vis sc x := by
  unfold visB at h
  split at h
  · rename_i e; exact .inl e
  · rename_i e; exact .inr (.inl e)
  · rename_i e; exact .inr (.inr e)
  · cases h
theorem locB_ok {sc : Scope} {x : Str} (h : locB sc x = true) : Loc sc x := by
  unfold locB at h
  split at h
  · rename_i e; exact .inl e
  · rename_i e; exact .inr e
  · cases h
theorem gloB_ok {X : Cx} {x : Str} (h : gloB X.env.scope x = true) : Gl X x := by
  unfold gloB at h
  split at h
  · rename_i e; exact e
  · cases h
section
variable {X : Cx} {D : Dn} {ct : CT} {W : WX} {sc : Scope} {lev : Nat} {r : Rc}
theorem XOk.u64 (k : XOk X D ct W sc lev) : X.A.units + 64 < cLine := k.room.units
theorem XOk.u1 (k : XOk X D ct W sc lev) : X.A.units + 1 < cLine := hu_of k.room
theorem ae_name (k : XOk X D ct W sc lev) (x : Str) (pos : Pos) : AE X ct W (.Name x pos) (nameM D sc x) := by
  unfold nameM
  split
  · rename_i ho
    obtain ⟨o1, o2⟩ := okNm_ok ho
    split
    · rename_i hv
      split
      · rename_i i hi
        refine ae_var (pe_var (by rw [k.hN]; exact slotIx_ok hi) (by rw [k.hsc]; exact visB_ok hv) o1 o2)
      · exact ae_bad
    · split
      · rename_i hg
        split
        · rename_i v hv
          obtain ⟨u, v', h1, h2, h3⟩ := k.kn.con x v hv
          exact ae_const (pe_glob (gloB_ok (by rw [k.hsc]; exact hg)) h1 h2 o1) h3
        · exact ae_bad
      · exact ae_bad
  · exact ae_bad
theorem ae_constM (c : Const) (j : Nat) (pos : Pos) : AE X ct W (.Constant c j pos) (constM c) := by
  cases c with
  | none => exact ae_const pe_non fun _ _ => VR.non.mpr rfl
  | bool b => exact ae_const pe_bl fun _ _ => VR.bl.mpr rfl
  | int i => exact ae_const pe_int fun _ _ => VR.int.mpr rfl
  | str x => exact ae_const pe_str fun _ _ => VR.str.mpr rfl
  | _ => exact ae_bad
theorem aa_of (R : RcOk D ct lev r) (k : XOk X D ct W sc lev) : ∀ {es : List Expr}, es.all notStar = true → AA X ct W es (evsM (es.map (r.E sc)))
  | [], _ => aa_nil
  | e :: es, h => by
    rw [List.all_cons, Bool.and_eq_true] at h
    exact aa_cons h.1 (R.E X W sc k e) (aa_of R k h.2)
theorem pat_PG {N : List Str} {sto : Str → Bool} (hN : X.N = N) (nd : X.N.Nodup) (hc : X.calm = true) (hst : ∀ x, sto x = true → Loc X.env.scope x ∧ (X.fn x = true ∨ X.env.scope.names.lookup x = some .local)) :
    ∀ (n : Nat) (e : Expr) (p : Pat), patOf N sto n e = some p → PG X e (gPat X.K p) := by
  intro n
  induction n with
  | zero => intro e p h; rw [patOf] at h; cases h
  | succ n ih =>
    intro e p h
    have hs : ∀ (es : List Expr) (ps : List Pat), es.all notStar = true → patOf.patsOf N sto n es = some ps → PGs X es (gPats X.K ps) ∧ ps.length = es.length := by
      intro es
      induction es with
      | nil =>
        intro ps _ h
        rw [patOf.patsOf] at h
        cases h
        rw [gPats]
        exact ⟨pgs_nil, rfl⟩
      | cons e es ih2 =>
        intro ps ha h
        rw [List.all_cons, Bool.and_eq_true] at ha
        rw [patOf.patsOf] at h
        split at h
        · rename_i p ps' h1 h2
          cases h
          rw [gPats]
          obtain ⟨q1, q2⟩ := ih2 ps' ha.2 h2
          exact ⟨pgs_cons (ih e p h1) q1 (by rw [assignEach_cons ha.1]; rfl), by simp [q2]⟩
        · cases h
    cases e with
    | Name x pos =>
      rw [patOf] at h
      split at h
      · rename_i hx
        obtain ⟨i, hi, rfl⟩ := Option.map_eq_some_iff.mp h
        obtain ⟨h1, h2⟩ := hst x hx
        rw [gPat]
        exact pg_name nd (by rw [hN]; exact slotIx_ok hi) h1 h2
      · cases h
    | Tuple es j pos =>
      rw [patOf] at h
      split at h
      · rename_i ha
        obtain ⟨ps, hp, rfl⟩ := Option.map_eq_some_iff.mp h
        rw [gPat]
        obtain ⟨q1, q2⟩ := hs es ps ha hp
        rw [q2]
        exact pg_tup hc q1 (assignEach_len es X.env) (assignEach_star ha)
      · cases h
    | _ => rw [patOf] at h; cases h; all_goals simp
theorem RJ.range {K : PySem.W.Frag} {ρ : List Addr} {H : Hp} (lo : Int) (n : Nat) : RJ K ct ρ H (.vals ((List.range n).map fun (k : Nat) => AV.int (lo + (k : Int)))) (Itr lo n) := by
  intro i ρ' H' h' ex hr
  show match some ((List.range n).map fun (k : Nat) => AV.int (lo + (k : Int)))[i]? with
  | none => True
  | some none => _
  | some (some v) => _
  rw [List.getElem?_map]
  by_cases hi : i < n
  · rw [List.getElem?_range hi]
    refine ⟨hi, fun x' H'' y => ?_⟩
    obtain ⟨rfl, rfl⟩ := y
    exact ⟨Ext.refl, hr, VR.int.mpr rfl⟩
  · rw [List.getElem?_eq_none (by simpa using hi)]
    exact Nat.le_of_not_lt hi
theorem isBlt_ok (k : XOk X D ct W sc lev) {x : Str} (h : isBlt D sc x = true) : Gl X x ∧ X.mg x = none := by
  unfold isBlt at h
  rw [Bool.and_eq_true] at h
  exact ⟨gloB_ok (by rw [k.hsc]; exact h.1), k.kn.free _ h.2⟩
theorem ai_range1 (R : RcOk D ct lev r) (k : XOk X D ct W sc lev) {tg a : Expr} {p pos : Pos} (h : isBlt D sc "range" = true) (hs : notStar a = true) : AI X ct W tg (.Call (.Name "range" p) [a] [] pos) (bd (r.E sc a) rangeI1) := by
  obtain ⟨G, F⟩ := isBlt_ok k h
  refine pi_imp (pi_range1 G F (pa_cons (R.E X W sc k a) pa_nil (starEach_cons hs)) (starEach_cons hs)) fun σ H Q t => ?_
  refine T0.mono (T0.bd (R' := RV X.K) t) fun v' H1 t1 => ?_
  obtain ⟨ρ, s, h, v, a, b, c, q⟩ := t1
  unfold rangeI1 at q
  split at q
  · rename_i j
    split at q
    · rename_i hj
      exact ⟨j, by rw [VR.int.mp c], hj.1, hj.2, q ρ H1 _ Ext.refl b (RJ.range 0 _)⟩
    · exact q.elim
  · exact q.elim
theorem ai_range2 (R : RcOk D ct lev r) (k : XOk X D ct W sc lev) {tg a b : Expr} {p pos : Pos} (h : isBlt D sc "range" = true) (hs : notStar a = true) (hs2 : notStar b = true) : AI X ct W tg (.Call (.Name "range" p) [a, b] [] pos) (bd (r.E sc a) fun v => bd (r.E sc b) fun w => rangeI2 v w) := by
  obtain ⟨G, F⟩ := isBlt_ok k h
  refine pi_imp (pi_range2 G F (pa_cons (R.E X W sc k a) (pa_cons (R.E X W sc k b) pa_nil (starEach_cons hs2)) (starEach_cons hs)) (by rw [starEach_cons hs, starEach_cons hs2]; rfl) (starEach_cons hs2)) fun σ H Q t => ?_
  refine T0.mono (T0.bd (R' := RV X.K) t) fun v' H1 t1 => ?_
  refine T0.mono (TP.bd0 (R' := RV X.K) mono_V t1) fun w' H2 t2 => ?_
  obtain ⟨ρ, s, h, ⟨v, w⟩, a, b, c, q⟩ := t2
  dsimp only at q
  unfold rangeI2 at q
  split at q
  · rename_i i j
    split at q
    · rename_i hj
      exact ⟨i, j, by rw [VR.int.mp c.1, VR.int.mp c.2], ⟨hj.1, hj.2.1, hj.2.2.1, hj.2.2.2⟩, q ρ H2 _ Ext.refl b (RJ.range i _)⟩
    · exact q.elim
  · exact q.elim
theorem ai_iter (R : RcOk D ct lev r) (k : XOk X D ct W sc lev) (tg e : Expr) : AI X ct W tg e (iterM D r sc e) := by
  unfold iterM
  split
  · rename_i x p a pos
    split
    · rename_i hx
      subst hx
      split
      · rename_i hc
        rw [Bool.and_eq_true] at hc
        exact ai_range1 R k hc.1 hc.2
      · exact ai_bad
    · exact ai_seq (R.E X W sc k _)
  · rename_i x p a b pos
    split
    · rename_i hx
      subst hx
      split
      · rename_i hc
        rw [Bool.and_eq_true, Bool.and_eq_true] at hc
        exact ai_range2 R k hc.1.1 hc.1.2 hc.2
      · exact ai_bad
    · exact ai_seq (R.E X W sc k _)
  · exact ai_seq (R.E X W sc k _)
end
end Ev
namespace Ev
open PySem PySem.Spec PyProof.Rows L2
section
variable {X : Cx} {D : Dn} {ct : CT} {W : WX} {sc : Scope} {lev : Nat} {r : Rc}
/-! ### comprehensions -/
theorem ownOf_ok {N : List Str} : ∀ {l : List (Str × NameKind)} {p : Str × Nat}, p ∈ ownOf N l → N[p.2]? = some p.1
  | (x, k) :: l, p, h => by
    unfold ownOf at h
    split at h
    · split at h
      · rename_i i e
        rcases List.mem_cons.mp h with rfl | h
        · exact slotIx_ok e
        · exact ownOf_ok h
      · exact ownOf_ok h
    · split at h
      · rename_i i e
        rcases List.mem_cons.mp h with rfl | h
        · exact slotIx_ok e
        · exact ownOf_ok h
      · exact ownOf_ok h
    · exact ownOf_ok h
theorem blk_ok (k : XOk X D ct W sc lev) {scope : Scope} (hk : scope.kind = .function) (s : Shared) (H : Hp) (C : Addr) (cl : List (Str × Addr)) (fp : List Addr) : XOk (X.blk s H scope (compEnvC scope cl C X.env) fp) D ct W0 (relS scope sc) lev where
  hN := k.hN
  nd := k.nd
  hsc := by
    show relabel scope X.env = relS scope sc
    rw [← k.hsc]
    rfl
  kd := hk
  room := k.room
  calm := k.calm
  pass := PassesOwn.never
  tk := takes0
  kn := k.kn
theorem foldedNot {e : Expr} {env : Env} (h : notSetE e = true) (x : Value) : foldedSetIterable e env x = pure x := by
  cases e <;> first | rfl | cases h
structure LcFacts (X : Cx) (D : Dn) (ct : CT) (W : WX) (r : Rc) (sc : Scope) (elt tg iter : Expr) (ifs : List Expr) (scope : Scope) (p : Pat) (own : List (Str × Nat)) : Prop where
  hi : AI X ct W tg iter (r.I sc iter)
  ok : BlkOk X.N X.env.scope scope own
  hp : ∀ i ∈ patSlots p, i ∈ own.map (·.2)
  hg : ∀ (s : Shared) (H : Hp) (C : Addr) (cl : List (Str × Addr)) (fp : List Addr), PG (X.blk s H scope (compEnvC scope cl C X.env) fp) tg (gPat X.K p)
  ht : ∀ (s : Shared) (H : Hp) (C : Addr) (cl : List (Str × Addr)) (fp : List Addr), PTs (X.blk s H scope (compEnvC scope cl C X.env) fp) ifs (T0 X.K ct W0 RB (testsM r (relS scope sc) ifs))
  he : ∀ (s : Shared) (H : Hp) (C : Addr) (cl : List (Str × Addr)) (fp : List Addr), PE (X.blk s H scope (compEnvC scope cl C X.env) fp) elt (T0 X.K ct W0 (RV X.K) (r.E (relS scope sc) elt))
  hs : ∀ x, foldedSetIterable iter X.env x = pure x
theorem lc_facts (R : RcOk D ct lev r) (k : XOk X D ct W sc lev) {elt tg iter : Expr} {ifs : List Expr} {scope : Scope} {p : Pat} (h1 : (blkC D.N sc scope (ownOf D.N scope.names) && notSetE iter && decide (ifs.length ≤ 1)) = true) (h2 : patOf D.N (locB scope) 5 tg = some p)
    (h3 : (patSlots p).all (fun i => ((ownOf D.N scope.names).map (·.2)).contains i) = true) : LcFacts X D ct W r sc elt tg iter ifs scope p (ownOf D.N scope.names) := by
  rw [Bool.and_eq_true, Bool.and_eq_true] at h1
  obtain ⟨⟨hb, hn⟩, hl⟩ := h1
  have ok : BlkOk D.N sc scope (ownOf D.N scope.names) := blkOk_by hb
  refine ⟨R.I X W sc k tg iter, by rw [k.hN, k.hsc]; exact ok, fun i hi => ?_, fun s H C cl fp => ?_, fun s H C cl fp => ?_, fun s H C cl fp => ?_, foldedNot hn⟩
  · have := List.all_eq_true.mp h3 i hi
    simpa using this
  · have kb := blk_ok k ok.kind s H C cl fp
    refine pat_PG (X := X.blk s H scope (compEnvC scope cl C X.env) fp) k.hN k.nd k.calm (fun x hx => ?_) 5 tg p h2
    have hl := locB_ok hx
    have hsc : (X.blk s H scope (compEnvC scope cl C X.env) fp).env.scope = relS scope sc := kb.hsc
    rw [hsc]
    rcases hl with hl | hl
    · have e : (relS scope sc).names.lookup x = some .local := lookup_relS_keep (by decide) hl
      exact ⟨.inl e, .inr e⟩
    · have e : (relS scope sc).names.lookup x = some .cell := lookup_relS_keep (by decide) hl
      refine ⟨.inr e, .inl ?_⟩
      show (scope.names.lookup x == some .cell) = true
      rw [hl]
      rfl
  · have kb := blk_ok k ok.kind s H C cl fp
    have hl2 : ifs.length ≤ 1 := of_decide_eq_true hl
    match ifs, hl2 with
    | [], _ =>
      refine ⟨fun pins s0 σ H0 Q I t => pts_nil.run pins s0 σ H0 Q I ?_⟩
      obtain ⟨ρ, sl, h, a, b, q⟩ := t
      exact q ρ H0 true Ext.refl b rfl
    | [c], _ => exact pts_one (R.T _ W0 _ kb c)
  · exact R.E _ W0 _ (blk_ok k ok.kind s H C cl fp) elt
theorem ae_lc (R : RcOk D ct lev r) (k : XOk X D ct W sc lev) (elt tg iter : Expr) (ifs : List Expr) (scope : Scope) (pos : Pos) : AE X ct W (.ListComp elt [⟨tg, iter, ifs, 0⟩] scope pos) (lcM D r sc elt tg iter ifs scope) := by
  unfold lcM
  dsimp only
  split
  · rename_i h1
    split
    · rename_i p h2
      split
      · rename_i h3
        have F := lc_facts (elt := elt) R k h1 h2 h3
        exact ae_comp k.calm k.nd F.hi F.ok F.hp F.hg F.ht F.he F.hs
      · exact ae_bad
    · exact ae_bad
  · exact ae_bad
/-! ### displays, calls -/
theorem prs_PPs (R : RcOk D ct lev r) (k : XOk X D ct W sc lev) {pos : Pos} : ∀ {keys : List (Option Expr)} {vs : List Expr} {ms : List (EM AV × EM AV)}, prsOf r sc keys vs = some ms →
    PPs X pos keys vs (ms.map fun m => (T0 X.K ct W (RV X.K) m.1, T0 X.K ct W (RV X.K) m.2)) ∧ keys.all (·.isSome) = true ∧ keys.length = vs.length
  | [], [], ms, h => by
    rw [prsOf] at h
    cases h
    exact ⟨pps_nil, rfl, rfl⟩
  | none :: _, _, ms, h => by rw [prsOf] at h; cases h; all_goals simp
  | [], _ :: _, ms, h => by rw [prsOf] at h; cases h; all_goals simp
  | some _ :: _, [], ms, h => by rw [prsOf] at h; cases h; all_goals simp
  | some e :: keys, v :: vs, ms, h => by
    rw [prsOf] at h
    obtain ⟨l, hl, rfl⟩ := Option.map_eq_some_iff.mp h
    obtain ⟨h1, h2, h3⟩ := prs_PPs R k (pos := pos) hl
    exact ⟨pps_cons (R.E X W sc k e) (R.E X W sc k v) h1, by rw [List.all_cons, h2]; rfl, by simp [h3]⟩
theorem ae_isiE (R : RcOk D ct lev r) (k : XOk X D ct W sc lev) (p pos : Pos) (args : List Expr) : AE X ct W (.Call (.Name "isinstance" p) args [] pos) (isiE D r sc args) := by
  unfold isiE
  split
  · split
    · rename_i e t p2 hc
      rw [Bool.and_eq_true, Bool.and_eq_true] at hc
      split
      · rename_i T hT
        obtain ⟨g1, g2⟩ := isBlt_ok k hc.1.1
        obtain ⟨g3, g4⟩ := isBlt_ok k hc.1.2
        exact ae_isi (R.E X W sc k _) hc.2 g1 g2 g3 g4 hT
      · exact ae_bad
    · exact ae_bad
  · exact ae_bad
theorem ae_callE (R : RcOk D ct lev r) (k : XOk X D ct W sc lev) (x : Str) (p pos : Pos) (args : List Expr) : AE X ct W (.Call (.Name x p) args [] pos) (callE D r sc x args) := by
  unfold callE
  split
  · rename_i e
    subst e
    exact ae_isiE R k p pos args
  split
  · rename_i hc
    rw [Bool.and_eq_true, Bool.and_eq_true] at hc
    obtain ⟨⟨h1, h2⟩, h3⟩ := hc
    have G : Gl X x := gloB_ok (by rw [k.hsc]; exact h2)
    split
    · rename_i n hn
      split
      · rename_i hl
        obtain ⟨f, fd, ps, e1, hm, hk, hb, F⟩ := k.kn.fn x n hn
        have hr : Room lev X.A := k.room.mono (Nat.le_succ _)
        cases args with
        | nil =>
          have e2 : ps.length = 0 := by rw [e1, ← hl]; rfl
          exact ae_call0 k.tk F hb hk hr G hm (okNm_ok h1).1 e2
        | cons a as =>
          have e2 : ps.length = (a :: as).length := by rw [e1, ← hl]
          exact ae_call k.tk F hb hk hr G hm (okNm_ok h1).1 h3 (aa_of R k h3) e2 fun s h xs h' e => by rw [evs_len e]; simp
      · exact ae_bad
    · split
      · rename_i hf
        split
        · rename_i f a as hb
          exact ae_blt (blt_ok k.calm (lookup_mem_of hb)) G (k.kn.free x hf) h3 (aa_of R k h3)
        · exact ae_bad
      · exact ae_bad
  · exact ae_bad
/-! ### slices -/
abbrev RO : Rl (Option Int) (Option Int) := fun _ _ a b => a = b
theorem po_imp {e : Option Expr} {t t' : TO} (h : PO X e t) (i : ∀ σ H Q, t' σ H Q → t σ H Q) : PO X e t' := ⟨fun pins s σ H Q I q => h.run pins s σ H Q I (i σ H Q q)⟩
theorem po_of (R : RcOk D ct lev r) (k : XOk X D ct W sc lev) (e : Option Expr) : PO X e (T0 X.K ct W RO (optM r sc e)) := by
  cases e with
  | none => exact po_imp po_none fun σ H Q ⟨ρ, s, h, a, b, p⟩ => p ρ H none Ext.refl b rfl
  | some e =>
    refine po_imp (po_some (R.E X W sc k e)) fun σ H Q t => ?_
    refine T0.mono (T0.bd (R' := RV X.K) t) fun x' H1 t1 => ?_
    obtain ⟨ρ, s, h, x, a, b, c, p⟩ := t1
    dsimp only at p
    split at p
    · rename_i i
      exact ⟨i, VR.int.mp c, p ρ H1 _ Ext.refl b rfl⟩
    · exact p.elim
theorem mono_O {o : Option Int} : Mono (fun ρ H (x : Option Int) => RO ρ H x o) := ⟨fun _ _ _ _ _ _ h => h⟩
theorem ae_slice (R : RcOk D ct lev r) (k : XOk X D ct W sc lev) (a : Expr) (lo hi : Option Expr) (p2 pos : Pos) : AE X ct W (.Subscript a (.Slice lo hi none p2) pos) (bd (r.E sc a) fun x => bd (optM r sc lo) fun i => bd (optM r sc hi) fun j => slcA x i j) := by
  refine pe_imp (pe_slice sl_all (R.E X W sc k a) (po_of R k lo) (po_of R k hi)) fun σ H Q t => ?_
  refine T0.mono (T0.bd (R' := RV X.K) t) fun x' H1 t1 => ?_
  refine T0.mono (TP.bd0 (R' := RO) mono_V t1) fun i' H2 t2 => ?_
  refine T0.mono (TP.bd0 (R' := RO) (mono_2 mono_V mono_O) t2) fun j' H3 t3 => ?_
  obtain ⟨ρ, s, h, ⟨⟨x, i⟩, j⟩, a, b, c, p⟩ := t3
  obtain ⟨⟨c1, c2⟩, c3⟩ := c
  dsimp only at c1 c2 c3 p
  subst c2 c3
  exact slc_of ⟨ρ, s, h, x, a, b, c1, p⟩
theorem ae_idx (hu : X.A.units + 1 < cLine) {a b : Expr} {pos : Pos} {ma mb : EM AV} (ha : AE X ct W a ma) (hb : AE X ct W b mb) (hs : notSlice b = true) : AE X ct W (.Subscript a b pos) (bd ma fun x => bd mb fun y => idxA x y) := by
  refine pe_imp (pe_ix (ix_all hu) ha hb fun o i => ?_) fun σ H Q t => rd2_of op2_idx t
  cases b <;> first | rfl | cases hs
theorem ae_if {c a b : Expr} {pos : Pos} {mc : EM Bool} {ma mb : EM AV} (hc : AT X ct W c mc) (ha : AE X ct W a ma) (hb : AE X ct W b mb) : AE X ct W (.IfExp c a b pos) (bd mc fun k => if k = true then ma else mb) := by
  refine pe_imp (pe_ifExp hc ha hb) fun σ H Q t => ?_
  refine T0.mono (T0.bd (R' := RB) t) fun k H1 t1 => ?_
  obtain ⟨ρ, s, h, k', a, b, c, p⟩ := t1
  obtain rfl : k' = k := c
  cases k' with
  | true => exact ⟨ρ, s, h, a, b, p⟩
  | false => exact ⟨ρ, s, h, a, b, p⟩
/-! ### the steps -/
theorem step_E (R : RcOk D ct lev r) (k : XOk X D ct W sc lev) (e : Expr) : AE X ct W e (stepE D r sc e) := by
  unfold stepE
  split
  · exact ae_name k _ _
  · exact ae_constM _ _ _
  · split
    · rename_i f hf
      obtain ⟨rr, ho, hr⟩ := binP_ok (X := X) (ct := ct) hf
      exact ae_bin ho hr (R.E X W sc k _) (R.E X W sc k _)
    · exact ae_bad
  · exact ae_neg (R.E X W sc k _)
  · exact ae_notV (R.E X W sc k _)
  · exact ae_andV _ _ fun e _ => R.E X W sc k e
  · exact ae_orV _ _ fun e _ => R.E X W sc k e
  · split
    · rename_i f hf
      split
      · rename_i hb
        obtain ⟨rr, ho, hr⟩ := cmpP_ok (X := X) (ct := ct) k.u64 hf
        exact ae_cmp ho hr (R.E X W sc k _) (R.E X W sc k _) hb
      · exact ae_bad
    · exact ae_bad
  · split
    · rename_i f g hf hg
      split
      · rename_i hb
        obtain ⟨rr, ho, hr⟩ := cmpP_ok (X := X) (ct := ct) k.u64 hf
        obtain ⟨rr', ho', hr'⟩ := cmpP_ok (X := X) (ct := ct) k.u64 hg
        exact pe_imp (pe_chain ho ho' (R.E X W sc k _) (R.E X W sc k _) (R.E X W sc k _) hb) fun σ H Q t => chain_rd hr hr' t
      · exact ae_bad
    · exact ae_bad
  · exact ae_if (R.T X W sc k _) (R.E X W sc k _) (R.E X W sc k _)
  · exact ae_slice R k _ _ _ _ _
  · split
    · rename_i hs
      exact ae_idx k.u1 (R.E X W sc k _) (R.E X W sc k _) hs
    · exact ae_bad
  · split
    · rename_i hs
      exact ae_tup (aa_of R k hs)
    · exact ae_bad
  · split
    · rename_i hs
      exact ae_lst (aa_of R k hs)
    · exact ae_bad
  · split
    · rename_i ms hm
      split
      · rename_i hc
        obtain ⟨h1, h2, h3⟩ := prs_PPs R k hm
        exact ae_dict h1 h2 h3 hc.1 hc.2
      · exact ae_bad
    · exact ae_bad
  · exact ae_lc R k _ _ _ _ _ _
  · exact ae_callE R k _ _ _ _
  · split
    · rename_i hc
      rw [Bool.and_eq_true, Bool.and_eq_true, Bool.and_eq_true] at hc
      obtain ⟨⟨⟨h1, h2⟩, h3⟩, h4⟩ := hc
      exact ae_meth (R.E X W sc k _) (aa_of R k h1) h1 (of_decide_eq_true h2) h3 h4
    · exact ae_bad
  · exact ae_bad
theorem step_T (R : RcOk D ct lev r) (k : XOk X D ct W sc lev) (e : Expr) : AT X ct W e (stepT D r sc e) := by
  unfold stepT
  split
  · exact at_not (R.T X W sc k _)
  · exact (aw_andT _ _ fun e _ => R.T X W sc k e).pt
  · exact (aw_orT _ _ fun e _ => R.T X W sc k e).pt
  · split
    · rename_i f hf
      split
      · rename_i hb
        obtain ⟨rr, ho, hr⟩ := cmpP_ok (X := X) (ct := ct) k.u64 hf
        exact at_cmp ho hr (R.E X W sc k _) (R.E X W sc k _) hb
      · exact at_bad
    · exact at_bad
  · split
    · rename_i f g hf hg
      split
      · rename_i hb
        obtain ⟨rr, ho, hr⟩ := cmpP_ok (X := X) (ct := ct) k.u64 hf
        obtain ⟨rr', ho', hr'⟩ := cmpP_ok (X := X) (ct := ct) k.u64 hg
        refine pt_imp (pt_chain ho ho' (R.E X W sc k _) (R.E X W sc k _) (R.E X W sc k _) hb) fun σ H Q t => ?_
        exact chain_rd hr hr' (T0.mono (T0.bd (R' := RV X.K) t) fun x' H1 t1 => asBool_of t1)
      · exact at_bad
    · exact at_bad
  · split
    · rename_i hn
      exact at_truth hn (R.E X W sc k _)
    · exact at_bad
theorem ags_of (R : RcOk D ct lev r) (k : XOk X D ct W sc lev) (hf : ∀ x, X.fn x = true) : ∀ {es : List Expr}, es.all notStar = true → PGs X es (TGs0 X.K ct W (es.map (r.G sc)))
  | [], _ => ags_nil
  | e :: es, h => by
    rw [List.all_cons, Bool.and_eq_true] at h
    exact ags_cons h.1 (R.G X W sc k hf e) (ags_of R k hf h.2)
theorem step_G (R : RcOk D ct lev r) (k : XOk X D ct W sc lev) (hf : ∀ x, X.fn x = true) (e : Expr) : AG X ct W e (stepG D r sc e) := by
  unfold stepG
  split
  · rename_i x pos
    split
    · rename_i hl
      split
      · rename_i i hi
        exact ag_name (pg_name k.nd (by rw [k.hN]; exact slotIx_ok hi) (by rw [k.hsc]; exact locB_ok hl) (.inl (hf x)))
      · exact ag_bad
    · exact ag_bad
  · split
    · rename_i hs
      exact ag_sub k.u1 (R.E X W sc k _) (R.E X W sc k _) hs
    · exact ag_bad
  · rename_i es j pos
    split
    · rename_i hs
      have q := ag_tup (k := j) (pos := pos) k.calm hs (List.length_map _) (ags_of R k hf hs)
      rw [List.length_map] at q
      exact q
    · exact ag_bad
  · exact ag_bad
theorem seqs_of (R : RcOk D ct lev r) (k : XOk X D ct W sc lev) (hf : ∀ x, X.fn x = true) : ∀ (l : List Stmt), ASs X ct W l (seqsM (l.map (r.S sc)))
  | [] => ass_nil
  | st :: l => ass_cons (R.S X W sc k hf st) (seqs_of R k hf l)
theorem fm_lt {f : Expr → Option Str} (hf : ∀ t, isNm t = false → f t = none) : ∀ (l : List Expr), (l.any fun t => !isNm t) = true → (l.filterMap f).length < l.length
  | [], h => by cases h
  | t :: l, h => by
    rw [List.any_cons, Bool.or_eq_true] at h
    rw [List.filterMap_cons]
    have hle := List.length_filterMap_le f l
    rcases h with h | h
    · rw [hf t (by simpa using h)]
      dsimp only
      rw [List.length_cons]
      omega
    · have := fm_lt hf l h
      split
      · rw [List.length_cons]; omega
      · rw [List.length_cons, List.length_cons]; omega
theorem swap_none {tg e : Expr} {env : Env} (h : notSwap tg e = true) : swappedStores [tg] e env = pure none := by
  cases tg with
  | Tuple ts j p =>
    cases e with
    | Tuple vs j2 p2 =>
      have ha : (ts.any fun t => !isNm t) = true := h
      unfold swappedStores
      dsimp only [pure_bind]
      split
      · rfl
      · split
        · rfl
        · split
          · rfl
          · rename_i hc
            exfalso
            apply hc
            simp only [Bool.or_eq_true, bne_iff_ne, ne_eq]
            refine .inl (Nat.ne_of_lt (fm_lt (fun t ht => ?_) ts ha))
            cases t <;> first | rfl | cases ht
    | _ => rfl
  | List ts p => cases h
  | _ => rfl
theorem swapsNone {e : Expr} {l : Nat} {env : Env} (h : notLc e = true) (t : Option Expr) : swapsWith e t l env = pure false := by
  cases e <;> first | rfl | cases h
theorem swapsLc {elt : Expr} {gs : List Comprehension} {scope : Scope} {pos : Pos} {x : Str} {p : Pos} {l : Nat} {env : Env} : ∃ b : Bool, swapsWith (.ListComp elt gs scope pos) (some (.Name x p)) l env = pure b ∧ (b = true → env.kindOf x = some .local) := by
  refine ⟨_, rfl, fun h => ?_⟩
  rw [Bool.and_eq_true, Bool.and_eq_true, Bool.and_eq_true] at h
  exact beq_iff_eq.mp h.1.1.2
theorem step_S (R : RcOk D ct lev r) (k : XOk X D ct W sc lev) (hf : ∀ x, X.fn x = true) (st : Stmt) : AS X ct W st (stepS D r sc st) := by
  unfold stepS
  split
  · rename_i x pos' elt tg iter ifs scope p2 pos
    split
    · rename_i hl
      split
      · rename_i i hi
        have hi' : X.N[i]? = some x := by rw [k.hN]; exact slotIx_ok hi
        have hl' : Loc X.env.scope x := by rw [k.hsc]; exact locB_ok hl
        obtain ⟨b, hb, hk⟩ := swapsLc (elt := elt) (gs := [⟨tg, iter, ifs, 0⟩]) (scope := scope) (pos := p2) (x := x) (p := pos') (l := pos.line) (env := X.env)
        cases b with
        | false => exact as_set (ps_set k.nd hi' hl' (ae_lc R k elt tg iter ifs scope p2) hb (.inl (hf x)))
        | true =>
          unfold lcM
          dsimp only
          split
          · rename_i h1
            split
            · rename_i p h2
              split
              · rename_i h3
                have F := lc_facts (elt := elt) R k h1 h2 h3
                exact as_setLc k.calm k.nd hi' (hk rfl) hb F.hi F.ok F.hp F.hg F.ht F.he F.hs
              · exact as_bad
            · exact as_bad
          · exact as_bad
      · exact as_bad
    · exact as_bad
  · rename_i x pos' e pos _
    split
    · rename_i hl
      rw [Bool.and_eq_true] at hl
      split
      · rename_i i hi
        have hi' : X.N[i]? = some x := by rw [k.hN]; exact slotIx_ok hi
        have hl' : Loc X.env.scope x := by rw [k.hsc]; exact locB_ok hl.1
        exact as_set (ps_set k.nd hi' hl' (R.E X W sc k e) (swapsNone hl.2 _) (.inl (hf x)))
      · exact as_bad
    · exact as_bad
  · split
    · rename_i hc
      rw [Bool.and_eq_true, Bool.and_eq_true] at hc
      obtain ⟨⟨h1, h2⟩, h3⟩ := hc
      exact as_asg (R.E X W sc k _) (R.G X W sc k hf _) (swapsNone h1 _) (swap_none h2) h3
    · exact as_bad
  · rename_i x p2 op e pos
    split
    · rename_i hl
      split
      · rename_i i f hi hp
        obtain ⟨q, h1, h2⟩ := ipP_ok (X := X) (ct := ct) hp
        exact as_aug k.nd (by rw [k.hN]; exact slotIx_ok hi) (by rw [k.hsc]; exact locB_ok hl) (R.E X W sc k e) h1 h2 (hf x)
      · exact as_bad
    · exact as_bad
  · exact as_if (R.T X W sc k _) (seqs_of R k hf _) (seqs_of R k hf _)
  · exact as_while k.pass (R.T X W sc k _) (seqs_of R k hf _)
  · split
    · rename_i hn
      split
      · rename_i p hp
        exact as_for k.pass k.calm (R.I X W sc k _ _) (ag_pat (pat_PG k.hN k.nd k.calm (fun x hx => ⟨by rw [k.hsc]; exact locB_ok hx, .inl (hf x)⟩) 5 _ p hp)) (seqs_of R k hf _) (foldedNot hn)
      · exact as_bad
    · exact as_bad
  · exact as_ret (R.E X W sc k _)
  · exact as_retN
  · exact as_doc
  · split
    · rename_i hn
      exact as_expr (R.E X W sc k _) (swapsNone hn _)
    · exact as_bad
  · exact as_pass
  · exact as_break
  · exact as_continue
  · exact as_bad
end
end Ev
namespace Ev
open PySem PySem.Spec PyProof.Rows L2
theorem rc_ok {D : Dn} {ct : CT} {lev : Nat} : ∀ n, RcOk D ct lev (rc D n)
  | 0 => ⟨fun _ _ _ _ _ => ae_bad, fun _ _ _ _ _ => at_bad, fun _ _ _ _ _ _ => ai_bad, fun _ _ _ _ _ _ => ag_bad, fun _ _ _ _ _ _ => as_bad⟩
  | n + 1 => ⟨fun X W sc k e => step_E (rc_ok n) k e, fun X W sc k e => step_T (rc_ok n) k e, fun X W sc k tg e => ai_iter (rc_ok n) k tg e, fun X W sc k hf e => step_G (rc_ok n) k hf e, fun X W sc k hf e => step_S (rc_ok n) k hf e⟩
/-- what the head tells of a def -/
structure FnH (K : PySem.W.Frag) (mg : Str → Option Value) (d : FnD) (f : Addr) (fd : FuncData) : Prop where
  F : FunD K d.nm d.key d.args d.body d.sc [] [] f fd
  S : FnScope d.N d.ps d.sc
  b : Binds K fd d.ps []
/-- the whole text's facts -/
structure Txt (K : PySem.W.Frag) (mg : Str → Option Value) (T : Tbl) (fs : List FnD) : Prop where
  con : ∀ x v, T.con.lookup x = some v → ∃ u v', mg x = some u ∧ RelV v' u ∧ ∀ ρ H, VR K ρ H v v'
  free : ∀ x, T.free.contains x = true → mg x = none
  fn : ∀ x n, T.gfn.lookup x = some n → ∃ d f fd, findFn fs x = some d ∧ d.ps.length = n ∧ mg x = some (.ref f) ∧ FnH K mg d f fd
section
variable {P : Program} {w : World} {K : PySem.W.Frag} {mg : Str → Option Value} {base : Heap} {T : Tbl} {fs : List FnD} {ct : CT}
theorem SR.start {ρ : List Addr} {H : Hp} {N : List Str} {xs : List AV} {vs : List V} (h : VRs K ρ H xs vs) : SR K ρ H (startA N xs) (start N vs) := by
  unfold startA L2.start
  refine ⟨by simp [h.length], fun i x e => ?_⟩
  by_cases hi : i < xs.length
  · rw [List.getElem?_append_left (by simpa using hi), List.getElem?_map] at e
    obtain ⟨y, e1, e2⟩ := Option.map_eq_some_iff.mp e
    cases e2
    obtain ⟨v, h1, h2⟩ := h.get e1
    refine ⟨v, ?_, h2⟩
    rw [List.getElem?_append_left (by simpa using (List.getElem?_eq_some_iff.mp h1).1), List.getElem?_map, h1]
    rfl
  · rw [List.getElem?_append_right (by simpa using hi)] at e
    have := List.mem_of_getElem? e
    rw [List.mem_replicate] at this
    cases this.2
/-- each def does what the evaluator says -/
theorem fn_ok {T : Tbl} {fs : List FnD} (X : Txt K mg T fs) : ∀ (k : Nat) (d : FnD) (f : Addr) (fd : FuncData), FnH K mg d f fd → findFn fs d.key = some d →
    FnOk P w K mg base (L2.CX P w) (2 * k) f fd d.ps (spU K ct (fun xs h => if xs.length = d.ps.length then callA T fs k d.key xs h else .bad) d.ps.length)
  | 0, d, f, fd, _, _ => by
    refine ⟨fun vs H Q E h => h.1, fun A outer s H args us vs Q E hr he hb hv h => ?_⟩
    obtain ⟨_, ρ, h, xs, _, _, p⟩ := h
    have e0 : (if xs.length = d.ps.length then callA T fs 0 d.key xs h else .bad) = .bad := by
      split <;> rfl
    dsimp only at p
    rw [e0] at p
    exact p.elim
  | k + 1, d, f, fd, Hd, hfind => by
    obtain ⟨F, S, b⟩ := Hd
    refine F.ok (k := 2 * k + 1) S (fun vs H Q E h => h.1) fun cdv A outer s H vs Q E hr h => ?_
    obtain ⟨hl, ρ, ah, xs, hh, hv, p⟩ := h
    have kn : Kn P w K mg base T (callA T fs k) ct (2 * k) := by
      refine ⟨X.con, fun y n hy => ?_, X.free⟩
      obtain ⟨d', f', fd', h1, h2, h3, h4⟩ := X.fn y n hy
      have hk : d'.key = y := by
        have := List.find?_some h1
        simpa using this
      have q := fn_ok X k d' f' fd' h4 (by rw [hk]; exact h1)
      rw [hk] at q
      exact ⟨f', fd', d'.ps, h2, h3, h4.F.kp, h4.b, q⟩
    have xo : XOk (cxOf (L2.CX P w) P w K mg base d.N d.key d.sc f cdv A outer s H E) ⟨T, d.N, callA T fs k⟩ ct (fun cls dd _ H => E cls dd H) d.sc (2 * k) :=
      ⟨rfl, S.nd, rfl, S.kind, hr, rfl, passes_of rfl, takes_of rfl rfl rfl rfl, kn⟩
    refine ⟨_, seqs_of (rc_ok deep) xo (fun _ => rfl) d.body, ρ, startA d.N xs, ah, SR.start hv, hh, ?_⟩
    have hx : xs.length = d.ps.length := hv.length.trans hl
    have ec : callA T fs (k + 1) d.key xs ah = runB (bodyM T (callA T fs k) d) d.N xs ah := by
      show (match findFn fs d.key with
        | some d => if xs.length = d.ps.length then runB (bodyM T (callA T fs k) d) d.N xs ah else .bad
        | none => .bad) = _
      rw [hfind]
      exact if_pos hx
    dsimp only at p
    rw [if_pos hx, ec] at p
    unfold runB bodyM at p
    cases e : seqsM (d.body.map ((rc ⟨T, d.N, callA T fs k⟩ deep).S d.sc)) (startA d.N xs) ah with
    | nx s' h' =>
      rw [e] at p
      exact fun ρ' H' σ' x y z => p ρ' H' .non x y (VR.non.mpr rfl)
    | rt v h' =>
      rw [e] at p
      exact p
    | exc c fs' s' h' =>
      rw [e] at p
      exact fun ρ' H' σ' cls dd x y z u => p ρ' H' cls dd x y u
    | bk _ _ => rw [e] at p; exact p.elim
    | ct _ _ => rw [e] at p; exact p.elim
    | bad => rw [e] at p; exact p.elim
/-- THE END: the law's def gives True, if the evaluator says so -/
theorem law_sp {f : List AV → AH → RE AV} {H : Hp} {a : Addr} {ns : List Int} {h' : AH} (hO : Only H) (hS : SqL K H a (ns.map V.int)) (e : f [.ref 0] [.fro (ns.map AV.int)] = .ok (.bl true) h') :
    spU K ct f 1 [.ref a] H (fun v _ => v = .bl true) fun _ _ _ => False := by
  refine ⟨rfl, [a], [.fro (ns.map AV.int)], [.ref 0], ⟨rfl, fun i j b e1 e2 hne => ?_, fun i b o e1 e2 => ?_⟩, VRs.one (VR.ref.mpr ⟨a, rfl, rfl⟩), ?_⟩
  · have h1 := (List.getElem?_eq_some_iff.mp e1).1
    have h2 := (List.getElem?_eq_some_iff.mp e2).1
    simp at h1 h2
    omega
  · have h1 := (List.getElem?_eq_some_iff.mp e1).1
    have h2 : i = 0 := by simp at h1; omega
    subst h2
    obtain rfl : a = b := by simpa using e1
    obtain rfl : AO.fro (ns.map AV.int) = o := by simpa using e2
    have hv : VRs K [a] H (ns.map AV.int) (ns.map V.int) := VRs.of_map (fun _ => VR.int.mpr rfl) ns
    refine ⟨ns.map V.int, hv, ?_⟩
    rcases hS with (hS | ⟨o, hS⟩) | hS
    · rcases hO a with z | ⟨o, xs, z⟩
      · rw [hS] at z; cases z
      · rw [hS] at z; cases z
    · exact .inl ⟨o, hS⟩
    · exact .inr hS
  · rw [e]
    exact fun ρ' H' v' _ _ hv => VR.bl.mp hv
end
end Ev
namespace Ev
open PySem PySem.Spec PyProof.Rows L2
/-! ### the head's facts -/
def nonV : Value → Bool
  | .none => true
  | _ => false
def blV (b : Bool) : Value → Bool
  | .bool c => decide (b = c)
  | _ => false
def intV (i : Int) : Value → Bool
  | .int j _ => decide (i = j)
  | _ => false
def strV (x : Str) : Value → Bool
  | .str y _ => decide (x = y)
  | _ => false
def itemsV (K : PySem.W.Frag) : Value → Option (Addr × List Value)
  | .ref a => (match K.lookup a with
    | some o => (match o.cls, o.data with
      | .type t, .seq its _ => if t = "tuple" ∧ its.size ≤ sizeLine then some (a, its.toList) else none
      | _, _ => none)
    | none => none)
  | _ => none
mutual
/-- a value of the module is that value -/
def avB (K : PySem.W.Frag) : AV → Value → Bool
  | .non, u => nonV u
  | .bl b, u => blV b u
  | .int i, u => intV i u
  | .str x, u => strV x u
  | .tup xs, u => (match itemsV K u with
    | some p => avsB K xs p.2
    | none => false)
  | .ref _, _ => false
  | .kd _, _ => false
def avsB (K : PySem.W.Frag) : List AV → List Value → Bool
  | [], us => us.isEmpty
  | x :: xs, us => (match us with
    | u :: us => avB K x u && avsB K xs us
    | [] => false)
end
mutual
theorem avB_ok {K : PySem.W.Frag} : ∀ (x : AV) {u : Value}, avB K x u = true → ∃ v, L2.RelV v u ∧ ∀ ρ H, VR K ρ H x v
  | .non, u, h => by
    unfold avB nonV at h
    split at h
    · exact ⟨.non, rfl, fun _ _ => VR.non.mpr rfl⟩
    · cases h
  | .bl b, u, h => by
    unfold avB blV at h
    split at h
    · exact ⟨.bl b, by rw [of_decide_eq_true h]; rfl, fun _ _ => VR.bl.mpr rfl⟩
    · cases h
  | .int b, u, h => by
    unfold avB intV at h
    split at h
    · exact ⟨.int b, by rw [of_decide_eq_true h]; exact ⟨_, rfl⟩, fun _ _ => VR.int.mpr rfl⟩
    · cases h
  | .str b, u, h => by
    unfold avB strV at h
    split at h
    · exact ⟨.str b, by rw [of_decide_eq_true h]; exact ⟨_, rfl⟩, fun _ _ => VR.str.mpr rfl⟩
    · cases h
  | .tup xs, u, h => by
    unfold avB at h
    split at h
    · rename_i p hp
      obtain ⟨vs, r, q⟩ := avsB_ok xs h
      unfold itemsV at hp
      split at hp
      · rename_i a
        split at hp
        · rename_i o ho
          split at hp
          · rename_i t its n hc hd
            split at hp
            · rename_i hh
              cases hp
              obtain ⟨rfl, h2⟩ := hh
              exact ⟨.ref a, rfl, fun ρ H => VR.tup.mpr ⟨a, vs, rfl, .inr ⟨o, its, n, ho, hc, hd, h2, r⟩, q ρ H⟩⟩
            · cases hp
          · cases hp
        · cases hp
      · cases hp
    · cases h
  | .ref _, u, h => by unfold avB at h; cases h
  | .kd _, u, h => by unfold avB at h; cases h
theorem avsB_ok {K : PySem.W.Frag} : ∀ (xs : List AV) {us : List Value}, avsB K xs us = true → ∃ vs, L2.Vals vs us ∧ ∀ ρ H, VRs K ρ H xs vs
  | [], us, h => by
    unfold avsB at h
    rw [List.isEmpty_iff.mp h]
    exact ⟨[], .nil, fun _ _ => VRs.nil.mpr rfl⟩
  | x :: xs, us, h => by
    unfold avsB at h
    split at h
    · rename_i u us'
      rw [Bool.and_eq_true] at h
      obtain ⟨v, r, q⟩ := avB_ok x h.1
      obtain ⟨vs, rs, qs⟩ := avsB_ok xs h.2
      exact ⟨v :: vs, .cons r rs, fun ρ H => VRs.cons.mpr ⟨v, vs, rfl, q ρ H, qs ρ H⟩⟩
    · cases h
end
def conB (T : Tbl) (K : PySem.W.Frag) : Bool := T.con.all fun p => match PySem.W.nsIn K mainGlobals p.1 with
  | some (some u) => avB K p.2 u
  | _ => false
def fac (T : Tbl) : List He.Fa := T.gfn.map (fun p => He.Fa.glo p.1) ++ T.free.map He.Fa.free
def ddOf (d : FnD) : He.DefD := ⟨d.at_, d.nm, d.key, d.args, d.body, d.sc, [], []⟩
def scB (d : FnD) : Bool := (match d.sc.kind with | .function => true | _ => false) && !d.sc.isCoroutine && !d.sc.isGenerator && decide d.N.Nodup && decide (d.N.take d.ps.length = d.ps) &&
  (d.ps.all fun x => locB d.sc x) && d.sc.names.all fun y => match y.2 with | .free => false | _ => true
theorem scB_ok {d : FnD} (h : scB d = true) : FnScope d.N d.ps d.sc := by
  unfold scB at h
  simp only [Bool.and_eq_true] at h
  obtain ⟨⟨⟨⟨⟨⟨h1, h2⟩, h3⟩, h4⟩, h5⟩, h6⟩, h7⟩ := h
  refine ⟨?_, by simpa using h2, by simpa using h3, of_decide_eq_true h4, of_decide_eq_true h5, fun x hx => locB_ok (List.all_eq_true.mp h6 x hx), fun y hy e => ?_⟩
  · split at h1
    · assumption
    · cases h1
  · have := List.all_eq_true.mp h7 y hy
    rw [e] at this
    cases this
structure BindOk (d : FnD) : Prop where
  ok : ∀ (kV doc pm : Value) (an : Option Addr) (cdv ct : Value) (us : List Value), us.length = d.ps.length → bindArgs (PySem.W.fnOf d.nm d.key d.args d.body d.sc .none kV doc pm an cdv ct) ⟨us, []⟩ = pure (d.ps.zip us)
/-- the text's table is sound: each name has its def, of so many parameters -/
def tblB (T : Tbl) (fs : List FnD) : Bool := (T.gfn.all fun p => match findFn fs p.1 with
  | some d => decide (d.ps.length = p.2) && decide (d.at_ = (p.1, none))
  | none => false) && fs.all scB
theorem lookup_mem_snd {α β : Type} [BEq α] [LawfulBEq α] {x : α} {y : β} {l : List (α × β)} (h : l.lookup x = some y) : (x, y) ∈ l := lookup_mem_of h
theorem txt_of {T : Tbl} {fs : List FnD} {w : World} {K : PySem.W.Frag} {h : Heap} {mg : Str → Option Value} (X : K.In h) (G : h.Ns mainGlobals mg) (c : He.SaysX (fac T) (fs.map ddOf) [] [] (conB T) w h K) (ht : tblB T fs = true) (hb : ∀ d ∈ fs, BindOk d) : Txt K mg T fs := by
  unfold tblB at ht
  rw [Bool.and_eq_true] at ht
  have cd := He.SaysT.d c.t
  refine ⟨fun x v hv => ?_, fun x hx => ?_, fun x n hn => ?_⟩
  · have h1 := List.all_eq_true.mp c.more (x, v) (lookup_mem_of hv)
    dsimp only at h1
    split at h1
    · rename_i u hu
      obtain ⟨v', r, q⟩ := avB_ok v h1
      exact ⟨u, v', PySem.W.mg_of X G hu, r, q⟩
    · cases h1
  · exact He.free_ok X G (He.SaysD.facts cd (List.mem_append_right _ (List.mem_map.mpr ⟨x, by simpa using hx, rfl⟩)))
  · have hm := lookup_mem_of hn
    have h1 := List.all_eq_true.mp ht.1 (x, n) hm
    dsimp only at h1
    split at h1
    · rename_i d hd
      have hdm : d ∈ fs := List.mem_of_find?_eq_some hd
      have hk : d.key = x := by
        have := List.find?_some hd
        simpa using this
      rw [Bool.and_eq_true] at h1
      obtain ⟨fd, F⟩ := He.SaysD.defs cd (List.mem_map.mpr ⟨d, hdm, rfl⟩)
      have ea : d.at_ = (x, none) := of_decide_eq_true h1.2
      have F' : FunD K d.nm d.key d.args d.body d.sc [] [] (He.ga K x) fd := by
        have F2 : FunD K d.nm d.key d.args d.body d.sc [] [] (He.fAd K d.at_) fd := F
        rw [ea] at F2
        exact F2
      exact ⟨d, He.ga K x, fd, hd, of_decide_eq_true h1.1, He.glo_ok X G (He.SaysD.facts cd (List.mem_append_left _ (List.mem_map.mpr ⟨(x, n), hm, rfl⟩))), F', scB_ok (List.all_eq_true.mp ht.2 d hdm), FunD.bindsN F' (hb d hdm).ok⟩
    · cases h1
/-! ### the end of a law -/
/-- the run's row: the hook is hookX n (fac T) (fs.map ddOf) [] [] (conB T) -/
theorem walk_ev {l : PySem.W.OpenLaw} {q : Program} {loose : List Str} {XP : (Str → Option Value) → Heap → Prop} {d : DefRec} {T : Tbl} {fs : List FnD} {dl : FnD} {n k : Nat} {x : Str}
    (hn : l.most = some 63) (hdf : d.params.defaults = []) (hr : Room (2 * k) callerA)
    (hname : d.name = dl.key) (hps : dl.ps = [x]) (hdl : findFn fs dl.key = some dl) (hg : T.gfn.lookup dl.key = some 1) (ht : tblB T fs = true) (hb : ∀ d ∈ fs, BindOk d)
    (law : ∀ ns : List Int, ns.length ≤ 63 → (∀ z ∈ ns, Builtin.Int.intBits z ≤ 1048576) → ∃ h', callA T fs k dl.key [.ref 0] [.fro (ns.map AV.int)] = .ok (.bl true) h') :
    PySem.W.WalkO q loose XP (He.hookX n (fac T) (fs.map ddOf) [] [] (conB T)).says l.row.toRowW d [] (fun f vs => PySem.call f vs) := by
  refine Att.attach_callB hn hdf fun w s₀ s₁ mg mb fa o pm cd doc a vs ns G Y ho hd hcd hmg hobj hints hlen hbits hg' => ?_
  obtain ⟨K, KX, c⟩ := Y
  have X := txt_of KX G.T.g c ht hb
  obtain ⟨d', f', fd', h1, h2, h3, h4⟩ := X.fn dl.key 1 hg
  rw [hdl] at h1
  cases h1
  have ef : fa = f' := by
    rw [hname] at hmg
    rw [hmg] at h3
    exact Value.ref.inj (Option.some.inj h3)
  subst ef
  obtain ⟨h', e⟩ := law ns hlen hbits
  have hb' : ∀ (s : Shared) (u : Value), BindsTo s fd' ⟨[u], []⟩ [(x, u)] := fun s u => by
    have := FunD.bindsA h4.F (hb dl (List.mem_of_find?_eq_some hdl)).ok s [u] (by rw [hps]; rfl)
    rw [hps] at this
    exact this
  refine law_call (CX := L2.CX l.prog w) KX G.T.g G.T.b G.T.builtins G.T.nolimit hg' hobj hints (Nat.le_trans hlen (by decide)) hr (sp := spU K (fun _ => none) (fun xs h => if xs.length = dl.ps.length then callA T fs k dl.key xs h else .bad) dl.ps.length)
    (fun base hK hB => by
      have q := fn_ok (P := l.prog) (w := w) (mg := mg) (base := base) (ct := fun _ => none) X k dl fa fd' h4 hdl
      rw [hps] at q ⊢
      exact q) hb' (fun H hO hS => ?_) fun H e s' hc => ?_
  · rw [hps]
    exact law_sp hO hS (by dsimp only [List.length]; exact e)
  · obtain ⟨_, _, _, _, _, _, _, _, _, _, _, _, z⟩ := hc
    exact z.elim
end Ev
namespace Ev
open PySem PySem.Spec PyProof.Rows L2
/-! ### reckoning with the evaluator -/
def runR : RS → RE AV
  | .nx _ h' => .ok .non h'
  | .rt v h' => .ok v h'
  | .exc c fs _ h' => .exc c fs h'
  | _ => .bad
theorem runB_eq (m : SM) (N : List Str) (vs : List AV) (h : AH) : runB m N vs h = runR (m (startA N vs) h) := by
  unfold runB runR
  cases m (startA N vs) h <;> rfl
theorem call_eq {T : Tbl} {fs : List FnD} {k : Nat} {x : Str} {vs : List AV} {h : AH} {d : FnD} {m : SM} {s : Sl} (hf : findFn fs x = some d) (hs : startA d.N vs = s) (hm : bodyM T (callA T fs k) d = m) (hl : vs.length = d.ps.length := by rfl) :
    callA T fs (k + 1) x vs h = runR (m s h) := by
  rw [← hm, ← hs, ← runB_eq]
  show (match findFn fs x with
    | some d => if vs.length = d.ps.length then runB (bodyM T (callA T fs k) d) d.N vs h else .bad
    | none => .bad) = _
  rw [hf]
  exact if_pos hl
/-! how a result goes on -/
def RS.thn : RS → SM → RS
  | .nx s h, b => b s h
  | r, _ => r
def RE.thS {α : Type} : RE α → (α → SM) → Sl → RS
  | .ok a h, f, s => f a s h
  | .exc c fs h, _, s => .exc c fs s h
  | .bad, _, _ => .bad
def RE.thE {α β : Type} : RE α → (α → EM β) → Sl → RE β
  | .ok a h, f, s => f a s h
  | .exc c fs h, _, _ => .exc c fs h
  | .bad, _, _ => .bad
def RE.thIf : RE Bool → SM → SM → Sl → RS
  | .ok k h, a, b, s => if k = true then a s h else b s h
  | .exc c fs h, _, _, s => .exc c fs s h
  | .bad, _, _, _ => .bad
section
variable {α β : Type} {s : Sl} {h : AH} {a b : SM} {c : Str} {fs : List (Str × AV)} {m : EM α} {f : α → EM β} {g : α → SM} {v : AV}
theorem seqS_eq : seqS a b s h = (a s h).thn b := by
  unfold seqS RS.thn
  cases a s h <;> rfl
theorem bdS_eq : bdS m g s h = (m s h).thS g s := by
  unfold bdS RE.thS
  cases m s h <;> rfl
theorem bd_eq : bd m f s h = (m s h).thE f s := by
  unfold bd RE.thE
  cases m s h <;> rfl
theorem ifS_eq {m : EM Bool} : ifS m a b s h = (m s h).thIf a b s := by
  unfold ifS bdS RE.thIf
  cases m s h with
  | ok k h' => cases k <;> rfl
  | _ => rfl
theorem thn_nx : (RS.nx s h).thn b = b s h := id rfl
theorem thn_rt : (RS.rt v h).thn b = .rt v h := id rfl
theorem thn_bk : (RS.bk s h).thn b = .bk s h := id rfl
theorem thn_ct : (RS.ct s h).thn b = .ct s h := id rfl
theorem thn_exc : (RS.exc c fs s h).thn b = .exc c fs s h := id rfl
theorem thS_ok {x : α} : (RE.ok x h).thS g s = g x s h := id rfl
theorem thS_exc : (RE.exc (α := α) c fs h).thS g s = .exc c fs s h := id rfl
theorem thE_ok {x : α} : (RE.ok x h).thE f s = f x s h := id rfl
theorem thE_exc : (RE.exc (α := α) c fs h).thE f s = .exc c fs h := id rfl
theorem thIf_ok {k : Bool} : (RE.ok k h).thIf a b s = if k = true then a s h else b s h := id rfl
theorem thIf_exc : (RE.exc (α := Bool) c fs h).thIf a b s = .exc c fs s h := id rfl
theorem ret_eq {x : α} : ret x s h = .ok x h := id rfl
theorem setS_eq {i : Nat} : setS i v s h = .nx (s.set i (some v)) h := id rfl
theorem retS_eq : retS v s h = .rt v h := id rfl
theorem skipS_eq : skipS s h = .nx s h := id rfl
theorem slotM_eq {i : Nat} (e : s[i]? = some (some v)) : slotM i s h = .ok v h := by
  unfold slotM
  rw [e]
theorem rd_eq {f : AH → Option α} {x : α} (e : f h = some x) : rd f s h = .ok x h := by
  unfold rd
  rw [e]
theorem rd_some {x : α} : rd (fun _ => some x) s h = .ok x h := id rfl
theorem alloc_eq {o : AO} : alloc o s h = .ok (.ref h.length) (h ++ [o]) := id rfl
theorem callM_eq {cf : CF} {key : Str} {ms : EM (List AV)} : callM cf key ms s h = (ms s h).thE (fun xs _ h => cf key xs h) s := by
  unfold callM
  exact bd_eq
theorem evs_nil : evsM [] s h = .ok [] h := id rfl
theorem evs_cons {m : EM AV} {ms : List (EM AV)} : evsM (m :: ms) s h = (m s h).thE (fun x => bd (evsM ms) fun xs => ret (x :: xs)) s := by
  show bd m _ s h = _
  exact bd_eq
theorem asBool_bl {k : Bool} : asBool (.bl k) s h = .ok k h := id rfl
theorem tru_bl {k : Bool} : truA (.bl k) s h = .ok k h := id rfl
theorem tru_int {i : Int} : truA (.int i) s h = .ok (i != 0) h := id rfl
theorem tru_non : truA .non s h = .ok false h := id rfl
theorem tru_tup {xs : List AV} : truA (.tup xs) s h = .ok (!xs.isEmpty) h := id rfl
theorem runR_nx : runR (.nx s h) = .ok .non h := id rfl
theorem runR_rt : runR (.rt v h) = .ok v h := id rfl
theorem runR_exc : runR (.exc c fs s h) = .exc c fs h := id rfl
theorem runR_ite {p : Prop} [Decidable p] {x y : RS} : runR (if p then x else y) = if p then runR x else runR y := by split <;> rfl
theorem thn_ite {p : Prop} [Decidable p] {x y : RS} : (if p then x else y).thn b = if p then x.thn b else y.thn b := by split <;> rfl
theorem thS_ite {p : Prop} [Decidable p] {x y : RE α} : (if p then x else y).thS g s = if p then x.thS g s else y.thS g s := by split <;> rfl
theorem thE_ite {p : Prop} [Decidable p] {x y : RE α} : (if p then x else y).thE f s = if p then x.thE f s else y.thE f s := by split <;> rfl
theorem ite_app2 {p : Prop} [Decidable p] {x y : EM α} : (if p then x else y) s h = if p then x s h else y s h := by split <;> rfl
theorem ite_app2S {p : Prop} [Decidable p] {x y : SM} : (if p then x else y) s h = if p then x s h else y s h := by split <;> rfl
end
section
variable {s : Sl} {h : AH} {i j : Int} {x y : Str} {k l : Bool}
theorem add_ii : addA (.int i) (.int j) s h = .ok (.int (i + j)) h := id rfl
theorem sub_ii : subA (.int i) (.int j) s h = .ok (.int (i - j)) h := id rfl
theorem mul_ii : mulA (.int i) (.int j) s h = if CMulW i j then .ok (.int (i * j)) h else .bad := by
  show (if CMulW i j then ret (AV.int (i * j)) else bad) s h = _
  split <;> rfl
theorem fdiv_ii : fdivA (.int i) (.int j) s h = if CDivW i j then .ok (.int (i / j)) h else .bad := by
  show (if CDivW i j then ret (AV.int (i / j)) else bad) s h = _
  split <;> rfl
theorem mod_ii : modA (.int i) (.int j) s h = if 0 < j then .ok (.int (i % j)) h else .bad := by
  show (if 0 < j then ret (AV.int (i % j)) else bad) s h = _
  split <;> rfl
theorem pow_ii : powA (.int i) (.int j) s h = if CPow i j then .ok (.int (i ^ j.toNat)) h else .bad := by
  show (if CPow i j then ret (AV.int (i ^ j.toNat)) else bad) s h = _
  split <;> rfl
theorem shl_ii : shlA (.int i) (.int j) s h = if CPow i j then .ok (.int (i * 2 ^ j.toNat)) h else .bad := by
  show (if CPow i j then ret (AV.int (i * 2 ^ j.toNat)) else bad) s h = _
  split <;> rfl
theorem shr_ii : shrA (.int i) (.int j) s h = if 0 ≤ j then .ok (.int (i / 2 ^ j.toNat)) h else .bad := by
  show (if 0 ≤ j then ret (AV.int (i / 2 ^ j.toNat)) else bad) s h = _
  split <;> rfl
theorem band_ii : bandA (.int i) (.int j) s h = .ok (.int (Builtin.bitAnd i j)) h := id rfl
theorem bor_ii : borA (.int i) (.int j) s h = .ok (.int (Builtin.bitOr i j)) h := id rfl
theorem bxor_ii : bxorA (.int i) (.int j) s h = .ok (.int (Builtin.bitXor i j)) h := id rfl
theorem neg_i : negA (.int i) s h = .ok (.int (-i)) h := id rfl
theorem lt_ii : ltA (.int i) (.int j) s h = .ok (.bl (decide (i < j))) h := id rfl
theorem le_ii : leA (.int i) (.int j) s h = .ok (.bl (decide (i ≤ j))) h := id rfl
theorem gt_ii : gtA (.int i) (.int j) s h = .ok (.bl (decide (j < i))) h := id rfl
theorem ge_ii : geA (.int i) (.int j) s h = .ok (.bl (decide (j ≤ i))) h := id rfl
theorem eq_ii : eqA (.int i) (.int j) s h = .ok (.bl (decide (i = j))) h := id rfl
theorem eq_ss : eqA (.str x) (.str y) s h = .ok (.bl (decide (x = y))) h := id rfl
theorem eq_bb : eqA (.bl k) (.bl l) s h = .ok (.bl (decide (k = l))) h := id rfl
theorem ne_ii : neA (.int i) (.int j) s h = .ok (.bl (!decide (i = j))) h := id rfl
theorem ne_ss : neA (.str x) (.str y) s h = .ok (.bl (!decide (x = y))) h := id rfl
theorem ne_bb : neA (.bl k) (.bl l) s h = .ok (.bl (!decide (k = l))) h := id rfl
theorem isN_non : isN .non .non s h = .ok (.bl true) h := id rfl
theorem isN_int : isN (.int i) .non s h = .ok (.bl false) h := id rfl
theorem isN_tup {xs : List AV} : isN (.tup xs) .non s h = .ok (.bl false) h := id rfl
theorem isN_ref {n : Nat} : isN (.ref n) .non s h = .ok (.bl false) h := id rfl
theorem isN_str : isN (.str x) .non s h = .ok (.bl false) h := id rfl
theorem int_i : intA [.int i] s h = .ok (.int i) h := id rfl
theorem int_b : intA [.bl k] s h = .ok (.int (if k then 1 else 0)) h := id rfl
theorem abs_i : absA [.int i] s h = .ok (.int (if i < 0 then -i else i)) h := id rfl
theorem max_ii : maxA [.int i, .int j] s h = .ok (.int (if j > i then j else i)) h := id rfl
theorem min_ii : minA [.int i, .int j] s h = .ok (.int (if j < i then j else i)) h := id rfl
end
/-! texts -/
theorem ofString_inj {a b : String} : Str.ofString a = Str.ofString b ↔ a = b := by
  constructor
  · intro h
    have h1 : (cpsOfBytes 0 0 a.toByteArray.data.toList).toArray = (cpsOfBytes 0 0 b.toByteArray.data.toList).toArray := congrArg Str.cps h
    have h2 : cpsOfBytes 0 0 a.toByteArray.data.toList = cpsOfBytes 0 0 b.toByteArray.data.toList := by
      have := congrArg Array.toList h1
      simpa using this
    rw [cpsOfBytes_string, cpsOfBytes_string] at h2
    have h3 : a.toList = b.toList := by
      have inj : ∀ (l m : List Char), l.map Char.toNat = m.map Char.toNat → l = m := by
        intro l
        induction l with
        | nil => intro m h; cases m with
          | nil => rfl
          | cons _ _ => cases h
        | cons c l ih => intro m h; cases m with
          | nil => cases h
          | cons d m =>
            rw [List.map_cons, List.map_cons] at h
            injection h with h1 h2
            rw [ih m h2]
            have : c = d := Char.ext (UInt32.toNat_inj.mp h1)
            rw [this]
      exact inj _ _ h2
    have h4 := congrArg String.ofList h3
    simpa using h4
  · rintro rfl
    rfl
section
variable {α β : Type} {s : Sl} {h : AH} {a b : SM} {f : α → EM β} {g : α → SM}
theorem thn_bad : RS.bad.thn b = .bad := id rfl
theorem thS_bad : (RE.bad (α := α)).thS g s = .bad := id rfl
theorem thE_bad : (RE.bad (α := α)).thE f s = .bad := id rfl
theorem thIf_bad : (RE.bad (α := Bool)).thIf a b s = .bad := id rfl
theorem runR_bad : runR .bad = .bad := id rfl
end
/-! ### what is wanted of a result -/
def okE {α : Type} (r : RE α) (P : α → AH → Prop) : Prop := match r with
  | .ok a h => P a h
  | _ => False
structure Dst where
  nx : Sl → AH → Prop
  rt : AV → AH → Prop
  bk : Sl → AH → Prop := fun _ _ => False
  ct : Sl → AH → Prop := fun _ _ => False
  ex : Str → List (Str × AV) → Sl → AH → Prop := fun _ _ _ _ => False
def okS (r : RS) (D : Dst) : Prop := match r with
  | .nx s h => D.nx s h
  | .rt v h => D.rt v h
  | .bk s h => D.bk s h
  | .ct s h => D.ct s h
  | .exc c fs s h => D.ex c fs s h
  | .bad => False
section
variable {α β : Type} {s : Sl} {h : AH} {a b : SM} {m : EM α} {f : α → EM β} {g : α → SM} {P : β → AH → Prop} {D : Dst}
theorem okE_iff {r : RE α} {P : α → AH → Prop} : okE r P ↔ ∃ a h, r = .ok a h ∧ P a h := by
  cases r with
  | ok a h => exact ⟨fun p => ⟨a, h, rfl, p⟩, fun ⟨_, _, e, p⟩ => by cases e; exact p⟩
  | _ => exact ⟨fun p => p.elim, fun ⟨_, _, e, _⟩ => by cases e⟩
theorem okE.imp {r : RE α} {P P' : α → AH → Prop} (p : okE r P) (i : ∀ a h, P a h → P' a h) : okE r P' := by
  cases r with
  | ok a h => exact i a h p
  | _ => exact p
theorem okS.imp {r : RS} {D D' : Dst} (p : okS r D) (i1 : ∀ s h, D.nx s h → D'.nx s h) (i2 : ∀ v h, D.rt v h → D'.rt v h) (i3 : ∀ s h, D.bk s h → D'.bk s h) (i4 : ∀ s h, D.ct s h → D'.ct s h) (i5 : ∀ c fs s h, D.ex c fs s h → D'.ex c fs s h) : okS r D' := by
  cases r with
  | nx s h => exact i1 s h p
  | rt v h => exact i2 v h p
  | bk s h => exact i3 s h p
  | ct s h => exact i4 s h p
  | exc c fs s h => exact i5 c fs s h p
  | bad => exact p
theorem okE_thE {r : RE α} (p : okE r fun x h => okE (f x s h) P) : okE (r.thE f s) P := by
  cases r with
  | ok a h => exact p
  | _ => exact p.elim
theorem okS_thS {r : RE α} (p : okE r fun x h => okS (g x s h) D) : okS (r.thS g s) D := by
  cases r with
  | ok a h => exact p
  | _ => exact p.elim
theorem okS_thn {r : RS} (p : okS r { D with nx := fun s h => okS (b s h) D }) : okS (r.thn b) D := by
  cases r <;> exact p
theorem okS_thIf {r : RE Bool} (p : okE r fun k h => if k = true then okS (a s h) D else okS (b s h) D) : okS (r.thIf a b s) D := by
  cases r with
  | ok k h =>
    show okS (if k = true then a s h else b s h) D
    cases k <;> exact p
  | _ => exact p.elim
theorem okE_runR {r : RS} {P : AV → AH → Prop} (p : okS r { nx := fun _ h => P .non h, rt := P }) : okE (runR r) P := by
  cases r with
  | nx s h => exact p
  | rt v h => exact p
  | _ => exact p.elim
theorem okE_ok {x : α} {P : α → AH → Prop} (p : P x h) : okE (.ok x h) P := p
/-! ### loops -/
/-- a for over fixed items: J by the turn, the slots, the heap -/
theorem okS_forV {xs : List AV} {g : AV → SM} {b : SM} (J : Nat → Sl → AH → Prop) (turn : ∀ i x s h, xs[i]? = some x → J i s h → okS (g x s h) { nx := fun s h => okS (b s h) { nx := J (i + 1), ct := J (i + 1), bk := D.nx, rt := D.rt, ex := D.ex }, rt := fun _ _ => False, ex := D.ex })
    (done : ∀ s h, J xs.length s h → D.nx s h) : ∀ (f i : Nat) (s : Sl) (h : AH), J i s h → i ≤ xs.length → xs.length - i < f → okS (forN (.vals xs) g b f i s h) D
  | 0, i, s, h, _, _, hf => by omega
  | f + 1, i, s, h, j, hi, hf => by
    unfold forN nextA
    dsimp only
    by_cases hl : i < xs.length
    · rw [List.getElem?_eq_getElem hl]
      dsimp only
      have t := turn i xs[i] s h (List.getElem?_eq_getElem hl) j
      cases eg : g xs[i] s h with
      | nx s1 h1 =>
        rw [eg] at t
        have t : okS (b s1 h1) { nx := J (i + 1), ct := J (i + 1), bk := D.nx, rt := D.rt, ex := D.ex } := t
        dsimp only
        cases eb : b s1 h1 with
        | nx s2 h2 => rw [eb] at t; exact okS_forV J turn done f (i + 1) s2 h2 t (by omega) (by omega)
        | ct s2 h2 => rw [eb] at t; exact okS_forV J turn done f (i + 1) s2 h2 t (by omega) (by omega)
        | bk s2 h2 => rw [eb] at t; exact t
        | rt v h2 => rw [eb] at t; exact t
        | exc c fs s2 h2 => rw [eb] at t; exact t
        | bad => rw [eb] at t; exact t.elim
      | exc c fs s1 h1 => rw [eg] at t; exact t
      | rt _ _ => rw [eg] at t; exact t.elim
      | bk _ _ => rw [eg] at t; exact t.elim
      | ct _ _ => rw [eg] at t; exact t.elim
      | bad => rw [eg] at t; exact t.elim
    · rw [List.getElem?_eq_none (by omega)]
      have e : i = xs.length := by omega
      subst e
      exact done s h j
/-- a for over a list object that stays as it is -/
theorem okS_forL {xs : List AV} {r : Nat} {g : AV → SM} {b : SM} (J : Nat → Sl → AH → Prop) (hl : ∀ i s h, J i s h → lstOf h r = some xs) (turn : ∀ i x s h, xs[i]? = some x → J i s h → okS (g x s h) { nx := fun s h => okS (b s h) { nx := J (i + 1), ct := J (i + 1), bk := D.nx, rt := D.rt, ex := D.ex }, rt := fun _ _ => False, ex := D.ex })
    (done : ∀ s h, J xs.length s h → D.nx s h) : ∀ (f i : Nat) (s : Sl) (h : AH), J i s h → i ≤ xs.length → xs.length - i < f → okS (forN (.live r) g b f i s h) D
  | 0, i, s, h, _, _, hf => by omega
  | f + 1, i, s, h, j, hi, hf => by
    unfold forN nextA
    dsimp only
    rw [hl i s h j]
    dsimp only
    by_cases hlt : i < xs.length
    · rw [List.getElem?_eq_getElem hlt]
      dsimp only
      have t := turn i xs[i] s h (List.getElem?_eq_getElem hlt) j
      cases eg : g xs[i] s h with
      | nx s1 h1 =>
        rw [eg] at t
        have t : okS (b s1 h1) { nx := J (i + 1), ct := J (i + 1), bk := D.nx, rt := D.rt, ex := D.ex } := t
        dsimp only
        cases eb : b s1 h1 with
        | nx s2 h2 => rw [eb] at t; exact okS_forL J hl turn done f (i + 1) s2 h2 t (by omega) (by omega)
        | ct s2 h2 => rw [eb] at t; exact okS_forL J hl turn done f (i + 1) s2 h2 t (by omega) (by omega)
        | bk s2 h2 => rw [eb] at t; exact t
        | rt v h2 => rw [eb] at t; exact t
        | exc c fs s2 h2 => rw [eb] at t; exact t
        | bad => rw [eb] at t; exact t.elim
      | exc c fs s1 h1 => rw [eg] at t; exact t
      | rt _ _ => rw [eg] at t; exact t.elim
      | bk _ _ => rw [eg] at t; exact t.elim
      | ct _ _ => rw [eg] at t; exact t.elim
      | bad => rw [eg] at t; exact t.elim
    · rw [List.getElem?_eq_none (by omega)]
      have e : i = xs.length := by omega
      subst e
      exact done s h j
/-- a comprehension over fixed items: J by the turn, what is made so far, the heap (the new list at D within it) -/
theorem okE_compV {xs : List AV} {p : Pat} {c : EM Bool} {e : EM AV} {r : Nat} {s0 : Sl} {Q : AV → AH → Prop} (J : Nat → List AV → AH → Prop)
    (turn : ∀ i x acc h, xs[i]? = some x → J i acc h → h[r]? = some (.lst acc) → ∃ s1, bindP p x s0 = some s1 ∧ okE (c s1 h) fun k h2 => if k = true then okE (e s1 h2) fun y h3 => h3[r]? = some (.lst acc) ∧ acc.length < sizeLine ∧ J (i + 1) (acc ++ [y]) (h3.set r (.lst (acc ++ [y]))) else h2[r]? = some (.lst acc) ∧ J (i + 1) acc h2)
    (done : ∀ acc h, J xs.length acc h → h[r]? = some (.lst acc) → Q (.ref r) h) : ∀ (f i : Nat) (acc : List AV) (h : AH), J i acc h → h[r]? = some (.lst acc) → i ≤ xs.length → xs.length - i < f → okE (compN (.vals xs) p c e r s0 f i h) Q
  | 0, i, acc, h, _, _, _, hf => by omega
  | f + 1, i, acc, h, j, hD, hi, hf => by
    unfold compN nextA
    dsimp only
    by_cases hlt : i < xs.length
    · rw [List.getElem?_eq_getElem hlt]
      dsimp only
      obtain ⟨s1, eb, t⟩ := turn i xs[i] acc h (List.getElem?_eq_getElem hlt) j hD
      rw [eb]
      dsimp only
      cases ec : c s1 h with
      | ok k h2 =>
        rw [ec] at t
        cases k with
        | false =>
          have t : h2[r]? = some (.lst acc) ∧ J (i + 1) acc h2 := t
          exact okE_compV J turn done f (i + 1) acc h2 t.2 t.1 (by omega) (by omega)
        | true =>
          have t : okE (e s1 h2) fun y h3 => h3[r]? = some (.lst acc) ∧ acc.length < sizeLine ∧ J (i + 1) (acc ++ [y]) (h3.set r (.lst (acc ++ [y]))) := t
          dsimp only
          cases ee : e s1 h2 with
          | ok y h3 =>
            rw [ee] at t
            obtain ⟨t1, t2, t3⟩ := t
            dsimp only
            rw [t1]
            dsimp only
            rw [if_pos t2]
            refine okE_compV J turn done f (i + 1) (acc ++ [y]) _ t3 ?_ (by omega) (by omega)
            rw [List.getElem?_set_self (List.getElem?_eq_some_iff.mp t1).1]
          | exc _ _ _ => rw [ee] at t; exact t.elim
          | bad => rw [ee] at t; exact t.elim
      | exc _ _ _ => rw [ec] at t; exact t.elim
      | bad => rw [ec] at t; exact t.elim
    · rw [List.getElem?_eq_none (by omega)]
      have e : i = xs.length := by omega
      subst e
      exact done acc h j hD
theorem okE_compL {xs : List AV} {q : Nat} {p : Pat} {c : EM Bool} {e : EM AV} {r : Nat} {s0 : Sl} {Q : AV → AH → Prop} (J : Nat → List AV → AH → Prop) (hl : ∀ i acc h, J i acc h → lstOf h q = some xs)
    (turn : ∀ i x acc h, xs[i]? = some x → J i acc h → h[r]? = some (.lst acc) → ∃ s1, bindP p x s0 = some s1 ∧ okE (c s1 h) fun k h2 => if k = true then okE (e s1 h2) fun y h3 => h3[r]? = some (.lst acc) ∧ acc.length < sizeLine ∧ J (i + 1) (acc ++ [y]) (h3.set r (.lst (acc ++ [y]))) else h2[r]? = some (.lst acc) ∧ J (i + 1) acc h2)
    (done : ∀ acc h, J xs.length acc h → h[r]? = some (.lst acc) → Q (.ref r) h) : ∀ (f i : Nat) (acc : List AV) (h : AH), J i acc h → h[r]? = some (.lst acc) → i ≤ xs.length → xs.length - i < f → okE (compN (.live q) p c e r s0 f i h) Q
  | 0, i, acc, h, _, _, _, hf => by omega
  | f + 1, i, acc, h, j, hD, hi, hf => by
    unfold compN nextA
    dsimp only
    rw [hl i acc h j]
    dsimp only
    by_cases hlt : i < xs.length
    · rw [List.getElem?_eq_getElem hlt]
      dsimp only
      obtain ⟨s1, eb, t⟩ := turn i xs[i] acc h (List.getElem?_eq_getElem hlt) j hD
      rw [eb]
      dsimp only
      cases ec : c s1 h with
      | ok k h2 =>
        rw [ec] at t
        cases k with
        | false =>
          have t : h2[r]? = some (.lst acc) ∧ J (i + 1) acc h2 := t
          exact okE_compL J hl turn done f (i + 1) acc h2 t.2 t.1 (by omega) (by omega)
        | true =>
          have t : okE (e s1 h2) fun y h3 => h3[r]? = some (.lst acc) ∧ acc.length < sizeLine ∧ J (i + 1) (acc ++ [y]) (h3.set r (.lst (acc ++ [y]))) := t
          dsimp only
          cases ee : e s1 h2 with
          | ok y h3 =>
            rw [ee] at t
            obtain ⟨t1, t2, t3⟩ := t
            dsimp only
            rw [t1]
            dsimp only
            rw [if_pos t2]
            refine okE_compL J hl turn done f (i + 1) (acc ++ [y]) _ t3 ?_ (by omega) (by omega)
            rw [List.getElem?_set_self (List.getElem?_eq_some_iff.mp t1).1]
          | exc _ _ _ => rw [ee] at t; exact t.elim
          | bad => rw [ee] at t; exact t.elim
      | exc _ _ _ => rw [ec] at t; exact t.elim
      | bad => rw [ec] at t; exact t.elim
    · rw [List.getElem?_eq_none (by omega)]
      have e : i = xs.length := by omega
      subst e
      exact done acc h j hD
/-- a while: J by a measure that falls -/
theorem okS_while {c : EM Bool} {b : SM} (J : Nat → Sl → AH → Prop) (turn : ∀ m s h, J m s h → okE (c s h) fun k h1 => if k = true then okS (b s h1) { nx := fun s h => ∃ m', m' < m ∧ J m' s h, ct := fun s h => ∃ m', m' < m ∧ J m' s h, bk := D.nx, rt := D.rt, ex := D.ex } else D.nx s h1) :
    ∀ (f m : Nat) (s : Sl) (h : AH), J m s h → m < f → okS (whileN c b f s h) D
  | 0, m, s, h, _, hf => by omega
  | f + 1, m, s, h, j, hf => by
    unfold whileN bdS
    have t := turn m s h j
    cases ec : c s h with
    | ok k h1 =>
      rw [ec] at t
      dsimp only
      cases k with
      | false => exact t
      | true =>
        have t : okS (b s h1) { nx := fun s h => ∃ m', m' < m ∧ J m' s h, ct := fun s h => ∃ m', m' < m ∧ J m' s h, bk := D.nx, rt := D.rt, ex := D.ex } := t
        rw [if_pos rfl]
        cases eb : b s h1 with
        | nx s2 h2 => rw [eb] at t; obtain ⟨m', h1, h2⟩ := t; exact okS_while J turn f m' _ _ h2 (by omega)
        | ct s2 h2 => rw [eb] at t; obtain ⟨m', h1, h2⟩ := t; exact okS_while J turn f m' _ _ h2 (by omega)
        | bk s2 h2 => rw [eb] at t; exact t
        | rt v h2 => rw [eb] at t; exact t
        | exc c fs s2 h2 => rw [eb] at t; exact t
        | bad => rw [eb] at t; exact t.elim
    | exc _ _ _ => rw [ec] at t; exact t.elim
    | bad => rw [ec] at t; exact t.elim
end
end Ev
namespace Ev
open PySem PySem.Spec PyProof.Rows L2
/-! ### reckoning on the heap -/
def atO (o : Option AV) (h : AH) : RE AV := match o with
  | some v => .ok v h
  | none => .bad
def idxO (o : Option AO) (y : AV) (p : Nat) (h : AH) : RE AV := match o with
  | some (.lst xs) => (match y with | .int i => atO (atI xs i) h | _ => .bad)
  | some (.fro xs) => (match y with | .int i => atO (atI xs i) h | _ => .bad)
  | some (.dct kvs) => if (isKd kvs && (keyV y).isSome) = true then atO (dLook kvs y) h else .bad
  | _ => .bad
def stIxO (o : Option AO) (p : Nat) (i v : AV) (s : Sl) (h : AH) : RS := match o with
  | some (.lst xs) => (match i with
    | .int k => (match ixN xs.length k with
      | some j => .nx s (h.set p (.lst (xs.set j v)))
      | none => .bad)
    | _ => .bad)
  | some (.dct kvs) => if (isKd kvs && (keyV i).isSome && decide (kvs.length < sizeLine)) = true then .nx s (h.set p (.dct (dPut kvs i v))) else .bad
  | _ => .bad
def lenO (o : Option AO) (h : AH) : RE AV := match o with
  | some (.lst xs) => .ok (.int xs.length) h
  | some (.fro xs) => .ok (.int xs.length) h
  | _ => .bad
def listO (o : Option AO) (h : AH) : RE AV := match o with
  | some (.lst xs) => .ok (.ref h.length) (h ++ [.lst xs])
  | some (.fro xs) => .ok (.ref h.length) (h ++ [.lst xs])
  | _ => .bad
section
variable {α β : Type} {s : Sl} {h : AH} {p : Nat} {i : Int} {y v x : AV} {xs : List AV} {m m1 : EM Bool} {ms : List (EM Bool)} {n n1 : EM AV} {ns : List (EM AV)} {g : AV → SM} {k : Bool}
theorem atO_some : atO (some v) h = .ok v h := id rfl
theorem idx_r : idxA (.ref p) y s h = idxO h[p]? y p h := by
  have e : ∃ o, h[p]? = o := ⟨_, rfl⟩
  obtain ⟨o, e⟩ := e
  unfold idxA rd idxB idxO lstOf atO
  dsimp only
  rw [e]
  cases o with
  | none => cases y <;> rfl
  | some o =>
    cases o with
    | lst xs =>
      cases y <;> dsimp only
      rename_i i
      cases atI xs i <;> rfl
    | fro xs =>
      cases y <;> dsimp only
      rename_i i
      cases atI xs i <;> rfl
    | dct kvs =>
      dsimp only
      unfold dGetK
      rw [e]
      cases ky : keyV y with
      | none =>
        dsimp only
        rw [Bool.and_comm]
        rfl
      | some z =>
        dsimp only
        rw [Option.isSome_some, Bool.and_true]
        by_cases kd : isKd kvs = true
        · rw [if_pos kd, if_pos kd]
          cases dLook kvs y <;> rfl
        · rw [if_neg kd, if_neg kd]
    | ins c fs => cases y <;> rfl
theorem idx_t : idxA (.tup xs) (.int i) s h = atO (atI xs i) h := by
  unfold idxA rd idxB atO
  dsimp only
  cases atI xs i <;> rfl
theorem idxO_lst : idxO (some (.lst xs)) (.int i) p h = atO (atI xs i) h := id rfl
theorem idxO_dct {kvs : List (AV × AV)} : idxO (some (.dct kvs)) y p h = if (isKd kvs && (keyV y).isSome) = true then atO (dLook kvs y) h else .bad := id rfl
theorem stIxO_dct {kvs : List (AV × AV)} : stIxO (some (.dct kvs)) p y v s h = if (isKd kvs && (keyV y).isSome && decide (kvs.length < sizeLine)) = true then .nx s (h.set p (.dct (dPut kvs y v))) else .bad := id rfl
theorem keyV_str {x : Str} : keyV (.str x) = some (.inr x) := id rfl
theorem keyV_int {x : Int} : keyV (.int x) = some (.inl x) := id rfl
theorem isKd_nil : isKd [] = true := id rfl
theorem isKd_cons {kv : AV × AV} {kvs : List (AV × AV)} : isKd (kv :: kvs) = (keyV kv.1).isSome := id rfl
theorem dLook_nil : dLook [] y = none := id rfl
theorem dLook_cons {k : AV} {kvs : List (AV × AV)} : dLook ((k, v) :: kvs) y = if keyV k = keyV y then some v else dLook kvs y := id rfl
theorem idxO_fro : idxO (some (.fro xs)) (.int i) p h = atO (atI xs i) h := id rfl
theorem stIx_r : stIxM (.ref p) y v s h = stIxO h[p]? p y v s h := by
  have e : ∃ o, h[p]? = o := ⟨_, rfl⟩
  obtain ⟨o, e⟩ := e
  unfold stIxM stIxO setIx
  dsimp only
  rw [e]
  cases o with
  | none => rfl
  | some o =>
    cases o with
    | lst xs =>
      dsimp only
      cases y <;> dsimp only
      rename_i k
      cases ixN xs.length k <;> rfl
    | dct kvs =>
      dsimp only
      by_cases c : (isKd kvs && (keyV y).isSome && decide (kvs.length < sizeLine)) = true
      · rw [if_pos c, if_pos c]
      · rw [if_neg c, if_neg c]
    | _ => rfl
theorem stIxO_lst {k : Int} {j : Nat} (e : ixN xs.length k = some j) : stIxO (some (.lst xs)) p (.int k) v s h = .nx s (h.set p (.lst (xs.set j v))) := by
  unfold stIxO
  dsimp only
  rw [e]
theorem len_r : lenA [.ref p] s h = lenO h[p]? h := by
  unfold lenA rd lenB seqOf lstOf lenO
  dsimp only
  cases e : h[p]? with
  | none => rfl
  | some o => cases o <;> rfl
theorem lenO_lst : lenO (some (.lst xs)) h = .ok (.int xs.length) h := id rfl
theorem lenO_fro : lenO (some (.fro xs)) h = .ok (.int xs.length) h := id rfl
theorem list_r : listA [.ref p] s h = listO h[p]? h := by
  unfold listA seqOf lstOf listO
  dsimp only
  cases e : h[p]? with
  | none => rfl
  | some o => cases o <;> rfl
theorem listO_lst : listO (some (.lst xs)) h = .ok (.ref h.length) (h ++ [.lst xs]) := id rfl
theorem listO_fro : listO (some (.fro xs)) h = .ok (.ref h.length) (h ++ [.lst xs]) := id rfl
theorem andT_one : andT [m] s h = m s h := id rfl
theorem andT_two : andT (m :: m1 :: ms) s h = (m s h).thE (fun k => if k = true then andT (m1 :: ms) else ret false) s := bd_eq
theorem orT_one : orT [m] s h = m s h := id rfl
theorem orT_two : orT (m :: m1 :: ms) s h = (m s h).thE (fun k => if k = true then ret true else orT (m1 :: ms)) s := bd_eq
theorem andV_one : andV [n] s h = n s h := id rfl
theorem andV_two : andV (n :: n1 :: ns) s h = (n s h).thE (fun x => bd (truA x) fun k => if k = true then andV (n1 :: ns) else ret x) s := bd_eq
theorem orV_one : orV [n] s h = n s h := id rfl
theorem orV_two : orV (n :: n1 :: ns) s h = (n s h).thE (fun x => bd (truA x) fun k => if k = true then ret x else orV (n1 :: ns)) s := bd_eq
theorem asg_eq : asgS n g s h = (n s h).thS (fun v => onlyNx g v) s := bdS_eq
theorem subG_eq : subG n n1 v s h = (n s h).thS (fun o => bdS n1 fun i => stIxM o i v) s := bdS_eq
def RS.nxo : RS → RS
  | .nx s h => .nx s h
  | .exc c fs s h => .exc c fs s h
  | _ => .bad
theorem onlyNx_eq : onlyNx g v s h = (g v s h).nxo := by
  unfold onlyNx RS.nxo
  cases g v s h <;> rfl
theorem nxo_nx : (RS.nx s h).nxo = .nx s h := id rfl
theorem lst_eq : lstM ns s h = (evsM ns s h).thE (fun xs => if xs.length ≤ sizeLine then alloc (.lst xs) else bad) s := bd_eq
theorem tup_eq : tupM ns s h = (evsM ns s h).thE (fun xs => if xs.length ≤ sizeLine then ret (.tup xs) else bad) s := bd_eq
theorem bind_nm {i : Nat} {s : Sl} : bindP (.nm i) v s = some (s.set i (some v)) := by rw [bindP]
theorem pat_nm {i : Nat} : patS (.nm i) v s h = .nx (s.set i (some v)) h := by
  unfold patS
  rw [bind_nm]
theorem forS_eq {m : EM IT} {b : SM} : forS m g b s h = (m s h).thS (fun it => forN it g b turnsMax 0) s := bdS_eq
theorem itOf_lst (e : h[p]? = some (.lst xs)) : itOf (.ref p) s h = .ok (.live p) h := by
  unfold itOf lstOf
  dsimp only
  rw [e]
theorem itOf_fro (e : h[p]? = some (.fro xs)) : itOf (.ref p) s h = .ok (.live p) h := by
  unfold itOf lstOf
  dsimp only
  rw [e]
theorem itOf_tup : itOf (.tup xs) s h = .ok (.vals xs) h := id rfl
theorem lstOf_lst (e : h[p]? = some (.lst xs)) : lstOf h p = some xs := by
  unfold lstOf
  rw [e]
theorem lstOf_fro (e : h[p]? = some (.fro xs)) : lstOf h p = some xs := by
  unfold lstOf
  rw [e]
theorem lstOf_congr {h' : AH} (e : h'[p]? = h[p]?) : lstOf h' p = lstOf h p := by
  unfold lstOf
  rw [e]
theorem get_set_eq {o : AO} : (h.set p o)[p]? = h[p]?.map fun _ => o := by
  by_cases l : p < h.length
  · rw [List.getElem?_set_self l, List.getElem?_eq_getElem l]
    rfl
  · rw [List.getElem?_eq_none (by simpa using l), List.getElem?_eq_none (by simpa using l)]
    rfl
theorem get_set_ne {o : AO} {q : Nat} (e : q ≠ p) : (h.set p o)[q]? = h[q]? := List.getElem?_set_ne (Ne.symm e)
theorem rng1 {j : Int} (h1 : 0 ≤ j) (h2 : j < 2 ^ 62) : rangeI1 (.int j) s h = .ok (.vals ((List.range j.toNat).map fun (k : Nat) => AV.int (0 + (k : Int)))) h := by
  unfold rangeI1
  have : -(2 ^ 62) ≤ j ∧ j < 2 ^ 62 := ⟨by omega, h2⟩
  dsimp only
  rw [if_pos this]
  rfl
theorem log2_lt' {n : Nat} {k : Nat} (h : n < 2 ^ (k + 1)) (hk : 0 < k := by decide) : n.log2 < k + 1 := by
  by_cases z : n = 0
  · subst z
    simp
  · exact (Nat.log2_lt z).mpr h
theorem log2_le_of {n k : Nat} (h : n < 2 ^ k) (hk : 0 < k) : n.log2 < k := by
  by_cases z : n = 0
  · subst z
    simpa using hk
  · exact (Nat.log2_lt z).mpr h
end
section
variable {α β : Type} {s : Sl} {h : AH} {D : Dst} {P : α → AH → Prop} {x : α} {v : AV} {c : Str} {fs : List (Str × AV)} {k : Prop} [Decidable k] {r1 r2 : RS} {e1 e2 : RE α}
theorem okS_nx : okS (.nx s h) D = D.nx s h := id rfl
theorem okS_rt : okS (.rt v h) D = D.rt v h := id rfl
theorem okS_bk : okS (.bk s h) D = D.bk s h := id rfl
theorem okS_ct : okS (.ct s h) D = D.ct s h := id rfl
theorem okS_exc : okS (.exc c fs s h) D = D.ex c fs s h := id rfl
theorem okE_oke : okE (.ok x h) P = P x h := id rfl
end
/-! ### the laws' stream and its draws -/
def s_law_stream (cf : CF) : SM := (seqS (bdS (ret (.int (17))) (setS 1))
  (seqS (forS (bd (slotM 0) itOf) (patS (.nm 2)) (seqS (bdS (bd (bd (evsM [(bd (bd (bd (slotM 1) fun x7 => bd (ret (.int (48271))) fun y8 => mulA x7 y8) fun x5 => bd (bd (bd (evsM [(slotM 2)]) intA) fun x9 => bd (ret (.int (65521))) fun y10 => modA x9 y10) fun y6 => addA x5 y6) fun x3 => bd (ret (.int (1))) fun y4 => addA x3 y4)]) intA) fun x1 => bd (ret (.int (2147483647))) fun y2 => modA x1 y2) (setS 1))
    skipS))
  (seqS (bdS (lstM [(bd (evsM [(slotM 0)]) listA), (ret (.int (0))), (ret (.int (0))), (slotM 1)]) retS)
  skipS)))
def s_law_draw (cf : CF) : SM := (seqS (ifS (andT [(bd (bd (bd (slotM 0) fun x29 => bd (ret (.int (1))) fun y30 => idxA x29 y30) fun x27 => bd (ret (.int (0))) fun y28 => eqA x27 y28) asBool), (bd (bd (bd (slotM 0) fun x33 => bd (ret (.int (2))) fun y34 => idxA x33 y34) fun x31 => bd (bd (evsM [(bd (slotM 0) fun x35 => bd (ret (.int (0))) fun y36 => idxA x35 y36)]) lenA) fun y32 => ltA x31 y32) asBool)]) (seqS (asgS (bd (evsM [(bd (evsM [(bd (bd (slotM 0) fun x43 => bd (ret (.int (0))) fun y44 => idxA x43 y44) fun x41 => bd (bd (slotM 0) fun x45 => bd (ret (.int (2))) fun y46 => idxA x45 y46) fun y42 => idxA x41 y42)]) intA)]) absA) (subG (slotM 0) (ret (.int (1)))))
    (seqS (asgS (bd (bd (slotM 0) fun x39 => bd (ret (.int (2))) fun y40 => idxA x39 y40) fun x37 => bd (ret (.int (1))) fun y38 => addA x37 y38) (subG (slotM 0) (ret (.int (2)))))
    skipS)) skipS)
  (seqS (ifS (bd (bd (bd (slotM 0) fun x11 => bd (ret (.int (1))) fun y12 => idxA x11 y12) fun x9 => bd (ret (.int (0))) fun y10 => eqA x9 y10) asBool) (seqS (asgS (bd (bd (evsM [(bd (bd (bd (slotM 0) fun x25 => bd (ret (.int (3))) fun y26 => idxA x25 y26) fun x23 => bd (ret (.int (48271))) fun y24 => mulA x23 y24) fun x21 => bd (ret (.int (11))) fun y22 => addA x21 y22)]) intA) fun x19 => bd (ret (.int (2147483647))) fun y20 => modA x19 y20) (subG (slotM 0) (ret (.int (3)))))
    (seqS (bdS (bd (bd (evsM [(bd (bd (slotM 0) fun x17 => bd (ret (.int (3))) fun y18 => idxA x17 y18) fun x15 => bd (ret (.int (97))) fun y16 => fdivA x15 y16)]) intA) fun x13 => bd (slotM 1) fun y14 => modA x13 y14) retS)
    skipS)) skipS)
  (seqS (bdS (bd (bd (evsM [(bd (slotM 0) fun x7 => bd (ret (.int (1))) fun y8 => idxA x7 y8)]) intA) fun x5 => bd (slotM 1) fun y6 => modA x5 y6) (setS 2))
  (seqS (asgS (bd (bd (slotM 0) fun x3 => bd (ret (.int (1))) fun y4 => idxA x3 y4) fun x1 => bd (slotM 1) fun y2 => fdivA x1 y2) (subG (slotM 0) (ret (.int (1)))))
  (seqS (bdS (slotM 2) retS)
  skipS)))))
def s_draw1 (cf : CF) : SM := (ifS (andT [(bd (bd (bd (slotM 0) fun x29 => bd (ret (.int (1))) fun y30 => idxA x29 y30) fun x27 => bd (ret (.int (0))) fun y28 => eqA x27 y28) asBool), (bd (bd (bd (slotM 0) fun x33 => bd (ret (.int (2))) fun y34 => idxA x33 y34) fun x31 => bd (bd (evsM [(bd (slotM 0) fun x35 => bd (ret (.int (0))) fun y36 => idxA x35 y36)]) lenA) fun y32 => ltA x31 y32) asBool)]) (seqS (asgS (bd (evsM [(bd (evsM [(bd (bd (slotM 0) fun x43 => bd (ret (.int (0))) fun y44 => idxA x43 y44) fun x41 => bd (bd (slotM 0) fun x45 => bd (ret (.int (2))) fun y46 => idxA x45 y46) fun y42 => idxA x41 y42)]) intA)]) absA) (subG (slotM 0) (ret (.int (1)))))
    (seqS (asgS (bd (bd (slotM 0) fun x39 => bd (ret (.int (2))) fun y40 => idxA x39 y40) fun x37 => bd (ret (.int (1))) fun y38 => addA x37 y38) (subG (slotM 0) (ret (.int (2)))))
    skipS)) skipS)
def s_draw2 (cf : CF) : SM :=
  (seqS (ifS (bd (bd (bd (slotM 0) fun x11 => bd (ret (.int (1))) fun y12 => idxA x11 y12) fun x9 => bd (ret (.int (0))) fun y10 => eqA x9 y10) asBool) (seqS (asgS (bd (bd (evsM [(bd (bd (bd (slotM 0) fun x25 => bd (ret (.int (3))) fun y26 => idxA x25 y26) fun x23 => bd (ret (.int (48271))) fun y24 => mulA x23 y24) fun x21 => bd (ret (.int (11))) fun y22 => addA x21 y22)]) intA) fun x19 => bd (ret (.int (2147483647))) fun y20 => modA x19 y20) (subG (slotM 0) (ret (.int (3)))))
    (seqS (bdS (bd (bd (evsM [(bd (bd (slotM 0) fun x17 => bd (ret (.int (3))) fun y18 => idxA x17 y18) fun x15 => bd (ret (.int (97))) fun y16 => fdivA x15 y16)]) intA) fun x13 => bd (slotM 1) fun y14 => modA x13 y14) retS)
    skipS)) skipS)
  (seqS (bdS (bd (bd (evsM [(bd (slotM 0) fun x7 => bd (ret (.int (1))) fun y8 => idxA x7 y8)]) intA) fun x5 => bd (slotM 1) fun y6 => modA x5 y6) (setS 2))
  (seqS (asgS (bd (bd (slotM 0) fun x3 => bd (ret (.int (1))) fun y4 => idxA x3 y4) fun x1 => bd (slotM 1) fun y2 => fdivA x1 y2) (subG (slotM 0) (ret (.int (1)))))
  (seqS (bdS (slotM 2) retS)
  skipS))))
theorem s_draw_eq {cf : CF} : s_law_draw cf = seqS (s_draw1 cf) (s_draw2 cf) := id rfl
/-- the stream at r: script at q, and the three numbers -/
def StAt (r q : Nat) (ns : List Int) (h : AH) : Prop := r ≠ q ∧ h[q]? = some (.lst (ns.map AV.int)) ∧ ∃ a b m : Int, h[r]? = some (.lst [.ref q, .int a, .int b, .int m]) ∧ 0 ≤ a ∧ 0 ≤ b ∧ 0 ≤ m ∧ m < 2147483647
/-- all but one place stays -/
def Same (r : Nat) (h h' : AH) : Prop := h'.length = h.length ∧ ∀ i, i ≠ r → h'[i]? = h[i]?
theorem Same.refl {r : Nat} {h : AH} : Same r h h := ⟨rfl, fun _ _ => rfl⟩
theorem Same.trans {r : Nat} {h h1 h2 : AH} (a : Same r h h1) (b : Same r h1 h2) : Same r h h2 := ⟨b.1.trans a.1, fun i e => (b.2 i e).trans (a.2 i e)⟩
theorem Same.set {r : Nat} {h : AH} {o : AO} : Same r h (h.set r o) := ⟨by simp, fun i e => get_set_ne e⟩
theorem CMulW_small {i j : Int} (h1 : i.natAbs < 2 ^ 64) (h2 : j.natAbs < 2 ^ 64) : CMulW i j := by
  unfold CMulW
  have a := log2_le_of h1 (by decide)
  have b := log2_le_of h2 (by decide)
  omega
theorem CDivW_small {i j : Int} (h1 : 0 < j) (h2 : j.natAbs < 2 ^ 64) : CDivW i j := by
  unfold CDivW
  have b := log2_le_of h2 (by decide)
  omega
theorem draw_pre {cf : CF} {r q : Nat} {ns : List Int} {h : AH} {many : Int} (S : StAt r q ns h) (h0 : 0 < many) (h1 : many.natAbs < 2 ^ 64) :
    ∃ v h', runR (s_law_draw cf [some (.ref r), some (.int many), none] h) = .ok (.int v) h' ∧ StAt r q ns h' ∧ Same r h h' ∧ 0 ≤ v ∧ v < many := by
  obtain ⟨hrq, hq, a, b, m, hr, ha, hb, hm, hm2⟩ := S
  have hd : ∀ i, CDivW i many := fun i => CDivW_small h0 h1
  have i0 : ∀ {x y z w : AV}, atI [x, y, z, w] 0 = some x := rfl
  have i1 : ∀ {x y z w : AV}, atI [x, y, z, w] 1 = some y := rfl
  have i2 : ∀ {x y z w : AV}, atI [x, y, z, w] 2 = some z := rfl
  have i3 : ∀ {x y z w : AV}, atI [x, y, z, w] 3 = some w := rfl
  have x1 : ∀ {x y z w : AV}, ixN [x, y, z, w].length 1 = some 1 := rfl
  have x2 : ∀ {x y z w : AV}, ixN [x, y, z, w].length 2 = some 2 := rfl
  have x3 : ∀ {x y z w : AV}, ixN [x, y, z, w].length 3 = some 3 := rfl
  have c97 : ∀ i, CDivW i 97 := fun i => CDivW_small (by decide) (by decide)
  have m48 : ∀ i : Int, 0 ≤ i → i < 2147483647 → CMulW i 48271 := fun i e1 e2 => CMulW_small (by omega) (by decide)
  have last : ∀ (a b m : Int) (h : AH), h[r]? = some (.lst [.ref q, .int a, .int b, .int m]) → h[q]? = some (.lst (ns.map AV.int)) → 0 ≤ a → 0 ≤ b → 0 ≤ m → m < 2147483647 →
    ∃ v h', runR (s_draw2 cf [some (.ref r), some (.int many), none] h) = .ok (.int v) h' ∧ StAt r q ns h' ∧ Same r h h' ∧ 0 ≤ v ∧ v < many := by
    intro a b m h hr hq ha hb hm hm2
    have v1 := Int.emod_nonneg (m * 48271 + 11) (b := 2147483647) (by decide)
    have v2 := Int.emod_lt_of_pos (m * 48271 + 11) (b := 2147483647) (by decide)
    by_cases ea : a = 0
    · subst ea
      unfold s_draw2
      simp only [seqS_eq, bdS_eq, bd_eq, ifS_eq, thn_nx, thn_rt, thn_bk, thn_ct, thn_exc, thn_bad, thS_ok, thS_exc, thS_bad, thE_ok, thE_exc, thE_bad, thIf_ok, thIf_exc, thIf_bad, ret_eq, setS_eq, retS_eq, skipS_eq, alloc_eq, callM_eq, evs_nil, evs_cons, asBool_bl, tru_bl, tru_int, tru_non, tru_tup, runR_nx, runR_rt, runR_exc, runR_bad, runR_ite, thn_ite, thS_ite, thE_ite, ite_app2, ite_app2S, add_ii, sub_ii, mul_ii, fdiv_ii, mod_ii, pow_ii, shl_ii, shr_ii, band_ii, bor_ii, bxor_ii, neg_i, lt_ii, le_ii, gt_ii, ge_ii, eq_ii, eq_ss, eq_bb, ne_ii, ne_ss, ne_bb, isN_non, isN_int, isN_tup, isN_ref, isN_str, int_i, int_b, abs_i, max_ii, min_ii, slotM, idx_r, idx_t, idxO_lst, idxO_fro, atO_some, stIx_r, len_r, lenO_lst, lenO_fro, list_r, listO_lst, listO_fro, andT_one, andT_two, orT_one, orT_two, andV_one, andV_two, orV_one, orV_two, asg_eq, subG_eq, onlyNx_eq, nxo_nx, lst_eq, tup_eq, pat_nm, forS_eq, okS_nx, okS_rt, okS_bk, okS_ct, okS_exc, okE_oke, List.getElem?_cons_zero, List.getElem?_cons_succ, List.set_cons_zero, List.set_cons_succ, ofString_inj, decide_eq_true_eq, Bool.not_eq_true', decide_eq_false_iff_not, reduceIte, if_true, if_false, Int.reduceLT, Int.reduceLE, Int.reduceEq, Int.reduceNe, decide_true, decide_false, Bool.false_eq_true, String.reduceEq, Bool.not_true, Bool.not_false, hr, i0, i1, i2, i3, stIxO_lst x3, m48 m hm hm2, get_set_eq, Option.map, Int.reduceLT, c97, h0]
      refine ⟨_, _, rfl, ⟨hrq, by rw [get_set_ne (Ne.symm hrq)]; exact hq, 0, b, _, get_set_eq.trans (by rw [hr]; rfl), by decide, hb, v1, v2⟩, Same.set, Int.emod_nonneg _ (by omega), Int.emod_lt_of_pos _ h0⟩
    · unfold s_draw2
      simp only [seqS_eq, bdS_eq, bd_eq, ifS_eq, thn_nx, thn_rt, thn_bk, thn_ct, thn_exc, thn_bad, thS_ok, thS_exc, thS_bad, thE_ok, thE_exc, thE_bad, thIf_ok, thIf_exc, thIf_bad, ret_eq, setS_eq, retS_eq, skipS_eq, alloc_eq, callM_eq, evs_nil, evs_cons, asBool_bl, tru_bl, tru_int, tru_non, tru_tup, runR_nx, runR_rt, runR_exc, runR_bad, runR_ite, thn_ite, thS_ite, thE_ite, ite_app2, ite_app2S, add_ii, sub_ii, mul_ii, fdiv_ii, mod_ii, pow_ii, shl_ii, shr_ii, band_ii, bor_ii, bxor_ii, neg_i, lt_ii, le_ii, gt_ii, ge_ii, eq_ii, eq_ss, eq_bb, ne_ii, ne_ss, ne_bb, isN_non, isN_int, isN_tup, isN_ref, isN_str, int_i, int_b, abs_i, max_ii, min_ii, slotM, idx_r, idx_t, idxO_lst, idxO_fro, atO_some, stIx_r, len_r, lenO_lst, lenO_fro, list_r, listO_lst, listO_fro, andT_one, andT_two, orT_one, orT_two, andV_one, andV_two, orV_one, orV_two, asg_eq, subG_eq, onlyNx_eq, nxo_nx, lst_eq, tup_eq, pat_nm, forS_eq, okS_nx, okS_rt, okS_bk, okS_ct, okS_exc, okE_oke, List.getElem?_cons_zero, List.getElem?_cons_succ, List.set_cons_zero, List.set_cons_succ, ofString_inj, decide_eq_true_eq, Bool.not_eq_true', decide_eq_false_iff_not, reduceIte, if_true, if_false, Int.reduceLT, Int.reduceLE, Int.reduceEq, Int.reduceNe, decide_true, decide_false, Bool.false_eq_true, String.reduceEq, Bool.not_true, Bool.not_false, hr, ea, i0, i1, i2, i3, stIxO_lst x1, get_set_eq, Option.map, hd, h0]
      refine ⟨_, _, rfl, ⟨hrq, by rw [get_set_ne (Ne.symm hrq)]; exact hq, a / many, b, _, get_set_eq.trans (by rw [hr]; rfl), Int.ediv_nonneg ha (by omega), hb, hm, hm2⟩, Same.set, Int.emod_nonneg _ (by omega), Int.emod_lt_of_pos _ h0⟩
  rw [s_draw_eq]
  by_cases ea : a = 0 ∧ b < ns.length
  · obtain ⟨ea, eb⟩ := ea
    subst ea
    have hx : atI (ns.map AV.int) b = some (.int (ns[b.toNat]'(by omega))) := by
      unfold atI ixN
      rw [if_pos hb, if_pos (by simpa using eb)]
      simp
    obtain ⟨v, h', e1, e2, e3, e4⟩ := last (if ns[b.toNat]'(by omega) < 0 then -(ns[b.toNat]'(by omega)) else ns[b.toNat]'(by omega)) (b + 1) m ((h.set r (.lst [.ref q, .int (if ns[b.toNat]'(by omega) < 0 then -(ns[b.toNat]'(by omega)) else ns[b.toNat]'(by omega)), .int b, .int m])).set r (.lst [.ref q, .int (if ns[b.toNat]'(by omega) < 0 then -(ns[b.toNat]'(by omega)) else ns[b.toNat]'(by omega)), .int (b + 1), .int m])) (by rw [get_set_eq, get_set_eq, hr]; rfl) (by rw [get_set_ne (Ne.symm hrq), get_set_ne (Ne.symm hrq)]; exact hq) (by split <;> omega) (by omega) hm hm2
    refine ⟨v, h', ?_, e2, (Same.set.trans Same.set).trans e3, e4⟩
    rw [← e1]
    unfold s_draw1
    simp only [seqS_eq, bdS_eq, bd_eq, ifS_eq, thn_nx, thn_rt, thn_bk, thn_ct, thn_exc, thn_bad, thS_ok, thS_exc, thS_bad, thE_ok, thE_exc, thE_bad, thIf_ok, thIf_exc, thIf_bad, ret_eq, setS_eq, retS_eq, skipS_eq, alloc_eq, callM_eq, evs_nil, evs_cons, asBool_bl, tru_bl, tru_int, tru_non, tru_tup, runR_nx, runR_rt, runR_exc, runR_bad, runR_ite, thn_ite, thS_ite, thE_ite, ite_app2, ite_app2S, add_ii, sub_ii, mul_ii, fdiv_ii, mod_ii, pow_ii, shl_ii, shr_ii, band_ii, bor_ii, bxor_ii, neg_i, lt_ii, le_ii, gt_ii, ge_ii, eq_ii, eq_ss, eq_bb, ne_ii, ne_ss, ne_bb, isN_non, isN_int, isN_tup, isN_ref, isN_str, int_i, int_b, abs_i, max_ii, min_ii, slotM, idx_r, idx_t, idxO_lst, idxO_fro, atO_some, stIx_r, len_r, lenO_lst, lenO_fro, list_r, listO_lst, listO_fro, andT_one, andT_two, orT_one, orT_two, andV_one, andV_two, orV_one, orV_two, asg_eq, subG_eq, onlyNx_eq, nxo_nx, lst_eq, tup_eq, pat_nm, forS_eq, okS_nx, okS_rt, okS_bk, okS_ct, okS_exc, okE_oke, List.getElem?_cons_zero, List.getElem?_cons_succ, List.set_cons_zero, List.set_cons_succ, ofString_inj, decide_eq_true_eq, Bool.not_eq_true', decide_eq_false_iff_not, reduceIte, if_true, if_false, Int.reduceLT, Int.reduceLE, Int.reduceEq, Int.reduceNe, decide_true, decide_false, Bool.false_eq_true, String.reduceEq, Bool.not_true, Bool.not_false, hr, hq, i0, i1, i2, i3, stIxO_lst x1, stIxO_lst x2, get_set_eq, get_set_ne (Ne.symm hrq), Option.map, List.length_map, eb, hx]
  · obtain ⟨v, h', e1, e2, e3, e4⟩ := last a b m h hr hq ha hb hm hm2
    refine ⟨v, h', ?_, e2, e3, e4⟩
    rw [← e1]
    unfold s_draw1
    by_cases e0 : a = 0
    · subst e0
      have eb : ¬ b < ns.length := fun x => ea ⟨rfl, x⟩
      simp only [seqS_eq, bdS_eq, bd_eq, ifS_eq, thn_nx, thn_rt, thn_bk, thn_ct, thn_exc, thn_bad, thS_ok, thS_exc, thS_bad, thE_ok, thE_exc, thE_bad, thIf_ok, thIf_exc, thIf_bad, ret_eq, setS_eq, retS_eq, skipS_eq, alloc_eq, callM_eq, evs_nil, evs_cons, asBool_bl, tru_bl, tru_int, tru_non, tru_tup, runR_nx, runR_rt, runR_exc, runR_bad, runR_ite, thn_ite, thS_ite, thE_ite, ite_app2, ite_app2S, add_ii, sub_ii, mul_ii, fdiv_ii, mod_ii, pow_ii, shl_ii, shr_ii, band_ii, bor_ii, bxor_ii, neg_i, lt_ii, le_ii, gt_ii, ge_ii, eq_ii, eq_ss, eq_bb, ne_ii, ne_ss, ne_bb, isN_non, isN_int, isN_tup, isN_ref, isN_str, int_i, int_b, abs_i, max_ii, min_ii, slotM, idx_r, idx_t, idxO_lst, idxO_fro, atO_some, stIx_r, len_r, lenO_lst, lenO_fro, list_r, listO_lst, listO_fro, andT_one, andT_two, orT_one, orT_two, andV_one, andV_two, orV_one, orV_two, asg_eq, subG_eq, onlyNx_eq, nxo_nx, lst_eq, tup_eq, pat_nm, forS_eq, okS_nx, okS_rt, okS_bk, okS_ct, okS_exc, okE_oke, List.getElem?_cons_zero, List.getElem?_cons_succ, List.set_cons_zero, List.set_cons_succ, ofString_inj, decide_eq_true_eq, Bool.not_eq_true', decide_eq_false_iff_not, reduceIte, if_true, if_false, Int.reduceLT, Int.reduceLE, Int.reduceEq, Int.reduceNe, decide_true, decide_false, Bool.false_eq_true, String.reduceEq, Bool.not_true, Bool.not_false, hr, hq, i0, i1, i2, i3, List.length_map, eb]
    · simp only [seqS_eq, bdS_eq, bd_eq, ifS_eq, thn_nx, thn_rt, thn_bk, thn_ct, thn_exc, thn_bad, thS_ok, thS_exc, thS_bad, thE_ok, thE_exc, thE_bad, thIf_ok, thIf_exc, thIf_bad, ret_eq, setS_eq, retS_eq, skipS_eq, alloc_eq, callM_eq, evs_nil, evs_cons, asBool_bl, tru_bl, tru_int, tru_non, tru_tup, runR_nx, runR_rt, runR_exc, runR_bad, runR_ite, thn_ite, thS_ite, thE_ite, ite_app2, ite_app2S, add_ii, sub_ii, mul_ii, fdiv_ii, mod_ii, pow_ii, shl_ii, shr_ii, band_ii, bor_ii, bxor_ii, neg_i, lt_ii, le_ii, gt_ii, ge_ii, eq_ii, eq_ss, eq_bb, ne_ii, ne_ss, ne_bb, isN_non, isN_int, isN_tup, isN_ref, isN_str, int_i, int_b, abs_i, max_ii, min_ii, slotM, idx_r, idx_t, idxO_lst, idxO_fro, atO_some, stIx_r, len_r, lenO_lst, lenO_fro, list_r, listO_lst, listO_fro, andT_one, andT_two, orT_one, orT_two, andV_one, andV_two, orV_one, orV_two, asg_eq, subG_eq, onlyNx_eq, nxo_nx, lst_eq, tup_eq, pat_nm, forS_eq, okS_nx, okS_rt, okS_bk, okS_ct, okS_exc, okE_oke, List.getElem?_cons_zero, List.getElem?_cons_succ, List.set_cons_zero, List.set_cons_succ, ofString_inj, decide_eq_true_eq, Bool.not_eq_true', decide_eq_false_iff_not, reduceIte, if_true, if_false, Int.reduceLT, Int.reduceLE, Int.reduceEq, Int.reduceNe, decide_true, decide_false, Bool.false_eq_true, String.reduceEq, Bool.not_true, Bool.not_false, hr, hq, i0, i1, i2, i3, List.length_map, e0]
theorem stream_pre {cf : CF} {p : Nat} {ns : List Int} {h : AH} (e : h[p]? = some (.fro (ns.map AV.int))) (hl : ns.length ≤ 63) :
    ∃ h', runR (s_law_stream cf [some (.ref p), none, none] h) = .ok (.ref (h.length + 1)) h' ∧ h'.length = h.length + 2 ∧ (∀ i, i < h.length → h'[i]? = h[i]?) ∧ StAt (h.length + 1) h.length ns h' := by
  have key : okE (runR (s_law_stream cf [some (.ref p), none, none] h)) fun v h' => v = .ref (h.length + 1) ∧ ∃ m : Int, 0 ≤ m ∧ m < 2147483647 ∧ h' = h ++ [.lst (ns.map AV.int)] ++ [.lst [.ref h.length, .int 0, .int 0, .int m]] := by
    apply okE_runR
    unfold s_law_stream
    simp only [seqS_eq, bdS_eq, bd_eq, ifS_eq, thn_nx, thn_rt, thn_bk, thn_ct, thn_exc, thn_bad, thS_ok, thS_exc, thS_bad, thE_ok, thE_exc, thE_bad, thIf_ok, thIf_exc, thIf_bad, ret_eq, setS_eq, retS_eq, skipS_eq, alloc_eq, callM_eq, evs_nil, evs_cons, asBool_bl, tru_bl, tru_int, tru_non, tru_tup, runR_nx, runR_rt, runR_exc, runR_bad, runR_ite, thn_ite, thS_ite, thE_ite, ite_app2, ite_app2S, add_ii, sub_ii, mul_ii, fdiv_ii, mod_ii, pow_ii, shl_ii, shr_ii, band_ii, bor_ii, bxor_ii, neg_i, lt_ii, le_ii, gt_ii, ge_ii, eq_ii, eq_ss, eq_bb, ne_ii, ne_ss, ne_bb, isN_non, isN_int, isN_tup, isN_ref, isN_str, int_i, int_b, abs_i, max_ii, min_ii, slotM, idx_r, idx_t, idxO_lst, idxO_fro, atO_some, stIx_r, len_r, lenO_lst, lenO_fro, list_r, listO_lst, listO_fro, andT_one, andT_two, orT_one, orT_two, andV_one, andV_two, orV_one, orV_two, asg_eq, subG_eq, onlyNx_eq, nxo_nx, lst_eq, tup_eq, pat_nm, forS_eq, okS_nx, okS_rt, okS_bk, okS_ct, okS_exc, okE_oke, List.getElem?_cons_zero, List.getElem?_cons_succ, List.set_cons_zero, List.set_cons_succ, ofString_inj, decide_eq_true_eq, Bool.not_eq_true', decide_eq_false_iff_not, reduceIte, if_true, if_false, Int.reduceLT, Int.reduceLE, Int.reduceEq, Int.reduceNe, decide_true, decide_false, Bool.false_eq_true, String.reduceEq, Bool.not_true, Bool.not_false, itOf_fro e]
    apply okS_thn
    refine okS_forL (xs := ns.map AV.int) (fun _ s h' => h' = h ∧ ∃ m : Int, 0 ≤ m ∧ m < 2147483647 ∧ ∃ c, s = [some (.ref p), some (.int m), c]) ?_ ?_ ?_ _ _ _ _ ⟨rfl, 17, by decide, by decide, none, rfl⟩ (by simp) (by simp; unfold turnsMax; omega)
    · rintro i s h' ⟨rfl, _⟩
      exact lstOf_fro e
    · rintro i x s h' ex ⟨rfl, m, h1, h2, c, rfl⟩
      have m48 : CMulW m 48271 := CMulW_small (by omega) (by decide)
      have hx : ∃ z : Int, x = .int z := by
        rw [List.getElem?_map] at ex
        cases hz : ns[i]? with
        | none => rw [hz] at ex; cases ex
        | some z => rw [hz] at ex; cases ex; exact ⟨z, rfl⟩
      obtain ⟨z, rfl⟩ := hx
      simp only [seqS_eq, bdS_eq, bd_eq, ifS_eq, thn_nx, thn_rt, thn_bk, thn_ct, thn_exc, thn_bad, thS_ok, thS_exc, thS_bad, thE_ok, thE_exc, thE_bad, thIf_ok, thIf_exc, thIf_bad, ret_eq, setS_eq, retS_eq, skipS_eq, alloc_eq, callM_eq, evs_nil, evs_cons, asBool_bl, tru_bl, tru_int, tru_non, tru_tup, runR_nx, runR_rt, runR_exc, runR_bad, runR_ite, thn_ite, thS_ite, thE_ite, ite_app2, ite_app2S, add_ii, sub_ii, mul_ii, fdiv_ii, mod_ii, pow_ii, shl_ii, shr_ii, band_ii, bor_ii, bxor_ii, neg_i, lt_ii, le_ii, gt_ii, ge_ii, eq_ii, eq_ss, eq_bb, ne_ii, ne_ss, ne_bb, isN_non, isN_int, isN_tup, isN_ref, isN_str, int_i, int_b, abs_i, max_ii, min_ii, slotM, idx_r, idx_t, idxO_lst, idxO_fro, atO_some, stIx_r, len_r, lenO_lst, lenO_fro, list_r, listO_lst, listO_fro, andT_one, andT_two, orT_one, orT_two, andV_one, andV_two, orV_one, orV_two, asg_eq, subG_eq, onlyNx_eq, nxo_nx, lst_eq, tup_eq, pat_nm, forS_eq, okS_nx, okS_rt, okS_bk, okS_ct, okS_exc, okE_oke, List.getElem?_cons_zero, List.getElem?_cons_succ, List.set_cons_zero, List.set_cons_succ, ofString_inj, decide_eq_true_eq, Bool.not_eq_true', decide_eq_false_iff_not, reduceIte, if_true, if_false, Int.reduceLT, Int.reduceLE, Int.reduceEq, Int.reduceNe, decide_true, decide_false, Bool.false_eq_true, String.reduceEq, Bool.not_true, Bool.not_false, m48]
      have v1 := Int.emod_nonneg (m * 48271 + z % 65521 + 1) (b := 2147483647) (by decide)
      have v2 := Int.emod_lt_of_pos (m * 48271 + z % 65521 + 1) (b := 2147483647) (by decide)
      exact ⟨trivial, _, v1, v2, _, rfl⟩
    · rintro s h' ⟨rfl, m, h1, h2, c, rfl⟩
      have e1 : ([AV.ref h'.length, AV.int 0, AV.int 0, AV.int m].length ≤ sizeLine) := by
        show 4 ≤ 2 ^ 24
        decide
      simp only [seqS_eq, bdS_eq, bd_eq, ifS_eq, thn_nx, thn_rt, thn_bk, thn_ct, thn_exc, thn_bad, thS_ok, thS_exc, thS_bad, thE_ok, thE_exc, thE_bad, thIf_ok, thIf_exc, thIf_bad, ret_eq, setS_eq, retS_eq, skipS_eq, alloc_eq, callM_eq, evs_nil, evs_cons, asBool_bl, tru_bl, tru_int, tru_non, tru_tup, runR_nx, runR_rt, runR_exc, runR_bad, runR_ite, thn_ite, thS_ite, thE_ite, ite_app2, ite_app2S, add_ii, sub_ii, mul_ii, fdiv_ii, mod_ii, pow_ii, shl_ii, shr_ii, band_ii, bor_ii, bxor_ii, neg_i, lt_ii, le_ii, gt_ii, ge_ii, eq_ii, eq_ss, eq_bb, ne_ii, ne_ss, ne_bb, isN_non, isN_int, isN_tup, isN_ref, isN_str, int_i, int_b, abs_i, max_ii, min_ii, slotM, idx_r, idx_t, idxO_lst, idxO_fro, atO_some, stIx_r, len_r, lenO_lst, lenO_fro, list_r, listO_lst, listO_fro, andT_one, andT_two, orT_one, orT_two, andV_one, andV_two, orV_one, orV_two, asg_eq, subG_eq, onlyNx_eq, nxo_nx, lst_eq, tup_eq, pat_nm, forS_eq, okS_nx, okS_rt, okS_bk, okS_ct, okS_exc, okE_oke, List.getElem?_cons_zero, List.getElem?_cons_succ, List.set_cons_zero, List.set_cons_succ, ofString_inj, decide_eq_true_eq, Bool.not_eq_true', decide_eq_false_iff_not, reduceIte, if_true, if_false, Int.reduceLT, Int.reduceLE, Int.reduceEq, Int.reduceNe, decide_true, decide_false, Bool.false_eq_true, String.reduceEq, Bool.not_true, Bool.not_false, e, e1]
      refine ⟨by simp, m, h1, h2, rfl⟩
  obtain ⟨v, h', e1, rfl, m, m1, m2, rfl⟩ := okE_iff.mp key
  refine ⟨_, e1, by simp, fun i hi => ?_, by omega, ?_, 0, 0, m, ?_, by decide, by decide, m1, m2⟩
  · rw [List.append_assoc, List.getElem?_append_left hi]
  · rw [List.getElem?_append_left (by simp), List.getElem?_concat_length]
  · have : h.length + 1 = (h ++ [AO.lst (ns.map AV.int)]).length := by simp
    rw [this, List.getElem?_concat_length]
theorem StAt.app {r q : Nat} {ns : List Int} {h l : AH} (S : StAt r q ns h) : StAt r q ns (h ++ l) := by
  obtain ⟨a, b, x, y, z, c, d⟩ := S
  refine ⟨a, ?_, x, y, z, ?_, d⟩
  · rw [List.getElem?_append_left (List.getElem?_eq_some_iff.mp b).1]; exact b
  · rw [List.getElem?_append_left (List.getElem?_eq_some_iff.mp c).1]; exact c
theorem StAt.set {r q p : Nat} {ns : List Int} {h : AH} {o : AO} (S : StAt r q ns h) (h1 : p ≠ r) (h2 : p ≠ q) : StAt r q ns (h.set p o) := by
  obtain ⟨a, b, x, y, z, c, d⟩ := S
  exact ⟨a, (get_set_ne (Ne.symm h2)).trans b, x, y, z, (get_set_ne (Ne.symm h1)).trans c, d⟩
theorem StAt.lt {r q : Nat} {ns : List Int} {h : AH} (S : StAt r q ns h) : r < h.length ∧ q < h.length := by
  obtain ⟨a, b, x, y, z, c, d⟩ := S
  exact ⟨(List.getElem?_eq_some_iff.mp c).1, (List.getElem?_eq_some_iff.mp b).1⟩
end Ev
namespace Ev
open PySem PySem.Spec PyProof.Rows L2
/-! ### more reckoning: sequences with a wish between, growth, dict displays, equality of lists of ints -/
theorem okS_seq {a b : SM} {s : Sl} {h : AH} {D : Dst} (P : Sl → AH → Prop) (p : okS (a s h) { D with nx := P }) (q : ∀ s h, P s h → okS (b s h) D) : okS (seqS a b s h) D := by
  rw [seqS_eq]
  exact okS_thn (p.imp (fun s h x => q s h x) (fun _ _ x => x) (fun _ _ x => x) (fun _ _ x => x) (fun _ _ _ _ x => x))
theorem get_app {h l : AH} {i : Nat} {o : AO} (e : h[i]? = some o) : (h ++ l)[i]? = some o := by
  rw [List.getElem?_append_left (List.getElem?_eq_some_iff.mp e).1]
  exact e
theorem get_new {h : AH} {o : AO} : (h ++ [o])[h.length]? = some o := List.getElem?_concat_length
theorem prs_nil {s : Sl} {h : AH} : prsM [] s h = .ok [] h := id rfl
theorem prs_cons {m : EM AV × EM AV} {ms : List (EM AV × EM AV)} {s : Sl} {h : AH} : prsM (m :: ms) s h = (m.1 s h).thE (fun k => bd m.2 fun v => bd (prsM ms) fun r => ret ((k, v) :: r)) s := by
  show bd m.1 _ s h = _
  exact bd_eq
theorem dct_ok {ms : List (EM AV × EM AV)} {s : Sl} {h : AH} {kvs d : List (AV × AV)} (e : prsM ms s (h ++ [.dct []]) = .ok kvs (h ++ [.dct []])) (hk : (kvs.all fun kv => (keyV kv.1).isSome) = true) (hl : kvs.length ≤ 15) (hd : kvs.foldl (fun d kv => dPut d kv.1 kv.2) [] = d) :
    dctM ms s h = .ok (.ref h.length) (h ++ [.dct d]) := by
  unfold dctM
  rw [e]
  dsimp only
  rw [get_new]
  dsimp only
  rw [if_pos ⟨hk, hl⟩, hd]
  congr 1
  rw [List.set_append_right _ _ (Nat.le_refl _), Nat.sub_self]
  rfl
def dctO : RE (List (AV × AV)) → Nat → RE AV
  | .ok kvs h2, n => (match h2[n]? with
    | some (.dct []) => if (kvs.all fun kv => (keyV kv.1).isSome) = true ∧ kvs.length ≤ 15 then .ok (.ref n) (h2.set n (.dct (kvs.foldl (fun d kv => dPut d kv.1 kv.2) []))) else .bad
    | _ => .bad)
  | .exc c fs h2, _ => .exc c fs h2
  | .bad, _ => .bad
theorem dct_eq {ms : List (EM AV × EM AV)} {s : Sl} {h : AH} : dctM ms s h = dctO (prsM ms s (h ++ [.dct []])) h.length := by
  unfold dctM dctO
  cases prsM ms s (h ++ [.dct []]) <;> rfl
theorem dctO_ok {h : AH} {kvs : List (AV × AV)} : dctO (.ok kvs (h ++ [.dct []])) h.length = if (kvs.all fun kv => (keyV kv.1).isSome) = true ∧ kvs.length ≤ 15 then .ok (.ref h.length) (h ++ [.dct (kvs.foldl (fun d kv => dPut d kv.1 kv.2) [])]) else .bad := by
  unfold dctO
  dsimp only
  rw [get_new]
  dsimp only
  split
  · congr 1
    rw [List.set_append_right _ _ (Nat.le_refl _), Nat.sub_self]
    rfl
  · rfl
theorem set_new {h : AH} {o o' : AO} : (h ++ [o]).set h.length o' = h ++ [o'] := by
  rw [List.set_append_right _ _ (Nat.le_refl _), Nat.sub_self]
  rfl
theorem datAs_ints (h : AH) (n : Nat) : ∀ ns : List Int, datAs n h (ns.map AV.int) = some (ns.map PyData.int)
  | [] => by rw [List.map_nil, datAs]; rfl
  | x :: ns => by
    rw [List.map_cons, datAs, datAs_ints h n ns]
    have : datA n h (.int x) = some (.int x) := by cases n <;> simp [datA]
    rw [this]
    rfl
theorem datA_ints {h : AH} {p : Nat} {ns : List Int} (n : Nat) (e : lstOf h p = some (ns.map AV.int)) : datA (n + 1) h (.ref p) = some (.list (ns.map PyData.int)) := by
  rw [datA, e]
  dsimp only
  rw [datAs_ints]
theorem ints_shaped (ns : List Int) : SeqAt.shaped (.list (ns.map PyData.int)) = true := by
  have a : ∀ ns : List Int, PyData.canLayAll0 (ns.map PyData.int) = true := by
    intro ns
    induction ns with
    | nil => rfl
    | cons x ns ih => rw [List.map_cons, PyData.canLayAll0, ih]; rfl
  have b : ∀ ns : List Int, PyData.depthAll (ns.map PyData.int) ≤ 1 := by
    intro ns
    induction ns with
    | nil => exact Nat.zero_le _
    | cons x ns ih =>
      rw [List.map_cons, PyData.depthAll]
      have : PyData.depth (.int x) ≤ 1 := by simp [PyData.depth]
      omega
  unfold SeqAt.shaped
  rw [PyData.canLay0, a, PyData.depth]
  have := b ns
  simp
  omega
theorem ints_refl (ns : List Int) : PyData.eqv (.list (ns.map PyData.int)) (.list (ns.map PyData.int)) = true := by
  refine SeqAt.eqv_refl _ ?_
  exact SeqAt.canLay_of_shaped (ints_shaped ns)
theorem ne_lists {h : AH} {p q : Nat} {ns : List Int} {s : Sl} (e : lstOf h p = some (ns.map AV.int)) (e' : lstOf h q = some (ns.map AV.int)) : neA (.ref p) (.ref q) s h = .ok (.bl false) h := by
  unfold neA rd eqB scalA eqDeep
  dsimp only
  rw [datA_ints 64 e, datA_ints 64 e']
  dsimp only
  rw [if_pos ⟨ints_shaped ns, ints_shaped ns⟩, ints_refl]
  rfl
theorem for_list {h : AH} {p : Nat} {xs : List AV} {s : Sl} (e : h[p]? = some (.lst xs)) : itOf (.ref p) s h = .ok (.live p) h := itOf_lst e
section
variable {x y : Str} {xs : List AV} {v w : AV} {s : Sl} {h : AH} {i j : Int}
theorem in_tup : inA (.str x) (.tup xs) s h = if (xs.all flatA) = true then .ok (.bl (memFlat (.str x) xs)) h else .bad := by
  show rd (fun h => (inB (.str x) (.tup xs) h).map AV.bl) s h = _
  unfold rd inB seqOf
  dsimp only
  have : flatA (.str x) = true := rfl
  rw [this, Bool.true_and]
  by_cases c : (xs.all flatA) = true
  · rw [if_pos c, if_pos c]; rfl
  · rw [if_neg c, if_neg c]; rfl
theorem memFlat_nil : memFlat v [] = false := id rfl
theorem memFlat_cons : memFlat v (w :: xs) = (eqFlat w v || memFlat v xs) := id rfl
theorem eqFlat_ss : eqFlat (.str x) (.str y) = decide (x = y) := id rfl
theorem eqFlat_ii : eqFlat (.int i) (.int j) = decide (i = j) := id rfl
theorem flatA_str : flatA (.str x) = true := id rfl
theorem flatA_int : flatA (.int i) = true := id rfl
end
theorem cpow2 {j : Int} : CPow 2 j = (0 ≤ j ∧ j ≤ 1000000) := by
  unfold CPow
  apply propext
  exact ⟨fun h => ⟨h.1, h.2.1⟩, fun h => ⟨h.1, h.2, by decide⟩⟩
theorem comp_eq {m : EM IT} {p : Pat} {own : List Nat} {c : EM Bool} {e : EM AV} {s : Sl} {h : AH} : compM m p own c e s h = (m s h).thE (fun it s h => compN it p c e h.length (wipeA s own) turnsMax 0 (h ++ [.lst []])) s := bd_eq
theorem gs_nil {s : Sl} {h : AH} : gsM [] [] s h = .nx s h := id rfl
theorem gs_cons {g : AV → SM} {gs : List (AV → SM)} {v : AV} {vs : List AV} {s : Sl} {h : AH} : gsM (g :: gs) (v :: vs) s h = (g v s h).thn (gsM gs vs) := by
  show seqS _ _ s h = _
  exact seqS_eq
/-- a slice's end -/
def oI (x : AV) : EM (Option Int) := match x with
  | .int i => ret (some i)
  | _ => bad
theorem oI_int {i : Int} {s : Sl} {h : AH} : oI (.int i) s h = .ok (some i) h := id rfl
theorem slc_str {z : Str} {lo hi : Option Int} {s : Sl} {h : AH} : slcA (.str z) lo hi s h = if z.length ≤ sizeLine then .ok (.str (cutS z lo hi)) h else .bad := by
  show (if z.length ≤ sizeLine then ret (.str (cutS z lo hi)) else bad : EM AV) s h = _
  split <;> rfl
theorem aug_eq {i : Nat} {f : AV → AV → EM AV} {m : EM AV} {s : Sl} {h : AH} : augM i f m s h = ((slotM i s h).thE (fun x => bd m fun y => f x y) s).thS (setS i) s := by
  unfold augM
  rw [bdS_eq, bd_eq]
theorem ipAdd_ii {i j : Int} {s : Sl} {h : AH} : ipAdd (.int i) (.int j) s h = .ok (.int (i + j)) h := id rfl
theorem ipSub_ii {i j : Int} {s : Sl} {h : AH} : ipSub (.int i) (.int j) s h = .ok (.int (i - j)) h := id rfl
theorem ipAdd_ss {i j : Str} {s : Sl} {h : AH} : ipAdd (.str i) (.str j) s h = if i.length + j.length ≤ sizeLine then .ok (.str (i ++ j)) h else .bad := by
  show (if i.length + j.length ≤ sizeLine then ret (.str (i ++ j)) else bad : EM AV) s h = _
  split <;> rfl
theorem add_ss {i j : Str} {s : Sl} {h : AH} : addA (.str i) (.str j) s h = if i.length + j.length ≤ sizeLine then .ok (.str (i ++ j)) h else .bad := by
  show (if i.length + j.length ≤ sizeLine then ret (.str (i ++ j)) else bad : EM AV) s h = _
  split <;> rfl
theorem len_s {z : Str} {s : Sl} {h : AH} : lenA [.str z] s h = if z.length ≤ sizeLine then .ok (.int z.length) h else .bad := by
  show rd (lenB (.str z)) s h = _
  unfold rd lenB
  dsimp only
  by_cases c : z.length ≤ sizeLine
  · rw [if_pos c, if_pos c]
  · rw [if_neg c, if_neg c]
theorem len_t {xs : List AV} {s : Sl} {h : AH} : lenA [.tup xs] s h = .ok (.int xs.length) h := id rfl
theorem itOf_str {z : Str} {s : Sl} {h : AH} : itOf (.str z) s h = .ok (.vals (charsA z)) h := id rfl
theorem idx_s {z : Str} {i : Int} {s : Sl} {h : AH} : idxA (.str z) (.int i) s h = if z.length ≤ sizeLine then atO ((atI z.cps.toList i).map fun c => AV.str ⟨#[c]⟩) h else .bad := by
  unfold idxA rd idxB atO
  dsimp only
  by_cases c : z.length ≤ sizeLine
  · rw [if_pos c, if_pos c]
    cases (atI z.cps.toList i).map fun c => AV.str ⟨#[c]⟩ <;> rfl
  · rw [if_neg c, if_neg c]
theorem in_ss {x z : Str} {s : Sl} {h : AH} : inA (.str x) (.str z) s h = match signIn x z with
    | some b => .ok (.bl b) h
    | none => .bad := by
  show rd (fun h => (inB (.str x) (.str z) h).map AV.bl) s h = _
  unfold rd inB
  dsimp only
  cases signIn x z <;> rfl
theorem isi_non {T : String} {s : Sl} {h : AH} : isiA T .non s h = .ok (.bl (isiB "NoneType" T)) h := id rfl
theorem isi_bl {T : String} {b : Bool} {s : Sl} {h : AH} : isiA T (.bl b) s h = .ok (.bl (isiB "bool" T)) h := id rfl
theorem isi_int {T : String} {i : Int} {s : Sl} {h : AH} : isiA T (.int i) s h = .ok (.bl (isiB "int" T)) h := id rfl
theorem isi_str {T : String} {z : Str} {s : Sl} {h : AH} : isiA T (.str z) s h = .ok (.bl (isiB "str" T)) h := id rfl
theorem isi_tup {T : String} {xs : List AV} {s : Sl} {h : AH} : isiA T (.tup xs) s h = .ok (.bl (isiB "tuple" T)) h := id rfl
theorem isi_lst {T : String} {xs : List AV} {p : Nat} {s : Sl} {h : AH} (e : h[p]? = some (.lst xs)) : isiA T (.ref p) s h = .ok (.bl (isiB "list" T)) h := by
  unfold isiA rd tyA
  dsimp only
  rw [e]
  rfl
theorem isi_fro {T : String} {xs : List AV} {p : Nat} {s : Sl} {h : AH} (e : h[p]? = some (.fro xs)) : isiA T (.ref p) s h = .ok (.bl (isiB "list" T)) h := by
  unfold isiA rd tyA
  dsimp only
  rw [e]
  rfl
end Ev
namespace Ev
open PySem PySem.Spec PyProof.Rows L2
/-! ### comprehensions that change nothing -/
theorem comp_map {m : EM IT} {i : Nat} {own : List Nat} {e : EM AV} {s : Sl} {h h1 : AH} {xs : List AV} (hm : m s h = .ok (.vals xs) h1) (f : AV → AV) (he : ∀ x ∈ xs, ∀ h', e ((wipeA s own).set i (some x)) h' = .ok (f x) h') (hl : xs.length < turnsMax) (hz : xs.length ≤ sizeLine) :
    compM m (.nm i) own (ret true) e s h = .ok (.ref h1.length) (h1 ++ [.lst (xs.map f)]) := by
  rw [comp_eq, hm, thE_ok]
  have key : okE (compN (.vals xs) (.nm i) (ret true) e h1.length (wipeA s own) turnsMax 0 (h1 ++ [.lst []])) fun v h' => v = .ref h1.length ∧ h' = h1 ++ [.lst (xs.map f)] := by
    refine okE_compV (fun j acc h' => acc = (xs.take j).map f ∧ h' = h1 ++ [.lst acc]) ?_ ?_ _ _ _ _ ⟨by simp, rfl⟩ get_new (Nat.zero_le _) (by omega)
    · rintro j x acc h' ex ⟨rfl, rfl⟩ hD
      refine ⟨_, bind_nm, ?_⟩
      have hx := List.mem_of_getElem? ex
      have hj := (List.getElem?_eq_some_iff.mp ex).1
      rw [ret_eq, okE_oke]
      rw [if_pos rfl, he x hx, okE_oke]
      refine ⟨get_new, ?_, ?_, ?_⟩
      · rw [List.length_map, List.length_take]
        omega
      · rw [List.take_add_one, ex]
        simp
      · exact set_new
    · rintro acc h' ⟨rfl, rfl⟩ hD
      rw [List.take_length]
      exact ⟨rfl, rfl⟩
  obtain ⟨v, h', e1, rfl, rfl⟩ := okE_iff.mp key
  exact e1
theorem comp_mapL {m : EM IT} {i q : Nat} {own : List Nat} {e : EM AV} {s : Sl} {h h1 : AH} {xs : List AV} (hm : m s h = .ok (.live q) h1) (hq : lstOf h1 q = some xs) (f : AV → AV) (he : ∀ x ∈ xs, ∀ h', (∃ l, h' = h1 ++ l) → e ((wipeA s own).set i (some x)) h' = .ok (f x) h') (hl : xs.length < turnsMax) (hz : xs.length ≤ sizeLine) :
    compM m (.nm i) own (ret true) e s h = .ok (.ref h1.length) (h1 ++ [.lst (xs.map f)]) := by
  rw [comp_eq, hm, thE_ok]
  have lq : q < h1.length := by
    unfold lstOf at hq
    by_cases l : q < h1.length
    · exact l
    · rw [List.getElem?_eq_none (by omega)] at hq
      cases hq
  have key : okE (compN (.live q) (.nm i) (ret true) e h1.length (wipeA s own) turnsMax 0 (h1 ++ [.lst []])) fun v h' => v = .ref h1.length ∧ h' = h1 ++ [.lst (xs.map f)] := by
    refine okE_compL (xs := xs) (fun j acc h' => acc = (xs.take j).map f ∧ h' = h1 ++ [.lst acc]) ?_ ?_ ?_ _ _ _ _ ⟨by simp, rfl⟩ get_new (Nat.zero_le _) (by omega)
    · rintro j acc h' ⟨_, rfl⟩
      rw [← hq]
      exact lstOf_congr (List.getElem?_append_left lq)
    · rintro j x acc h' ex ⟨rfl, rfl⟩ hD
      refine ⟨_, bind_nm, ?_⟩
      have hx := List.mem_of_getElem? ex
      have hj := (List.getElem?_eq_some_iff.mp ex).1
      rw [ret_eq, okE_oke]
      rw [if_pos rfl, he x hx _ ⟨_, rfl⟩, okE_oke]
      refine ⟨get_new, ?_, ?_, ?_⟩
      · rw [List.length_map, List.length_take]
        omega
      · rw [List.take_add_one, ex]
        simp
      · exact set_new
    · rintro acc h' ⟨rfl, rfl⟩ hD
      rw [List.take_length]
      exact ⟨rfl, rfl⟩
  obtain ⟨v, h', e1, rfl, rfl⟩ := okE_iff.mp key
  exact e1
theorem blsOf_map : ∀ bs : List Bool, blsOf (bs.map AV.bl) = some bs
  | [] => rfl
  | b :: bs => by rw [List.map_cons, blsOf, blsOf_map bs]
theorem all_of {h : AH} {p : Nat} {s : Sl} {bs : List Bool} (e : h[p]? = some (.lst (bs.map AV.bl))) : allA [.ref p] s h = .ok (.bl (bs.all id)) h := by
  unfold allA onBlsL rd lstB
  dsimp only
  rw [lstOf_lst e]
  dsimp only
  rw [blsOf_map]
  rfl
theorem any_of {h : AH} {p : Nat} {s : Sl} {bs : List Bool} (e : h[p]? = some (.lst (bs.map AV.bl))) : anyA [.ref p] s h = .ok (.bl (bs.any id)) h := by
  unfold anyA onBlsL rd lstB
  dsimp only
  rw [lstOf_lst e]
  dsimp only
  rw [blsOf_map]
  rfl
/-! ### texts as lists of signs -/
def S (l : List Nat) : Str := ⟨l.toArray⟩
theorem S_list (l : List Nat) : (S l).cps.toList = l := rfl
theorem S_of (z : Str) : z = S z.cps.toList := rfl
theorem S_len (l : List Nat) : (S l).length = l.length := by
  show l.toArray.size = _
  simp
theorem S_inj {a b : List Nat} : S a = S b ↔ a = b := ⟨fun h => congrArg (fun z : Str => z.cps.toList) h, fun h => by rw [h]⟩
theorem S_app (a b : List Nat) : S a ++ S b = S (a ++ b) := by
  show (⟨a.toArray ++ b.toArray⟩ : Str) = ⟨(a ++ b).toArray⟩
  simp
theorem S_chars (l : List Nat) : charsA (S l) = l.map fun c => AV.str (S [c]) := rfl
theorem S_sign (c : Nat) (l : List Nat) : signIn (S [c]) (S l) = some (decide (c ∈ l)) := rfl
theorem S_cut (l : List Nat) (lo hi : Option Int) : cutS (S l) lo hi = S ((l.drop (HT.sIx l.length 0 lo)).take (HT.sIx l.length l.length hi - HT.sIx l.length 0 lo)) := by
  unfold cutS
  rw [S_len]
  rfl
theorem cut_take {l : List Nat} {i j : Nat} (hi : i ≤ l.length) : cutS (S l) (some (i : Int)) (some (j : Int)) = S ((l.drop i).take (j - i)) := by
  rw [S_cut, HT.sIx_nat, HT.sIx_nat, Nat.min_eq_left hi]
  congr 1
  by_cases hj : j ≤ l.length
  · rw [Nat.min_eq_left hj]
  · rw [Nat.min_eq_right (by omega), List.take_of_length_le (l := l.drop i) (i := l.length - i) (by simp), List.take_of_length_le (by simp; omega)]
theorem cut_head {l : List Nat} {j : Nat} : cutS (S l) none (some (j : Int)) = S (l.take j) := by
  rw [S_cut, HT.sIx_none, HT.sIx_nat, Nat.sub_zero, List.drop_zero]
  congr 1
  by_cases hj : j ≤ l.length
  · rw [Nat.min_eq_left hj]
  · rw [Nat.min_eq_right (by omega), List.take_length, List.take_of_length_le (by omega)]
theorem cut_tail {l : List Nat} {i : Nat} : cutS (S l) (some (i : Int)) none = S (l.drop i) := by
  rw [S_cut, HT.sIx_none, HT.sIx_nat]
  congr 1
  by_cases hi : i ≤ l.length
  · rw [Nat.min_eq_left hi, List.take_of_length_le (by simp)]
  · rw [Nat.min_eq_right (by omega), Nat.sub_self, List.take_zero, List.drop_of_length_le (by omega)]
theorem atI_nat' {α : Type} {xs : List α} {i : Nat} (h : i < xs.length) : atI xs (i : Int) = some xs[i] := by
  unfold atI ixN
  rw [if_pos (by omega), if_pos (by omega), Option.bind_some, Int.toNat_natCast, List.getElem?_eq_getElem h]
theorem idx_S {l : List Nat} {i : Nat} {s : Sl} {h : AH} (hi : i < l.length) (hz : l.length ≤ sizeLine) : idxA (.str (S l)) (.int (i : Int)) s h = .ok (.str (S [l[i]])) h := by
  rw [idx_s, if_pos (by rw [S_len]; exact hz), S_list, atI_nat' hi]
  rfl
theorem in_S {c : Nat} {l : List Nat} {s : Sl} {h : AH} : inA (.str (S [c])) (.str (S l)) s h = .ok (.bl (decide (c ∈ l))) h := by
  rw [in_ss, S_sign]
theorem tru_s {z : Str} {s : Sl} {h : AH} : truA (.str z) s h = if z.length ≤ sizeLine then .ok ((z.length : Int) != 0) h else .bad := by
  show (if z.length ≤ sizeLine then ret ((z.length : Int) != 0) else bad : EM Bool) s h = _
  split <;> rfl
theorem tru_S {l : List Nat} {s : Sl} {h : AH} (hz : l.length ≤ sizeLine) : truA (.str (S l)) s h = .ok (!l.isEmpty) h := by
  rw [tru_s, if_pos (by rw [S_len]; exact hz), S_len]
  cases l <;> rfl
theorem len_S {l : List Nat} {s : Sl} {h : AH} (hz : l.length ≤ sizeLine) : lenA [.str (S l)] s h = .ok (.int l.length) h := by
  rw [len_s, if_pos (by rw [S_len]; exact hz), S_len]
theorem slc_S {l : List Nat} {lo hi : Option Int} {s : Sl} {h : AH} (hz : l.length ≤ sizeLine) : slcA (.str (S l)) lo hi s h = .ok (.str (cutS (S l) lo hi)) h := by
  rw [slc_str, if_pos (by rw [S_len]; exact hz)]
theorem takeWhile_take {p : Nat → Bool} : ∀ {l : List Nat} {n : Nat}, (∀ c ∈ l.take n, p c = true) → (∀ c, l[n]? = some c → p c = false) → l.takeWhile p = l.take n
  | [], n, _, _ => by simp
  | c :: l, 0, _, h2 => by
    have := h2 c rfl
    rw [List.takeWhile_cons, this]
    rfl
  | c :: l, n + 1, h1, h2 => by
    have hc := h1 c (by simp)
    rw [List.takeWhile_cons, hc, List.take_succ_cons]
    simp only [if_true]
    rw [takeWhile_take (fun d hd => h1 d (by rw [List.take_succ_cons]; exact List.mem_cons_of_mem _ hd)) (fun d hd => h2 d (by simpa using hd))]
def isIn (g : List Nat) (c : Nat) : Bool := decide (c ∈ g)
def tw (g l : List Nat) : List Nat := l.takeWhile (isIn g)
theorem tw_len (g l : List Nat) : (tw g l).length ≤ l.length := (List.takeWhile_prefix _).length_le
/-! ### methods -/
def mApp (x : AV) (m : Str) (ms : EM (List AV)) : EM AV := fun s h => match kindA x h with
  | some T => (match (mtTab T).lookup m with
    | some f => bd ms (f x) s h
    | none => .bad)
  | none => .bad
section
variable {mo : EM AV} {m : Str} {ms : EM (List AV)} {s : Sl} {h : AH} {p : Nat} {xs : List AV} {y : AV} {a b : Str}
theorem meth_eq : methM mo m ms s h = (mo s h).thE (fun x => mApp x m ms) s := by
  unfold methM
  exact bd_eq
theorem mApp_strip : mApp (.str a) "strip" ms s h = (ms s h).thE (stripA (.str a)) s := by
  show bd ms (stripA (.str a)) s h = _
  exact bd_eq
theorem mApp_split : mApp (.str a) "split" ms s h = (ms s h).thE (splitA (.str a)) s := by
  show bd ms (splitA (.str a)) s h = _
  exact bd_eq
def appK (o : Option AO) (p : Nat) (ms : EM (List AV)) (s : Sl) (h : AH) : RE AV := match o with
  | some (.lst _) => (ms s h).thE (appendA (.ref p)) s
  | some (.fro _) => (ms s h).thE (appendA (.ref p)) s
  | _ => .bad
theorem mApp_append : mApp (.ref p) "append" ms s h = appK h[p]? p ms s h := by
  have e : ∃ o, h[p]? = o := ⟨_, rfl⟩
  obtain ⟨o, e⟩ := e
  unfold mApp kindA appK
  dsimp only
  rw [e]
  cases o with
  | none => rfl
  | some o =>
    cases o with
    | lst xs =>
      show bd ms (appendA (.ref p)) s h = _
      exact bd_eq
    | fro xs =>
      show bd ms (appendA (.ref p)) s h = _
      exact bd_eq
    | dct kvs => rfl
    | ins c fs => rfl
theorem appK_lst : appK (some (.lst xs)) p ms s h = (ms s h).thE (appendA (.ref p)) s := id rfl
theorem stripA_ss : stripA (.str a) [.str b] s h = if a.length ≤ sizeLine then .ok (.str (Txt.stripChars a b)) h else .bad := by
  show (if a.length ≤ sizeLine then ret (.str (Txt.stripChars a b)) else bad : EM AV) s h = _
  split <;> rfl
theorem splitA_ss : splitA (.str a) [.str b] s h = if (b.length == 0) = false ∧ a.length + 2 ≤ sizeLine then .ok (.ref h.length) (h ++ [.lst ((Txt.split a b).map AV.str)]) else .bad := by
  show (if (b.length == 0) = false ∧ a.length + 2 ≤ sizeLine then alloc (.lst ((Txt.split a b).map AV.str)) else bad : EM AV) s h = _
  split <;> rfl
def appO (o : Option AO) (p : Nat) (y : AV) (h : AH) : RE AV := match o with
  | some (.lst xs) => if xs.length < sizeLine then .ok .non (h.set p (.lst (xs ++ [y]))) else .bad
  | _ => .bad
theorem appendA_r : appendA (.ref p) [y] s h = appO h[p]? p y h := by
  show updL p _ s h = _
  unfold updL appO
  cases h[p]? with
  | none => rfl
  | some o =>
    cases o with
    | lst xs =>
      dsimp only
      by_cases c : xs.length < sizeLine
      · rw [if_pos c, if_pos c]
      · rw [if_neg c, if_neg c]
    | _ => rfl
theorem appO_lst : appO (some (.lst xs)) p y h = if xs.length < sizeLine then .ok .non (h.set p (.lst (xs ++ [y]))) else .bad := id rfl
end
theorem chain_eq {f g : AV → AV → EM AV} {ma mb mc : EM AV} {s : Sl} {h : AH} : chainM f g ma mb mc s h = (ma s h).thE (fun x => bd mb fun y => bd (f x y) fun k => bd (asBool k) fun k => if k = true then bd mc fun z => g y z else ret (.bl false)) s := bd_eq
theorem all_new {h : AH} {s : Sl} {bs : List Bool} : allA [.ref h.length] s (h ++ [.lst (bs.map AV.bl)]) = .ok (.bl (bs.all id)) (h ++ [.lst (bs.map AV.bl)]) := all_of get_new
theorem any_new {h : AH} {s : Sl} {bs : List Bool} : anyA [.ref h.length] s (h ++ [.lst (bs.map AV.bl)]) = .ok (.bl (bs.any id)) (h ++ [.lst (bs.map AV.bl)]) := any_of get_new
end Ev
namespace K14
open PySem PySem.Spec PyProof.Rows L2 Ev
def top (i : Nat) : Stmt := PySem.Challenge.pw_drawever_k14_tokens.main.body.getD i (.Pass ⟨0, 0, 0, 0⟩)
def d_run_of : FnD := ⟨"run_of", ("run_of", none), "run_of", ["text", "at", "signs"], ["text", "at", "signs", "end"], defArgs (top 8), defBody (top 8), defScope (top 8)⟩
def d_symbol_at : FnD := ⟨"symbol_at", ("symbol_at", none), "symbol_at", ["text", "at"], ["text", "at", "symbol"], defArgs (top 9), defBody (top 9), defScope (top 9)⟩
def d_token_at : FnD := ⟨"token_at", ("token_at", none), "token_at", ["text", "at"], ["text", "at", "sign", "found", "digits"], defArgs (top 10), defBody (top 10), defScope (top 10)⟩
def d_tokens : FnD := ⟨"tokens", ("tokens", none), "tokens", ["text"], ["text", "found", "at", "kind", "part"], defArgs (top 11), defBody (top 11), defScope (top 11)⟩
def d_law_stream : FnD := ⟨"_law_stream", ("_law_stream", none), "_law_stream", ["script"], ["script", "mixed", "cell"], defArgs (top 13), defBody (top 13), defScope (top 13)⟩
def d_law_draw : FnD := ⟨"_law_draw", ("_law_draw", none), "_law_draw", ["stream", "many"], ["stream", "many", "value"], defArgs (top 14), defBody (top 14), defScope (top 14)⟩
def d_law_pick : FnD := ⟨"_law_pick", ("_law_pick", none), "_law_pick", ["stream", "rows"], ["stream", "rows"], defArgs (top 15), defBody (top 15), defScope (top 15)⟩
def d_law_same : FnD := ⟨"_law_same", ("_law_same", none), "_law_same", ["told", "due"], ["told", "due", "k"], defArgs (top 16), defBody (top 16), defScope (top 16)⟩
def d_law_kind : FnD := ⟨"_law_kind", ("_law_kind", none), "_law_kind", ["part"], ["part", "small", "digits", "keys", "sign"], defArgs (top 17), defBody (top 17), defScope (top 17)⟩
def d_law_run : FnD := ⟨"_law_run", ("_law_run", none), "_law_run", ["text", "at"], ["text", "at", "capitals", "digits", "found", "end", "part", "is_run", "sign"], defArgs (top 18), defBody (top 18), defScope (top 18)⟩
def d_law_tokens : FnD := ⟨"_law_tokens", ("_law_tokens", none), "_law_tokens", ["text"], ["text", "found", "at", "part", "kind"], defArgs (top 19), defBody (top 19), defScope (top 19)⟩
def d_law : FnD := ⟨"law", ("law", none), "law", ["script"], ["script", "stream", "pieces", "text", "k", "told", "due"], defArgs (top 20), defBody (top 20), defScope (top 20)⟩
def T : Tbl := ⟨[("SMALL", .str "abcdefghijklmnopqrstuvwxyz"), ("DIGITS", .str "0123456789"), ("MOST_NAME", .int (12)), ("MOST_DIGITS", .int (10)), ("CAPITALS", .str "ABCDEFGHIJKLMNOPQRSTUVWXYZ"), ("KEYS", .tup [.str "KERNEL", .str "INT", .str "BUFFER", .str "SHARED", .str "LET", .str "ATOMIC", .str "IF", .str "ELSE", .str "WHILE", .str "BREAK", .str "CONTINUE", .str "RETURN", .str "BARRIER", .str "COLLECT", .str "PICK", .str "ADD", .str "MIN", .str "MAX", .str "REM", .str "AND", .str "OR", .str "XOR", .str "TID", .str "BID", .str "DIM", .str "GRID"]), ("SYMBOLS", .tup [.str "<<", .str ">>", .str "<=", .str "==", .str "!=", .str "(", .str ")", .str "{", .str "}", .str "[", .str "]", .str ",", .str ";", .str "=", .str "+", .str "-", .str "*", .str "/", .str "&", .str "|", .str "^", .str "<", .str "~", .str "!"])], [("run_of", 3), ("symbol_at", 2), ("token_at", 2), ("tokens", 1), ("_law_stream", 1), ("_law_draw", 2), ("_law_pick", 2), ("_law_same", 2), ("_law_kind", 1), ("_law_run", 2), ("_law_tokens", 1), ("law", 1)], ["abs", "all", "any", "bool", "int", "isinstance", "len", "list", "min", "range", "str", "tuple"]⟩
def fs : List FnD := [d_run_of, d_symbol_at, d_token_at, d_tokens, d_law_stream, d_law_draw, d_law_pick, d_law_same, d_law_kind, d_law_run, d_law_tokens, d_law]
def s_run_of (cf : CF) : SM := (seqS (bdS (slotM 1) (setS 3))
  (seqS (whileN (andT [(bd (bd (slotM 3) fun x1 => bd (bd (evsM [(slotM 0)]) lenA) fun y2 => ltA x1 y2) asBool), (bd (bd (bd (slotM 0) fun x5 => bd (slotM 3) fun y6 => idxA x5 y6) fun x3 => bd (slotM 2) fun y4 => inA x3 y4) asBool)]) (seqS (augM 3 ipAdd (ret (.int (1))))
    skipS) turnsMax)
  (seqS (bdS (bd (slotM 0) fun x => bd (bd (slotM 1) oI) fun i => bd (bd (slotM 3) oI) fun j => slcA x i j) retS)
  skipS)))
theorem sh_run_of (cf : CF) : bodyM T cf d_run_of = s_run_of cf := by kernel_rfl
theorem c_run_of (k : Nat) (v0 v1 v2 : AV) (h : AH) : callA T fs (k + 1) "run_of" [v0, v1, v2] h = runR (s_run_of (callA T fs k) [some v0, some v1, some v2, none] h) := call_eq (by rfl) rfl (sh_run_of _)
def s_symbol_at (cf : CF) : SM := (seqS (forS (bd (ret (.tup [.str "<<", .str ">>", .str "<=", .str "==", .str "!=", .str "(", .str ")", .str "{", .str "}", .str "[", .str "]", .str ",", .str ";", .str "=", .str "+", .str "-", .str "*", .str "/", .str "&", .str "|", .str "^", .str "<", .str "~", .str "!"])) itOf) (patS (.nm 2)) (seqS (ifS (bd (bd (bd (slotM 0) fun x => bd (bd (slotM 1) oI) fun i => bd (bd (bd (slotM 1) fun x3 => bd (bd (evsM [(slotM 2)]) lenA) fun y4 => addA x3 y4) oI) fun j => slcA x i j) fun x1 => bd (slotM 2) fun y2 => eqA x1 y2) asBool) (seqS (bdS (slotM 2) retS)
      skipS) skipS)
    skipS))
  (seqS (bdS (ret (.str "")) retS)
  skipS))
theorem sh_symbol_at (cf : CF) : bodyM T cf d_symbol_at = s_symbol_at cf := by kernel_rfl
theorem c_symbol_at (k : Nat) (v0 v1 : AV) (h : AH) : callA T fs (k + 1) "symbol_at" [v0, v1] h = runR (s_symbol_at (callA T fs k) [some v0, some v1, none] h) := call_eq (by rfl) rfl (sh_symbol_at _)
def s_token_at (cf : CF) : SM := (seqS (bdS (bd (slotM 0) fun x1 => bd (slotM 1) fun y2 => idxA x1 y2) (setS 2))
  (seqS (ifS (bd (bd (slotM 2) fun x3 => bd (ret (.str "abcdefghijklmnopqrstuvwxyz")) fun y4 => inA x3 y4) asBool) (seqS (bdS (callM cf "run_of" (evsM [(slotM 0), (slotM 1), (bd (ret (.str "abcdefghijklmnopqrstuvwxyz")) fun x5 => bd (ret (.str "0123456789")) fun y6 => addA x5 y6)])) (setS 3))
    (seqS (bdS (tupM [(bd (bd (bd (bd (evsM [(slotM 3)]) lenA) fun x7 => bd (ret (.int (12))) fun y8 => leA x7 y8) asBool) fun k => if k = true then (ret (.str "name")) else (ret (.str ""))), (slotM 3)]) retS)
    skipS)) skipS)
  (seqS (ifS (bd (bd (slotM 2) fun x9 => bd (ret (.str "0123456789")) fun y10 => inA x9 y10) asBool) (seqS (bdS (callM cf "run_of" (evsM [(slotM 0), (slotM 1), (ret (.str "0123456789"))])) (setS 3))
    (seqS (bdS (tupM [(bd (bd (bd (bd (evsM [(slotM 3)]) lenA) fun x11 => bd (ret (.int (10))) fun y12 => leA x11 y12) asBool) fun k => if k = true then (ret (.str "number")) else (ret (.str ""))), (slotM 3)]) retS)
    skipS)) skipS)
  (seqS (ifS (bd (bd (slotM 2) fun x13 => bd (ret (.str "ABCDEFGHIJKLMNOPQRSTUVWXYZ")) fun y14 => inA x13 y14) asBool) (seqS (bdS (callM cf "run_of" (evsM [(slotM 0), (slotM 1), (ret (.str "ABCDEFGHIJKLMNOPQRSTUVWXYZ"))])) (setS 3))
    (seqS (bdS (tupM [(bd (bd (bd (slotM 3) fun x15 => bd (ret (.tup [.str "KERNEL", .str "INT", .str "BUFFER", .str "SHARED", .str "LET", .str "ATOMIC", .str "IF", .str "ELSE", .str "WHILE", .str "BREAK", .str "CONTINUE", .str "RETURN", .str "BARRIER", .str "COLLECT", .str "PICK", .str "ADD", .str "MIN", .str "MAX", .str "REM", .str "AND", .str "OR", .str "XOR", .str "TID", .str "BID", .str "DIM", .str "GRID"])) fun y16 => inA x15 y16) asBool) fun k => if k = true then (ret (.str "key")) else (ret (.str ""))), (slotM 3)]) retS)
    skipS)) skipS)
  (seqS (ifS (bd (bd (bd (slotM 0) fun x => bd (bd (slotM 1) oI) fun i => bd (bd (bd (slotM 1) fun x19 => bd (ret (.int (2))) fun y20 => addA x19 y20) oI) fun j => slcA x i j) fun x17 => bd (ret (.str "#-")) fun y18 => eqA x17 y18) asBool) (seqS (bdS (callM cf "run_of" (evsM [(slotM 0), (bd (slotM 1) fun x21 => bd (ret (.int (2))) fun y22 => addA x21 y22), (ret (.str "0123456789"))])) (setS 4))
    (seqS (bdS (tupM [(bd (andT [(bd (methM (slotM 4) "strip" (evsM [(ret (.str "0"))])) truA), (bd (bd (bd (evsM [(slotM 4)]) lenA) fun x23 => bd (ret (.int (10))) fun y24 => leA x23 y24) asBool)]) fun k => if k = true then (ret (.str "negative")) else (ret (.str ""))), (bd (ret (.str "#-")) fun x25 => bd (slotM 4) fun y26 => addA x25 y26)]) retS)
    skipS)) skipS)
  (seqS (bdS (callM cf "symbol_at" (evsM [(slotM 0), (slotM 1)])) (setS 3))
  (seqS (bdS (tupM [(bd (bd (slotM 3) truA) fun k => if k = true then (ret (.str "symbol")) else (ret (.str ""))), (slotM 3)]) retS)
  skipS)))))))
theorem sh_token_at (cf : CF) : bodyM T cf d_token_at = s_token_at cf := by kernel_rfl
theorem c_token_at (k : Nat) (v0 v1 : AV) (h : AH) : callA T fs (k + 1) "token_at" [v0, v1] h = runR (s_token_at (callA T fs k) [some v0, some v1, none, none, none] h) := call_eq (by rfl) rfl (sh_token_at _)
def s_tokens (cf : CF) : SM := (seqS (bdS (lstM []) (setS 1))
  (seqS (bdS (ret (.int (0))) (setS 2))
  (seqS (whileN (bd (bd (slotM 2) fun x1 => bd (bd (evsM [(slotM 0)]) lenA) fun y2 => ltA x1 y2) asBool) (seqS (ifS (bd (bd (bd (slotM 0) fun x5 => bd (slotM 2) fun y6 => idxA x5 y6) fun x3 => bd (ret (.str " \n")) fun y4 => inA x3 y4) asBool) (seqS (augM 2 ipAdd (ret (.int (1))))
      (seqS (fun s h => .ct s h)
      skipS)) skipS)
    (seqS (asgS (callM cf "token_at" (evsM [(slotM 0), (slotM 2)])) (fun v => match v with | .tup vs => if vs.length = 2 then gsM [(setS 3), (setS 4)] vs else badS | _ => badS))
    (seqS (bdS (methM (slotM 1) "append" (evsM [(tupM [(slotM 3), (slotM 4), (slotM 2)])])) fun _ => skipS)
    (seqS (ifS (bd (bd (slotM 3) truA) fun k => ret (!k)) (seqS (bdS (slotM 1) retS)
      skipS) skipS)
    (seqS (augM 2 ipAdd (bd (evsM [(slotM 4)]) lenA))
    skipS))))) turnsMax)
  (seqS (bdS (slotM 1) retS)
  skipS))))
theorem sh_tokens (cf : CF) : bodyM T cf d_tokens = s_tokens cf := by kernel_rfl
theorem c_tokens (k : Nat) (v0 : AV) (h : AH) : callA T fs (k + 1) "tokens" [v0] h = runR (s_tokens (callA T fs k) [some v0, none, none, none, none] h) := call_eq (by rfl) rfl (sh_tokens _)
theorem sh_law_stream (cf : CF) : bodyM T cf d_law_stream = s_law_stream cf := by kernel_rfl
theorem c_law_stream (k : Nat) (v0 : AV) (h : AH) : callA T fs (k + 1) "_law_stream" [v0] h = runR (s_law_stream (callA T fs k) [some v0, none, none] h) := call_eq (by rfl) rfl (sh_law_stream _)
theorem sh_law_draw (cf : CF) : bodyM T cf d_law_draw = s_law_draw cf := by kernel_rfl
theorem c_law_draw (k : Nat) (v0 v1 : AV) (h : AH) : callA T fs (k + 1) "_law_draw" [v0, v1] h = runR (s_law_draw (callA T fs k) [some v0, some v1, none] h) := call_eq (by rfl) rfl (sh_law_draw _)
def s_law_pick (cf : CF) : SM := (seqS (bdS (bd (slotM 1) fun x1 => bd (callM cf "_law_draw" (evsM [(slotM 0), (bd (evsM [(slotM 1)]) lenA)])) fun y2 => idxA x1 y2) retS)
  skipS)
theorem sh_law_pick (cf : CF) : bodyM T cf d_law_pick = s_law_pick cf := by kernel_rfl
theorem c_law_pick (k : Nat) (v0 v1 : AV) (h : AH) : callA T fs (k + 1) "_law_pick" [v0, v1] h = runR (s_law_pick (callA T fs k) [some v0, some v1] h) := call_eq (by rfl) rfl (sh_law_pick _)
def s_law_same_c1 (cf : CF) : EM AV := (compM (bd (bd (evsM [(slotM 1)]) lenA) rangeI1) (.nm 2) [2] (ret true) (callM cf "_law_same" (evsM [(bd (slotM 0) fun x7 => bd (slotM 2) fun y8 => idxA x7 y8), (bd (slotM 1) fun x9 => bd (slotM 2) fun y10 => idxA x9 y10)])))
def s_law_same (cf : CF) : SM := (seqS (ifS (orT [(bd (bd (slotM 1) (isiA "tuple")) truA), (bd (bd (slotM 1) (isiA "list")) truA)]) (seqS (ifS (orT [(bd (bd (bd (slotM 0) (isiA "tuple")) fun x1 => bd (bd (slotM 1) (isiA "tuple")) fun y2 => neA x1 y2) asBool), (bd (bd (bd (slotM 0) (isiA "list")) fun x3 => bd (bd (slotM 1) (isiA "list")) fun y4 => neA x3 y4) asBool)]) (seqS (bdS (ret (.bl false)) retS)
      skipS) skipS)
    (seqS (bdS (andV [(bd (bd (evsM [(slotM 0)]) lenA) fun x5 => bd (bd (evsM [(slotM 1)]) lenA) fun y6 => eqA x5 y6), (bd (evsM [(s_law_same_c1 cf)]) allA)]) retS)
    skipS)) skipS)
  (seqS (ifS (bd (bd (slotM 1) fun x11 => bd (ret (.non)) fun y12 => isN x11 y12) asBool) (seqS (bdS (bd (slotM 0) fun x13 => bd (ret (.non)) fun y14 => isN x13 y14) retS)
    skipS) skipS)
  (seqS (ifS (bd (bd (slotM 1) (isiA "str")) truA) (seqS (bdS (andV [(bd (slotM 0) (isiA "str")), (bd (slotM 0) fun x15 => bd (slotM 1) fun y16 => eqA x15 y16)]) retS)
    skipS) skipS)
  (seqS (bdS (andV [(bd (slotM 0) (isiA "int")), (bd (bd (slotM 0) (isiA "bool")) fun x17 => bd (bd (slotM 1) (isiA "bool")) fun y18 => eqA x17 y18), (bd (slotM 0) fun x19 => bd (slotM 1) fun y20 => eqA x19 y20)]) retS)
  skipS))))
theorem sh_law_same (cf : CF) : bodyM T cf d_law_same = s_law_same cf := by kernel_rfl
theorem c_law_same (k : Nat) (v0 v1 : AV) (h : AH) : callA T fs (k + 1) "_law_same" [v0, v1] h = runR (s_law_same (callA T fs k) [some v0, some v1, none] h) := call_eq (by rfl) rfl (sh_law_same _)
def s_law_kind_1 (cf : CF) : SM := (bdS (ret (.str "abcdefghijklmnopqrstuvwxyz")) (setS 1))
def s_law_kind_2 (cf : CF) : SM := (bdS (ret (.str "0123456789")) (setS 2))
def s_law_kind_3 (cf : CF) : SM := (bdS (ret (.str "KERNEL INT BUFFER SHARED LET ATOMIC IF ELSE WHILE BREAK CONTINUE RETURN BARRIER COLLECT PICK ADD MIN MAX REM AND OR XOR TID BID DIM GRID")) (setS 3))
def s_law_kind_5 (cf : CF) : SM := (bdS (ret (.str "key")) retS)
def s_law_kind_4 (cf : CF) : SM := (ifS (bd (bd (slotM 0) fun x1 => bd (methM (slotM 3) "split" (evsM [(ret (.str " "))])) fun y2 => inA x1 y2) asBool) (seqS (s_law_kind_5 cf)
    skipS) skipS)
def s_law_kind_7 (cf : CF) : SM := (bdS (ret (.str "symbol")) retS)
def s_law_kind_6 (cf : CF) : SM := (ifS (bd (bd (slotM 0) fun x3 => bd (methM (ret (.str "( ) { } [ ] , ; = + - * / & | ^ << >> < <= == != ~ !")) "split" (evsM [(ret (.str " "))])) fun y4 => inA x3 y4) asBool) (seqS (s_law_kind_7 cf)
    skipS) skipS)
def s_law_kind_c1 (cf : CF) : EM AV := (compM (bd (slotM 0) itOf) (.nm 4) [4] (ret true) (bd (slotM 4) fun x5 => bd (slotM 2) fun y6 => inA x5 y6))
def s_law_kind_9 (cf : CF) : SM := (bdS (bd (bd (bd (bd (evsM [(slotM 0)]) lenA) fun x7 => bd (ret (.int (11))) fun y8 => ltA x7 y8) asBool) fun k => if k = true then (ret (.str "number")) else (ret (.str ""))) retS)
def s_law_kind_8 (cf : CF) : SM := (ifS (bd (bd (evsM [(s_law_kind_c1 cf)]) allA) truA) (seqS (s_law_kind_9 cf)
    skipS) skipS)
def s_law_kind_c2 (cf : CF) : EM AV := (compM (bd (bd (slotM 0) fun x => bd (bd (ret (.int (2))) oI) fun i => bd (ret (none : Option Int)) fun j => slcA x i j) itOf) (.nm 4) [4] (ret true) (bd (slotM 4) fun x11 => bd (slotM 2) fun y12 => inA x11 y12))
def s_law_kind_c3 (cf : CF) : EM AV := (compM (bd (bd (slotM 0) fun x => bd (bd (ret (.int (2))) oI) fun i => bd (ret (none : Option Int)) fun j => slcA x i j) itOf) (.nm 4) [4] (ret true) (bd (slotM 4) fun x13 => bd (ret (.str "0")) fun y14 => neA x13 y14))
def s_law_kind_11 (cf : CF) : SM := (bdS (bd (bd (bd (evsM [(s_law_kind_c3 cf)]) anyA) truA) fun k => if k = true then (ret (.str "negative")) else (ret (.str ""))) retS)
def s_law_kind_10 (cf : CF) : SM := (ifS (andT [(bd (bd (bd (slotM 0) fun x => bd (ret (none : Option Int)) fun i => bd (bd (ret (.int (2))) oI) fun j => slcA x i j) fun x9 => bd (ret (.str "#-")) fun y10 => eqA x9 y10) asBool), (bd (chainM ltA ltA (ret (.int (2))) (bd (evsM [(slotM 0)]) lenA) (ret (.int (13)))) asBool), (bd (bd (evsM [(s_law_kind_c2 cf)]) allA) truA)]) (seqS (s_law_kind_11 cf)
    skipS) skipS)
def s_law_kind_c4 (cf : CF) : EM AV := (compM (bd (slotM 0) itOf) (.nm 4) [4] (ret true) (bd (slotM 4) fun x19 => bd (bd (slotM 1) fun x21 => bd (slotM 2) fun y22 => addA x21 y22) fun y20 => inA x19 y20))
def s_law_kind_13 (cf : CF) : SM := (bdS (ret (.str "name")) retS)
def s_law_kind_12 (cf : CF) : SM := (ifS (andT [(bd (bd (bd (slotM 0) fun x17 => bd (ret (.int (0))) fun y18 => idxA x17 y18) fun x15 => bd (slotM 1) fun y16 => inA x15 y16) asBool), (bd (bd (evsM [(s_law_kind_c4 cf)]) allA) truA)]) (seqS (s_law_kind_13 cf)
    skipS) skipS)
def s_law_kind_14 (cf : CF) : SM := (bdS (ret (.str "")) retS)
def s_law_kind (cf : CF) : SM := (seqS (s_law_kind_1 cf)
  (seqS (s_law_kind_2 cf)
  (seqS (s_law_kind_3 cf)
  (seqS (s_law_kind_4 cf)
  (seqS (s_law_kind_6 cf)
  (seqS (s_law_kind_8 cf)
  (seqS (s_law_kind_10 cf)
  (seqS (s_law_kind_12 cf)
  (seqS (s_law_kind_14 cf)
  skipS)))))))))
theorem sh_law_kind (cf : CF) : bodyM T cf d_law_kind = s_law_kind cf := by kernel_rfl
theorem c_law_kind (k : Nat) (v0 : AV) (h : AH) : callA T fs (k + 1) "_law_kind" [v0] h = runR (s_law_kind (callA T fs k) [some v0, none, none, none, none] h) := call_eq (by rfl) rfl (sh_law_kind _)
def s_law_run_c1 (cf : CF) : EM AV := (compM (bd (slotM 6) itOf) (.nm 8) [8] (ret true) (bd (slotM 8) fun x7 => bd (slotM 2) fun y8 => inA x7 y8))
def s_law_run_c2 (cf : CF) : EM AV := (compM (bd (slotM 6) itOf) (.nm 8) [8] (ret true) (bd (slotM 8) fun x9 => bd (slotM 3) fun y10 => inA x9 y10))
def s_law_run_c3 (cf : CF) : EM AV := (compM (bd (bd (slotM 6) fun x => bd (bd (ret (.int (2))) oI) fun i => bd (ret (none : Option Int)) fun j => slcA x i j) itOf) (.nm 8) [8] (ret true) (bd (slotM 8) fun x13 => bd (slotM 3) fun y14 => inA x13 y14))
def s_law_run (cf : CF) : SM := (seqS (bdS (ret (.str "ABCDEFGHIJKLMNOPQRSTUVWXYZ")) (setS 2))
  (seqS (bdS (ret (.str "0123456789")) (setS 3))
  (seqS (bdS (ret (.str "")) (setS 4))
  (seqS (forS (bd (bd (slotM 1) fun x1 => bd (ret (.int (1))) fun y2 => addA x1 y2) fun v => bd (bd (bd (evsM [(bd (evsM [(slotM 0)]) lenA), (bd (slotM 1) fun x5 => bd (ret (.int (40))) fun y6 => addA x5 y6)]) minA) fun x3 => bd (ret (.int (1))) fun y4 => addA x3 y4) fun w => rangeI2 v w) (patS (.nm 5)) (seqS (bdS (bd (slotM 0) fun x => bd (bd (slotM 1) oI) fun i => bd (bd (slotM 5) oI) fun j => slcA x i j) (setS 6))
    (seqS (bdS (orV [(bd (evsM [(s_law_run_c1 cf)]) allA), (bd (evsM [(s_law_run_c2 cf)]) allA)]) (setS 7))
    (seqS (ifS (orT [(bd (slotM 7) truA), (andT [(bd (bd (bd (slotM 6) fun x => bd (ret (none : Option Int)) fun i => bd (bd (ret (.int (2))) oI) fun j => slcA x i j) fun x11 => bd (ret (.str "#-")) fun y12 => eqA x11 y12) asBool), (bd (bd (evsM [(s_law_run_c3 cf)]) allA) truA)]), (bd (bd (callM cf "_law_kind" (evsM [(slotM 6)])) fun x15 => bd (ret (.str "")) fun y16 => neA x15 y16) asBool)]) (seqS (bdS (slotM 6) (setS 4))
      skipS) skipS)
    skipS))))
  (seqS (bdS (slotM 4) retS)
  skipS)))))
theorem sh_law_run (cf : CF) : bodyM T cf d_law_run = s_law_run cf := by kernel_rfl
theorem c_law_run (k : Nat) (v0 v1 : AV) (h : AH) : callA T fs (k + 1) "_law_run" [v0, v1] h = runR (s_law_run (callA T fs k) [some v0, some v1, none, none, none, none, none, none, none] h) := call_eq (by rfl) rfl (sh_law_run _)
def s_law_tokens (cf : CF) : SM := (seqS (bdS (lstM []) (setS 1))
  (seqS (bdS (ret (.int (0))) (setS 2))
  (seqS (whileN (bd (bd (slotM 2) fun x1 => bd (bd (evsM [(slotM 0)]) lenA) fun y2 => ltA x1 y2) asBool) (seqS (ifS (bd (bd (bd (slotM 0) fun x5 => bd (slotM 2) fun y6 => idxA x5 y6) fun x3 => bd (tupM [(ret (.str " ")), (ret (.str "\n"))]) fun y4 => inA x3 y4) asBool) (seqS (bdS (bd (slotM 2) fun x7 => bd (ret (.int (1))) fun y8 => addA x7 y8) (setS 2))
      (seqS (fun s h => .ct s h)
      skipS)) skipS)
    (seqS (bdS (callM cf "_law_run" (evsM [(slotM 0), (slotM 2)])) (setS 3))
    (seqS (bdS (bd (bd (bd (slotM 3) fun x9 => bd (ret (.str "")) fun y10 => neA x9 y10) asBool) fun k => if k = true then (callM cf "_law_kind" (evsM [(slotM 3)])) else (ret (.str ""))) (setS 4))
    (seqS (ifS (andT [(bd (bd (slotM 4) fun x11 => bd (ret (.str "name")) fun y12 => eqA x11 y12) asBool), (bd (bd (bd (evsM [(slotM 3)]) lenA) fun x13 => bd (ret (.int (12))) fun y14 => gtA x13 y14) asBool)]) (seqS (bdS (ret (.str "")) (setS 4))
      skipS) skipS)
    (seqS (bdS (methM (slotM 1) "append" (evsM [(tupM [(slotM 4), (slotM 3), (slotM 2)])])) fun _ => skipS)
    (seqS (ifS (bd (bd (slotM 4) fun x15 => bd (ret (.str "")) fun y16 => eqA x15 y16) asBool) (seqS (bdS (slotM 1) retS)
      skipS) skipS)
    (seqS (bdS (bd (slotM 2) fun x17 => bd (bd (evsM [(slotM 3)]) lenA) fun y18 => addA x17 y18) (setS 2))
    skipS))))))) turnsMax)
  (seqS (bdS (slotM 1) retS)
  skipS))))
theorem sh_law_tokens (cf : CF) : bodyM T cf d_law_tokens = s_law_tokens cf := by kernel_rfl
theorem c_law_tokens (k : Nat) (v0 : AV) (h : AH) : callA T fs (k + 1) "_law_tokens" [v0] h = runR (s_law_tokens (callA T fs k) [some v0, none, none, none, none] h) := call_eq (by rfl) rfl (sh_law_tokens _)
def s_law_1 (cf : CF) : SM := (bdS (callM cf "_law_stream" (evsM [(slotM 0)])) (setS 1))
def s_law_2 (cf : CF) : SM := (bdS (lstM [(ret (.str "x")), (ret (.str "abc9")), (ret (.str "9")), (ret (.str "120")), (ret (.str "#-5")), (ret (.str "#-")), (ret (.str "#")), (ret (.str "KERNEL")), (ret (.str "IF")), (ret (.str "IFX")), (ret (.str "TID")), (ret (.str "Q")), (ret (.str "<")), (ret (.str "<<")), (ret (.str ">")), (ret (.str ">>")), (ret (.str "=")), (ret (.str "=="))]) (setS 2))
def s_law_3 (cf : CF) : SM := (bdS (bd (slotM 2) fun x1 => bd (lstM [(ret (.str "12345678901")), (ret (.str "0000000000")), (ret (.str "#-0")), (ret (.str "#-00000000001")), (ret (.str "#-0000000001"))]) fun y2 => addA x1 y2) (setS 2))
def s_law_4 (cf : CF) : SM := (bdS (bd (slotM 2) fun x3 => bd (lstM [(ret (.str "!")), (ret (.str "!=")), (ret (.str "~")), (ret (.str " ")), (ret (.str "\n")), (ret (.str "(")), (ret (.str "]")), (ret (.str "{")), (ret (.str "abcdefghijklm")), (ret (.str "a1b2c3d4e5f6")), (ret (.str ";")), (ret (.str ",")), (ret (.str "-")), (ret (.str "@")), (ret (.str "\t")), (ret (.str "+")), (ret (.str "|")), (ret (.str "MAX"))]) fun y4 => addA x3 y4) (setS 2))
def s_law_5 (cf : CF) : SM := (bdS (ret (.str "")) (setS 3))
def s_law_7 (cf : CF) : SM := (bdS (bd (slotM 3) fun x5 => bd (callM cf "_law_pick" (evsM [(slotM 1), (slotM 2)])) fun y6 => addA x5 y6) (setS 3))
def s_law_9 (cf : CF) : SM := (bdS (bd (slotM 3) fun x9 => bd (ret (.str " ")) fun y10 => addA x9 y10) (setS 3))
def s_law_8 (cf : CF) : SM := (ifS (bd (bd (callM cf "_law_draw" (evsM [(slotM 1), (ret (.int (2)))])) fun x7 => bd (ret (.int (0))) fun y8 => eqA x7 y8) asBool) (seqS (s_law_9 cf)
      skipS) skipS)
def s_law_6 (cf : CF) : SM := (forS (bd (callM cf "_law_draw" (evsM [(slotM 1), (ret (.int (14)))])) rangeI1) (patS (.nm 4)) (seqS (s_law_7 cf)
    (seqS (s_law_8 cf)
    skipS)))
def s_law_10 (cf : CF) : SM := (bdS (callM cf "tokens" (evsM [(slotM 3)])) (setS 5))
def s_law_11 (cf : CF) : SM := (bdS (callM cf "_law_tokens" (evsM [(slotM 3)])) (setS 6))
def s_law_13 (cf : CF) : SM := (bdS (ret (.bl false)) retS)
def s_law_12 (cf : CF) : SM := (ifS (orT [(bd (bd (bd (slotM 5) (isiA "list")) truA) fun k => ret (!k)), (bd (bd (bd (evsM [(slotM 5)]) lenA) fun x11 => bd (bd (evsM [(slotM 6)]) lenA) fun y12 => neA x11 y12) asBool)]) (seqS (s_law_13 cf)
    skipS) skipS)
def s_law_16 (cf : CF) : SM := (bdS (ret (.bl false)) retS)
def s_law_15 (cf : CF) : SM := (ifS (orT [(bd (bd (bd (bd (slotM 5) fun x13 => bd (slotM 4) fun y14 => idxA x13 y14) (isiA "tuple")) truA) fun k => ret (!k)), (bd (bd (bd (evsM [(bd (slotM 5) fun x17 => bd (slotM 4) fun y18 => idxA x17 y18)]) lenA) fun x15 => bd (ret (.int (3))) fun y16 => neA x15 y16) asBool)]) (seqS (s_law_16 cf)
      skipS) skipS)
def s_law_18 (cf : CF) : SM := (bdS (ret (.bl false)) retS)
def s_law_17 (cf : CF) : SM := (ifS (bd (bd (callM cf "_law_same" (evsM [(tupM [(bd (bd (slotM 5) fun x21 => bd (slotM 4) fun y22 => idxA x21 y22) fun x19 => bd (ret (.int (0))) fun y20 => idxA x19 y20), (bd (bd (slotM 5) fun x25 => bd (slotM 4) fun y26 => idxA x25 y26) fun x23 => bd (ret (.int (2))) fun y24 => idxA x23 y24)]), (tupM [(bd (bd (slotM 6) fun x29 => bd (slotM 4) fun y30 => idxA x29 y30) fun x27 => bd (ret (.int (0))) fun y28 => idxA x27 y28), (bd (bd (slotM 6) fun x33 => bd (slotM 4) fun y34 => idxA x33 y34) fun x31 => bd (ret (.int (2))) fun y32 => idxA x31 y32)])])) truA) fun k => ret (!k)) (seqS (s_law_18 cf)
      skipS) skipS)
def s_law_20 (cf : CF) : SM := (bdS (ret (.bl false)) retS)
def s_law_19 (cf : CF) : SM := (ifS (andT [(bd (bd (bd (bd (slotM 6) fun x39 => bd (slotM 4) fun y40 => idxA x39 y40) fun x37 => bd (ret (.int (0))) fun y38 => idxA x37 y38) fun x35 => bd (ret (.str "")) fun y36 => neA x35 y36) asBool), (bd (bd (callM cf "_law_same" (evsM [(bd (bd (slotM 5) fun x43 => bd (slotM 4) fun y44 => idxA x43 y44) fun x41 => bd (ret (.int (1))) fun y42 => idxA x41 y42), (bd (bd (slotM 6) fun x47 => bd (slotM 4) fun y48 => idxA x47 y48) fun x45 => bd (ret (.int (1))) fun y46 => idxA x45 y46)])) truA) fun k => ret (!k))]) (seqS (s_law_20 cf)
      skipS) skipS)
def s_law_14 (cf : CF) : SM := (forS (bd (bd (evsM [(slotM 6)]) lenA) rangeI1) (patS (.nm 4)) (seqS (s_law_15 cf)
    (seqS (s_law_17 cf)
    (seqS (s_law_19 cf)
    skipS))))
def s_law_21 (cf : CF) : SM := (bdS (ret (.bl true)) retS)
def s_law (cf : CF) : SM := (seqS (s_law_1 cf)
  (seqS (s_law_2 cf)
  (seqS (s_law_3 cf)
  (seqS (s_law_4 cf)
  (seqS (s_law_5 cf)
  (seqS (s_law_6 cf)
  (seqS (s_law_10 cf)
  (seqS (s_law_11 cf)
  (seqS (s_law_12 cf)
  (seqS (s_law_14 cf)
  (seqS (s_law_21 cf)
  skipS)))))))))))
theorem sh_law (cf : CF) : bodyM T cf d_law = s_law cf := by kernel_rfl
theorem c_law (k : Nat) (v0 : AV) (h : AH) : callA T fs (k + 1) "law" [v0] h = runR (s_law (callA T fs k) [some v0, none, none, none, none, none, none] h) := call_eq (by rfl) rfl (sh_law _)
end K14
namespace K14
open PySem PySem.Spec PyProof.Rows L2 Ev
def smallL : List Nat := [97, 98, 99, 100, 101, 102, 103, 104, 105, 106, 107, 108, 109, 110, 111, 112, 113, 114, 115, 116, 117, 118, 119, 120, 121, 122]
def digL : List Nat := [48, 49, 50, 51, 52, 53, 54, 55, 56, 57]
def capL : List Nat := [65, 66, 67, 68, 69, 70, 71, 72, 73, 74, 75, 76, 77, 78, 79, 80, 81, 82, 83, 84, 85, 86, 87, 88, 89, 90]
theorem l_small : Str.ofString "abcdefghijklmnopqrstuvwxyz" = S smallL := by decide +kernel
theorem l_dig : Str.ofString "0123456789" = S digL := by decide +kernel
theorem l_cap : Str.ofString "ABCDEFGHIJKLMNOPQRSTUVWXYZ" = S capL := by decide +kernel
theorem l_hm : Str.ofString "#-" = S [35, 45] := by decide +kernel
theorem l_0 : Str.ofString "0" = S [48] := by decide +kernel
theorem l_e : Str.ofString "" = S [] := by decide +kernel
theorem l_sp : Str.ofString " \n" = S [32, 10] := by decide +kernel
abbrev big (l : List Nat) : Prop := l.length ≤ 16000000
theorem big.z {l : List Nat} (h : big l) : l.length ≤ sizeLine := by
  rw [sizeLine_eq]
  unfold big at h
  omega
theorem run_of_ok (k : Nat) {L g : List Nat} {at_ : Nat} {h : AH} (ha : at_ ≤ L.length) (hz : big L) : callA T fs (k + 1) "run_of" [.str (S L), .int at_, .str (S g)] h = .ok (.str (S (tw g (L.drop at_)))) h := by
  have key : okE (callA T fs (k + 1) "run_of" [.str (S L), .int at_, .str (S g)] h) fun v h' => v = .str (S (tw g (L.drop at_))) ∧ h' = h := by
    rw [c_run_of]
    apply okE_runR
    unfold s_run_of
    simp only [seqS_eq, bdS_eq, bd_eq, ifS_eq, thn_nx, thn_rt, thn_bk, thn_ct, thn_exc, thn_bad, thS_ok, thS_exc, thS_bad, thE_ok, thE_exc, thE_bad, thIf_ok, thIf_exc, thIf_bad, ret_eq, setS_eq, retS_eq, skipS_eq, alloc_eq, callM_eq, evs_nil, evs_cons, asBool_bl, tru_bl, tru_int, tru_non, tru_tup, runR_nx, runR_rt, runR_exc, runR_bad, runR_ite, thn_ite, thS_ite, thE_ite, ite_app2, ite_app2S, add_ii, sub_ii, mul_ii, fdiv_ii, mod_ii, pow_ii, shl_ii, shr_ii, band_ii, bor_ii, bxor_ii, neg_i, lt_ii, le_ii, gt_ii, ge_ii, eq_ii, eq_ss, eq_bb, ne_ii, ne_ss, ne_bb, isN_non, isN_int, isN_tup, isN_ref, isN_str, int_i, int_b, abs_i, max_ii, min_ii, slotM, idx_r, idx_t, idxO_lst, idxO_fro, atO_some, stIx_r, len_r, lenO_lst, lenO_fro, list_r, listO_lst, listO_fro, andT_one, andT_two, orT_one, orT_two, andV_one, andV_two, orV_one, orV_two, asg_eq, subG_eq, onlyNx_eq, nxo_nx, lst_eq, tup_eq, pat_nm, forS_eq, okS_nx, okS_rt, okS_bk, okS_ct, okS_exc, okE_oke, List.getElem?_cons_zero, List.getElem?_cons_succ, List.set_cons_zero, List.set_cons_succ, ofString_inj, decide_eq_true_eq, Bool.not_eq_true', decide_eq_false_iff_not, reduceIte, if_true, if_false, Int.reduceLT, Int.reduceLE, Int.reduceEq, Int.reduceNe, decide_true, decide_false, Bool.false_eq_true, String.reduceEq, Bool.not_true, Bool.not_false, idxO_dct, stIxO_dct, keyV_str, keyV_int, isKd_nil, isKd_cons, dLook_nil, dLook_cons, dct_eq, dctO_ok, prs_nil, prs_cons, get_new, set_new, dPut, dHas, List.any_cons, List.any_nil, List.all_cons, List.all_nil, List.foldl_cons, List.foldl_nil, List.map_cons, List.map_nil, List.cons_append, List.nil_append, Option.some.injEq, Sum.inr.injEq, Sum.inl.injEq, Option.isSome_some, Bool.or_false, Bool.false_or, Bool.or_true, Bool.true_or, Bool.and_true, Bool.true_and, Bool.and_self, List.length_cons, List.length_nil, sizeLine_eq, Nat.reduceAdd, Nat.reduceLeDiff, Nat.reduceLT, and_self, and_true, true_and, false_and, and_false, Bool.or_self, Bool.and_false, Bool.false_and, reduceCtorEq, in_tup, memFlat_nil, memFlat_cons, eqFlat_ss, eqFlat_ii, flatA_str, flatA_int, cpow2, comp_eq, gs_nil, gs_cons, oI_int, chain_eq, all_new, any_new, meth_eq, mApp_append, appK_lst, appendA_r, appO_lst, aug_eq, ipAdd_ii, ipSub_ii, ipAdd_ss, len_t, itOf_str, isi_non, isi_bl, isi_int, isi_str, isi_tup, isiB, String.reduceBEq, Nat.reducePow, Int.reduceToNat, Int.reducePow, Int.reduceSub, Int.reduceNeg, Int.reduceAdd, Int.reduceMul]
    apply okS_thn
    refine okS_while (fun m s h' => h' = h ∧ ∃ e : Nat, at_ ≤ e ∧ e ≤ L.length ∧ m = L.length - e ∧ s = [some (.str (S L)), some (.int at_), some (.str (S g)), some (.int e)] ∧ ∀ c ∈ (L.drop at_).take (e - at_), isIn g c = true) ?_ _ (L.length - at_) _ _ ⟨rfl, at_, Nat.le_refl _, ha, rfl, rfl, by simp⟩ (by unfold turnsMax; unfold big at hz; omega)
    rintro m s h' ⟨rfl, e, h1, h2, rfl, rfl, h3⟩
    have nd : (L.drop at_)[e - at_]? = L[e]? := by
      rw [List.getElem?_drop]
      congr 1
      omega
    by_cases hl : e < L.length
    · have hle : (e : Int) < (L.length : Int) := by omega
      by_cases hc : L[e] ∈ g
      · simp only [seqS_eq, bdS_eq, bd_eq, ifS_eq, thn_nx, thn_rt, thn_bk, thn_ct, thn_exc, thn_bad, thS_ok, thS_exc, thS_bad, thE_ok, thE_exc, thE_bad, thIf_ok, thIf_exc, thIf_bad, ret_eq, setS_eq, retS_eq, skipS_eq, alloc_eq, callM_eq, evs_nil, evs_cons, asBool_bl, tru_bl, tru_int, tru_non, tru_tup, runR_nx, runR_rt, runR_exc, runR_bad, runR_ite, thn_ite, thS_ite, thE_ite, ite_app2, ite_app2S, add_ii, sub_ii, mul_ii, fdiv_ii, mod_ii, pow_ii, shl_ii, shr_ii, band_ii, bor_ii, bxor_ii, neg_i, lt_ii, le_ii, gt_ii, ge_ii, eq_ii, eq_ss, eq_bb, ne_ii, ne_ss, ne_bb, isN_non, isN_int, isN_tup, isN_ref, isN_str, int_i, int_b, abs_i, max_ii, min_ii, slotM, idx_r, idx_t, idxO_lst, idxO_fro, atO_some, stIx_r, len_r, lenO_lst, lenO_fro, list_r, listO_lst, listO_fro, andT_one, andT_two, orT_one, orT_two, andV_one, andV_two, orV_one, orV_two, asg_eq, subG_eq, onlyNx_eq, nxo_nx, lst_eq, tup_eq, pat_nm, forS_eq, okS_nx, okS_rt, okS_bk, okS_ct, okS_exc, okE_oke, List.getElem?_cons_zero, List.getElem?_cons_succ, List.set_cons_zero, List.set_cons_succ, ofString_inj, decide_eq_true_eq, Bool.not_eq_true', decide_eq_false_iff_not, reduceIte, if_true, if_false, Int.reduceLT, Int.reduceLE, Int.reduceEq, Int.reduceNe, decide_true, decide_false, Bool.false_eq_true, String.reduceEq, Bool.not_true, Bool.not_false, idxO_dct, stIxO_dct, keyV_str, keyV_int, isKd_nil, isKd_cons, dLook_nil, dLook_cons, dct_eq, dctO_ok, prs_nil, prs_cons, get_new, set_new, dPut, dHas, List.any_cons, List.any_nil, List.all_cons, List.all_nil, List.foldl_cons, List.foldl_nil, List.map_cons, List.map_nil, List.cons_append, List.nil_append, Option.some.injEq, Sum.inr.injEq, Sum.inl.injEq, Option.isSome_some, Bool.or_false, Bool.false_or, Bool.or_true, Bool.true_or, Bool.and_true, Bool.true_and, Bool.and_self, List.length_cons, List.length_nil, sizeLine_eq, Nat.reduceAdd, Nat.reduceLeDiff, Nat.reduceLT, and_self, and_true, true_and, false_and, and_false, Bool.or_self, Bool.and_false, Bool.false_and, reduceCtorEq, in_tup, memFlat_nil, memFlat_cons, eqFlat_ss, eqFlat_ii, flatA_str, flatA_int, cpow2, comp_eq, gs_nil, gs_cons, oI_int, chain_eq, all_new, any_new, meth_eq, mApp_append, appK_lst, appendA_r, appO_lst, aug_eq, ipAdd_ii, ipSub_ii, ipAdd_ss, len_t, itOf_str, isi_non, isi_bl, isi_int, isi_str, isi_tup, isiB, String.reduceBEq, Nat.reducePow, Int.reduceToNat, Int.reducePow, Int.reduceSub, Int.reduceNeg, Int.reduceAdd, Int.reduceMul, len_S hz.z, idx_S hl hz.z, in_S, hle, hc]
        refine ⟨L.length - (e + 1), by omega, e + 1, by omega, by omega, rfl, by simp, ?_⟩
        intro c hm
        have e2 : e + 1 - at_ = (e - at_) + 1 := by omega
        rw [e2, List.take_add_one, nd, List.getElem?_eq_getElem hl] at hm
        rcases List.mem_append.mp hm with q | q
        · exact h3 c q
        · have : c = L[e] := by simpa using q
          rw [this]
          exact decide_eq_true hc
      · have tk : tw g (L.drop at_) = (L.drop at_).take (e - at_) := takeWhile_take h3 fun c q => by
          rw [nd, List.getElem?_eq_getElem hl] at q
          cases q
          exact decide_eq_false hc
        simp only [seqS_eq, bdS_eq, bd_eq, ifS_eq, thn_nx, thn_rt, thn_bk, thn_ct, thn_exc, thn_bad, thS_ok, thS_exc, thS_bad, thE_ok, thE_exc, thE_bad, thIf_ok, thIf_exc, thIf_bad, ret_eq, setS_eq, retS_eq, skipS_eq, alloc_eq, callM_eq, evs_nil, evs_cons, asBool_bl, tru_bl, tru_int, tru_non, tru_tup, runR_nx, runR_rt, runR_exc, runR_bad, runR_ite, thn_ite, thS_ite, thE_ite, ite_app2, ite_app2S, add_ii, sub_ii, mul_ii, fdiv_ii, mod_ii, pow_ii, shl_ii, shr_ii, band_ii, bor_ii, bxor_ii, neg_i, lt_ii, le_ii, gt_ii, ge_ii, eq_ii, eq_ss, eq_bb, ne_ii, ne_ss, ne_bb, isN_non, isN_int, isN_tup, isN_ref, isN_str, int_i, int_b, abs_i, max_ii, min_ii, slotM, idx_r, idx_t, idxO_lst, idxO_fro, atO_some, stIx_r, len_r, lenO_lst, lenO_fro, list_r, listO_lst, listO_fro, andT_one, andT_two, orT_one, orT_two, andV_one, andV_two, orV_one, orV_two, asg_eq, subG_eq, onlyNx_eq, nxo_nx, lst_eq, tup_eq, pat_nm, forS_eq, okS_nx, okS_rt, okS_bk, okS_ct, okS_exc, okE_oke, List.getElem?_cons_zero, List.getElem?_cons_succ, List.set_cons_zero, List.set_cons_succ, ofString_inj, decide_eq_true_eq, Bool.not_eq_true', decide_eq_false_iff_not, reduceIte, if_true, if_false, Int.reduceLT, Int.reduceLE, Int.reduceEq, Int.reduceNe, decide_true, decide_false, Bool.false_eq_true, String.reduceEq, Bool.not_true, Bool.not_false, idxO_dct, stIxO_dct, keyV_str, keyV_int, isKd_nil, isKd_cons, dLook_nil, dLook_cons, dct_eq, dctO_ok, prs_nil, prs_cons, get_new, set_new, dPut, dHas, List.any_cons, List.any_nil, List.all_cons, List.all_nil, List.foldl_cons, List.foldl_nil, List.map_cons, List.map_nil, List.cons_append, List.nil_append, Option.some.injEq, Sum.inr.injEq, Sum.inl.injEq, Option.isSome_some, Bool.or_false, Bool.false_or, Bool.or_true, Bool.true_or, Bool.and_true, Bool.true_and, Bool.and_self, List.length_cons, List.length_nil, sizeLine_eq, Nat.reduceAdd, Nat.reduceLeDiff, Nat.reduceLT, and_self, and_true, true_and, false_and, and_false, Bool.or_self, Bool.and_false, Bool.false_and, reduceCtorEq, in_tup, memFlat_nil, memFlat_cons, eqFlat_ss, eqFlat_ii, flatA_str, flatA_int, cpow2, comp_eq, gs_nil, gs_cons, oI_int, chain_eq, all_new, any_new, meth_eq, mApp_append, appK_lst, appendA_r, appO_lst, aug_eq, ipAdd_ii, ipSub_ii, ipAdd_ss, len_t, itOf_str, isi_non, isi_bl, isi_int, isi_str, isi_tup, isiB, String.reduceBEq, Nat.reducePow, Int.reduceToNat, Int.reducePow, Int.reduceSub, Int.reduceNeg, Int.reduceAdd, Int.reduceMul, len_S hz.z, idx_S hl hz.z, in_S, hle, hc, slc_S hz.z, cut_take ha, tk]
    · have hle : ¬ (e : Int) < (L.length : Int) := by omega
      have tk : tw g (L.drop at_) = (L.drop at_).take (e - at_) := takeWhile_take h3 fun c q => by
        rw [nd, List.getElem?_eq_none (by omega)] at q
        cases q
      simp only [seqS_eq, bdS_eq, bd_eq, ifS_eq, thn_nx, thn_rt, thn_bk, thn_ct, thn_exc, thn_bad, thS_ok, thS_exc, thS_bad, thE_ok, thE_exc, thE_bad, thIf_ok, thIf_exc, thIf_bad, ret_eq, setS_eq, retS_eq, skipS_eq, alloc_eq, callM_eq, evs_nil, evs_cons, asBool_bl, tru_bl, tru_int, tru_non, tru_tup, runR_nx, runR_rt, runR_exc, runR_bad, runR_ite, thn_ite, thS_ite, thE_ite, ite_app2, ite_app2S, add_ii, sub_ii, mul_ii, fdiv_ii, mod_ii, pow_ii, shl_ii, shr_ii, band_ii, bor_ii, bxor_ii, neg_i, lt_ii, le_ii, gt_ii, ge_ii, eq_ii, eq_ss, eq_bb, ne_ii, ne_ss, ne_bb, isN_non, isN_int, isN_tup, isN_ref, isN_str, int_i, int_b, abs_i, max_ii, min_ii, slotM, idx_r, idx_t, idxO_lst, idxO_fro, atO_some, stIx_r, len_r, lenO_lst, lenO_fro, list_r, listO_lst, listO_fro, andT_one, andT_two, orT_one, orT_two, andV_one, andV_two, orV_one, orV_two, asg_eq, subG_eq, onlyNx_eq, nxo_nx, lst_eq, tup_eq, pat_nm, forS_eq, okS_nx, okS_rt, okS_bk, okS_ct, okS_exc, okE_oke, List.getElem?_cons_zero, List.getElem?_cons_succ, List.set_cons_zero, List.set_cons_succ, ofString_inj, decide_eq_true_eq, Bool.not_eq_true', decide_eq_false_iff_not, reduceIte, if_true, if_false, Int.reduceLT, Int.reduceLE, Int.reduceEq, Int.reduceNe, decide_true, decide_false, Bool.false_eq_true, String.reduceEq, Bool.not_true, Bool.not_false, idxO_dct, stIxO_dct, keyV_str, keyV_int, isKd_nil, isKd_cons, dLook_nil, dLook_cons, dct_eq, dctO_ok, prs_nil, prs_cons, get_new, set_new, dPut, dHas, List.any_cons, List.any_nil, List.all_cons, List.all_nil, List.foldl_cons, List.foldl_nil, List.map_cons, List.map_nil, List.cons_append, List.nil_append, Option.some.injEq, Sum.inr.injEq, Sum.inl.injEq, Option.isSome_some, Bool.or_false, Bool.false_or, Bool.or_true, Bool.true_or, Bool.and_true, Bool.true_and, Bool.and_self, List.length_cons, List.length_nil, sizeLine_eq, Nat.reduceAdd, Nat.reduceLeDiff, Nat.reduceLT, and_self, and_true, true_and, false_and, and_false, Bool.or_self, Bool.and_false, Bool.false_and, reduceCtorEq, in_tup, memFlat_nil, memFlat_cons, eqFlat_ss, eqFlat_ii, flatA_str, flatA_int, cpow2, comp_eq, gs_nil, gs_cons, oI_int, chain_eq, all_new, any_new, meth_eq, mApp_append, appK_lst, appendA_r, appO_lst, aug_eq, ipAdd_ii, ipSub_ii, ipAdd_ss, len_t, itOf_str, isi_non, isi_bl, isi_int, isi_str, isi_tup, isiB, String.reduceBEq, Nat.reducePow, Int.reduceToNat, Int.reducePow, Int.reduceSub, Int.reduceNeg, Int.reduceAdd, Int.reduceMul, len_S hz.z, hle, slc_S hz.z, cut_take ha, tk]
  obtain ⟨v, h', e1, rfl, rfl⟩ := okE_iff.mp key
  exact e1
end K14
namespace K14
open PySem PySem.Spec PyProof.Rows L2 Ev
def symsL : List (List Nat) := [[60, 60], [62, 62], [60, 61], [61, 61], [33, 61], [40], [41], [123], [125], [91], [93], [44], [59], [61], [43], [45], [42], [47], [38], [124], [94], [60], [126], [33]]
def sTab (ls : List (List Nat)) : List AV := ls.map fun l => AV.str (S l)
theorem l_syms : ([.str "<<", .str ">>", .str "<=", .str "==", .str "!=", .str "(", .str ")", .str "{", .str "}", .str "[", .str "]", .str ",", .str ";", .str "=", .str "+", .str "-", .str "*", .str "/", .str "&", .str "|", .str "^", .str "<", .str "~", .str "!"] : List AV) = sTab symsL := by kernel_rfl
def keysL : List (List Nat) := [[75, 69, 82, 78, 69, 76], [73, 78, 84], [66, 85, 70, 70, 69, 82], [83, 72, 65, 82, 69, 68], [76, 69, 84], [65, 84, 79, 77, 73, 67], [73, 70], [69, 76, 83, 69], [87, 72, 73, 76, 69], [66, 82, 69, 65, 75], [67, 79, 78, 84, 73, 78, 85, 69], [82, 69, 84, 85, 82, 78], [66, 65, 82, 82, 73, 69, 82], [67, 79, 76, 76, 69, 67, 84], [80, 73, 67, 75], [65, 68, 68], [77, 73, 78], [77, 65, 88], [82, 69, 77], [65, 78, 68], [79, 82], [88, 79, 82], [84, 73, 68], [66, 73, 68], [68, 73, 77], [71, 82, 73, 68]]
theorem l_keys : ([.str "KERNEL", .str "INT", .str "BUFFER", .str "SHARED", .str "LET", .str "ATOMIC", .str "IF", .str "ELSE", .str "WHILE", .str "BREAK", .str "CONTINUE", .str "RETURN", .str "BARRIER", .str "COLLECT", .str "PICK", .str "ADD", .str "MIN", .str "MAX", .str "REM", .str "AND", .str "OR", .str "XOR", .str "TID", .str "BID", .str "DIM", .str "GRID"] : List AV) = sTab keysL := by kernel_rfl
theorem in_sTab {l : List Nat} {ls : List (List Nat)} {s : Sl} {h : AH} : inA (.str (S l)) (.tup (sTab ls)) s h = .ok (.bl (decide (l ∈ ls))) h := by
  have a : (sTab ls).all flatA = true := by
    unfold sTab
    rw [List.all_map]
    simp [flatA]
  have b : memFlat (.str (S l)) (sTab ls) = decide (l ∈ ls) := by
    unfold memFlat sTab
    rw [List.any_map]
    have : ((fun y => eqFlat y (AV.str (S l))) ∘ fun l => AV.str (S l)) = fun m => decide (m = l) := by
      funext m
      show decide (S m = S l) = _
      simp [S_inj]
    rw [this, List.any_eq]
    simp
  rw [in_tup, if_pos a, b]
/-- the symbol ahead -/
def sym (R : List Nat) : List Nat := (symsL.find? fun s => decide (R.take s.length = s)).getD []
theorem symbol_ok (k : Nat) {L : List Nat} {at_ : Nat} {h : AH} (ha : at_ ≤ L.length) (hz : big L) : callA T fs (k + 1) "symbol_at" [.str (S L), .int at_] h = .ok (.str (S (sym (L.drop at_)))) h := by
  have key : okE (callA T fs (k + 1) "symbol_at" [.str (S L), .int at_] h) fun v h' => v = .str (S (sym (L.drop at_))) ∧ h' = h := by
    rw [c_symbol_at]
    apply okE_runR
    unfold s_symbol_at
    simp only [seqS_eq, bdS_eq, bd_eq, ifS_eq, thn_nx, thn_rt, thn_bk, thn_ct, thn_exc, thn_bad, thS_ok, thS_exc, thS_bad, thE_ok, thE_exc, thE_bad, thIf_ok, thIf_exc, thIf_bad, ret_eq, setS_eq, retS_eq, skipS_eq, alloc_eq, callM_eq, evs_nil, evs_cons, asBool_bl, tru_bl, tru_int, tru_non, tru_tup, runR_nx, runR_rt, runR_exc, runR_bad, runR_ite, thn_ite, thS_ite, thE_ite, ite_app2, ite_app2S, add_ii, sub_ii, mul_ii, fdiv_ii, mod_ii, pow_ii, shl_ii, shr_ii, band_ii, bor_ii, bxor_ii, neg_i, lt_ii, le_ii, gt_ii, ge_ii, eq_ii, eq_ss, eq_bb, ne_ii, ne_ss, ne_bb, isN_non, isN_int, isN_tup, isN_ref, isN_str, int_i, int_b, abs_i, max_ii, min_ii, slotM, idx_r, idx_t, idxO_lst, idxO_fro, atO_some, stIx_r, len_r, lenO_lst, lenO_fro, list_r, listO_lst, listO_fro, andT_one, andT_two, orT_one, orT_two, andV_one, andV_two, orV_one, orV_two, asg_eq, subG_eq, onlyNx_eq, nxo_nx, lst_eq, tup_eq, pat_nm, forS_eq, okS_nx, okS_rt, okS_bk, okS_ct, okS_exc, okE_oke, List.getElem?_cons_zero, List.getElem?_cons_succ, List.set_cons_zero, List.set_cons_succ, ofString_inj, decide_eq_true_eq, Bool.not_eq_true', decide_eq_false_iff_not, reduceIte, if_true, if_false, Int.reduceLT, Int.reduceLE, Int.reduceEq, Int.reduceNe, decide_true, decide_false, Bool.false_eq_true, String.reduceEq, Bool.not_true, Bool.not_false, idxO_dct, stIxO_dct, keyV_str, keyV_int, isKd_nil, isKd_cons, dLook_nil, dLook_cons, dct_eq, dctO_ok, prs_nil, prs_cons, get_new, set_new, dPut, dHas, List.any_cons, List.any_nil, List.all_cons, List.all_nil, List.foldl_cons, List.foldl_nil, List.map_cons, List.map_nil, List.cons_append, List.nil_append, Option.some.injEq, Sum.inr.injEq, Sum.inl.injEq, Option.isSome_some, Bool.or_false, Bool.false_or, Bool.or_true, Bool.true_or, Bool.and_true, Bool.true_and, Bool.and_self, List.length_cons, List.length_nil, sizeLine_eq, Nat.reduceAdd, Nat.reduceLeDiff, Nat.reduceLT, and_self, and_true, true_and, false_and, and_false, Bool.or_self, Bool.and_false, Bool.false_and, reduceCtorEq, in_tup, memFlat_nil, memFlat_cons, eqFlat_ss, eqFlat_ii, flatA_str, flatA_int, cpow2, comp_eq, gs_nil, gs_cons, oI_int, chain_eq, all_new, any_new, meth_eq, mApp_append, appK_lst, appendA_r, appO_lst, aug_eq, ipAdd_ii, ipSub_ii, ipAdd_ss, len_t, itOf_str, isi_non, isi_bl, isi_int, isi_str, isi_tup, isiB, String.reduceBEq, Nat.reducePow, Int.reduceToNat, Int.reducePow, Int.reduceSub, Int.reduceNeg, Int.reduceAdd, Int.reduceMul, itOf_tup]
    rw [l_syms]
    apply okS_thn
    refine okS_forV (fun i s h' => h' = h ∧ (∃ c, s = [some (.str (S L)), some (.int at_), c]) ∧ ∀ j (hj : j < symsL.length), j < i → (L.drop at_).take (symsL[j]).length ≠ symsL[j]) ?_ ?_ _ _ _ _ ⟨rfl, ⟨none, rfl⟩, fun j _ q => by omega⟩ (by simp) (by decide)
    · rintro i x s h' ex ⟨rfl, ⟨c, rfl⟩, h3⟩
      have hi : i < symsL.length := by
        have := (List.getElem?_eq_some_iff.mp ex).1
        simpa [sTab] using this
      obtain rfl : AV.str (S symsL[i]) = x := by
        unfold sTab at ex
        rw [List.getElem?_map, List.getElem?_eq_getElem hi] at ex
        simpa using ex
      have hb : (symsL[i]).length ≤ sizeLine := by
        have : ∀ l ∈ symsL, l.length ≤ 2 := by decide
        have := this _ (List.getElem_mem hi)
        rw [sizeLine_eq]
        omega
      have cast : (at_ : Int) + ((symsL[i]).length : Int) = ((at_ + (symsL[i]).length : Nat) : Int) := by omega
      by_cases e : (L.drop at_).take (symsL[i]).length = symsL[i]
      · have f : sym (L.drop at_) = symsL[i] := by
          unfold sym
          have : symsL.find? (fun s => decide ((L.drop at_).take s.length = s)) = some symsL[i] := by
            rw [List.find?_eq_some_iff_getElem]
            refine ⟨decide_eq_true e, i, hi, rfl, fun j hj => ?_⟩
            simpa using h3 j (by omega) hj
          rw [this]
          rfl
        simp only [seqS_eq, bdS_eq, bd_eq, ifS_eq, thn_nx, thn_rt, thn_bk, thn_ct, thn_exc, thn_bad, thS_ok, thS_exc, thS_bad, thE_ok, thE_exc, thE_bad, thIf_ok, thIf_exc, thIf_bad, ret_eq, setS_eq, retS_eq, skipS_eq, alloc_eq, callM_eq, evs_nil, evs_cons, asBool_bl, tru_bl, tru_int, tru_non, tru_tup, runR_nx, runR_rt, runR_exc, runR_bad, runR_ite, thn_ite, thS_ite, thE_ite, ite_app2, ite_app2S, add_ii, sub_ii, mul_ii, fdiv_ii, mod_ii, pow_ii, shl_ii, shr_ii, band_ii, bor_ii, bxor_ii, neg_i, lt_ii, le_ii, gt_ii, ge_ii, eq_ii, eq_ss, eq_bb, ne_ii, ne_ss, ne_bb, isN_non, isN_int, isN_tup, isN_ref, isN_str, int_i, int_b, abs_i, max_ii, min_ii, slotM, idx_r, idx_t, idxO_lst, idxO_fro, atO_some, stIx_r, len_r, lenO_lst, lenO_fro, list_r, listO_lst, listO_fro, andT_one, andT_two, orT_one, orT_two, andV_one, andV_two, orV_one, orV_two, asg_eq, subG_eq, onlyNx_eq, nxo_nx, lst_eq, tup_eq, pat_nm, forS_eq, okS_nx, okS_rt, okS_bk, okS_ct, okS_exc, okE_oke, List.getElem?_cons_zero, List.getElem?_cons_succ, List.set_cons_zero, List.set_cons_succ, ofString_inj, decide_eq_true_eq, Bool.not_eq_true', decide_eq_false_iff_not, reduceIte, if_true, if_false, Int.reduceLT, Int.reduceLE, Int.reduceEq, Int.reduceNe, decide_true, decide_false, Bool.false_eq_true, String.reduceEq, Bool.not_true, Bool.not_false, idxO_dct, stIxO_dct, keyV_str, keyV_int, isKd_nil, isKd_cons, dLook_nil, dLook_cons, dct_eq, dctO_ok, prs_nil, prs_cons, get_new, set_new, dPut, dHas, List.any_cons, List.any_nil, List.all_cons, List.all_nil, List.foldl_cons, List.foldl_nil, List.map_cons, List.map_nil, List.cons_append, List.nil_append, Option.some.injEq, Sum.inr.injEq, Sum.inl.injEq, Option.isSome_some, Bool.or_false, Bool.false_or, Bool.or_true, Bool.true_or, Bool.and_true, Bool.true_and, Bool.and_self, List.length_cons, List.length_nil, sizeLine_eq, Nat.reduceAdd, Nat.reduceLeDiff, Nat.reduceLT, and_self, and_true, true_and, false_and, and_false, Bool.or_self, Bool.and_false, Bool.false_and, reduceCtorEq, in_tup, memFlat_nil, memFlat_cons, eqFlat_ss, eqFlat_ii, flatA_str, flatA_int, cpow2, comp_eq, gs_nil, gs_cons, oI_int, chain_eq, all_new, any_new, meth_eq, mApp_append, appK_lst, appendA_r, appO_lst, aug_eq, ipAdd_ii, ipSub_ii, ipAdd_ss, len_t, itOf_str, isi_non, isi_bl, isi_int, isi_str, isi_tup, isiB, String.reduceBEq, Nat.reducePow, Int.reduceToNat, Int.reducePow, Int.reduceSub, Int.reduceNeg, Int.reduceAdd, Int.reduceMul, len_S hb, slc_S hz.z, cast, cut_take ha, Nat.add_sub_cancel_left, S_inj, e]
        rw [f]
      · simp only [seqS_eq, bdS_eq, bd_eq, ifS_eq, thn_nx, thn_rt, thn_bk, thn_ct, thn_exc, thn_bad, thS_ok, thS_exc, thS_bad, thE_ok, thE_exc, thE_bad, thIf_ok, thIf_exc, thIf_bad, ret_eq, setS_eq, retS_eq, skipS_eq, alloc_eq, callM_eq, evs_nil, evs_cons, asBool_bl, tru_bl, tru_int, tru_non, tru_tup, runR_nx, runR_rt, runR_exc, runR_bad, runR_ite, thn_ite, thS_ite, thE_ite, ite_app2, ite_app2S, add_ii, sub_ii, mul_ii, fdiv_ii, mod_ii, pow_ii, shl_ii, shr_ii, band_ii, bor_ii, bxor_ii, neg_i, lt_ii, le_ii, gt_ii, ge_ii, eq_ii, eq_ss, eq_bb, ne_ii, ne_ss, ne_bb, isN_non, isN_int, isN_tup, isN_ref, isN_str, int_i, int_b, abs_i, max_ii, min_ii, slotM, idx_r, idx_t, idxO_lst, idxO_fro, atO_some, stIx_r, len_r, lenO_lst, lenO_fro, list_r, listO_lst, listO_fro, andT_one, andT_two, orT_one, orT_two, andV_one, andV_two, orV_one, orV_two, asg_eq, subG_eq, onlyNx_eq, nxo_nx, lst_eq, tup_eq, pat_nm, forS_eq, okS_nx, okS_rt, okS_bk, okS_ct, okS_exc, okE_oke, List.getElem?_cons_zero, List.getElem?_cons_succ, List.set_cons_zero, List.set_cons_succ, ofString_inj, decide_eq_true_eq, Bool.not_eq_true', decide_eq_false_iff_not, reduceIte, if_true, if_false, Int.reduceLT, Int.reduceLE, Int.reduceEq, Int.reduceNe, decide_true, decide_false, Bool.false_eq_true, String.reduceEq, Bool.not_true, Bool.not_false, idxO_dct, stIxO_dct, keyV_str, keyV_int, isKd_nil, isKd_cons, dLook_nil, dLook_cons, dct_eq, dctO_ok, prs_nil, prs_cons, get_new, set_new, dPut, dHas, List.any_cons, List.any_nil, List.all_cons, List.all_nil, List.foldl_cons, List.foldl_nil, List.map_cons, List.map_nil, List.cons_append, List.nil_append, Option.some.injEq, Sum.inr.injEq, Sum.inl.injEq, Option.isSome_some, Bool.or_false, Bool.false_or, Bool.or_true, Bool.true_or, Bool.and_true, Bool.true_and, Bool.and_self, List.length_cons, List.length_nil, sizeLine_eq, Nat.reduceAdd, Nat.reduceLeDiff, Nat.reduceLT, and_self, and_true, true_and, false_and, and_false, Bool.or_self, Bool.and_false, Bool.false_and, reduceCtorEq, in_tup, memFlat_nil, memFlat_cons, eqFlat_ss, eqFlat_ii, flatA_str, flatA_int, cpow2, comp_eq, gs_nil, gs_cons, oI_int, chain_eq, all_new, any_new, meth_eq, mApp_append, appK_lst, appendA_r, appO_lst, aug_eq, ipAdd_ii, ipSub_ii, ipAdd_ss, len_t, itOf_str, isi_non, isi_bl, isi_int, isi_str, isi_tup, isiB, String.reduceBEq, Nat.reducePow, Int.reduceToNat, Int.reducePow, Int.reduceSub, Int.reduceNeg, Int.reduceAdd, Int.reduceMul, len_S hb, slc_S hz.z, cast, cut_take ha, Nat.add_sub_cancel_left, S_inj, e]
        refine ⟨⟨_, rfl⟩, fun j hj q => ?_⟩
        by_cases z : j = i
        · subst z
          exact e
        · exact h3 j hj (by omega)
    · rintro s h' ⟨rfl, ⟨c, rfl⟩, h3⟩
      have f : sym (L.drop at_) = [] := by
        unfold sym
        have : symsL.find? (fun s => decide ((L.drop at_).take s.length = s)) = none := by
          rw [List.find?_eq_none]
          intro s hs
          obtain ⟨j, hj, rfl⟩ := List.mem_iff_getElem.mp hs
          simpa using h3 j hj (by simpa [sTab] using hj)
        rw [this]
        rfl
      simp only [seqS_eq, bdS_eq, bd_eq, ifS_eq, thn_nx, thn_rt, thn_bk, thn_ct, thn_exc, thn_bad, thS_ok, thS_exc, thS_bad, thE_ok, thE_exc, thE_bad, thIf_ok, thIf_exc, thIf_bad, ret_eq, setS_eq, retS_eq, skipS_eq, alloc_eq, callM_eq, evs_nil, evs_cons, asBool_bl, tru_bl, tru_int, tru_non, tru_tup, runR_nx, runR_rt, runR_exc, runR_bad, runR_ite, thn_ite, thS_ite, thE_ite, ite_app2, ite_app2S, add_ii, sub_ii, mul_ii, fdiv_ii, mod_ii, pow_ii, shl_ii, shr_ii, band_ii, bor_ii, bxor_ii, neg_i, lt_ii, le_ii, gt_ii, ge_ii, eq_ii, eq_ss, eq_bb, ne_ii, ne_ss, ne_bb, isN_non, isN_int, isN_tup, isN_ref, isN_str, int_i, int_b, abs_i, max_ii, min_ii, slotM, idx_r, idx_t, idxO_lst, idxO_fro, atO_some, stIx_r, len_r, lenO_lst, lenO_fro, list_r, listO_lst, listO_fro, andT_one, andT_two, orT_one, orT_two, andV_one, andV_two, orV_one, orV_two, asg_eq, subG_eq, onlyNx_eq, nxo_nx, lst_eq, tup_eq, pat_nm, forS_eq, okS_nx, okS_rt, okS_bk, okS_ct, okS_exc, okE_oke, List.getElem?_cons_zero, List.getElem?_cons_succ, List.set_cons_zero, List.set_cons_succ, ofString_inj, decide_eq_true_eq, Bool.not_eq_true', decide_eq_false_iff_not, reduceIte, if_true, if_false, Int.reduceLT, Int.reduceLE, Int.reduceEq, Int.reduceNe, decide_true, decide_false, Bool.false_eq_true, String.reduceEq, Bool.not_true, Bool.not_false, idxO_dct, stIxO_dct, keyV_str, keyV_int, isKd_nil, isKd_cons, dLook_nil, dLook_cons, dct_eq, dctO_ok, prs_nil, prs_cons, get_new, set_new, dPut, dHas, List.any_cons, List.any_nil, List.all_cons, List.all_nil, List.foldl_cons, List.foldl_nil, List.map_cons, List.map_nil, List.cons_append, List.nil_append, Option.some.injEq, Sum.inr.injEq, Sum.inl.injEq, Option.isSome_some, Bool.or_false, Bool.false_or, Bool.or_true, Bool.true_or, Bool.and_true, Bool.true_and, Bool.and_self, List.length_cons, List.length_nil, sizeLine_eq, Nat.reduceAdd, Nat.reduceLeDiff, Nat.reduceLT, and_self, and_true, true_and, false_and, and_false, Bool.or_self, Bool.and_false, Bool.false_and, reduceCtorEq, in_tup, memFlat_nil, memFlat_cons, eqFlat_ss, eqFlat_ii, flatA_str, flatA_int, cpow2, comp_eq, gs_nil, gs_cons, oI_int, chain_eq, all_new, any_new, meth_eq, mApp_append, appK_lst, appendA_r, appO_lst, aug_eq, ipAdd_ii, ipSub_ii, ipAdd_ss, len_t, itOf_str, isi_non, isi_bl, isi_int, isi_str, isi_tup, isiB, String.reduceBEq, Nat.reducePow, Int.reduceToNat, Int.reducePow, Int.reduceSub, Int.reduceNeg, Int.reduceAdd, Int.reduceMul, l_e, f]
  obtain ⟨v, h', e1, rfl, rfl⟩ := okE_iff.mp key
  exact e1
/-- some sign that is no 0 -/
def nz (d : List Nat) : Bool := d.any fun c => c != 48
theorem mem_tw {p : Nat → Bool} : ∀ {l : List Nat} {c : Nat}, c ∈ l.takeWhile p → p c = true
  | a :: l, c, h => by
    rw [List.takeWhile_cons] at h
    cases hp : p a with
    | false => rw [hp] at h; cases h
    | true =>
      rw [hp] at h
      rcases List.mem_cons.mp h with rfl | h
      · exact hp
      · exact mem_tw h
theorem dw_head {p : Nat → Bool} : ∀ {l : List Nat} {c : Nat} {t : List Nat}, l.dropWhile p = c :: t → p c = false
  | a :: l, c, t, h => by
    rw [List.dropWhile_cons] at h
    cases hp : p a with
    | true => rw [hp] at h; exact dw_head h
    | false => rw [hp] at h; cases h; exact hp
theorem drop_tw {p : Nat → Bool} : ∀ l : List Nat, l.drop (l.takeWhile p).length = l.dropWhile p
  | [] => rfl
  | a :: l => by
    rw [List.takeWhile_cons, List.dropWhile_cons]
    cases p a with
    | true => exact drop_tw l
    | false => rfl
theorem strip_nz (d : List Nat) : (Txt.stripChars (S d) (S [48])).length ≠ 0 ↔ nz d = true := by
  have pc : ∀ c, (S [48]).cps.contains c = (c == 48) := fun c => by
    show ([48] : List Nat).toArray.contains c = _
    rw [Bool.eq_iff_iff]
    simp
  have pf : (fun c => (S [48]).cps.contains c) = fun c => c == 48 := funext pc
  unfold Txt.stripChars Txt.stripBy stripSame stripped stripHi stripLo
  simp only [if_true, S_list, S_len]
  have pf' : ((S [48]).cps.contains : Nat → Bool) = fun c => c == 48 := pf
  rw [pf']
  have l1 : (d.takeWhile fun c => c == 48).length ≤ d.length := (List.takeWhile_prefix _).length_le
  generalize hl : (d.takeWhile fun c => c == 48).length = lo at l1 ⊢
  have dr : d.drop lo = d.dropWhile fun c => c == 48 := by
    rw [← hl]
    exact drop_tw d
  generalize hr : ((d.drop lo).reverse.takeWhile fun c => c == 48).length = r
  have l2 : r ≤ d.length - lo := by
    rw [← hr]
    have := (List.takeWhile_prefix (l := (d.drop lo).reverse) (fun c => c == 48)).length_le
    simpa using this
  have sub : (Builtin.Str.strSub (S d) lo (d.length - r)).length = d.length - r - lo := by
    unfold Builtin.Str.strSub
    show (Array.extract _ _ _).size = _
    rw [Array.size_extract]
    have : (S d).cps.size = d.length := S_len d
    rw [this]
    omega
  have main : d.length - r - lo ≠ 0 ↔ nz d = true := by
    unfold nz
    constructor
    · intro h
      rw [List.any_eq_true]
      have : d.drop lo ≠ [] := by
        intro z
        have := congrArg List.length z
        simp at this
        omega
      cases hd : d.dropWhile fun c => c == 48 with
      | nil => rw [dr, hd] at this; exact (this rfl).elim
      | cons c t =>
        have hc : (c == 48) = false := dw_head (p := fun c => c == 48) hd
        refine ⟨c, ?_, by simpa using hc⟩
        have : c ∈ d.dropWhile fun c => c == 48 := by rw [hd]; simp
        exact (List.dropWhile_suffix _).subset this
    · intro h
      rw [List.any_eq_true] at h
      obtain ⟨c, hc, hn⟩ := h
      have nall : ∃ x ∈ d.drop lo, ¬ (x == 48) = true := by
        rw [dr]
        apply Classical.byContradiction
        intro no
        have all : ∀ x ∈ d.dropWhile fun c => c == 48, (x == 48) = true := fun x hx => Classical.byContradiction fun q => no ⟨x, hx, q⟩
        have : c ∈ d.takeWhile (fun c => c == 48) ++ d.dropWhile fun c => c == 48 := by rw [List.takeWhile_append_dropWhile]; exact hc
        rcases List.mem_append.mp this with q | q
        · have := mem_tw (p := fun c => c == 48) q
          simp at this hn
          exact hn this
        · have := all c q
          simp at this hn
          exact hn this
      have : r < (d.drop lo).length := by
        rw [← hr]
        have h1 := (List.takeWhile_prefix (l := (d.drop lo).reverse) (fun c => c == 48)).length_le
        rw [List.length_reverse] at h1
        apply Classical.byContradiction
        intro q
        have e : (List.takeWhile (fun c => c == 48) (d.drop lo).reverse).length = (d.drop lo).reverse.length := by rw [List.length_reverse]; omega
        have e2 := (List.takeWhile_prefix (l := (d.drop lo).reverse) (fun c => c == 48)).eq_of_length e
        obtain ⟨x, hx, hn⟩ := nall
        have : x ∈ List.takeWhile (fun c => c == 48) (d.drop lo).reverse := by rw [e2]; simpa using hx
        exact hn (mem_tw (p := fun c => c == 48) this)
      rw [List.length_drop] at this
      omega
  by_cases same : (lo == 0 && d.length - r == d.length) = true
  · rw [if_pos same, S_len]
    rw [Bool.and_eq_true, beq_iff_eq, beq_iff_eq] at same
    rw [← main]
    omega
  · rw [if_neg same, sub]
    exact main
theorem strip_len (d : List Nat) : (Txt.stripChars (S d) (S [48])).length ≤ d.length := by
  have e := S_len d
  unfold Txt.stripChars Txt.stripBy
  split
  · rw [e]; exact Nat.le_refl _
  · unfold stripped Builtin.Str.strSub
    show (Array.extract _ _ _).size ≤ _
    rw [Array.size_extract]
    have : (S d).cps.size = d.length := e
    omega
theorem sym_len (R : List Nat) : (sym R).length ≤ 2 := by
  unfold sym
  have all : ∀ l ∈ symsL, l.length ≤ 2 := by decide
  cases h : symsL.find? fun s => decide (R.take s.length = s) with
  | none => exact Nat.zero_le _
  | some l => exact all l (List.mem_of_find?_eq_some h)
def tokP (R : List Nat) : String × List Nat := match R with
  | [] => ("", [])
  | c :: _ => if c ∈ smallL then (if (tw (smallL ++ digL) R).length ≤ 12 then "name" else "", tw (smallL ++ digL) R)
    else if c ∈ digL then (if (tw digL R).length ≤ 10 then "number" else "", tw digL R)
    else if c ∈ capL then (if tw capL R ∈ keysL then "key" else "", tw capL R)
    else if R.take 2 = [35, 45] then (if nz (tw digL (R.drop 2)) = true ∧ (tw digL (R.drop 2)).length ≤ 10 then "negative" else "", [35, 45] ++ tw digL (R.drop 2))
    else (if sym R = [] then "" else "symbol", sym R)
theorem lits : True := trivial
theorem token_ok (k : Nat) {L : List Nat} {at_ : Nat} {h : AH} (ha : at_ < L.length) (hz : big L) : callA T fs (k + 2) "token_at" [.str (S L), .int at_] h = .ok (.tup [.str (tokP (L.drop at_)).1, .str (S (tokP (L.drop at_)).2)]) h := by
  have hd : L.drop at_ = L[at_] :: L.drop (at_ + 1) := List.drop_eq_getElem_cons ha
  have hz2 : sizeLine = 16777216 := sizeLine_eq
  have zl : ∀ g (R : List Nat), R.length ≤ L.length → (tw g R).length ≤ sizeLine := fun g R hr => Nat.le_trans (tw_len g R) (Nat.le_trans hr hz.z)
  have r0 : ∀ (m : Nat) (g : List Nat) (h : AH), callA T fs (m + 1) "run_of" [.str (S L), .int at_, .str (S g)] h = .ok (.str (S (tw g (L.drop at_)))) h := fun m g h => run_of_ok m (Nat.le_of_lt ha) hz
  have dl : (L.drop at_).length ≤ L.length := by simp
  have dl2 : (L.drop (at_ + 2)).length ≤ L.length := by simp
  have n1 := zl (smallL ++ digL) _ dl
  have n2 := zl digL _ dl
  have n3 := zl capL _ dl
  have n4 := zl digL _ dl2
  rw [c_token_at]
  unfold s_token_at
  rw [tokP.eq_def]
  split
  · rename_i e
    rw [hd] at e
    cases e
  · rename_i c t e
    obtain rfl : L[at_] = c := by rw [hd] at e; injection e
    have c2 : (at_ : Int) + 2 = ((at_ + 2 : Nat) : Int) := by omega
    have tk : ∀ lo hi (s : Sl) (h : AH), slcA (.str (S L)) lo hi s h = .ok (.str (cutS (S L) lo hi)) h := fun lo hi s h => slc_S hz.z
    have r2 : ∀ (m : Nat) (g : List Nat) (h : AH), at_ + 2 ≤ L.length → callA T fs (m + 1) "run_of" [.str (S L), .int ((at_ + 2 : Nat) : Int), .str (S g)] h = .ok (.str (S (tw g (L.drop (at_ + 2))))) h := fun m g h q => run_of_ok m q hz
    have sy := symbol_ok k (L := L) (at_ := at_) (h := h) (Nat.le_of_lt ha) hz
    have ks : ∀ (s : Sl) (h : AH) (l : List Nat), inA (.str (S l)) (.tup [.str "KERNEL", .str "INT", .str "BUFFER", .str "SHARED", .str "LET", .str "ATOMIC", .str "IF", .str "ELSE", .str "WHILE", .str "BREAK", .str "CONTINUE", .str "RETURN", .str "BARRIER", .str "COLLECT", .str "PICK", .str "ADD", .str "MIN", .str "MAX", .str "REM", .str "AND", .str "OR", .str "XOR", .str "TID", .str "BID", .str "DIM", .str "GRID"]) s h = .ok (.bl (decide (l ∈ keysL))) h := fun s h l => by rw [l_keys]; exact in_sTab
    have dd : (L.drop at_).drop 2 = L.drop (at_ + 2) := by rw [List.drop_drop]
    have le36 : (S smallL).length + (S digL).length ≤ 16777216 := by rw [S_len, S_len]; decide
    by_cases c1 : L[at_] ∈ smallL
    · rw [if_pos c1]
      simp only [seqS_eq, bdS_eq, bd_eq, ifS_eq, thn_nx, thn_rt, thn_bk, thn_ct, thn_exc, thn_bad, thS_ok, thS_exc, thS_bad, thE_ok, thE_exc, thE_bad, thIf_ok, thIf_exc, thIf_bad, ret_eq, setS_eq, retS_eq, skipS_eq, alloc_eq, callM_eq, evs_nil, evs_cons, asBool_bl, tru_bl, tru_int, tru_non, tru_tup, runR_nx, runR_rt, runR_exc, runR_bad, runR_ite, thn_ite, thS_ite, thE_ite, ite_app2, ite_app2S, add_ii, sub_ii, mul_ii, fdiv_ii, mod_ii, pow_ii, shl_ii, shr_ii, band_ii, bor_ii, bxor_ii, neg_i, lt_ii, le_ii, gt_ii, ge_ii, eq_ii, eq_ss, eq_bb, ne_ii, ne_ss, ne_bb, isN_non, isN_int, isN_tup, isN_ref, isN_str, int_i, int_b, abs_i, max_ii, min_ii, slotM, idx_r, idx_t, idxO_lst, idxO_fro, atO_some, stIx_r, len_r, lenO_lst, lenO_fro, list_r, listO_lst, listO_fro, andT_one, andT_two, orT_one, orT_two, andV_one, andV_two, orV_one, orV_two, asg_eq, subG_eq, onlyNx_eq, nxo_nx, lst_eq, tup_eq, pat_nm, forS_eq, okS_nx, okS_rt, okS_bk, okS_ct, okS_exc, okE_oke, List.getElem?_cons_zero, List.getElem?_cons_succ, List.set_cons_zero, List.set_cons_succ, ofString_inj, decide_eq_true_eq, Bool.not_eq_true', decide_eq_false_iff_not, reduceIte, if_true, if_false, Int.reduceLT, Int.reduceLE, Int.reduceEq, Int.reduceNe, decide_true, decide_false, Bool.false_eq_true, String.reduceEq, Bool.not_true, Bool.not_false, idxO_dct, stIxO_dct, keyV_str, keyV_int, isKd_nil, isKd_cons, dLook_nil, dLook_cons, dct_eq, dctO_ok, prs_nil, prs_cons, get_new, set_new, dPut, dHas, List.any_cons, List.any_nil, List.all_cons, List.all_nil, List.foldl_cons, List.foldl_nil, List.map_cons, List.map_nil, List.cons_append, List.nil_append, Option.some.injEq, Sum.inr.injEq, Sum.inl.injEq, Option.isSome_some, Bool.or_false, Bool.false_or, Bool.or_true, Bool.true_or, Bool.and_true, Bool.true_and, Bool.and_self, List.length_cons, List.length_nil, sizeLine_eq, Nat.reduceAdd, Nat.reduceLeDiff, Nat.reduceLT, and_self, and_true, true_and, false_and, and_false, Bool.or_self, Bool.and_false, Bool.false_and, reduceCtorEq, memFlat_nil, memFlat_cons, eqFlat_ss, eqFlat_ii, flatA_str, flatA_int, cpow2, comp_eq, gs_nil, gs_cons, oI_int, chain_eq, all_new, any_new, meth_eq, mApp_append, appK_lst, appendA_r, appO_lst, aug_eq, ipAdd_ii, ipSub_ii, ipAdd_ss, len_t, itOf_str, isi_non, isi_bl, isi_int, isi_str, isi_tup, isiB, String.reduceBEq, Nat.reducePow, Int.reduceToNat, Int.reducePow, Int.reduceSub, Int.reduceNeg, Int.reduceAdd, Int.reduceMul, l_small, l_dig, idx_S ha hz.z, in_S, c1, add_ss, le36, S_app, r0, len_S n1]
      by_cases q : (tw (smallL ++ digL) (L.drop at_)).length ≤ 12
      · have q' : ((tw (smallL ++ digL) (L.drop at_)).length : Int) ≤ 12 := by omega
        simp only [seqS_eq, bdS_eq, bd_eq, ifS_eq, thn_nx, thn_rt, thn_bk, thn_ct, thn_exc, thn_bad, thS_ok, thS_exc, thS_bad, thE_ok, thE_exc, thE_bad, thIf_ok, thIf_exc, thIf_bad, ret_eq, setS_eq, retS_eq, skipS_eq, alloc_eq, callM_eq, evs_nil, evs_cons, asBool_bl, tru_bl, tru_int, tru_non, tru_tup, runR_nx, runR_rt, runR_exc, runR_bad, runR_ite, thn_ite, thS_ite, thE_ite, ite_app2, ite_app2S, add_ii, sub_ii, mul_ii, fdiv_ii, mod_ii, pow_ii, shl_ii, shr_ii, band_ii, bor_ii, bxor_ii, neg_i, lt_ii, le_ii, gt_ii, ge_ii, eq_ii, eq_ss, eq_bb, ne_ii, ne_ss, ne_bb, isN_non, isN_int, isN_tup, isN_ref, isN_str, int_i, int_b, abs_i, max_ii, min_ii, slotM, idx_r, idx_t, idxO_lst, idxO_fro, atO_some, stIx_r, len_r, lenO_lst, lenO_fro, list_r, listO_lst, listO_fro, andT_one, andT_two, orT_one, orT_two, andV_one, andV_two, orV_one, orV_two, asg_eq, subG_eq, onlyNx_eq, nxo_nx, lst_eq, tup_eq, pat_nm, forS_eq, okS_nx, okS_rt, okS_bk, okS_ct, okS_exc, okE_oke, List.getElem?_cons_zero, List.getElem?_cons_succ, List.set_cons_zero, List.set_cons_succ, ofString_inj, decide_eq_true_eq, Bool.not_eq_true', decide_eq_false_iff_not, reduceIte, if_true, if_false, Int.reduceLT, Int.reduceLE, Int.reduceEq, Int.reduceNe, decide_true, decide_false, Bool.false_eq_true, String.reduceEq, Bool.not_true, Bool.not_false, idxO_dct, stIxO_dct, keyV_str, keyV_int, isKd_nil, isKd_cons, dLook_nil, dLook_cons, dct_eq, dctO_ok, prs_nil, prs_cons, get_new, set_new, dPut, dHas, List.any_cons, List.any_nil, List.all_cons, List.all_nil, List.foldl_cons, List.foldl_nil, List.map_cons, List.map_nil, List.cons_append, List.nil_append, Option.some.injEq, Sum.inr.injEq, Sum.inl.injEq, Option.isSome_some, Bool.or_false, Bool.false_or, Bool.or_true, Bool.true_or, Bool.and_true, Bool.true_and, Bool.and_self, List.length_cons, List.length_nil, sizeLine_eq, Nat.reduceAdd, Nat.reduceLeDiff, Nat.reduceLT, and_self, and_true, true_and, false_and, and_false, Bool.or_self, Bool.and_false, Bool.false_and, reduceCtorEq, in_tup, memFlat_nil, memFlat_cons, eqFlat_ss, eqFlat_ii, flatA_str, flatA_int, cpow2, comp_eq, gs_nil, gs_cons, oI_int, chain_eq, all_new, any_new, meth_eq, mApp_append, appK_lst, appendA_r, appO_lst, aug_eq, ipAdd_ii, ipSub_ii, ipAdd_ss, len_t, itOf_str, isi_non, isi_bl, isi_int, isi_str, isi_tup, isiB, String.reduceBEq, Nat.reducePow, Int.reduceToNat, Int.reducePow, Int.reduceSub, Int.reduceNeg, Int.reduceAdd, Int.reduceMul, q, q']
      · have q' : ¬ ((tw (smallL ++ digL) (L.drop at_)).length : Int) ≤ 12 := by omega
        simp only [seqS_eq, bdS_eq, bd_eq, ifS_eq, thn_nx, thn_rt, thn_bk, thn_ct, thn_exc, thn_bad, thS_ok, thS_exc, thS_bad, thE_ok, thE_exc, thE_bad, thIf_ok, thIf_exc, thIf_bad, ret_eq, setS_eq, retS_eq, skipS_eq, alloc_eq, callM_eq, evs_nil, evs_cons, asBool_bl, tru_bl, tru_int, tru_non, tru_tup, runR_nx, runR_rt, runR_exc, runR_bad, runR_ite, thn_ite, thS_ite, thE_ite, ite_app2, ite_app2S, add_ii, sub_ii, mul_ii, fdiv_ii, mod_ii, pow_ii, shl_ii, shr_ii, band_ii, bor_ii, bxor_ii, neg_i, lt_ii, le_ii, gt_ii, ge_ii, eq_ii, eq_ss, eq_bb, ne_ii, ne_ss, ne_bb, isN_non, isN_int, isN_tup, isN_ref, isN_str, int_i, int_b, abs_i, max_ii, min_ii, slotM, idx_r, idx_t, idxO_lst, idxO_fro, atO_some, stIx_r, len_r, lenO_lst, lenO_fro, list_r, listO_lst, listO_fro, andT_one, andT_two, orT_one, orT_two, andV_one, andV_two, orV_one, orV_two, asg_eq, subG_eq, onlyNx_eq, nxo_nx, lst_eq, tup_eq, pat_nm, forS_eq, okS_nx, okS_rt, okS_bk, okS_ct, okS_exc, okE_oke, List.getElem?_cons_zero, List.getElem?_cons_succ, List.set_cons_zero, List.set_cons_succ, ofString_inj, decide_eq_true_eq, Bool.not_eq_true', decide_eq_false_iff_not, reduceIte, if_true, if_false, Int.reduceLT, Int.reduceLE, Int.reduceEq, Int.reduceNe, decide_true, decide_false, Bool.false_eq_true, String.reduceEq, Bool.not_true, Bool.not_false, idxO_dct, stIxO_dct, keyV_str, keyV_int, isKd_nil, isKd_cons, dLook_nil, dLook_cons, dct_eq, dctO_ok, prs_nil, prs_cons, get_new, set_new, dPut, dHas, List.any_cons, List.any_nil, List.all_cons, List.all_nil, List.foldl_cons, List.foldl_nil, List.map_cons, List.map_nil, List.cons_append, List.nil_append, Option.some.injEq, Sum.inr.injEq, Sum.inl.injEq, Option.isSome_some, Bool.or_false, Bool.false_or, Bool.or_true, Bool.true_or, Bool.and_true, Bool.true_and, Bool.and_self, List.length_cons, List.length_nil, sizeLine_eq, Nat.reduceAdd, Nat.reduceLeDiff, Nat.reduceLT, and_self, and_true, true_and, false_and, and_false, Bool.or_self, Bool.and_false, Bool.false_and, reduceCtorEq, in_tup, memFlat_nil, memFlat_cons, eqFlat_ss, eqFlat_ii, flatA_str, flatA_int, cpow2, comp_eq, gs_nil, gs_cons, oI_int, chain_eq, all_new, any_new, meth_eq, mApp_append, appK_lst, appendA_r, appO_lst, aug_eq, ipAdd_ii, ipSub_ii, ipAdd_ss, len_t, itOf_str, isi_non, isi_bl, isi_int, isi_str, isi_tup, isiB, String.reduceBEq, Nat.reducePow, Int.reduceToNat, Int.reducePow, Int.reduceSub, Int.reduceNeg, Int.reduceAdd, Int.reduceMul, q, q']
    · rw [if_neg c1]
      by_cases d1 : L[at_] ∈ digL
      · rw [if_pos d1]
        simp only [seqS_eq, bdS_eq, bd_eq, ifS_eq, thn_nx, thn_rt, thn_bk, thn_ct, thn_exc, thn_bad, thS_ok, thS_exc, thS_bad, thE_ok, thE_exc, thE_bad, thIf_ok, thIf_exc, thIf_bad, ret_eq, setS_eq, retS_eq, skipS_eq, alloc_eq, callM_eq, evs_nil, evs_cons, asBool_bl, tru_bl, tru_int, tru_non, tru_tup, runR_nx, runR_rt, runR_exc, runR_bad, runR_ite, thn_ite, thS_ite, thE_ite, ite_app2, ite_app2S, add_ii, sub_ii, mul_ii, fdiv_ii, mod_ii, pow_ii, shl_ii, shr_ii, band_ii, bor_ii, bxor_ii, neg_i, lt_ii, le_ii, gt_ii, ge_ii, eq_ii, eq_ss, eq_bb, ne_ii, ne_ss, ne_bb, isN_non, isN_int, isN_tup, isN_ref, isN_str, int_i, int_b, abs_i, max_ii, min_ii, slotM, idx_r, idx_t, idxO_lst, idxO_fro, atO_some, stIx_r, len_r, lenO_lst, lenO_fro, list_r, listO_lst, listO_fro, andT_one, andT_two, orT_one, orT_two, andV_one, andV_two, orV_one, orV_two, asg_eq, subG_eq, onlyNx_eq, nxo_nx, lst_eq, tup_eq, pat_nm, forS_eq, okS_nx, okS_rt, okS_bk, okS_ct, okS_exc, okE_oke, List.getElem?_cons_zero, List.getElem?_cons_succ, List.set_cons_zero, List.set_cons_succ, ofString_inj, decide_eq_true_eq, Bool.not_eq_true', decide_eq_false_iff_not, reduceIte, if_true, if_false, Int.reduceLT, Int.reduceLE, Int.reduceEq, Int.reduceNe, decide_true, decide_false, Bool.false_eq_true, String.reduceEq, Bool.not_true, Bool.not_false, idxO_dct, stIxO_dct, keyV_str, keyV_int, isKd_nil, isKd_cons, dLook_nil, dLook_cons, dct_eq, dctO_ok, prs_nil, prs_cons, get_new, set_new, dPut, dHas, List.any_cons, List.any_nil, List.all_cons, List.all_nil, List.foldl_cons, List.foldl_nil, List.map_cons, List.map_nil, List.cons_append, List.nil_append, Option.some.injEq, Sum.inr.injEq, Sum.inl.injEq, Option.isSome_some, Bool.or_false, Bool.false_or, Bool.or_true, Bool.true_or, Bool.and_true, Bool.true_and, Bool.and_self, List.length_cons, List.length_nil, sizeLine_eq, Nat.reduceAdd, Nat.reduceLeDiff, Nat.reduceLT, and_self, and_true, true_and, false_and, and_false, Bool.or_self, Bool.and_false, Bool.false_and, reduceCtorEq, memFlat_nil, memFlat_cons, eqFlat_ss, eqFlat_ii, flatA_str, flatA_int, cpow2, comp_eq, gs_nil, gs_cons, oI_int, chain_eq, all_new, any_new, meth_eq, mApp_append, appK_lst, appendA_r, appO_lst, aug_eq, ipAdd_ii, ipSub_ii, ipAdd_ss, len_t, itOf_str, isi_non, isi_bl, isi_int, isi_str, isi_tup, isiB, String.reduceBEq, Nat.reducePow, Int.reduceToNat, Int.reducePow, Int.reduceSub, Int.reduceNeg, Int.reduceAdd, Int.reduceMul, l_small, l_dig, idx_S ha hz.z, in_S, c1, d1, add_ss, le36, S_app, r0, len_S n2]
        by_cases q : (tw digL (L.drop at_)).length ≤ 10
        · have q' : ((tw digL (L.drop at_)).length : Int) ≤ 10 := by omega
          simp only [seqS_eq, bdS_eq, bd_eq, ifS_eq, thn_nx, thn_rt, thn_bk, thn_ct, thn_exc, thn_bad, thS_ok, thS_exc, thS_bad, thE_ok, thE_exc, thE_bad, thIf_ok, thIf_exc, thIf_bad, ret_eq, setS_eq, retS_eq, skipS_eq, alloc_eq, callM_eq, evs_nil, evs_cons, asBool_bl, tru_bl, tru_int, tru_non, tru_tup, runR_nx, runR_rt, runR_exc, runR_bad, runR_ite, thn_ite, thS_ite, thE_ite, ite_app2, ite_app2S, add_ii, sub_ii, mul_ii, fdiv_ii, mod_ii, pow_ii, shl_ii, shr_ii, band_ii, bor_ii, bxor_ii, neg_i, lt_ii, le_ii, gt_ii, ge_ii, eq_ii, eq_ss, eq_bb, ne_ii, ne_ss, ne_bb, isN_non, isN_int, isN_tup, isN_ref, isN_str, int_i, int_b, abs_i, max_ii, min_ii, slotM, idx_r, idx_t, idxO_lst, idxO_fro, atO_some, stIx_r, len_r, lenO_lst, lenO_fro, list_r, listO_lst, listO_fro, andT_one, andT_two, orT_one, orT_two, andV_one, andV_two, orV_one, orV_two, asg_eq, subG_eq, onlyNx_eq, nxo_nx, lst_eq, tup_eq, pat_nm, forS_eq, okS_nx, okS_rt, okS_bk, okS_ct, okS_exc, okE_oke, List.getElem?_cons_zero, List.getElem?_cons_succ, List.set_cons_zero, List.set_cons_succ, ofString_inj, decide_eq_true_eq, Bool.not_eq_true', decide_eq_false_iff_not, reduceIte, if_true, if_false, Int.reduceLT, Int.reduceLE, Int.reduceEq, Int.reduceNe, decide_true, decide_false, Bool.false_eq_true, String.reduceEq, Bool.not_true, Bool.not_false, idxO_dct, stIxO_dct, keyV_str, keyV_int, isKd_nil, isKd_cons, dLook_nil, dLook_cons, dct_eq, dctO_ok, prs_nil, prs_cons, get_new, set_new, dPut, dHas, List.any_cons, List.any_nil, List.all_cons, List.all_nil, List.foldl_cons, List.foldl_nil, List.map_cons, List.map_nil, List.cons_append, List.nil_append, Option.some.injEq, Sum.inr.injEq, Sum.inl.injEq, Option.isSome_some, Bool.or_false, Bool.false_or, Bool.or_true, Bool.true_or, Bool.and_true, Bool.true_and, Bool.and_self, List.length_cons, List.length_nil, sizeLine_eq, Nat.reduceAdd, Nat.reduceLeDiff, Nat.reduceLT, and_self, and_true, true_and, false_and, and_false, Bool.or_self, Bool.and_false, Bool.false_and, reduceCtorEq, in_tup, memFlat_nil, memFlat_cons, eqFlat_ss, eqFlat_ii, flatA_str, flatA_int, cpow2, comp_eq, gs_nil, gs_cons, oI_int, chain_eq, all_new, any_new, meth_eq, mApp_append, appK_lst, appendA_r, appO_lst, aug_eq, ipAdd_ii, ipSub_ii, ipAdd_ss, len_t, itOf_str, isi_non, isi_bl, isi_int, isi_str, isi_tup, isiB, String.reduceBEq, Nat.reducePow, Int.reduceToNat, Int.reducePow, Int.reduceSub, Int.reduceNeg, Int.reduceAdd, Int.reduceMul, q, q']
        · have q' : ¬ ((tw digL (L.drop at_)).length : Int) ≤ 10 := by omega
          simp only [seqS_eq, bdS_eq, bd_eq, ifS_eq, thn_nx, thn_rt, thn_bk, thn_ct, thn_exc, thn_bad, thS_ok, thS_exc, thS_bad, thE_ok, thE_exc, thE_bad, thIf_ok, thIf_exc, thIf_bad, ret_eq, setS_eq, retS_eq, skipS_eq, alloc_eq, callM_eq, evs_nil, evs_cons, asBool_bl, tru_bl, tru_int, tru_non, tru_tup, runR_nx, runR_rt, runR_exc, runR_bad, runR_ite, thn_ite, thS_ite, thE_ite, ite_app2, ite_app2S, add_ii, sub_ii, mul_ii, fdiv_ii, mod_ii, pow_ii, shl_ii, shr_ii, band_ii, bor_ii, bxor_ii, neg_i, lt_ii, le_ii, gt_ii, ge_ii, eq_ii, eq_ss, eq_bb, ne_ii, ne_ss, ne_bb, isN_non, isN_int, isN_tup, isN_ref, isN_str, int_i, int_b, abs_i, max_ii, min_ii, slotM, idx_r, idx_t, idxO_lst, idxO_fro, atO_some, stIx_r, len_r, lenO_lst, lenO_fro, list_r, listO_lst, listO_fro, andT_one, andT_two, orT_one, orT_two, andV_one, andV_two, orV_one, orV_two, asg_eq, subG_eq, onlyNx_eq, nxo_nx, lst_eq, tup_eq, pat_nm, forS_eq, okS_nx, okS_rt, okS_bk, okS_ct, okS_exc, okE_oke, List.getElem?_cons_zero, List.getElem?_cons_succ, List.set_cons_zero, List.set_cons_succ, ofString_inj, decide_eq_true_eq, Bool.not_eq_true', decide_eq_false_iff_not, reduceIte, if_true, if_false, Int.reduceLT, Int.reduceLE, Int.reduceEq, Int.reduceNe, decide_true, decide_false, Bool.false_eq_true, String.reduceEq, Bool.not_true, Bool.not_false, idxO_dct, stIxO_dct, keyV_str, keyV_int, isKd_nil, isKd_cons, dLook_nil, dLook_cons, dct_eq, dctO_ok, prs_nil, prs_cons, get_new, set_new, dPut, dHas, List.any_cons, List.any_nil, List.all_cons, List.all_nil, List.foldl_cons, List.foldl_nil, List.map_cons, List.map_nil, List.cons_append, List.nil_append, Option.some.injEq, Sum.inr.injEq, Sum.inl.injEq, Option.isSome_some, Bool.or_false, Bool.false_or, Bool.or_true, Bool.true_or, Bool.and_true, Bool.true_and, Bool.and_self, List.length_cons, List.length_nil, sizeLine_eq, Nat.reduceAdd, Nat.reduceLeDiff, Nat.reduceLT, and_self, and_true, true_and, false_and, and_false, Bool.or_self, Bool.and_false, Bool.false_and, reduceCtorEq, in_tup, memFlat_nil, memFlat_cons, eqFlat_ss, eqFlat_ii, flatA_str, flatA_int, cpow2, comp_eq, gs_nil, gs_cons, oI_int, chain_eq, all_new, any_new, meth_eq, mApp_append, appK_lst, appendA_r, appO_lst, aug_eq, ipAdd_ii, ipSub_ii, ipAdd_ss, len_t, itOf_str, isi_non, isi_bl, isi_int, isi_str, isi_tup, isiB, String.reduceBEq, Nat.reducePow, Int.reduceToNat, Int.reducePow, Int.reduceSub, Int.reduceNeg, Int.reduceAdd, Int.reduceMul, q, q']
      · rw [if_neg d1]
        by_cases e1 : L[at_] ∈ capL
        · rw [if_pos e1]
          simp only [seqS_eq, bdS_eq, bd_eq, ifS_eq, thn_nx, thn_rt, thn_bk, thn_ct, thn_exc, thn_bad, thS_ok, thS_exc, thS_bad, thE_ok, thE_exc, thE_bad, thIf_ok, thIf_exc, thIf_bad, ret_eq, setS_eq, retS_eq, skipS_eq, alloc_eq, callM_eq, evs_nil, evs_cons, asBool_bl, tru_bl, tru_int, tru_non, tru_tup, runR_nx, runR_rt, runR_exc, runR_bad, runR_ite, thn_ite, thS_ite, thE_ite, ite_app2, ite_app2S, add_ii, sub_ii, mul_ii, fdiv_ii, mod_ii, pow_ii, shl_ii, shr_ii, band_ii, bor_ii, bxor_ii, neg_i, lt_ii, le_ii, gt_ii, ge_ii, eq_ii, eq_ss, eq_bb, ne_ii, ne_ss, ne_bb, isN_non, isN_int, isN_tup, isN_ref, isN_str, int_i, int_b, abs_i, max_ii, min_ii, slotM, idx_r, idx_t, idxO_lst, idxO_fro, atO_some, stIx_r, len_r, lenO_lst, lenO_fro, list_r, listO_lst, listO_fro, andT_one, andT_two, orT_one, orT_two, andV_one, andV_two, orV_one, orV_two, asg_eq, subG_eq, onlyNx_eq, nxo_nx, lst_eq, tup_eq, pat_nm, forS_eq, okS_nx, okS_rt, okS_bk, okS_ct, okS_exc, okE_oke, List.getElem?_cons_zero, List.getElem?_cons_succ, List.set_cons_zero, List.set_cons_succ, ofString_inj, decide_eq_true_eq, Bool.not_eq_true', decide_eq_false_iff_not, reduceIte, if_true, if_false, Int.reduceLT, Int.reduceLE, Int.reduceEq, Int.reduceNe, decide_true, decide_false, Bool.false_eq_true, String.reduceEq, Bool.not_true, Bool.not_false, idxO_dct, stIxO_dct, keyV_str, keyV_int, isKd_nil, isKd_cons, dLook_nil, dLook_cons, dct_eq, dctO_ok, prs_nil, prs_cons, get_new, set_new, dPut, dHas, List.any_cons, List.any_nil, List.all_cons, List.all_nil, List.foldl_cons, List.foldl_nil, List.map_cons, List.map_nil, List.cons_append, List.nil_append, Option.some.injEq, Sum.inr.injEq, Sum.inl.injEq, Option.isSome_some, Bool.or_false, Bool.false_or, Bool.or_true, Bool.true_or, Bool.and_true, Bool.true_and, Bool.and_self, List.length_cons, List.length_nil, sizeLine_eq, Nat.reduceAdd, Nat.reduceLeDiff, Nat.reduceLT, and_self, and_true, true_and, false_and, and_false, Bool.or_self, Bool.and_false, Bool.false_and, reduceCtorEq, memFlat_nil, memFlat_cons, eqFlat_ss, eqFlat_ii, flatA_str, flatA_int, cpow2, comp_eq, gs_nil, gs_cons, oI_int, chain_eq, all_new, any_new, meth_eq, mApp_append, appK_lst, appendA_r, appO_lst, aug_eq, ipAdd_ii, ipSub_ii, ipAdd_ss, len_t, itOf_str, isi_non, isi_bl, isi_int, isi_str, isi_tup, isiB, String.reduceBEq, Nat.reducePow, Int.reduceToNat, Int.reducePow, Int.reduceSub, Int.reduceNeg, Int.reduceAdd, Int.reduceMul, l_small, l_dig, l_cap, idx_S ha hz.z, in_S, c1, d1, e1, r0, ks]
          by_cases q : tw capL (L.drop at_) ∈ keysL
          · simp only [seqS_eq, bdS_eq, bd_eq, ifS_eq, thn_nx, thn_rt, thn_bk, thn_ct, thn_exc, thn_bad, thS_ok, thS_exc, thS_bad, thE_ok, thE_exc, thE_bad, thIf_ok, thIf_exc, thIf_bad, ret_eq, setS_eq, retS_eq, skipS_eq, alloc_eq, callM_eq, evs_nil, evs_cons, asBool_bl, tru_bl, tru_int, tru_non, tru_tup, runR_nx, runR_rt, runR_exc, runR_bad, runR_ite, thn_ite, thS_ite, thE_ite, ite_app2, ite_app2S, add_ii, sub_ii, mul_ii, fdiv_ii, mod_ii, pow_ii, shl_ii, shr_ii, band_ii, bor_ii, bxor_ii, neg_i, lt_ii, le_ii, gt_ii, ge_ii, eq_ii, eq_ss, eq_bb, ne_ii, ne_ss, ne_bb, isN_non, isN_int, isN_tup, isN_ref, isN_str, int_i, int_b, abs_i, max_ii, min_ii, slotM, idx_r, idx_t, idxO_lst, idxO_fro, atO_some, stIx_r, len_r, lenO_lst, lenO_fro, list_r, listO_lst, listO_fro, andT_one, andT_two, orT_one, orT_two, andV_one, andV_two, orV_one, orV_two, asg_eq, subG_eq, onlyNx_eq, nxo_nx, lst_eq, tup_eq, pat_nm, forS_eq, okS_nx, okS_rt, okS_bk, okS_ct, okS_exc, okE_oke, List.getElem?_cons_zero, List.getElem?_cons_succ, List.set_cons_zero, List.set_cons_succ, ofString_inj, decide_eq_true_eq, Bool.not_eq_true', decide_eq_false_iff_not, reduceIte, if_true, if_false, Int.reduceLT, Int.reduceLE, Int.reduceEq, Int.reduceNe, decide_true, decide_false, Bool.false_eq_true, String.reduceEq, Bool.not_true, Bool.not_false, idxO_dct, stIxO_dct, keyV_str, keyV_int, isKd_nil, isKd_cons, dLook_nil, dLook_cons, dct_eq, dctO_ok, prs_nil, prs_cons, get_new, set_new, dPut, dHas, List.any_cons, List.any_nil, List.all_cons, List.all_nil, List.foldl_cons, List.foldl_nil, List.map_cons, List.map_nil, List.cons_append, List.nil_append, Option.some.injEq, Sum.inr.injEq, Sum.inl.injEq, Option.isSome_some, Bool.or_false, Bool.false_or, Bool.or_true, Bool.true_or, Bool.and_true, Bool.true_and, Bool.and_self, List.length_cons, List.length_nil, sizeLine_eq, Nat.reduceAdd, Nat.reduceLeDiff, Nat.reduceLT, and_self, and_true, true_and, false_and, and_false, Bool.or_self, Bool.and_false, Bool.false_and, reduceCtorEq, in_tup, memFlat_nil, memFlat_cons, eqFlat_ss, eqFlat_ii, flatA_str, flatA_int, cpow2, comp_eq, gs_nil, gs_cons, oI_int, chain_eq, all_new, any_new, meth_eq, mApp_append, appK_lst, appendA_r, appO_lst, aug_eq, ipAdd_ii, ipSub_ii, ipAdd_ss, len_t, itOf_str, isi_non, isi_bl, isi_int, isi_str, isi_tup, isiB, String.reduceBEq, Nat.reducePow, Int.reduceToNat, Int.reducePow, Int.reduceSub, Int.reduceNeg, Int.reduceAdd, Int.reduceMul, q]
          · simp only [seqS_eq, bdS_eq, bd_eq, ifS_eq, thn_nx, thn_rt, thn_bk, thn_ct, thn_exc, thn_bad, thS_ok, thS_exc, thS_bad, thE_ok, thE_exc, thE_bad, thIf_ok, thIf_exc, thIf_bad, ret_eq, setS_eq, retS_eq, skipS_eq, alloc_eq, callM_eq, evs_nil, evs_cons, asBool_bl, tru_bl, tru_int, tru_non, tru_tup, runR_nx, runR_rt, runR_exc, runR_bad, runR_ite, thn_ite, thS_ite, thE_ite, ite_app2, ite_app2S, add_ii, sub_ii, mul_ii, fdiv_ii, mod_ii, pow_ii, shl_ii, shr_ii, band_ii, bor_ii, bxor_ii, neg_i, lt_ii, le_ii, gt_ii, ge_ii, eq_ii, eq_ss, eq_bb, ne_ii, ne_ss, ne_bb, isN_non, isN_int, isN_tup, isN_ref, isN_str, int_i, int_b, abs_i, max_ii, min_ii, slotM, idx_r, idx_t, idxO_lst, idxO_fro, atO_some, stIx_r, len_r, lenO_lst, lenO_fro, list_r, listO_lst, listO_fro, andT_one, andT_two, orT_one, orT_two, andV_one, andV_two, orV_one, orV_two, asg_eq, subG_eq, onlyNx_eq, nxo_nx, lst_eq, tup_eq, pat_nm, forS_eq, okS_nx, okS_rt, okS_bk, okS_ct, okS_exc, okE_oke, List.getElem?_cons_zero, List.getElem?_cons_succ, List.set_cons_zero, List.set_cons_succ, ofString_inj, decide_eq_true_eq, Bool.not_eq_true', decide_eq_false_iff_not, reduceIte, if_true, if_false, Int.reduceLT, Int.reduceLE, Int.reduceEq, Int.reduceNe, decide_true, decide_false, Bool.false_eq_true, String.reduceEq, Bool.not_true, Bool.not_false, idxO_dct, stIxO_dct, keyV_str, keyV_int, isKd_nil, isKd_cons, dLook_nil, dLook_cons, dct_eq, dctO_ok, prs_nil, prs_cons, get_new, set_new, dPut, dHas, List.any_cons, List.any_nil, List.all_cons, List.all_nil, List.foldl_cons, List.foldl_nil, List.map_cons, List.map_nil, List.cons_append, List.nil_append, Option.some.injEq, Sum.inr.injEq, Sum.inl.injEq, Option.isSome_some, Bool.or_false, Bool.false_or, Bool.or_true, Bool.true_or, Bool.and_true, Bool.true_and, Bool.and_self, List.length_cons, List.length_nil, sizeLine_eq, Nat.reduceAdd, Nat.reduceLeDiff, Nat.reduceLT, and_self, and_true, true_and, false_and, and_false, Bool.or_self, Bool.and_false, Bool.false_and, reduceCtorEq, in_tup, memFlat_nil, memFlat_cons, eqFlat_ss, eqFlat_ii, flatA_str, flatA_int, cpow2, comp_eq, gs_nil, gs_cons, oI_int, chain_eq, all_new, any_new, meth_eq, mApp_append, appK_lst, appendA_r, appO_lst, aug_eq, ipAdd_ii, ipSub_ii, ipAdd_ss, len_t, itOf_str, isi_non, isi_bl, isi_int, isi_str, isi_tup, isiB, String.reduceBEq, Nat.reducePow, Int.reduceToNat, Int.reducePow, Int.reduceSub, Int.reduceNeg, Int.reduceAdd, Int.reduceMul, q]
        · rw [if_neg e1]
          by_cases f1 : (L.drop at_).take 2 = [35, 45]
          · rw [if_pos f1]
            have l2 : at_ + 2 ≤ L.length := by
              have := congrArg List.length f1
              simp at this
              omega
            have hm2 : (S [35, 45]).length + (S (tw digL (L.drop (at_ + 2)))).length ≤ 16777216 := by
              rw [S_len, S_len]
              have := tw_len digL (L.drop (at_ + 2))
              have := hz
              unfold big at this
              have := List.length_drop (i := at_ + 2) (l := L)
              show 2 + _ ≤ _
              omega
            have n4' : (S (tw digL (L.drop (at_ + 2)))).length ≤ 16777216 := by rw [S_len, ← sizeLine_eq]; exact n4
            simp only [seqS_eq, bdS_eq, bd_eq, ifS_eq, thn_nx, thn_rt, thn_bk, thn_ct, thn_exc, thn_bad, thS_ok, thS_exc, thS_bad, thE_ok, thE_exc, thE_bad, thIf_ok, thIf_exc, thIf_bad, ret_eq, setS_eq, retS_eq, skipS_eq, alloc_eq, callM_eq, evs_nil, evs_cons, asBool_bl, tru_bl, tru_int, tru_non, tru_tup, runR_nx, runR_rt, runR_exc, runR_bad, runR_ite, thn_ite, thS_ite, thE_ite, ite_app2, ite_app2S, add_ii, sub_ii, mul_ii, fdiv_ii, mod_ii, pow_ii, shl_ii, shr_ii, band_ii, bor_ii, bxor_ii, neg_i, lt_ii, le_ii, gt_ii, ge_ii, eq_ii, eq_ss, eq_bb, ne_ii, ne_ss, ne_bb, isN_non, isN_int, isN_tup, isN_ref, isN_str, int_i, int_b, abs_i, max_ii, min_ii, slotM, idx_r, idx_t, idxO_lst, idxO_fro, atO_some, stIx_r, len_r, lenO_lst, lenO_fro, list_r, listO_lst, listO_fro, andT_one, andT_two, orT_one, orT_two, andV_one, andV_two, orV_one, orV_two, asg_eq, subG_eq, onlyNx_eq, nxo_nx, lst_eq, tup_eq, pat_nm, forS_eq, okS_nx, okS_rt, okS_bk, okS_ct, okS_exc, okE_oke, List.getElem?_cons_zero, List.getElem?_cons_succ, List.set_cons_zero, List.set_cons_succ, ofString_inj, decide_eq_true_eq, Bool.not_eq_true', decide_eq_false_iff_not, reduceIte, if_true, if_false, Int.reduceLT, Int.reduceLE, Int.reduceEq, Int.reduceNe, decide_true, decide_false, Bool.false_eq_true, String.reduceEq, Bool.not_true, Bool.not_false, idxO_dct, stIxO_dct, keyV_str, keyV_int, isKd_nil, isKd_cons, dLook_nil, dLook_cons, dct_eq, dctO_ok, prs_nil, prs_cons, get_new, set_new, dPut, dHas, List.any_cons, List.any_nil, List.all_cons, List.all_nil, List.foldl_cons, List.foldl_nil, List.map_cons, List.map_nil, List.cons_append, List.nil_append, Option.some.injEq, Sum.inr.injEq, Sum.inl.injEq, Option.isSome_some, Bool.or_false, Bool.false_or, Bool.or_true, Bool.true_or, Bool.and_true, Bool.true_and, Bool.and_self, List.length_cons, List.length_nil, sizeLine_eq, Nat.reduceAdd, Nat.reduceLeDiff, Nat.reduceLT, and_self, and_true, true_and, false_and, and_false, Bool.or_self, Bool.and_false, Bool.false_and, reduceCtorEq, memFlat_nil, memFlat_cons, eqFlat_ss, eqFlat_ii, flatA_str, flatA_int, cpow2, comp_eq, gs_nil, gs_cons, oI_int, chain_eq, all_new, any_new, meth_eq, mApp_append, appK_lst, appendA_r, appO_lst, aug_eq, ipAdd_ii, ipSub_ii, ipAdd_ss, len_t, itOf_str, isi_non, isi_bl, isi_int, isi_str, isi_tup, isiB, String.reduceBEq, Nat.reducePow, Int.reduceToNat, Int.reducePow, Int.reduceSub, Int.reduceNeg, Int.reduceAdd, Int.reduceMul, l_small, l_dig, l_cap, l_hm, l_0, idx_S ha hz.z, in_S, c1, d1, e1, tk, c2, cut_take (Nat.le_of_lt ha), Nat.add_sub_cancel_left, f1, r2 _ _ _ l2, mApp_strip, stripA_ss, n4', len_S n4, dd]
            have ts : ∀ (s : Sl) (h : AH), truA (.str (Txt.stripChars (S (tw digL (L.drop (at_ + 2)))) (S [48]))) s h = .ok (nz (tw digL (L.drop (at_ + 2)))) h := fun s h => by
              have l1 := strip_len (tw digL (L.drop (at_ + 2)))
              rw [tru_s, if_pos (Nat.le_trans l1 n4)]
              have := strip_nz (tw digL (L.drop (at_ + 2)))
              congr 1
              rw [Bool.eq_iff_iff, ← this]
              simp
            by_cases q1 : nz (tw digL (L.drop (at_ + 2))) = true
            · by_cases q : (tw digL (L.drop (at_ + 2))).length ≤ 10
              · have q' : ((tw digL (L.drop (at_ + 2))).length : Int) ≤ 10 := by omega
                simp only [seqS_eq, bdS_eq, bd_eq, ifS_eq, thn_nx, thn_rt, thn_bk, thn_ct, thn_exc, thn_bad, thS_ok, thS_exc, thS_bad, thE_ok, thE_exc, thE_bad, thIf_ok, thIf_exc, thIf_bad, ret_eq, setS_eq, retS_eq, skipS_eq, alloc_eq, callM_eq, evs_nil, evs_cons, asBool_bl, tru_bl, tru_int, tru_non, tru_tup, runR_nx, runR_rt, runR_exc, runR_bad, runR_ite, thn_ite, thS_ite, thE_ite, ite_app2, ite_app2S, add_ii, sub_ii, mul_ii, fdiv_ii, mod_ii, pow_ii, shl_ii, shr_ii, band_ii, bor_ii, bxor_ii, neg_i, lt_ii, le_ii, gt_ii, ge_ii, eq_ii, eq_ss, eq_bb, ne_ii, ne_ss, ne_bb, isN_non, isN_int, isN_tup, isN_ref, isN_str, int_i, int_b, abs_i, max_ii, min_ii, slotM, idx_r, idx_t, idxO_lst, idxO_fro, atO_some, stIx_r, len_r, lenO_lst, lenO_fro, list_r, listO_lst, listO_fro, andT_one, andT_two, orT_one, orT_two, andV_one, andV_two, orV_one, orV_two, asg_eq, subG_eq, onlyNx_eq, nxo_nx, lst_eq, tup_eq, pat_nm, forS_eq, okS_nx, okS_rt, okS_bk, okS_ct, okS_exc, okE_oke, List.getElem?_cons_zero, List.getElem?_cons_succ, List.set_cons_zero, List.set_cons_succ, ofString_inj, decide_eq_true_eq, Bool.not_eq_true', decide_eq_false_iff_not, reduceIte, if_true, if_false, Int.reduceLT, Int.reduceLE, Int.reduceEq, Int.reduceNe, decide_true, decide_false, Bool.false_eq_true, String.reduceEq, Bool.not_true, Bool.not_false, idxO_dct, stIxO_dct, keyV_str, keyV_int, isKd_nil, isKd_cons, dLook_nil, dLook_cons, dct_eq, dctO_ok, prs_nil, prs_cons, get_new, set_new, dPut, dHas, List.any_cons, List.any_nil, List.all_cons, List.all_nil, List.foldl_cons, List.foldl_nil, List.map_cons, List.map_nil, List.cons_append, List.nil_append, Option.some.injEq, Sum.inr.injEq, Sum.inl.injEq, Option.isSome_some, Bool.or_false, Bool.false_or, Bool.or_true, Bool.true_or, Bool.and_true, Bool.true_and, Bool.and_self, List.length_cons, List.length_nil, sizeLine_eq, Nat.reduceAdd, Nat.reduceLeDiff, Nat.reduceLT, and_self, and_true, true_and, false_and, and_false, Bool.or_self, Bool.and_false, Bool.false_and, reduceCtorEq, in_tup, memFlat_nil, memFlat_cons, eqFlat_ss, eqFlat_ii, flatA_str, flatA_int, cpow2, comp_eq, gs_nil, gs_cons, oI_int, chain_eq, all_new, any_new, meth_eq, mApp_append, appK_lst, appendA_r, appO_lst, aug_eq, ipAdd_ii, ipSub_ii, ipAdd_ss, len_t, itOf_str, isi_non, isi_bl, isi_int, isi_str, isi_tup, isiB, String.reduceBEq, Nat.reducePow, Int.reduceToNat, Int.reducePow, Int.reduceSub, Int.reduceNeg, Int.reduceAdd, Int.reduceMul, ts, q1, q, q', len_S n4, add_ss, hm2, S_app]
              · have q' : ¬ ((tw digL (L.drop (at_ + 2))).length : Int) ≤ 10 := by omega
                simp only [seqS_eq, bdS_eq, bd_eq, ifS_eq, thn_nx, thn_rt, thn_bk, thn_ct, thn_exc, thn_bad, thS_ok, thS_exc, thS_bad, thE_ok, thE_exc, thE_bad, thIf_ok, thIf_exc, thIf_bad, ret_eq, setS_eq, retS_eq, skipS_eq, alloc_eq, callM_eq, evs_nil, evs_cons, asBool_bl, tru_bl, tru_int, tru_non, tru_tup, runR_nx, runR_rt, runR_exc, runR_bad, runR_ite, thn_ite, thS_ite, thE_ite, ite_app2, ite_app2S, add_ii, sub_ii, mul_ii, fdiv_ii, mod_ii, pow_ii, shl_ii, shr_ii, band_ii, bor_ii, bxor_ii, neg_i, lt_ii, le_ii, gt_ii, ge_ii, eq_ii, eq_ss, eq_bb, ne_ii, ne_ss, ne_bb, isN_non, isN_int, isN_tup, isN_ref, isN_str, int_i, int_b, abs_i, max_ii, min_ii, slotM, idx_r, idx_t, idxO_lst, idxO_fro, atO_some, stIx_r, len_r, lenO_lst, lenO_fro, list_r, listO_lst, listO_fro, andT_one, andT_two, orT_one, orT_two, andV_one, andV_two, orV_one, orV_two, asg_eq, subG_eq, onlyNx_eq, nxo_nx, lst_eq, tup_eq, pat_nm, forS_eq, okS_nx, okS_rt, okS_bk, okS_ct, okS_exc, okE_oke, List.getElem?_cons_zero, List.getElem?_cons_succ, List.set_cons_zero, List.set_cons_succ, ofString_inj, decide_eq_true_eq, Bool.not_eq_true', decide_eq_false_iff_not, reduceIte, if_true, if_false, Int.reduceLT, Int.reduceLE, Int.reduceEq, Int.reduceNe, decide_true, decide_false, Bool.false_eq_true, String.reduceEq, Bool.not_true, Bool.not_false, idxO_dct, stIxO_dct, keyV_str, keyV_int, isKd_nil, isKd_cons, dLook_nil, dLook_cons, dct_eq, dctO_ok, prs_nil, prs_cons, get_new, set_new, dPut, dHas, List.any_cons, List.any_nil, List.all_cons, List.all_nil, List.foldl_cons, List.foldl_nil, List.map_cons, List.map_nil, List.cons_append, List.nil_append, Option.some.injEq, Sum.inr.injEq, Sum.inl.injEq, Option.isSome_some, Bool.or_false, Bool.false_or, Bool.or_true, Bool.true_or, Bool.and_true, Bool.true_and, Bool.and_self, List.length_cons, List.length_nil, sizeLine_eq, Nat.reduceAdd, Nat.reduceLeDiff, Nat.reduceLT, and_self, and_true, true_and, false_and, and_false, Bool.or_self, Bool.and_false, Bool.false_and, reduceCtorEq, in_tup, memFlat_nil, memFlat_cons, eqFlat_ss, eqFlat_ii, flatA_str, flatA_int, cpow2, comp_eq, gs_nil, gs_cons, oI_int, chain_eq, all_new, any_new, meth_eq, mApp_append, appK_lst, appendA_r, appO_lst, aug_eq, ipAdd_ii, ipSub_ii, ipAdd_ss, len_t, itOf_str, isi_non, isi_bl, isi_int, isi_str, isi_tup, isiB, String.reduceBEq, Nat.reducePow, Int.reduceToNat, Int.reducePow, Int.reduceSub, Int.reduceNeg, Int.reduceAdd, Int.reduceMul, ts, q1, q, q', len_S n4, add_ss, hm2, S_app]
            · simp only [seqS_eq, bdS_eq, bd_eq, ifS_eq, thn_nx, thn_rt, thn_bk, thn_ct, thn_exc, thn_bad, thS_ok, thS_exc, thS_bad, thE_ok, thE_exc, thE_bad, thIf_ok, thIf_exc, thIf_bad, ret_eq, setS_eq, retS_eq, skipS_eq, alloc_eq, callM_eq, evs_nil, evs_cons, asBool_bl, tru_bl, tru_int, tru_non, tru_tup, runR_nx, runR_rt, runR_exc, runR_bad, runR_ite, thn_ite, thS_ite, thE_ite, ite_app2, ite_app2S, add_ii, sub_ii, mul_ii, fdiv_ii, mod_ii, pow_ii, shl_ii, shr_ii, band_ii, bor_ii, bxor_ii, neg_i, lt_ii, le_ii, gt_ii, ge_ii, eq_ii, eq_ss, eq_bb, ne_ii, ne_ss, ne_bb, isN_non, isN_int, isN_tup, isN_ref, isN_str, int_i, int_b, abs_i, max_ii, min_ii, slotM, idx_r, idx_t, idxO_lst, idxO_fro, atO_some, stIx_r, len_r, lenO_lst, lenO_fro, list_r, listO_lst, listO_fro, andT_one, andT_two, orT_one, orT_two, andV_one, andV_two, orV_one, orV_two, asg_eq, subG_eq, onlyNx_eq, nxo_nx, lst_eq, tup_eq, pat_nm, forS_eq, okS_nx, okS_rt, okS_bk, okS_ct, okS_exc, okE_oke, List.getElem?_cons_zero, List.getElem?_cons_succ, List.set_cons_zero, List.set_cons_succ, ofString_inj, decide_eq_true_eq, Bool.not_eq_true', decide_eq_false_iff_not, reduceIte, if_true, if_false, Int.reduceLT, Int.reduceLE, Int.reduceEq, Int.reduceNe, decide_true, decide_false, Bool.false_eq_true, String.reduceEq, Bool.not_true, Bool.not_false, idxO_dct, stIxO_dct, keyV_str, keyV_int, isKd_nil, isKd_cons, dLook_nil, dLook_cons, dct_eq, dctO_ok, prs_nil, prs_cons, get_new, set_new, dPut, dHas, List.any_cons, List.any_nil, List.all_cons, List.all_nil, List.foldl_cons, List.foldl_nil, List.map_cons, List.map_nil, List.cons_append, List.nil_append, Option.some.injEq, Sum.inr.injEq, Sum.inl.injEq, Option.isSome_some, Bool.or_false, Bool.false_or, Bool.or_true, Bool.true_or, Bool.and_true, Bool.true_and, Bool.and_self, List.length_cons, List.length_nil, sizeLine_eq, Nat.reduceAdd, Nat.reduceLeDiff, Nat.reduceLT, and_self, and_true, true_and, false_and, and_false, Bool.or_self, Bool.and_false, Bool.false_and, reduceCtorEq, in_tup, memFlat_nil, memFlat_cons, eqFlat_ss, eqFlat_ii, flatA_str, flatA_int, cpow2, comp_eq, gs_nil, gs_cons, oI_int, chain_eq, all_new, any_new, meth_eq, mApp_append, appK_lst, appendA_r, appO_lst, aug_eq, ipAdd_ii, ipSub_ii, ipAdd_ss, len_t, itOf_str, isi_non, isi_bl, isi_int, isi_str, isi_tup, isiB, String.reduceBEq, Nat.reducePow, Int.reduceToNat, Int.reducePow, Int.reduceSub, Int.reduceNeg, Int.reduceAdd, Int.reduceMul, ts, q1, add_ss, hm2, S_app]
          · rw [if_neg f1]
            simp only [seqS_eq, bdS_eq, bd_eq, ifS_eq, thn_nx, thn_rt, thn_bk, thn_ct, thn_exc, thn_bad, thS_ok, thS_exc, thS_bad, thE_ok, thE_exc, thE_bad, thIf_ok, thIf_exc, thIf_bad, ret_eq, setS_eq, retS_eq, skipS_eq, alloc_eq, callM_eq, evs_nil, evs_cons, asBool_bl, tru_bl, tru_int, tru_non, tru_tup, runR_nx, runR_rt, runR_exc, runR_bad, runR_ite, thn_ite, thS_ite, thE_ite, ite_app2, ite_app2S, add_ii, sub_ii, mul_ii, fdiv_ii, mod_ii, pow_ii, shl_ii, shr_ii, band_ii, bor_ii, bxor_ii, neg_i, lt_ii, le_ii, gt_ii, ge_ii, eq_ii, eq_ss, eq_bb, ne_ii, ne_ss, ne_bb, isN_non, isN_int, isN_tup, isN_ref, isN_str, int_i, int_b, abs_i, max_ii, min_ii, slotM, idx_r, idx_t, idxO_lst, idxO_fro, atO_some, stIx_r, len_r, lenO_lst, lenO_fro, list_r, listO_lst, listO_fro, andT_one, andT_two, orT_one, orT_two, andV_one, andV_two, orV_one, orV_two, asg_eq, subG_eq, onlyNx_eq, nxo_nx, lst_eq, tup_eq, pat_nm, forS_eq, okS_nx, okS_rt, okS_bk, okS_ct, okS_exc, okE_oke, List.getElem?_cons_zero, List.getElem?_cons_succ, List.set_cons_zero, List.set_cons_succ, ofString_inj, decide_eq_true_eq, Bool.not_eq_true', decide_eq_false_iff_not, reduceIte, if_true, if_false, Int.reduceLT, Int.reduceLE, Int.reduceEq, Int.reduceNe, decide_true, decide_false, Bool.false_eq_true, String.reduceEq, Bool.not_true, Bool.not_false, idxO_dct, stIxO_dct, keyV_str, keyV_int, isKd_nil, isKd_cons, dLook_nil, dLook_cons, dct_eq, dctO_ok, prs_nil, prs_cons, get_new, set_new, dPut, dHas, List.any_cons, List.any_nil, List.all_cons, List.all_nil, List.foldl_cons, List.foldl_nil, List.map_cons, List.map_nil, List.cons_append, List.nil_append, Option.some.injEq, Sum.inr.injEq, Sum.inl.injEq, Option.isSome_some, Bool.or_false, Bool.false_or, Bool.or_true, Bool.true_or, Bool.and_true, Bool.true_and, Bool.and_self, List.length_cons, List.length_nil, sizeLine_eq, Nat.reduceAdd, Nat.reduceLeDiff, Nat.reduceLT, and_self, and_true, true_and, false_and, and_false, Bool.or_self, Bool.and_false, Bool.false_and, reduceCtorEq, memFlat_nil, memFlat_cons, eqFlat_ss, eqFlat_ii, flatA_str, flatA_int, cpow2, comp_eq, gs_nil, gs_cons, oI_int, chain_eq, all_new, any_new, meth_eq, mApp_append, appK_lst, appendA_r, appO_lst, aug_eq, ipAdd_ii, ipSub_ii, ipAdd_ss, len_t, itOf_str, isi_non, isi_bl, isi_int, isi_str, isi_tup, isiB, String.reduceBEq, Nat.reducePow, Int.reduceToNat, Int.reducePow, Int.reduceSub, Int.reduceNeg, Int.reduceAdd, Int.reduceMul, l_small, l_dig, l_cap, l_hm, l_0, idx_S ha hz.z, in_S, c1, d1, e1, tk, c2, cut_take (Nat.le_of_lt ha), Nat.add_sub_cancel_left, S_inj, f1, sy]
            have ty := fun (s : Sl) (h : AH) => tru_S (l := sym (L.drop at_)) (s := s) (h := h) (by rw [sizeLine_eq]; have := sym_len (L.drop at_); omega)
            cases es : sym (L.drop at_) with
            | nil =>
              rw [es] at ty
              simp only [seqS_eq, bdS_eq, bd_eq, ifS_eq, thn_nx, thn_rt, thn_bk, thn_ct, thn_exc, thn_bad, thS_ok, thS_exc, thS_bad, thE_ok, thE_exc, thE_bad, thIf_ok, thIf_exc, thIf_bad, ret_eq, setS_eq, retS_eq, skipS_eq, alloc_eq, callM_eq, evs_nil, evs_cons, asBool_bl, tru_bl, tru_int, tru_non, tru_tup, runR_nx, runR_rt, runR_exc, runR_bad, runR_ite, thn_ite, thS_ite, thE_ite, ite_app2, ite_app2S, add_ii, sub_ii, mul_ii, fdiv_ii, mod_ii, pow_ii, shl_ii, shr_ii, band_ii, bor_ii, bxor_ii, neg_i, lt_ii, le_ii, gt_ii, ge_ii, eq_ii, eq_ss, eq_bb, ne_ii, ne_ss, ne_bb, isN_non, isN_int, isN_tup, isN_ref, isN_str, int_i, int_b, abs_i, max_ii, min_ii, slotM, idx_r, idx_t, idxO_lst, idxO_fro, atO_some, stIx_r, len_r, lenO_lst, lenO_fro, list_r, listO_lst, listO_fro, andT_one, andT_two, orT_one, orT_two, andV_one, andV_two, orV_one, orV_two, asg_eq, subG_eq, onlyNx_eq, nxo_nx, lst_eq, tup_eq, pat_nm, forS_eq, okS_nx, okS_rt, okS_bk, okS_ct, okS_exc, okE_oke, List.getElem?_cons_zero, List.getElem?_cons_succ, List.set_cons_zero, List.set_cons_succ, ofString_inj, decide_eq_true_eq, Bool.not_eq_true', decide_eq_false_iff_not, reduceIte, if_true, if_false, Int.reduceLT, Int.reduceLE, Int.reduceEq, Int.reduceNe, decide_true, decide_false, Bool.false_eq_true, String.reduceEq, Bool.not_true, Bool.not_false, idxO_dct, stIxO_dct, keyV_str, keyV_int, isKd_nil, isKd_cons, dLook_nil, dLook_cons, dct_eq, dctO_ok, prs_nil, prs_cons, get_new, set_new, dPut, dHas, List.any_cons, List.any_nil, List.all_cons, List.all_nil, List.foldl_cons, List.foldl_nil, List.map_cons, List.map_nil, List.cons_append, List.nil_append, Option.some.injEq, Sum.inr.injEq, Sum.inl.injEq, Option.isSome_some, Bool.or_false, Bool.false_or, Bool.or_true, Bool.true_or, Bool.and_true, Bool.true_and, Bool.and_self, List.length_cons, List.length_nil, sizeLine_eq, Nat.reduceAdd, Nat.reduceLeDiff, Nat.reduceLT, and_self, and_true, true_and, false_and, and_false, Bool.or_self, Bool.and_false, Bool.false_and, reduceCtorEq, in_tup, memFlat_nil, memFlat_cons, eqFlat_ss, eqFlat_ii, flatA_str, flatA_int, cpow2, comp_eq, gs_nil, gs_cons, oI_int, chain_eq, all_new, any_new, meth_eq, mApp_append, appK_lst, appendA_r, appO_lst, aug_eq, ipAdd_ii, ipSub_ii, ipAdd_ss, len_t, itOf_str, isi_non, isi_bl, isi_int, isi_str, isi_tup, isiB, String.reduceBEq, Nat.reducePow, Int.reduceToNat, Int.reducePow, Int.reduceSub, Int.reduceNeg, Int.reduceAdd, Int.reduceMul, ty, List.isEmpty_nil]
            | cons c t =>
              rw [es] at ty
              simp only [seqS_eq, bdS_eq, bd_eq, ifS_eq, thn_nx, thn_rt, thn_bk, thn_ct, thn_exc, thn_bad, thS_ok, thS_exc, thS_bad, thE_ok, thE_exc, thE_bad, thIf_ok, thIf_exc, thIf_bad, ret_eq, setS_eq, retS_eq, skipS_eq, alloc_eq, callM_eq, evs_nil, evs_cons, asBool_bl, tru_bl, tru_int, tru_non, tru_tup, runR_nx, runR_rt, runR_exc, runR_bad, runR_ite, thn_ite, thS_ite, thE_ite, ite_app2, ite_app2S, add_ii, sub_ii, mul_ii, fdiv_ii, mod_ii, pow_ii, shl_ii, shr_ii, band_ii, bor_ii, bxor_ii, neg_i, lt_ii, le_ii, gt_ii, ge_ii, eq_ii, eq_ss, eq_bb, ne_ii, ne_ss, ne_bb, isN_non, isN_int, isN_tup, isN_ref, isN_str, int_i, int_b, abs_i, max_ii, min_ii, slotM, idx_r, idx_t, idxO_lst, idxO_fro, atO_some, stIx_r, len_r, lenO_lst, lenO_fro, list_r, listO_lst, listO_fro, andT_one, andT_two, orT_one, orT_two, andV_one, andV_two, orV_one, orV_two, asg_eq, subG_eq, onlyNx_eq, nxo_nx, lst_eq, tup_eq, pat_nm, forS_eq, okS_nx, okS_rt, okS_bk, okS_ct, okS_exc, okE_oke, List.getElem?_cons_zero, List.getElem?_cons_succ, List.set_cons_zero, List.set_cons_succ, ofString_inj, decide_eq_true_eq, Bool.not_eq_true', decide_eq_false_iff_not, reduceIte, if_true, if_false, Int.reduceLT, Int.reduceLE, Int.reduceEq, Int.reduceNe, decide_true, decide_false, Bool.false_eq_true, String.reduceEq, Bool.not_true, Bool.not_false, idxO_dct, stIxO_dct, keyV_str, keyV_int, isKd_nil, isKd_cons, dLook_nil, dLook_cons, dct_eq, dctO_ok, prs_nil, prs_cons, get_new, set_new, dPut, dHas, List.any_cons, List.any_nil, List.all_cons, List.all_nil, List.foldl_cons, List.foldl_nil, List.map_cons, List.map_nil, List.cons_append, List.nil_append, Option.some.injEq, Sum.inr.injEq, Sum.inl.injEq, Option.isSome_some, Bool.or_false, Bool.false_or, Bool.or_true, Bool.true_or, Bool.and_true, Bool.true_and, Bool.and_self, List.length_cons, List.length_nil, sizeLine_eq, Nat.reduceAdd, Nat.reduceLeDiff, Nat.reduceLT, and_self, and_true, true_and, false_and, and_false, Bool.or_self, Bool.and_false, Bool.false_and, reduceCtorEq, in_tup, memFlat_nil, memFlat_cons, eqFlat_ss, eqFlat_ii, flatA_str, flatA_int, cpow2, comp_eq, gs_nil, gs_cons, oI_int, chain_eq, all_new, any_new, meth_eq, mApp_append, appK_lst, appendA_r, appO_lst, aug_eq, ipAdd_ii, ipSub_ii, ipAdd_ss, len_t, itOf_str, isi_non, isi_bl, isi_int, isi_str, isi_tup, isiB, String.reduceBEq, Nat.reducePow, Int.reduceToNat, Int.reducePow, Int.reduceSub, Int.reduceNeg, Int.reduceAdd, Int.reduceMul, ty, List.isEmpty_cons]
end K14
namespace K14
open PySem PySem.Spec PyProof.Rows L2 Ev
abbrev Tk := String × List Nat × Nat
def runT (tok : List Nat → String × List Nat) (L : List Nat) (at_ : Nat) : List Tk :=
  if h : at_ < L.length then
    if L[at_] ∈ [32, 10] then runT tok L (at_ + 1)
    else if (tok (L.drop at_)).1 = "" then [((tok (L.drop at_)).1, (tok (L.drop at_)).2, at_)]
    else ((tok (L.drop at_)).1, (tok (L.drop at_)).2, at_) :: runT tok L (at_ + max 1 (tok (L.drop at_)).2.length)
  else []
termination_by L.length - at_
decreasing_by all_goals omega
def tokAV (t : Tk) : AV := .tup [.str t.1, .str (S t.2.1), .int t.2.2]
theorem tw_ne {g : List Nat} {c : Nat} {t : List Nat} (h : c ∈ g) : tw g (c :: t) ≠ [] := by
  unfold tw
  rw [List.takeWhile_cons]
  have : isIn g c = true := decide_eq_true h
  rw [this]
  simp
theorem sym_pre (R : List Nat) : (sym R).length ≤ R.length := by
  unfold sym
  cases h : symsL.find? fun s => decide (R.take s.length = s) with
  | none => exact Nat.zero_le _
  | some l =>
    have := List.find?_some h
    have e : R.take l.length = l := by simpa using this
    have := congrArg List.length e
    rw [List.length_take] at this
    show l.length ≤ _
    omega
section
variable {c : Nat} {t : List Nat}
theorem tokP_a (h1 : c ∈ smallL) : tokP (c :: t) = (if (tw (smallL ++ digL) (c :: t)).length ≤ 12 then "name" else "", tw (smallL ++ digL) (c :: t)) := by
  unfold tokP
  rw [if_pos h1]
theorem tokP_b (h1 : c ∉ smallL) (h2 : c ∈ digL) : tokP (c :: t) = (if (tw digL (c :: t)).length ≤ 10 then "number" else "", tw digL (c :: t)) := by
  unfold tokP
  rw [if_neg h1, if_pos h2]
theorem tokP_c (h1 : c ∉ smallL) (h2 : c ∉ digL) (h3 : c ∈ capL) : tokP (c :: t) = (if tw capL (c :: t) ∈ keysL then "key" else "", tw capL (c :: t)) := by
  unfold tokP
  rw [if_neg h1, if_neg h2, if_pos h3]
theorem tokP_d (h1 : c ∉ smallL) (h2 : c ∉ digL) (h3 : c ∉ capL) (h4 : (c :: t).take 2 = [35, 45]) : tokP (c :: t) = (if nz (tw digL ((c :: t).drop 2)) = true ∧ (tw digL ((c :: t).drop 2)).length ≤ 10 then "negative" else "", [35, 45] ++ tw digL ((c :: t).drop 2)) := by
  unfold tokP
  rw [if_neg h1, if_neg h2, if_neg h3, if_pos h4]
theorem tokP_e (h1 : c ∉ smallL) (h2 : c ∉ digL) (h3 : c ∉ capL) (h4 : (c :: t).take 2 ≠ [35, 45]) : tokP (c :: t) = (if sym (c :: t) = [] then "" else "symbol", sym (c :: t)) := by
  unfold tokP
  rw [if_neg h1, if_neg h2, if_neg h3, if_neg h4]
theorem tokP_by {P : List Nat → String × List Nat → Prop} (h0 : P [] ("", []))
    (ha : ∀ c t, c ∈ smallL → P (c :: t) (if (tw (smallL ++ digL) (c :: t)).length ≤ 12 then "name" else "", tw (smallL ++ digL) (c :: t)))
    (hb : ∀ c t, c ∉ smallL → c ∈ digL → P (c :: t) (if (tw digL (c :: t)).length ≤ 10 then "number" else "", tw digL (c :: t)))
    (hc : ∀ c t, c ∉ smallL → c ∉ digL → c ∈ capL → P (c :: t) (if tw capL (c :: t) ∈ keysL then "key" else "", tw capL (c :: t)))
    (hd : ∀ c t, c ∉ smallL → c ∉ digL → c ∉ capL → (c :: t).take 2 = [35, 45] → P (c :: t) (if nz (tw digL ((c :: t).drop 2)) = true ∧ (tw digL ((c :: t).drop 2)).length ≤ 10 then "negative" else "", [35, 45] ++ tw digL ((c :: t).drop 2)))
    (he : ∀ c t, c ∉ smallL → c ∉ digL → c ∉ capL → (c :: t).take 2 ≠ [35, 45] → P (c :: t) (if sym (c :: t) = [] then "" else "symbol", sym (c :: t))) : ∀ R, P R (tokP R)
  | [] => h0
  | c :: t => by
    by_cases h1 : c ∈ smallL
    · rw [tokP_a h1]; exact ha c t h1
    by_cases h2 : c ∈ digL
    · rw [tokP_b h1 h2]; exact hb c t h1 h2
    by_cases h3 : c ∈ capL
    · rw [tokP_c h1 h2 h3]; exact hc c t h1 h2 h3
    by_cases h4 : (c :: t).take 2 = [35, 45]
    · rw [tokP_d h1 h2 h3 h4]; exact hd c t h1 h2 h3 h4
    · rw [tokP_e h1 h2 h3 h4]; exact he c t h1 h2 h3 h4
end
theorem tokP_len (R : List Nat) : (tokP R).2.length ≤ R.length := by
  refine tokP_by (P := fun R p => p.2.length ≤ R.length) (Nat.le_refl _) (fun c t _ => tw_len _ _) (fun c t _ _ => tw_len _ _) (fun c t _ _ _ => tw_len _ _) (fun c t _ _ _ e => ?_) (fun c t _ _ _ _ => sym_pre _) R
  have h1 := tw_len digL ((c :: t).drop 2)
  have h2 := congrArg List.length e
  rw [List.length_take] at h2
  rw [List.length_drop] at h1
  show ([35, 45] ++ _ : List Nat).length ≤ _
  rw [List.length_append]
  have z : ([35, 45] : List Nat).length = 2 := rfl
  rw [z] at h2 ⊢
  omega
theorem tokP_ne (R : List Nat) : (tokP R).1 ≠ "" → (tokP R).2 ≠ [] := by
  refine tokP_by (P := fun R p => p.1 ≠ "" → p.2 ≠ []) (fun h => (h rfl).elim) (fun c t h _ => tw_ne (List.mem_append_left _ h)) (fun c t _ h _ => tw_ne h) (fun c t _ _ h _ => tw_ne h) (fun c t _ _ _ e _ => by simp) (fun c t _ _ _ _ h => ?_) R
  intro e
  have e : sym (c :: t) = [] := e
  exact h (by show (if sym (c :: t) = [] then "" else "symbol") = ""; rw [if_pos e])
def kindsL : List String := ["", "name", "number", "key", "negative", "symbol"]
theorem tokP_kind (R : List Nat) : (tokP R).1 ∈ kindsL := by
  refine tokP_by (P := fun R p => p.1 ∈ kindsL) (by decide) (fun c t _ => ?_) (fun c t _ _ => ?_) (fun c t _ _ _ => ?_) (fun c t _ _ _ _ => ?_) (fun c t _ _ _ _ => ?_) R
  all_goals
    dsimp only
    split <;> decide
theorem kt {kd : String} (hk : kd ∈ kindsL) (s : Sl) (h : AH) : truA (.str (Str.ofString kd)) s h = .ok (!decide (kd = "")) h := by
  simp only [kindsL, List.mem_cons, List.not_mem_nil, or_false] at hk
  rcases hk with rfl | rfl | rfl | rfl | rfl | rfl <;> kernel_rfl
theorem tokens_ok (k : Nat) {L : List Nat} {h : AH} (hz : big L) : callA T fs (k + 3) "tokens" [.str (S L)] h = .ok (.ref h.length) (h ++ [.lst ((runT tokP L 0).map tokAV)]) := by
  have l_spt : ∀ c : Nat, decide (c ∈ [32, 10]) = decide (c ∈ ([32, 10] : List Nat)) := fun _ => rfl
  have key : okE (callA T fs (k + 3) "tokens" [.str (S L)] h) fun v h' => v = .ref h.length ∧ h' = h ++ [.lst ((runT tokP L 0).map tokAV)] := by
    rw [c_tokens]
    apply okE_runR
    unfold s_tokens
    simp only [seqS_eq, bdS_eq, bd_eq, ifS_eq, thn_nx, thn_rt, thn_bk, thn_ct, thn_exc, thn_bad, thS_ok, thS_exc, thS_bad, thE_ok, thE_exc, thE_bad, thIf_ok, thIf_exc, thIf_bad, ret_eq, setS_eq, retS_eq, skipS_eq, alloc_eq, callM_eq, evs_nil, evs_cons, asBool_bl, tru_bl, tru_int, tru_non, tru_tup, runR_nx, runR_rt, runR_exc, runR_bad, runR_ite, thn_ite, thS_ite, thE_ite, ite_app2, ite_app2S, add_ii, sub_ii, mul_ii, fdiv_ii, mod_ii, pow_ii, shl_ii, shr_ii, band_ii, bor_ii, bxor_ii, neg_i, lt_ii, le_ii, gt_ii, ge_ii, eq_ii, eq_ss, eq_bb, ne_ii, ne_ss, ne_bb, isN_non, isN_int, isN_tup, isN_ref, isN_str, int_i, int_b, abs_i, max_ii, min_ii, slotM, idx_r, idx_t, idxO_lst, idxO_fro, atO_some, stIx_r, len_r, lenO_lst, lenO_fro, list_r, listO_lst, listO_fro, andT_one, andT_two, orT_one, orT_two, andV_one, andV_two, orV_one, orV_two, asg_eq, subG_eq, onlyNx_eq, nxo_nx, lst_eq, tup_eq, pat_nm, forS_eq, okS_nx, okS_rt, okS_bk, okS_ct, okS_exc, okE_oke, List.getElem?_cons_zero, List.getElem?_cons_succ, List.set_cons_zero, List.set_cons_succ, ofString_inj, decide_eq_true_eq, Bool.not_eq_true', decide_eq_false_iff_not, reduceIte, if_true, if_false, Int.reduceLT, Int.reduceLE, Int.reduceEq, Int.reduceNe, decide_true, decide_false, Bool.false_eq_true, String.reduceEq, Bool.not_true, Bool.not_false, idxO_dct, stIxO_dct, keyV_str, keyV_int, isKd_nil, isKd_cons, dLook_nil, dLook_cons, dct_eq, dctO_ok, prs_nil, prs_cons, get_new, set_new, dPut, dHas, List.any_cons, List.any_nil, List.all_cons, List.all_nil, List.foldl_cons, List.foldl_nil, List.map_cons, List.map_nil, List.cons_append, List.nil_append, Option.some.injEq, Sum.inr.injEq, Sum.inl.injEq, Option.isSome_some, Bool.or_false, Bool.false_or, Bool.or_true, Bool.true_or, Bool.and_true, Bool.true_and, Bool.and_self, List.length_cons, List.length_nil, sizeLine_eq, Nat.reduceAdd, Nat.reduceLeDiff, Nat.reduceLT, and_self, and_true, true_and, false_and, and_false, Bool.or_self, Bool.and_false, Bool.false_and, reduceCtorEq, in_tup, memFlat_nil, memFlat_cons, eqFlat_ss, eqFlat_ii, flatA_str, flatA_int, cpow2, comp_eq, gs_nil, gs_cons, oI_int, chain_eq, all_new, any_new, meth_eq, mApp_append, appK_lst, appendA_r, appO_lst, aug_eq, ipAdd_ii, ipSub_ii, ipAdd_ss, len_t, itOf_str, isi_non, isi_bl, isi_int, isi_str, isi_tup, isiB, String.reduceBEq, Nat.reducePow, Int.reduceToNat, Int.reducePow, Int.reduceSub, Int.reduceNeg, Int.reduceAdd, Int.reduceMul]
    apply okS_thn
    refine okS_while (fun m s h' => ∃ (at_ : Nat) (acc : List Tk) (c3 c4 : Option AV), at_ ≤ L.length ∧ m = L.length - at_ ∧ acc.length ≤ at_ ∧ h' = h ++ [.lst (acc.map tokAV)] ∧ s = [some (.str (S L)), some (.ref h.length), some (.int at_), c3, c4] ∧ acc ++ runT tokP L at_ = runT tokP L 0) ?_ _ (L.length - 0) _ _ ⟨0, [], none, none, Nat.zero_le _, rfl, Nat.le_refl _, rfl, rfl, rfl⟩ (by unfold turnsMax; unfold big at hz; omega)
    rintro m s h' ⟨at_, acc, c3, c4, h1, rfl, h2, rfl, rfl, h3⟩
    by_cases hl : at_ < L.length
    · have hle : (at_ : Int) < (L.length : Int) := by omega
      rw [runT, dif_pos hl] at h3
      by_cases hs : L[at_] ∈ [32, 10]
      · rw [if_pos hs] at h3
        simp only [seqS_eq, bdS_eq, bd_eq, ifS_eq, thn_nx, thn_rt, thn_bk, thn_ct, thn_exc, thn_bad, thS_ok, thS_exc, thS_bad, thE_ok, thE_exc, thE_bad, thIf_ok, thIf_exc, thIf_bad, ret_eq, setS_eq, retS_eq, skipS_eq, alloc_eq, callM_eq, evs_nil, evs_cons, asBool_bl, tru_bl, tru_int, tru_non, tru_tup, runR_nx, runR_rt, runR_exc, runR_bad, runR_ite, thn_ite, thS_ite, thE_ite, ite_app2, ite_app2S, add_ii, sub_ii, mul_ii, fdiv_ii, mod_ii, pow_ii, shl_ii, shr_ii, band_ii, bor_ii, bxor_ii, neg_i, lt_ii, le_ii, gt_ii, ge_ii, eq_ii, eq_ss, eq_bb, ne_ii, ne_ss, ne_bb, isN_non, isN_int, isN_tup, isN_ref, isN_str, int_i, int_b, abs_i, max_ii, min_ii, slotM, idx_r, idx_t, idxO_lst, idxO_fro, atO_some, stIx_r, len_r, lenO_lst, lenO_fro, list_r, listO_lst, listO_fro, andT_one, andT_two, orT_one, orT_two, andV_one, andV_two, orV_one, orV_two, asg_eq, subG_eq, onlyNx_eq, nxo_nx, lst_eq, tup_eq, pat_nm, forS_eq, okS_nx, okS_rt, okS_bk, okS_ct, okS_exc, okE_oke, List.getElem?_cons_zero, List.getElem?_cons_succ, List.set_cons_zero, List.set_cons_succ, ofString_inj, decide_eq_true_eq, Bool.not_eq_true', decide_eq_false_iff_not, reduceIte, if_true, if_false, Int.reduceLT, Int.reduceLE, Int.reduceEq, Int.reduceNe, decide_true, decide_false, Bool.false_eq_true, String.reduceEq, Bool.not_true, Bool.not_false, idxO_dct, stIxO_dct, keyV_str, keyV_int, isKd_nil, isKd_cons, dLook_nil, dLook_cons, dct_eq, dctO_ok, prs_nil, prs_cons, get_new, set_new, dPut, dHas, List.any_cons, List.any_nil, List.all_cons, List.all_nil, List.foldl_cons, List.foldl_nil, List.map_cons, List.map_nil, List.cons_append, List.nil_append, Option.some.injEq, Sum.inr.injEq, Sum.inl.injEq, Option.isSome_some, Bool.or_false, Bool.false_or, Bool.or_true, Bool.true_or, Bool.and_true, Bool.true_and, Bool.and_self, List.length_cons, List.length_nil, sizeLine_eq, Nat.reduceAdd, Nat.reduceLeDiff, Nat.reduceLT, and_self, and_true, true_and, false_and, and_false, Bool.or_self, Bool.and_false, Bool.false_and, reduceCtorEq, in_tup, memFlat_nil, memFlat_cons, eqFlat_ss, eqFlat_ii, flatA_str, flatA_int, cpow2, comp_eq, gs_nil, gs_cons, oI_int, chain_eq, all_new, any_new, meth_eq, mApp_append, appK_lst, appendA_r, appO_lst, aug_eq, ipAdd_ii, ipSub_ii, ipAdd_ss, len_t, itOf_str, isi_non, isi_bl, isi_int, isi_str, isi_tup, isiB, String.reduceBEq, Nat.reducePow, Int.reduceToNat, Int.reducePow, Int.reduceSub, Int.reduceNeg, Int.reduceAdd, Int.reduceMul, len_S hz.z, hle, idx_S hl hz.z, l_sp, in_S, hs]
        exact ⟨L.length - (at_ + 1), by omega, at_ + 1, acc, ⟨c3, c4, by omega, rfl, by omega, rfl, by simp, h3⟩⟩
      · rw [if_neg hs] at h3
        have tk := fun (h : AH) => token_ok k (L := L) (at_ := at_) (h := h) hl hz
        have tl := tokP_len (L.drop at_)
        have tn := tokP_ne (L.drop at_)
        have tkk := tokP_kind (L.drop at_)
        generalize tokP (L.drop at_) = tp at h3 tk tl tn tkk
        obtain ⟨kd, pt⟩ := tp
        dsimp only at h3 tk tl tn tkk
        rw [List.length_drop] at tl
        have al : (acc.map tokAV).length < 16777216 := by rw [List.length_map]; unfold big at hz; omega
        have ptz : pt.length ≤ sizeLine := by rw [sizeLine_eq]; unfold big at hz; omega
        have kt := kt tkk
        by_cases ek : kd = ""
        · subst ek
          rw [if_pos rfl] at h3
          simp only [seqS_eq, bdS_eq, bd_eq, ifS_eq, thn_nx, thn_rt, thn_bk, thn_ct, thn_exc, thn_bad, thS_ok, thS_exc, thS_bad, thE_ok, thE_exc, thE_bad, thIf_ok, thIf_exc, thIf_bad, ret_eq, setS_eq, retS_eq, skipS_eq, alloc_eq, callM_eq, evs_nil, evs_cons, asBool_bl, tru_bl, tru_int, tru_non, tru_tup, runR_nx, runR_rt, runR_exc, runR_bad, runR_ite, thn_ite, thS_ite, thE_ite, ite_app2, ite_app2S, add_ii, sub_ii, mul_ii, fdiv_ii, mod_ii, pow_ii, shl_ii, shr_ii, band_ii, bor_ii, bxor_ii, neg_i, lt_ii, le_ii, gt_ii, ge_ii, eq_ii, eq_ss, eq_bb, ne_ii, ne_ss, ne_bb, isN_non, isN_int, isN_tup, isN_ref, isN_str, int_i, int_b, abs_i, max_ii, min_ii, slotM, idx_r, idx_t, idxO_lst, idxO_fro, atO_some, stIx_r, len_r, lenO_lst, lenO_fro, list_r, listO_lst, listO_fro, andT_one, andT_two, orT_one, orT_two, andV_one, andV_two, orV_one, orV_two, asg_eq, subG_eq, onlyNx_eq, nxo_nx, lst_eq, tup_eq, pat_nm, forS_eq, okS_nx, okS_rt, okS_bk, okS_ct, okS_exc, okE_oke, List.getElem?_cons_zero, List.getElem?_cons_succ, List.set_cons_zero, List.set_cons_succ, ofString_inj, decide_eq_true_eq, Bool.not_eq_true', decide_eq_false_iff_not, reduceIte, if_true, if_false, Int.reduceLT, Int.reduceLE, Int.reduceEq, Int.reduceNe, decide_true, decide_false, Bool.false_eq_true, String.reduceEq, Bool.not_true, Bool.not_false, idxO_dct, stIxO_dct, keyV_str, keyV_int, isKd_nil, isKd_cons, dLook_nil, dLook_cons, dct_eq, dctO_ok, prs_nil, prs_cons, get_new, set_new, dPut, dHas, List.any_cons, List.any_nil, List.all_cons, List.all_nil, List.foldl_cons, List.foldl_nil, List.map_cons, List.map_nil, List.cons_append, List.nil_append, Option.some.injEq, Sum.inr.injEq, Sum.inl.injEq, Option.isSome_some, Bool.or_false, Bool.false_or, Bool.or_true, Bool.true_or, Bool.and_true, Bool.true_and, Bool.and_self, List.length_cons, List.length_nil, sizeLine_eq, Nat.reduceAdd, Nat.reduceLeDiff, Nat.reduceLT, and_self, and_true, true_and, false_and, and_false, Bool.or_self, Bool.and_false, Bool.false_and, reduceCtorEq, in_tup, memFlat_nil, memFlat_cons, eqFlat_ss, eqFlat_ii, flatA_str, flatA_int, cpow2, comp_eq, gs_nil, gs_cons, oI_int, chain_eq, all_new, any_new, meth_eq, mApp_append, appK_lst, appendA_r, appO_lst, aug_eq, ipAdd_ii, ipSub_ii, ipAdd_ss, len_t, itOf_str, isi_non, isi_bl, isi_int, isi_str, isi_tup, isiB, String.reduceBEq, Nat.reducePow, Int.reduceToNat, Int.reducePow, Int.reduceSub, Int.reduceNeg, Int.reduceAdd, Int.reduceMul, len_S hz.z, hle, idx_S hl hz.z, l_sp, in_S, hs, tk, al, kt]
          rw [← h3, List.map_append]
          rfl
        · rw [if_neg ek] at h3
          have pn := tn ek
          have mx : max 1 pt.length = pt.length := by
            cases pt with
            | nil => exact (pn rfl).elim
            | cons _ _ => simp
          rw [mx] at h3
          have cast : (at_ : Int) + (pt.length : Int) = ((at_ + pt.length : Nat) : Int) := by omega
          have p1 : 1 ≤ pt.length := by omega
          simp only [seqS_eq, bdS_eq, bd_eq, ifS_eq, thn_nx, thn_rt, thn_bk, thn_ct, thn_exc, thn_bad, thS_ok, thS_exc, thS_bad, thE_ok, thE_exc, thE_bad, thIf_ok, thIf_exc, thIf_bad, ret_eq, setS_eq, retS_eq, skipS_eq, alloc_eq, callM_eq, evs_nil, evs_cons, asBool_bl, tru_bl, tru_int, tru_non, tru_tup, runR_nx, runR_rt, runR_exc, runR_bad, runR_ite, thn_ite, thS_ite, thE_ite, ite_app2, ite_app2S, add_ii, sub_ii, mul_ii, fdiv_ii, mod_ii, pow_ii, shl_ii, shr_ii, band_ii, bor_ii, bxor_ii, neg_i, lt_ii, le_ii, gt_ii, ge_ii, eq_ii, eq_ss, eq_bb, ne_ii, ne_ss, ne_bb, isN_non, isN_int, isN_tup, isN_ref, isN_str, int_i, int_b, abs_i, max_ii, min_ii, slotM, idx_r, idx_t, idxO_lst, idxO_fro, atO_some, stIx_r, len_r, lenO_lst, lenO_fro, list_r, listO_lst, listO_fro, andT_one, andT_two, orT_one, orT_two, andV_one, andV_two, orV_one, orV_two, asg_eq, subG_eq, onlyNx_eq, nxo_nx, lst_eq, tup_eq, pat_nm, forS_eq, okS_nx, okS_rt, okS_bk, okS_ct, okS_exc, okE_oke, List.getElem?_cons_zero, List.getElem?_cons_succ, List.set_cons_zero, List.set_cons_succ, ofString_inj, decide_eq_true_eq, Bool.not_eq_true', decide_eq_false_iff_not, reduceIte, if_true, if_false, Int.reduceLT, Int.reduceLE, Int.reduceEq, Int.reduceNe, decide_true, decide_false, Bool.false_eq_true, String.reduceEq, Bool.not_true, Bool.not_false, idxO_dct, stIxO_dct, keyV_str, keyV_int, isKd_nil, isKd_cons, dLook_nil, dLook_cons, dct_eq, dctO_ok, prs_nil, prs_cons, get_new, set_new, dPut, dHas, List.any_cons, List.any_nil, List.all_cons, List.all_nil, List.foldl_cons, List.foldl_nil, List.map_cons, List.map_nil, List.cons_append, List.nil_append, Option.some.injEq, Sum.inr.injEq, Sum.inl.injEq, Option.isSome_some, Bool.or_false, Bool.false_or, Bool.or_true, Bool.true_or, Bool.and_true, Bool.true_and, Bool.and_self, List.length_cons, List.length_nil, sizeLine_eq, Nat.reduceAdd, Nat.reduceLeDiff, Nat.reduceLT, and_self, and_true, true_and, false_and, and_false, Bool.or_self, Bool.and_false, Bool.false_and, reduceCtorEq, in_tup, memFlat_nil, memFlat_cons, eqFlat_ss, eqFlat_ii, flatA_str, flatA_int, cpow2, comp_eq, gs_nil, gs_cons, oI_int, chain_eq, all_new, any_new, meth_eq, mApp_append, appK_lst, appendA_r, appO_lst, aug_eq, ipAdd_ii, ipSub_ii, ipAdd_ss, len_t, itOf_str, isi_non, isi_bl, isi_int, isi_str, isi_tup, isiB, String.reduceBEq, Nat.reducePow, Int.reduceToNat, Int.reducePow, Int.reduceSub, Int.reduceNeg, Int.reduceAdd, Int.reduceMul, len_S hz.z, hle, idx_S hl hz.z, l_sp, in_S, hs, tk, al, kt, ek, len_S ptz, cast]
          refine ⟨L.length - (at_ + pt.length), by omega, at_ + pt.length, acc ++ [(kd, pt, at_)], _, _, by omega, rfl, by simp; omega, ?_, rfl, ?_⟩
          · rw [List.map_append]
            rfl
          · rw [← h3, List.append_assoc]
            rfl
    · have hle : ¬ (at_ : Int) < (L.length : Int) := by omega
      rw [runT, dif_neg hl, List.append_nil] at h3
      simp only [seqS_eq, bdS_eq, bd_eq, ifS_eq, thn_nx, thn_rt, thn_bk, thn_ct, thn_exc, thn_bad, thS_ok, thS_exc, thS_bad, thE_ok, thE_exc, thE_bad, thIf_ok, thIf_exc, thIf_bad, ret_eq, setS_eq, retS_eq, skipS_eq, alloc_eq, callM_eq, evs_nil, evs_cons, asBool_bl, tru_bl, tru_int, tru_non, tru_tup, runR_nx, runR_rt, runR_exc, runR_bad, runR_ite, thn_ite, thS_ite, thE_ite, ite_app2, ite_app2S, add_ii, sub_ii, mul_ii, fdiv_ii, mod_ii, pow_ii, shl_ii, shr_ii, band_ii, bor_ii, bxor_ii, neg_i, lt_ii, le_ii, gt_ii, ge_ii, eq_ii, eq_ss, eq_bb, ne_ii, ne_ss, ne_bb, isN_non, isN_int, isN_tup, isN_ref, isN_str, int_i, int_b, abs_i, max_ii, min_ii, slotM, idx_r, idx_t, idxO_lst, idxO_fro, atO_some, stIx_r, len_r, lenO_lst, lenO_fro, list_r, listO_lst, listO_fro, andT_one, andT_two, orT_one, orT_two, andV_one, andV_two, orV_one, orV_two, asg_eq, subG_eq, onlyNx_eq, nxo_nx, lst_eq, tup_eq, pat_nm, forS_eq, okS_nx, okS_rt, okS_bk, okS_ct, okS_exc, okE_oke, List.getElem?_cons_zero, List.getElem?_cons_succ, List.set_cons_zero, List.set_cons_succ, ofString_inj, decide_eq_true_eq, Bool.not_eq_true', decide_eq_false_iff_not, reduceIte, if_true, if_false, Int.reduceLT, Int.reduceLE, Int.reduceEq, Int.reduceNe, decide_true, decide_false, Bool.false_eq_true, String.reduceEq, Bool.not_true, Bool.not_false, idxO_dct, stIxO_dct, keyV_str, keyV_int, isKd_nil, isKd_cons, dLook_nil, dLook_cons, dct_eq, dctO_ok, prs_nil, prs_cons, get_new, set_new, dPut, dHas, List.any_cons, List.any_nil, List.all_cons, List.all_nil, List.foldl_cons, List.foldl_nil, List.map_cons, List.map_nil, List.cons_append, List.nil_append, Option.some.injEq, Sum.inr.injEq, Sum.inl.injEq, Option.isSome_some, Bool.or_false, Bool.false_or, Bool.or_true, Bool.true_or, Bool.and_true, Bool.true_and, Bool.and_self, List.length_cons, List.length_nil, sizeLine_eq, Nat.reduceAdd, Nat.reduceLeDiff, Nat.reduceLT, and_self, and_true, true_and, false_and, and_false, Bool.or_self, Bool.and_false, Bool.false_and, reduceCtorEq, in_tup, memFlat_nil, memFlat_cons, eqFlat_ss, eqFlat_ii, flatA_str, flatA_int, cpow2, comp_eq, gs_nil, gs_cons, oI_int, chain_eq, all_new, any_new, meth_eq, mApp_append, appK_lst, appendA_r, appO_lst, aug_eq, ipAdd_ii, ipSub_ii, ipAdd_ss, len_t, itOf_str, isi_non, isi_bl, isi_int, isi_str, isi_tup, isiB, String.reduceBEq, Nat.reducePow, Int.reduceToNat, Int.reducePow, Int.reduceSub, Int.reduceNeg, Int.reduceAdd, Int.reduceMul, len_S hz.z, hle]
      rw [h3]
  obtain ⟨v, h', e1, rfl, rfl⟩ := okE_iff.mp key
  exact e1
end K14
namespace K14
open PySem PySem.Spec PyProof.Rows L2 Ev
def lsymL : List (List Nat) := [[40], [41], [123], [125], [91], [93], [44], [59], [61], [43], [45], [42], [47], [38], [124], [94], [60, 60], [62, 62], [60], [60, 61], [61, 61], [33, 61], [126], [33]]
theorem split_keys : (Txt.split (Str.ofString "KERNEL INT BUFFER SHARED LET ATOMIC IF ELSE WHILE BREAK CONTINUE RETURN BARRIER COLLECT PICK ADD MIN MAX REM AND OR XOR TID BID DIM GRID") (Str.ofString " ")) = keysL.map S := by kernel_rfl
theorem split_syms : (Txt.split (Str.ofString "( ) { } [ ] , ; = + - * / & | ^ << >> < <= == != ~ !") (Str.ofString " ")) = lsymL.map S := by kernel_rfl
theorem in_listS {l : List Nat} {ls : List (List Nat)} {p : Nat} {s : Sl} {h : AH} (e : h[p]? = some (.lst ((ls.map S).map AV.str))) : inA (.str (S l)) (.ref p) s h = .ok (.bl (decide (l ∈ ls))) h := by
  have e2 : (ls.map S).map AV.str = sTab ls := by rw [List.map_map]; rfl
  rw [e2] at e
  have a : (sTab ls).all flatA = true := by
    unfold sTab
    rw [List.all_map]
    simp [flatA]
  have b := in_sTab (l := l) (ls := ls) (s := s) (h := h)
  rw [in_tup, if_pos a] at b
  injection b with b
  injection b with b
  show rd (fun h => (inB (.str (S l)) (.ref p) h).map AV.bl) s h = _
  unfold rd inB seqOf
  dsimp only
  rw [lstOf_lst e]
  dsimp only
  have : flatA (.str (S l)) = true := rfl
  rw [this, Bool.true_and, if_pos a, b]
  rfl
/-! the law's kind of a piece -/
def allIn (g p : List Nat) : Bool := p.all (isIn g)
def headIn (g p : List Nat) : Bool := match p with
  | c :: _ => isIn g c
  | [] => false
def kindL (p : List Nat) : String :=
  if p ∈ keysL then "key" else if p ∈ lsymL then "symbol" else if allIn digL p = true then (if p.length < 11 then "number" else "")
  else if p.take 2 = [35, 45] ∧ (2 < p.length ∧ p.length < 13) ∧ allIn digL (p.drop 2) = true then (if nz (p.drop 2) = true then "negative" else "")
  else if headIn smallL p = true ∧ allIn (smallL ++ digL) p = true then "name" else ""
section
variable {cf : CF} {p : List Nat} {h : AH} {c1 c2 c3 c4 : Option AV}
theorem comp_in {m : EM IT} {i : Nat} {own : List Nat} {e : EM AV} {s : Sl} {h : AH} {l g : List Nat} (hm : m s h = .ok (.vals (charsA (S l))) h) (he : ∀ c ∈ l, ∀ h', e ((wipeA s own).set i (some (.str (S [c])))) h' = .ok (.bl (decide (c ∈ g))) h') (hz : big l) :
    compM m (.nm i) own (ret true) e s h = .ok (.ref h.length) (h ++ [.lst ((l.map (isIn g)).map AV.bl)]) := by
  have key := comp_map (m := m) (i := i) (own := own) (e := e) (s := s) (h := h) (h1 := h) (xs := charsA (S l)) hm (fun x => match x with
    | .str z => .bl (decide ((z.cps.toList.headD 0) ∈ g))
    | x => x) (fun x hx h' => by
      rw [S_chars] at hx
      obtain ⟨c, hc, rfl⟩ := List.mem_map.mp hx
      rw [he c hc]
      rfl) (by rw [S_chars, List.length_map]; unfold turnsMax; unfold big at hz; omega) (by rw [S_chars, List.length_map]; exact hz.z)
  rw [key, S_chars, List.map_map, List.map_map]
  rfl
theorem kc1 (hz : big p) : s_law_kind_c1 cf [some (.str (S p)), c1, some (.str (S digL)), c3, c4] h = .ok (.ref h.length) (h ++ [.lst ((p.map (isIn digL)).map AV.bl)]) := by
  unfold s_law_kind_c1
  refine comp_in (l := p) (g := digL) ?_ (fun c hc h' => ?_) hz
  · simp only [seqS_eq, bdS_eq, bd_eq, ifS_eq, thn_nx, thn_rt, thn_bk, thn_ct, thn_exc, thn_bad, thS_ok, thS_exc, thS_bad, thE_ok, thE_exc, thE_bad, thIf_ok, thIf_exc, thIf_bad, ret_eq, setS_eq, retS_eq, skipS_eq, alloc_eq, callM_eq, evs_nil, evs_cons, asBool_bl, tru_bl, tru_int, tru_non, tru_tup, runR_nx, runR_rt, runR_exc, runR_bad, runR_ite, thn_ite, thS_ite, thE_ite, ite_app2, ite_app2S, add_ii, sub_ii, mul_ii, fdiv_ii, mod_ii, pow_ii, shl_ii, shr_ii, band_ii, bor_ii, bxor_ii, neg_i, lt_ii, le_ii, gt_ii, ge_ii, eq_ii, eq_ss, eq_bb, ne_ii, ne_ss, ne_bb, isN_non, isN_int, isN_tup, isN_ref, isN_str, int_i, int_b, abs_i, max_ii, min_ii, slotM, idx_r, idx_t, idxO_lst, idxO_fro, atO_some, stIx_r, len_r, lenO_lst, lenO_fro, list_r, listO_lst, listO_fro, andT_one, andT_two, orT_one, orT_two, andV_one, andV_two, orV_one, orV_two, asg_eq, subG_eq, onlyNx_eq, nxo_nx, lst_eq, tup_eq, pat_nm, forS_eq, okS_nx, okS_rt, okS_bk, okS_ct, okS_exc, okE_oke, List.getElem?_cons_zero, List.getElem?_cons_succ, List.set_cons_zero, List.set_cons_succ, ofString_inj, decide_eq_true_eq, Bool.not_eq_true', decide_eq_false_iff_not, reduceIte, if_true, if_false, Int.reduceLT, Int.reduceLE, Int.reduceEq, Int.reduceNe, decide_true, decide_false, Bool.false_eq_true, String.reduceEq, Bool.not_true, Bool.not_false, idxO_dct, stIxO_dct, keyV_str, keyV_int, isKd_nil, isKd_cons, dLook_nil, dLook_cons, dct_eq, dctO_ok, prs_nil, prs_cons, get_new, set_new, dPut, dHas, List.any_cons, List.any_nil, List.all_cons, List.all_nil, List.foldl_cons, List.foldl_nil, List.map_cons, List.map_nil, List.cons_append, List.nil_append, Option.some.injEq, Sum.inr.injEq, Sum.inl.injEq, Option.isSome_some, Bool.or_false, Bool.false_or, Bool.or_true, Bool.true_or, Bool.and_true, Bool.true_and, Bool.and_self, List.length_cons, List.length_nil, sizeLine_eq, Nat.reduceAdd, Nat.reduceLeDiff, Nat.reduceLT, and_self, and_true, true_and, false_and, and_false, Bool.or_self, Bool.and_false, Bool.false_and, reduceCtorEq, in_tup, memFlat_nil, memFlat_cons, eqFlat_ss, eqFlat_ii, flatA_str, flatA_int, cpow2, comp_eq, gs_nil, gs_cons, oI_int, chain_eq, all_new, any_new, meth_eq, mApp_append, appK_lst, appendA_r, appO_lst, aug_eq, ipAdd_ii, ipSub_ii, ipAdd_ss, len_t, itOf_str, isi_non, isi_bl, isi_int, isi_str, isi_tup, isiB, String.reduceBEq, Nat.reducePow, Int.reduceToNat, Int.reducePow, Int.reduceSub, Int.reduceNeg, Int.reduceAdd, Int.reduceMul]
  · simp only [seqS_eq, bdS_eq, bd_eq, ifS_eq, thn_nx, thn_rt, thn_bk, thn_ct, thn_exc, thn_bad, thS_ok, thS_exc, thS_bad, thE_ok, thE_exc, thE_bad, thIf_ok, thIf_exc, thIf_bad, ret_eq, setS_eq, retS_eq, skipS_eq, alloc_eq, callM_eq, evs_nil, evs_cons, asBool_bl, tru_bl, tru_int, tru_non, tru_tup, runR_nx, runR_rt, runR_exc, runR_bad, runR_ite, thn_ite, thS_ite, thE_ite, ite_app2, ite_app2S, add_ii, sub_ii, mul_ii, fdiv_ii, mod_ii, pow_ii, shl_ii, shr_ii, band_ii, bor_ii, bxor_ii, neg_i, lt_ii, le_ii, gt_ii, ge_ii, eq_ii, eq_ss, eq_bb, ne_ii, ne_ss, ne_bb, isN_non, isN_int, isN_tup, isN_ref, isN_str, int_i, int_b, abs_i, max_ii, min_ii, slotM, idx_r, idx_t, idxO_lst, idxO_fro, atO_some, stIx_r, len_r, lenO_lst, lenO_fro, list_r, listO_lst, listO_fro, andT_one, andT_two, orT_one, orT_two, andV_one, andV_two, orV_one, orV_two, asg_eq, subG_eq, onlyNx_eq, nxo_nx, lst_eq, tup_eq, pat_nm, forS_eq, okS_nx, okS_rt, okS_bk, okS_ct, okS_exc, okE_oke, List.getElem?_cons_zero, List.getElem?_cons_succ, List.set_cons_zero, List.set_cons_succ, ofString_inj, decide_eq_true_eq, Bool.not_eq_true', decide_eq_false_iff_not, reduceIte, if_true, if_false, Int.reduceLT, Int.reduceLE, Int.reduceEq, Int.reduceNe, decide_true, decide_false, Bool.false_eq_true, String.reduceEq, Bool.not_true, Bool.not_false, idxO_dct, stIxO_dct, keyV_str, keyV_int, isKd_nil, isKd_cons, dLook_nil, dLook_cons, dct_eq, dctO_ok, prs_nil, prs_cons, get_new, set_new, dPut, dHas, List.any_cons, List.any_nil, List.all_cons, List.all_nil, List.foldl_cons, List.foldl_nil, List.map_cons, List.map_nil, List.cons_append, List.nil_append, Option.some.injEq, Sum.inr.injEq, Sum.inl.injEq, Option.isSome_some, Bool.or_false, Bool.false_or, Bool.or_true, Bool.true_or, Bool.and_true, Bool.true_and, Bool.and_self, List.length_cons, List.length_nil, sizeLine_eq, Nat.reduceAdd, Nat.reduceLeDiff, Nat.reduceLT, and_self, and_true, true_and, false_and, and_false, Bool.or_self, Bool.and_false, Bool.false_and, reduceCtorEq, in_tup, memFlat_nil, memFlat_cons, eqFlat_ss, eqFlat_ii, flatA_str, flatA_int, cpow2, comp_eq, gs_nil, gs_cons, oI_int, chain_eq, all_new, any_new, meth_eq, mApp_append, appK_lst, appendA_r, appO_lst, aug_eq, ipAdd_ii, ipSub_ii, ipAdd_ss, len_t, itOf_str, isi_non, isi_bl, isi_int, isi_str, isi_tup, isiB, String.reduceBEq, Nat.reducePow, Int.reduceToNat, Int.reducePow, Int.reduceSub, Int.reduceNeg, Int.reduceAdd, Int.reduceMul, wipeA, in_S]
theorem kc2 (hz : big p) : s_law_kind_c2 cf [some (.str (S p)), c1, some (.str (S digL)), c3, c4] h = .ok (.ref h.length) (h ++ [.lst (((p.drop 2).map (isIn digL)).map AV.bl)]) := by
  unfold s_law_kind_c2
  have ct : cutS (S p) (some 2) none = S (p.drop 2) := cut_tail (i := 2)
  refine comp_in (l := p.drop 2) (g := digL) ?_ (fun c hc h' => ?_) (by unfold big at *; simp; omega)
  · simp only [seqS_eq, bdS_eq, bd_eq, ifS_eq, thn_nx, thn_rt, thn_bk, thn_ct, thn_exc, thn_bad, thS_ok, thS_exc, thS_bad, thE_ok, thE_exc, thE_bad, thIf_ok, thIf_exc, thIf_bad, ret_eq, setS_eq, retS_eq, skipS_eq, alloc_eq, callM_eq, evs_nil, evs_cons, asBool_bl, tru_bl, tru_int, tru_non, tru_tup, runR_nx, runR_rt, runR_exc, runR_bad, runR_ite, thn_ite, thS_ite, thE_ite, ite_app2, ite_app2S, add_ii, sub_ii, mul_ii, fdiv_ii, mod_ii, pow_ii, shl_ii, shr_ii, band_ii, bor_ii, bxor_ii, neg_i, lt_ii, le_ii, gt_ii, ge_ii, eq_ii, eq_ss, eq_bb, ne_ii, ne_ss, ne_bb, isN_non, isN_int, isN_tup, isN_ref, isN_str, int_i, int_b, abs_i, max_ii, min_ii, slotM, idx_r, idx_t, idxO_lst, idxO_fro, atO_some, stIx_r, len_r, lenO_lst, lenO_fro, list_r, listO_lst, listO_fro, andT_one, andT_two, orT_one, orT_two, andV_one, andV_two, orV_one, orV_two, asg_eq, subG_eq, onlyNx_eq, nxo_nx, lst_eq, tup_eq, pat_nm, forS_eq, okS_nx, okS_rt, okS_bk, okS_ct, okS_exc, okE_oke, List.getElem?_cons_zero, List.getElem?_cons_succ, List.set_cons_zero, List.set_cons_succ, ofString_inj, decide_eq_true_eq, Bool.not_eq_true', decide_eq_false_iff_not, reduceIte, if_true, if_false, Int.reduceLT, Int.reduceLE, Int.reduceEq, Int.reduceNe, decide_true, decide_false, Bool.false_eq_true, String.reduceEq, Bool.not_true, Bool.not_false, idxO_dct, stIxO_dct, keyV_str, keyV_int, isKd_nil, isKd_cons, dLook_nil, dLook_cons, dct_eq, dctO_ok, prs_nil, prs_cons, get_new, set_new, dPut, dHas, List.any_cons, List.any_nil, List.all_cons, List.all_nil, List.foldl_cons, List.foldl_nil, List.map_cons, List.map_nil, List.cons_append, List.nil_append, Option.some.injEq, Sum.inr.injEq, Sum.inl.injEq, Option.isSome_some, Bool.or_false, Bool.false_or, Bool.or_true, Bool.true_or, Bool.and_true, Bool.true_and, Bool.and_self, List.length_cons, List.length_nil, sizeLine_eq, Nat.reduceAdd, Nat.reduceLeDiff, Nat.reduceLT, and_self, and_true, true_and, false_and, and_false, Bool.or_self, Bool.and_false, Bool.false_and, reduceCtorEq, in_tup, memFlat_nil, memFlat_cons, eqFlat_ss, eqFlat_ii, flatA_str, flatA_int, cpow2, comp_eq, gs_nil, gs_cons, oI_int, chain_eq, all_new, any_new, meth_eq, mApp_append, appK_lst, appendA_r, appO_lst, aug_eq, ipAdd_ii, ipSub_ii, ipAdd_ss, len_t, itOf_str, isi_non, isi_bl, isi_int, isi_str, isi_tup, isiB, String.reduceBEq, Nat.reducePow, Int.reduceToNat, Int.reducePow, Int.reduceSub, Int.reduceNeg, Int.reduceAdd, Int.reduceMul, slc_S hz.z, ct]
  · simp only [seqS_eq, bdS_eq, bd_eq, ifS_eq, thn_nx, thn_rt, thn_bk, thn_ct, thn_exc, thn_bad, thS_ok, thS_exc, thS_bad, thE_ok, thE_exc, thE_bad, thIf_ok, thIf_exc, thIf_bad, ret_eq, setS_eq, retS_eq, skipS_eq, alloc_eq, callM_eq, evs_nil, evs_cons, asBool_bl, tru_bl, tru_int, tru_non, tru_tup, runR_nx, runR_rt, runR_exc, runR_bad, runR_ite, thn_ite, thS_ite, thE_ite, ite_app2, ite_app2S, add_ii, sub_ii, mul_ii, fdiv_ii, mod_ii, pow_ii, shl_ii, shr_ii, band_ii, bor_ii, bxor_ii, neg_i, lt_ii, le_ii, gt_ii, ge_ii, eq_ii, eq_ss, eq_bb, ne_ii, ne_ss, ne_bb, isN_non, isN_int, isN_tup, isN_ref, isN_str, int_i, int_b, abs_i, max_ii, min_ii, slotM, idx_r, idx_t, idxO_lst, idxO_fro, atO_some, stIx_r, len_r, lenO_lst, lenO_fro, list_r, listO_lst, listO_fro, andT_one, andT_two, orT_one, orT_two, andV_one, andV_two, orV_one, orV_two, asg_eq, subG_eq, onlyNx_eq, nxo_nx, lst_eq, tup_eq, pat_nm, forS_eq, okS_nx, okS_rt, okS_bk, okS_ct, okS_exc, okE_oke, List.getElem?_cons_zero, List.getElem?_cons_succ, List.set_cons_zero, List.set_cons_succ, ofString_inj, decide_eq_true_eq, Bool.not_eq_true', decide_eq_false_iff_not, reduceIte, if_true, if_false, Int.reduceLT, Int.reduceLE, Int.reduceEq, Int.reduceNe, decide_true, decide_false, Bool.false_eq_true, String.reduceEq, Bool.not_true, Bool.not_false, idxO_dct, stIxO_dct, keyV_str, keyV_int, isKd_nil, isKd_cons, dLook_nil, dLook_cons, dct_eq, dctO_ok, prs_nil, prs_cons, get_new, set_new, dPut, dHas, List.any_cons, List.any_nil, List.all_cons, List.all_nil, List.foldl_cons, List.foldl_nil, List.map_cons, List.map_nil, List.cons_append, List.nil_append, Option.some.injEq, Sum.inr.injEq, Sum.inl.injEq, Option.isSome_some, Bool.or_false, Bool.false_or, Bool.or_true, Bool.true_or, Bool.and_true, Bool.true_and, Bool.and_self, List.length_cons, List.length_nil, sizeLine_eq, Nat.reduceAdd, Nat.reduceLeDiff, Nat.reduceLT, and_self, and_true, true_and, false_and, and_false, Bool.or_self, Bool.and_false, Bool.false_and, reduceCtorEq, in_tup, memFlat_nil, memFlat_cons, eqFlat_ss, eqFlat_ii, flatA_str, flatA_int, cpow2, comp_eq, gs_nil, gs_cons, oI_int, chain_eq, all_new, any_new, meth_eq, mApp_append, appK_lst, appendA_r, appO_lst, aug_eq, ipAdd_ii, ipSub_ii, ipAdd_ss, len_t, itOf_str, isi_non, isi_bl, isi_int, isi_str, isi_tup, isiB, String.reduceBEq, Nat.reducePow, Int.reduceToNat, Int.reducePow, Int.reduceSub, Int.reduceNeg, Int.reduceAdd, Int.reduceMul, wipeA, in_S]
theorem kc4 (hz : big p) : s_law_kind_c4 cf [some (.str (S p)), some (.str (S smallL)), some (.str (S digL)), c3, c4] h = .ok (.ref h.length) (h ++ [.lst ((p.map (isIn (smallL ++ digL))).map AV.bl)]) := by
  unfold s_law_kind_c4
  have le36 : (S smallL).length + (S digL).length ≤ 16777216 := by rw [S_len, S_len]; decide
  refine comp_in (l := p) (g := smallL ++ digL) ?_ (fun c hc h' => ?_) hz
  · simp only [seqS_eq, bdS_eq, bd_eq, ifS_eq, thn_nx, thn_rt, thn_bk, thn_ct, thn_exc, thn_bad, thS_ok, thS_exc, thS_bad, thE_ok, thE_exc, thE_bad, thIf_ok, thIf_exc, thIf_bad, ret_eq, setS_eq, retS_eq, skipS_eq, alloc_eq, callM_eq, evs_nil, evs_cons, asBool_bl, tru_bl, tru_int, tru_non, tru_tup, runR_nx, runR_rt, runR_exc, runR_bad, runR_ite, thn_ite, thS_ite, thE_ite, ite_app2, ite_app2S, add_ii, sub_ii, mul_ii, fdiv_ii, mod_ii, pow_ii, shl_ii, shr_ii, band_ii, bor_ii, bxor_ii, neg_i, lt_ii, le_ii, gt_ii, ge_ii, eq_ii, eq_ss, eq_bb, ne_ii, ne_ss, ne_bb, isN_non, isN_int, isN_tup, isN_ref, isN_str, int_i, int_b, abs_i, max_ii, min_ii, slotM, idx_r, idx_t, idxO_lst, idxO_fro, atO_some, stIx_r, len_r, lenO_lst, lenO_fro, list_r, listO_lst, listO_fro, andT_one, andT_two, orT_one, orT_two, andV_one, andV_two, orV_one, orV_two, asg_eq, subG_eq, onlyNx_eq, nxo_nx, lst_eq, tup_eq, pat_nm, forS_eq, okS_nx, okS_rt, okS_bk, okS_ct, okS_exc, okE_oke, List.getElem?_cons_zero, List.getElem?_cons_succ, List.set_cons_zero, List.set_cons_succ, ofString_inj, decide_eq_true_eq, Bool.not_eq_true', decide_eq_false_iff_not, reduceIte, if_true, if_false, Int.reduceLT, Int.reduceLE, Int.reduceEq, Int.reduceNe, decide_true, decide_false, Bool.false_eq_true, String.reduceEq, Bool.not_true, Bool.not_false, idxO_dct, stIxO_dct, keyV_str, keyV_int, isKd_nil, isKd_cons, dLook_nil, dLook_cons, dct_eq, dctO_ok, prs_nil, prs_cons, get_new, set_new, dPut, dHas, List.any_cons, List.any_nil, List.all_cons, List.all_nil, List.foldl_cons, List.foldl_nil, List.map_cons, List.map_nil, List.cons_append, List.nil_append, Option.some.injEq, Sum.inr.injEq, Sum.inl.injEq, Option.isSome_some, Bool.or_false, Bool.false_or, Bool.or_true, Bool.true_or, Bool.and_true, Bool.true_and, Bool.and_self, List.length_cons, List.length_nil, sizeLine_eq, Nat.reduceAdd, Nat.reduceLeDiff, Nat.reduceLT, and_self, and_true, true_and, false_and, and_false, Bool.or_self, Bool.and_false, Bool.false_and, reduceCtorEq, in_tup, memFlat_nil, memFlat_cons, eqFlat_ss, eqFlat_ii, flatA_str, flatA_int, cpow2, comp_eq, gs_nil, gs_cons, oI_int, chain_eq, all_new, any_new, meth_eq, mApp_append, appK_lst, appendA_r, appO_lst, aug_eq, ipAdd_ii, ipSub_ii, ipAdd_ss, len_t, itOf_str, isi_non, isi_bl, isi_int, isi_str, isi_tup, isiB, String.reduceBEq, Nat.reducePow, Int.reduceToNat, Int.reducePow, Int.reduceSub, Int.reduceNeg, Int.reduceAdd, Int.reduceMul]
  · simp only [seqS_eq, bdS_eq, bd_eq, ifS_eq, thn_nx, thn_rt, thn_bk, thn_ct, thn_exc, thn_bad, thS_ok, thS_exc, thS_bad, thE_ok, thE_exc, thE_bad, thIf_ok, thIf_exc, thIf_bad, ret_eq, setS_eq, retS_eq, skipS_eq, alloc_eq, callM_eq, evs_nil, evs_cons, asBool_bl, tru_bl, tru_int, tru_non, tru_tup, runR_nx, runR_rt, runR_exc, runR_bad, runR_ite, thn_ite, thS_ite, thE_ite, ite_app2, ite_app2S, add_ii, sub_ii, mul_ii, fdiv_ii, mod_ii, pow_ii, shl_ii, shr_ii, band_ii, bor_ii, bxor_ii, neg_i, lt_ii, le_ii, gt_ii, ge_ii, eq_ii, eq_ss, eq_bb, ne_ii, ne_ss, ne_bb, isN_non, isN_int, isN_tup, isN_ref, isN_str, int_i, int_b, abs_i, max_ii, min_ii, slotM, idx_r, idx_t, idxO_lst, idxO_fro, atO_some, stIx_r, len_r, lenO_lst, lenO_fro, list_r, listO_lst, listO_fro, andT_one, andT_two, orT_one, orT_two, andV_one, andV_two, orV_one, orV_two, asg_eq, subG_eq, onlyNx_eq, nxo_nx, lst_eq, tup_eq, pat_nm, forS_eq, okS_nx, okS_rt, okS_bk, okS_ct, okS_exc, okE_oke, List.getElem?_cons_zero, List.getElem?_cons_succ, List.set_cons_zero, List.set_cons_succ, ofString_inj, decide_eq_true_eq, Bool.not_eq_true', decide_eq_false_iff_not, reduceIte, if_true, if_false, Int.reduceLT, Int.reduceLE, Int.reduceEq, Int.reduceNe, decide_true, decide_false, Bool.false_eq_true, String.reduceEq, Bool.not_true, Bool.not_false, idxO_dct, stIxO_dct, keyV_str, keyV_int, isKd_nil, isKd_cons, dLook_nil, dLook_cons, dct_eq, dctO_ok, prs_nil, prs_cons, get_new, set_new, dPut, dHas, List.any_cons, List.any_nil, List.all_cons, List.all_nil, List.foldl_cons, List.foldl_nil, List.map_cons, List.map_nil, List.cons_append, List.nil_append, Option.some.injEq, Sum.inr.injEq, Sum.inl.injEq, Option.isSome_some, Bool.or_false, Bool.false_or, Bool.or_true, Bool.true_or, Bool.and_true, Bool.true_and, Bool.and_self, List.length_cons, List.length_nil, sizeLine_eq, Nat.reduceAdd, Nat.reduceLeDiff, Nat.reduceLT, and_self, and_true, true_and, false_and, and_false, Bool.or_self, Bool.and_false, Bool.false_and, reduceCtorEq, in_tup, memFlat_nil, memFlat_cons, eqFlat_ss, eqFlat_ii, flatA_str, flatA_int, cpow2, comp_eq, gs_nil, gs_cons, oI_int, chain_eq, all_new, any_new, meth_eq, mApp_append, appK_lst, appendA_r, appO_lst, aug_eq, ipAdd_ii, ipSub_ii, ipAdd_ss, len_t, itOf_str, isi_non, isi_bl, isi_int, isi_str, isi_tup, isiB, String.reduceBEq, Nat.reducePow, Int.reduceToNat, Int.reducePow, Int.reduceSub, Int.reduceNeg, Int.reduceAdd, Int.reduceMul, wipeA, add_ss, le36, S_app, in_S]
theorem kc3 (hz : big p) : s_law_kind_c3 cf [some (.str (S p)), c1, c2, c3, c4] h = .ok (.ref h.length) (h ++ [.lst (((p.drop 2).map (fun c => c != 48)).map AV.bl)]) := by
  unfold s_law_kind_c3
  have ct : cutS (S p) (some 2) none = S (p.drop 2) := cut_tail (i := 2)
  have l2 : (p.drop 2).length ≤ p.length := by simp
  have key := comp_map (m := (bd (bd (slotM 0) fun x => bd (bd (ret (.int (2))) oI) fun i => bd (ret (none : Option Int)) fun j => slcA x i j) itOf)) (i := 4) (own := [4]) (e := (bd (slotM 4) fun x13 => bd (ret (.str "0")) fun y14 => neA x13 y14)) (s := [some (.str (S p)), c1, c2, c3, c4]) (h := h) (h1 := h) (xs := charsA (S (p.drop 2))) (by simp only [seqS_eq, bdS_eq, bd_eq, ifS_eq, thn_nx, thn_rt, thn_bk, thn_ct, thn_exc, thn_bad, thS_ok, thS_exc, thS_bad, thE_ok, thE_exc, thE_bad, thIf_ok, thIf_exc, thIf_bad, ret_eq, setS_eq, retS_eq, skipS_eq, alloc_eq, callM_eq, evs_nil, evs_cons, asBool_bl, tru_bl, tru_int, tru_non, tru_tup, runR_nx, runR_rt, runR_exc, runR_bad, runR_ite, thn_ite, thS_ite, thE_ite, ite_app2, ite_app2S, add_ii, sub_ii, mul_ii, fdiv_ii, mod_ii, pow_ii, shl_ii, shr_ii, band_ii, bor_ii, bxor_ii, neg_i, lt_ii, le_ii, gt_ii, ge_ii, eq_ii, eq_ss, eq_bb, ne_ii, ne_ss, ne_bb, isN_non, isN_int, isN_tup, isN_ref, isN_str, int_i, int_b, abs_i, max_ii, min_ii, slotM, idx_r, idx_t, idxO_lst, idxO_fro, atO_some, stIx_r, len_r, lenO_lst, lenO_fro, list_r, listO_lst, listO_fro, andT_one, andT_two, orT_one, orT_two, andV_one, andV_two, orV_one, orV_two, asg_eq, subG_eq, onlyNx_eq, nxo_nx, lst_eq, tup_eq, pat_nm, forS_eq, okS_nx, okS_rt, okS_bk, okS_ct, okS_exc, okE_oke, List.getElem?_cons_zero, List.getElem?_cons_succ, List.set_cons_zero, List.set_cons_succ, ofString_inj, decide_eq_true_eq, Bool.not_eq_true', decide_eq_false_iff_not, reduceIte, if_true, if_false, Int.reduceLT, Int.reduceLE, Int.reduceEq, Int.reduceNe, decide_true, decide_false, Bool.false_eq_true, String.reduceEq, Bool.not_true, Bool.not_false, idxO_dct, stIxO_dct, keyV_str, keyV_int, isKd_nil, isKd_cons, dLook_nil, dLook_cons, dct_eq, dctO_ok, prs_nil, prs_cons, get_new, set_new, dPut, dHas, List.any_cons, List.any_nil, List.all_cons, List.all_nil, List.foldl_cons, List.foldl_nil, List.map_cons, List.map_nil, List.cons_append, List.nil_append, Option.some.injEq, Sum.inr.injEq, Sum.inl.injEq, Option.isSome_some, Bool.or_false, Bool.false_or, Bool.or_true, Bool.true_or, Bool.and_true, Bool.true_and, Bool.and_self, List.length_cons, List.length_nil, sizeLine_eq, Nat.reduceAdd, Nat.reduceLeDiff, Nat.reduceLT, and_self, and_true, true_and, false_and, and_false, Bool.or_self, Bool.and_false, Bool.false_and, reduceCtorEq, in_tup, memFlat_nil, memFlat_cons, eqFlat_ss, eqFlat_ii, flatA_str, flatA_int, cpow2, comp_eq, gs_nil, gs_cons, oI_int, chain_eq, all_new, any_new, meth_eq, mApp_append, appK_lst, appendA_r, appO_lst, aug_eq, ipAdd_ii, ipSub_ii, ipAdd_ss, len_t, itOf_str, isi_non, isi_bl, isi_int, isi_str, isi_tup, isiB, String.reduceBEq, Nat.reducePow, Int.reduceToNat, Int.reducePow, Int.reduceSub, Int.reduceNeg, Int.reduceAdd, Int.reduceMul, slc_S hz.z, ct]) (fun x => match x with
    | .str z => .bl ((z.cps.toList.headD 0) != 48)
    | x => x) (fun x hx h' => by
      rw [S_chars] at hx
      obtain ⟨c, hc, rfl⟩ := List.mem_map.mp hx
      simp only [seqS_eq, bdS_eq, bd_eq, ifS_eq, thn_nx, thn_rt, thn_bk, thn_ct, thn_exc, thn_bad, thS_ok, thS_exc, thS_bad, thE_ok, thE_exc, thE_bad, thIf_ok, thIf_exc, thIf_bad, ret_eq, setS_eq, retS_eq, skipS_eq, alloc_eq, callM_eq, evs_nil, evs_cons, asBool_bl, tru_bl, tru_int, tru_non, tru_tup, runR_nx, runR_rt, runR_exc, runR_bad, runR_ite, thn_ite, thS_ite, thE_ite, ite_app2, ite_app2S, add_ii, sub_ii, mul_ii, fdiv_ii, mod_ii, pow_ii, shl_ii, shr_ii, band_ii, bor_ii, bxor_ii, neg_i, lt_ii, le_ii, gt_ii, ge_ii, eq_ii, eq_ss, eq_bb, ne_ii, ne_ss, ne_bb, isN_non, isN_int, isN_tup, isN_ref, isN_str, int_i, int_b, abs_i, max_ii, min_ii, slotM, idx_r, idx_t, idxO_lst, idxO_fro, atO_some, stIx_r, len_r, lenO_lst, lenO_fro, list_r, listO_lst, listO_fro, andT_one, andT_two, orT_one, orT_two, andV_one, andV_two, orV_one, orV_two, asg_eq, subG_eq, onlyNx_eq, nxo_nx, lst_eq, tup_eq, pat_nm, forS_eq, okS_nx, okS_rt, okS_bk, okS_ct, okS_exc, okE_oke, List.getElem?_cons_zero, List.getElem?_cons_succ, List.set_cons_zero, List.set_cons_succ, ofString_inj, decide_eq_true_eq, Bool.not_eq_true', decide_eq_false_iff_not, reduceIte, if_true, if_false, Int.reduceLT, Int.reduceLE, Int.reduceEq, Int.reduceNe, decide_true, decide_false, Bool.false_eq_true, String.reduceEq, Bool.not_true, Bool.not_false, idxO_dct, stIxO_dct, keyV_str, keyV_int, isKd_nil, isKd_cons, dLook_nil, dLook_cons, dct_eq, dctO_ok, prs_nil, prs_cons, get_new, set_new, dPut, dHas, List.any_cons, List.any_nil, List.all_cons, List.all_nil, List.foldl_cons, List.foldl_nil, List.map_cons, List.map_nil, List.cons_append, List.nil_append, Option.some.injEq, Sum.inr.injEq, Sum.inl.injEq, Option.isSome_some, Bool.or_false, Bool.false_or, Bool.or_true, Bool.true_or, Bool.and_true, Bool.true_and, Bool.and_self, List.length_cons, List.length_nil, sizeLine_eq, Nat.reduceAdd, Nat.reduceLeDiff, Nat.reduceLT, and_self, and_true, true_and, false_and, and_false, Bool.or_self, Bool.and_false, Bool.false_and, reduceCtorEq, in_tup, memFlat_nil, memFlat_cons, eqFlat_ss, eqFlat_ii, flatA_str, flatA_int, cpow2, comp_eq, gs_nil, gs_cons, oI_int, chain_eq, all_new, any_new, meth_eq, mApp_append, appK_lst, appendA_r, appO_lst, aug_eq, ipAdd_ii, ipSub_ii, ipAdd_ss, len_t, itOf_str, isi_non, isi_bl, isi_int, isi_str, isi_tup, isiB, String.reduceBEq, Nat.reducePow, Int.reduceToNat, Int.reducePow, Int.reduceSub, Int.reduceNeg, Int.reduceAdd, Int.reduceMul, wipeA, l_0, S_inj]
      show RE.ok (AV.bl (!decide ([c] = [48]))) h' = RE.ok (AV.bl (c != 48)) h'
      by_cases q : c = 48
      · subst q; rfl
      · have : ([c] = [48]) = False := by simp [q]
        simp [this, q]) (by rw [S_chars, List.length_map]; unfold turnsMax; unfold big at hz; omega) (by rw [S_chars, List.length_map]; exact Nat.le_trans l2 hz.z)
  rw [key, S_chars, List.map_map, List.map_map]
  rfl
end
theorem all_map (g l : List Nat) : (l.map (isIn g)).all id = allIn g l := by
  rw [List.all_map]
  rfl
theorem nz_map (l : List Nat) : (l.map (fun c => c != 48)).any id = nz l := by
  rw [List.any_map]
  rfl
theorem kind_ok (k : Nat) {p : List Nat} {h : AH} (hz : big p) (hp : p ≠ []) : ∃ l, callA T fs (k + 1) "_law_kind" [.str (S p)] h = .ok (.str (kindL p)) (h ++ l) := by
  rw [c_law_kind]
  unfold s_law_kind s_law_kind_1 s_law_kind_2 s_law_kind_3 s_law_kind_4 s_law_kind_5 s_law_kind_6 s_law_kind_7 s_law_kind_8 s_law_kind_9 s_law_kind_10 s_law_kind_11 s_law_kind_12 s_law_kind_13 s_law_kind_14
  have z1 : ((Str.ofString "KERNEL INT BUFFER SHARED LET ATOMIC IF ELSE WHILE BREAK CONTINUE RETURN BARRIER COLLECT PICK ADD MIN MAX REM AND OR XOR TID BID DIM GRID").length + 2 ≤ 16777216) := by decide +kernel
  have z2 : ((Str.ofString "( ) { } [ ] , ; = + - * / & | ^ << >> < <= == != ~ !").length + 2 ≤ 16777216) := by decide +kernel
  have z3 : ((Str.ofString " ").length == 0) = false := by decide +kernel
  have ik : ∀ (s : Sl) (h : AH), inA (.str (S p)) (.ref h.length) s (h ++ [.lst ((keysL.map S).map AV.str)]) = .ok (.bl (decide (p ∈ keysL))) (h ++ [.lst ((keysL.map S).map AV.str)]) := fun s h => in_listS get_new
  have is : ∀ (s : Sl) (h : AH), inA (.str (S p)) (.ref h.length) s (h ++ [.lst ((lsymL.map S).map AV.str)]) = .ok (.bl (decide (p ∈ lsymL))) (h ++ [.lst ((lsymL.map S).map AV.str)]) := fun s h => in_listS get_new
  unfold kindL
  by_cases k1 : p ∈ keysL
  · rw [if_pos k1]
    simp only [seqS_eq, bdS_eq, bd_eq, ifS_eq, thn_nx, thn_rt, thn_bk, thn_ct, thn_exc, thn_bad, thS_ok, thS_exc, thS_bad, thE_ok, thE_exc, thE_bad, thIf_ok, thIf_exc, thIf_bad, ret_eq, setS_eq, retS_eq, skipS_eq, alloc_eq, callM_eq, evs_nil, evs_cons, asBool_bl, tru_bl, tru_int, tru_non, tru_tup, runR_nx, runR_rt, runR_exc, runR_bad, runR_ite, thn_ite, thS_ite, thE_ite, ite_app2, ite_app2S, add_ii, sub_ii, mul_ii, fdiv_ii, mod_ii, pow_ii, shl_ii, shr_ii, band_ii, bor_ii, bxor_ii, neg_i, lt_ii, le_ii, gt_ii, ge_ii, eq_ii, eq_ss, eq_bb, ne_ii, ne_ss, ne_bb, isN_non, isN_int, isN_tup, isN_ref, isN_str, int_i, int_b, abs_i, max_ii, min_ii, slotM, idx_r, idx_t, idxO_lst, idxO_fro, atO_some, stIx_r, len_r, lenO_lst, lenO_fro, list_r, listO_lst, listO_fro, andT_one, andT_two, orT_one, orT_two, andV_one, andV_two, orV_one, orV_two, asg_eq, subG_eq, onlyNx_eq, nxo_nx, lst_eq, tup_eq, pat_nm, forS_eq, okS_nx, okS_rt, okS_bk, okS_ct, okS_exc, okE_oke, List.getElem?_cons_zero, List.getElem?_cons_succ, List.set_cons_zero, List.set_cons_succ, ofString_inj, decide_eq_true_eq, Bool.not_eq_true', decide_eq_false_iff_not, reduceIte, if_true, if_false, Int.reduceLT, Int.reduceLE, Int.reduceEq, Int.reduceNe, decide_true, decide_false, Bool.false_eq_true, String.reduceEq, Bool.not_true, Bool.not_false, idxO_dct, stIxO_dct, keyV_str, keyV_int, isKd_nil, isKd_cons, dLook_nil, dLook_cons, dct_eq, dctO_ok, prs_nil, prs_cons, get_new, set_new, dPut, dHas, List.any_cons, List.any_nil, List.all_cons, List.all_nil, List.foldl_cons, List.foldl_nil, List.map_cons, List.map_nil, List.cons_append, List.nil_append, Option.some.injEq, Sum.inr.injEq, Sum.inl.injEq, Option.isSome_some, Bool.or_false, Bool.false_or, Bool.or_true, Bool.true_or, Bool.and_true, Bool.true_and, Bool.and_self, List.length_cons, List.length_nil, sizeLine_eq, Nat.reduceAdd, Nat.reduceLeDiff, Nat.reduceLT, and_self, and_true, true_and, false_and, and_false, Bool.or_self, Bool.and_false, Bool.false_and, reduceCtorEq, in_tup, memFlat_nil, memFlat_cons, eqFlat_ss, eqFlat_ii, flatA_str, flatA_int, cpow2, comp_eq, gs_nil, gs_cons, oI_int, chain_eq, all_new, any_new, meth_eq, mApp_append, appK_lst, appendA_r, appO_lst, aug_eq, ipAdd_ii, ipSub_ii, ipAdd_ss, len_t, itOf_str, isi_non, isi_bl, isi_int, isi_str, isi_tup, isiB, String.reduceBEq, Nat.reducePow, Int.reduceToNat, Int.reducePow, Int.reduceSub, Int.reduceNeg, Int.reduceAdd, Int.reduceMul, l_small, l_dig, mApp_split, splitA_ss, z1, z2, z3, split_keys, split_syms, ik, k1]
    exact ⟨_, rfl⟩
  rw [if_neg k1]
  by_cases k2 : p ∈ lsymL
  · rw [if_pos k2]
    simp only [seqS_eq, bdS_eq, bd_eq, ifS_eq, thn_nx, thn_rt, thn_bk, thn_ct, thn_exc, thn_bad, thS_ok, thS_exc, thS_bad, thE_ok, thE_exc, thE_bad, thIf_ok, thIf_exc, thIf_bad, ret_eq, setS_eq, retS_eq, skipS_eq, alloc_eq, callM_eq, evs_nil, evs_cons, asBool_bl, tru_bl, tru_int, tru_non, tru_tup, runR_nx, runR_rt, runR_exc, runR_bad, runR_ite, thn_ite, thS_ite, thE_ite, ite_app2, ite_app2S, add_ii, sub_ii, mul_ii, fdiv_ii, mod_ii, pow_ii, shl_ii, shr_ii, band_ii, bor_ii, bxor_ii, neg_i, lt_ii, le_ii, gt_ii, ge_ii, eq_ii, eq_ss, eq_bb, ne_ii, ne_ss, ne_bb, isN_non, isN_int, isN_tup, isN_ref, isN_str, int_i, int_b, abs_i, max_ii, min_ii, slotM, idx_r, idx_t, idxO_lst, idxO_fro, atO_some, stIx_r, len_r, lenO_lst, lenO_fro, list_r, listO_lst, listO_fro, andT_one, andT_two, orT_one, orT_two, andV_one, andV_two, orV_one, orV_two, asg_eq, subG_eq, onlyNx_eq, nxo_nx, lst_eq, tup_eq, pat_nm, forS_eq, okS_nx, okS_rt, okS_bk, okS_ct, okS_exc, okE_oke, List.getElem?_cons_zero, List.getElem?_cons_succ, List.set_cons_zero, List.set_cons_succ, ofString_inj, decide_eq_true_eq, Bool.not_eq_true', decide_eq_false_iff_not, reduceIte, if_true, if_false, Int.reduceLT, Int.reduceLE, Int.reduceEq, Int.reduceNe, decide_true, decide_false, Bool.false_eq_true, String.reduceEq, Bool.not_true, Bool.not_false, idxO_dct, stIxO_dct, keyV_str, keyV_int, isKd_nil, isKd_cons, dLook_nil, dLook_cons, dct_eq, dctO_ok, prs_nil, prs_cons, get_new, set_new, dPut, dHas, List.any_cons, List.any_nil, List.all_cons, List.all_nil, List.foldl_cons, List.foldl_nil, List.map_cons, List.map_nil, List.cons_append, List.nil_append, Option.some.injEq, Sum.inr.injEq, Sum.inl.injEq, Option.isSome_some, Bool.or_false, Bool.false_or, Bool.or_true, Bool.true_or, Bool.and_true, Bool.true_and, Bool.and_self, List.length_cons, List.length_nil, sizeLine_eq, Nat.reduceAdd, Nat.reduceLeDiff, Nat.reduceLT, and_self, and_true, true_and, false_and, and_false, Bool.or_self, Bool.and_false, Bool.false_and, reduceCtorEq, in_tup, memFlat_nil, memFlat_cons, eqFlat_ss, eqFlat_ii, flatA_str, flatA_int, cpow2, comp_eq, gs_nil, gs_cons, oI_int, chain_eq, all_new, any_new, meth_eq, mApp_append, appK_lst, appendA_r, appO_lst, aug_eq, ipAdd_ii, ipSub_ii, ipAdd_ss, len_t, itOf_str, isi_non, isi_bl, isi_int, isi_str, isi_tup, isiB, String.reduceBEq, Nat.reducePow, Int.reduceToNat, Int.reducePow, Int.reduceSub, Int.reduceNeg, Int.reduceAdd, Int.reduceMul, l_small, l_dig, mApp_split, splitA_ss, z1, z2, z3, split_keys, split_syms, ik, is, k1, k2]
    exact ⟨_, by rw [List.append_assoc]⟩
  rw [if_neg k2]
  by_cases k3 : allIn digL p = true
  · rw [if_pos k3]
    by_cases q : p.length < 11
    · have q' : (p.length : Int) < 11 := by omega
      simp only [seqS_eq, bdS_eq, bd_eq, ifS_eq, thn_nx, thn_rt, thn_bk, thn_ct, thn_exc, thn_bad, thS_ok, thS_exc, thS_bad, thE_ok, thE_exc, thE_bad, thIf_ok, thIf_exc, thIf_bad, ret_eq, setS_eq, retS_eq, skipS_eq, alloc_eq, callM_eq, evs_nil, evs_cons, asBool_bl, tru_bl, tru_int, tru_non, tru_tup, runR_nx, runR_rt, runR_exc, runR_bad, runR_ite, thn_ite, thS_ite, thE_ite, ite_app2, ite_app2S, add_ii, sub_ii, mul_ii, fdiv_ii, mod_ii, pow_ii, shl_ii, shr_ii, band_ii, bor_ii, bxor_ii, neg_i, lt_ii, le_ii, gt_ii, ge_ii, eq_ii, eq_ss, eq_bb, ne_ii, ne_ss, ne_bb, isN_non, isN_int, isN_tup, isN_ref, isN_str, int_i, int_b, abs_i, max_ii, min_ii, slotM, idx_r, idx_t, idxO_lst, idxO_fro, atO_some, stIx_r, len_r, lenO_lst, lenO_fro, list_r, listO_lst, listO_fro, andT_one, andT_two, orT_one, orT_two, andV_one, andV_two, orV_one, orV_two, asg_eq, subG_eq, onlyNx_eq, nxo_nx, lst_eq, tup_eq, pat_nm, forS_eq, okS_nx, okS_rt, okS_bk, okS_ct, okS_exc, okE_oke, List.getElem?_cons_zero, List.getElem?_cons_succ, List.set_cons_zero, List.set_cons_succ, ofString_inj, decide_eq_true_eq, Bool.not_eq_true', decide_eq_false_iff_not, reduceIte, if_true, if_false, Int.reduceLT, Int.reduceLE, Int.reduceEq, Int.reduceNe, decide_true, decide_false, Bool.false_eq_true, String.reduceEq, Bool.not_true, Bool.not_false, idxO_dct, stIxO_dct, keyV_str, keyV_int, isKd_nil, isKd_cons, dLook_nil, dLook_cons, dct_eq, dctO_ok, prs_nil, prs_cons, get_new, set_new, dPut, dHas, List.any_cons, List.any_nil, List.all_cons, List.all_nil, List.foldl_cons, List.foldl_nil, List.map_cons, List.map_nil, List.cons_append, List.nil_append, Option.some.injEq, Sum.inr.injEq, Sum.inl.injEq, Option.isSome_some, Bool.or_false, Bool.false_or, Bool.or_true, Bool.true_or, Bool.and_true, Bool.true_and, Bool.and_self, List.length_cons, List.length_nil, sizeLine_eq, Nat.reduceAdd, Nat.reduceLeDiff, Nat.reduceLT, and_self, and_true, true_and, false_and, and_false, Bool.or_self, Bool.and_false, Bool.false_and, reduceCtorEq, in_tup, memFlat_nil, memFlat_cons, eqFlat_ss, eqFlat_ii, flatA_str, flatA_int, cpow2, comp_eq, gs_nil, gs_cons, oI_int, chain_eq, all_new, any_new, meth_eq, mApp_append, appK_lst, appendA_r, appO_lst, aug_eq, ipAdd_ii, ipSub_ii, ipAdd_ss, len_t, itOf_str, isi_non, isi_bl, isi_int, isi_str, isi_tup, isiB, String.reduceBEq, Nat.reducePow, Int.reduceToNat, Int.reducePow, Int.reduceSub, Int.reduceNeg, Int.reduceAdd, Int.reduceMul, l_small, l_dig, mApp_split, splitA_ss, z1, z2, z3, split_keys, split_syms, ik, is, k1, k2, kc1 hz, all_map, k3, len_S hz.z, q, q']
      exact ⟨_, by rw [List.append_assoc, List.append_assoc]⟩
    · have q' : ¬ (p.length : Int) < 11 := by omega
      simp only [seqS_eq, bdS_eq, bd_eq, ifS_eq, thn_nx, thn_rt, thn_bk, thn_ct, thn_exc, thn_bad, thS_ok, thS_exc, thS_bad, thE_ok, thE_exc, thE_bad, thIf_ok, thIf_exc, thIf_bad, ret_eq, setS_eq, retS_eq, skipS_eq, alloc_eq, callM_eq, evs_nil, evs_cons, asBool_bl, tru_bl, tru_int, tru_non, tru_tup, runR_nx, runR_rt, runR_exc, runR_bad, runR_ite, thn_ite, thS_ite, thE_ite, ite_app2, ite_app2S, add_ii, sub_ii, mul_ii, fdiv_ii, mod_ii, pow_ii, shl_ii, shr_ii, band_ii, bor_ii, bxor_ii, neg_i, lt_ii, le_ii, gt_ii, ge_ii, eq_ii, eq_ss, eq_bb, ne_ii, ne_ss, ne_bb, isN_non, isN_int, isN_tup, isN_ref, isN_str, int_i, int_b, abs_i, max_ii, min_ii, slotM, idx_r, idx_t, idxO_lst, idxO_fro, atO_some, stIx_r, len_r, lenO_lst, lenO_fro, list_r, listO_lst, listO_fro, andT_one, andT_two, orT_one, orT_two, andV_one, andV_two, orV_one, orV_two, asg_eq, subG_eq, onlyNx_eq, nxo_nx, lst_eq, tup_eq, pat_nm, forS_eq, okS_nx, okS_rt, okS_bk, okS_ct, okS_exc, okE_oke, List.getElem?_cons_zero, List.getElem?_cons_succ, List.set_cons_zero, List.set_cons_succ, ofString_inj, decide_eq_true_eq, Bool.not_eq_true', decide_eq_false_iff_not, reduceIte, if_true, if_false, Int.reduceLT, Int.reduceLE, Int.reduceEq, Int.reduceNe, decide_true, decide_false, Bool.false_eq_true, String.reduceEq, Bool.not_true, Bool.not_false, idxO_dct, stIxO_dct, keyV_str, keyV_int, isKd_nil, isKd_cons, dLook_nil, dLook_cons, dct_eq, dctO_ok, prs_nil, prs_cons, get_new, set_new, dPut, dHas, List.any_cons, List.any_nil, List.all_cons, List.all_nil, List.foldl_cons, List.foldl_nil, List.map_cons, List.map_nil, List.cons_append, List.nil_append, Option.some.injEq, Sum.inr.injEq, Sum.inl.injEq, Option.isSome_some, Bool.or_false, Bool.false_or, Bool.or_true, Bool.true_or, Bool.and_true, Bool.true_and, Bool.and_self, List.length_cons, List.length_nil, sizeLine_eq, Nat.reduceAdd, Nat.reduceLeDiff, Nat.reduceLT, and_self, and_true, true_and, false_and, and_false, Bool.or_self, Bool.and_false, Bool.false_and, reduceCtorEq, in_tup, memFlat_nil, memFlat_cons, eqFlat_ss, eqFlat_ii, flatA_str, flatA_int, cpow2, comp_eq, gs_nil, gs_cons, oI_int, chain_eq, all_new, any_new, meth_eq, mApp_append, appK_lst, appendA_r, appO_lst, aug_eq, ipAdd_ii, ipSub_ii, ipAdd_ss, len_t, itOf_str, isi_non, isi_bl, isi_int, isi_str, isi_tup, isiB, String.reduceBEq, Nat.reducePow, Int.reduceToNat, Int.reducePow, Int.reduceSub, Int.reduceNeg, Int.reduceAdd, Int.reduceMul, l_small, l_dig, mApp_split, splitA_ss, z1, z2, z3, split_keys, split_syms, ik, is, k1, k2, kc1 hz, all_map, k3, len_S hz.z, q, q']
      exact ⟨_, by rw [List.append_assoc, List.append_assoc]⟩
  rw [if_neg k3]
  have ct : cutS (S p) none (some 2) = S (p.take 2) := cut_head (j := 2)
  by_cases k4 : p.take 2 = [35, 45] ∧ (2 < p.length ∧ p.length < 13) ∧ allIn digL (p.drop 2) = true
  · rw [if_pos k4]
    obtain ⟨k5, ⟨k6, k7⟩, k8⟩ := k4
    have k6' : (2 : Int) < (p.length : Int) := by omega
    have k7' : (p.length : Int) < 13 := by omega
    by_cases q : nz (p.drop 2) = true
    · simp only [seqS_eq, bdS_eq, bd_eq, ifS_eq, thn_nx, thn_rt, thn_bk, thn_ct, thn_exc, thn_bad, thS_ok, thS_exc, thS_bad, thE_ok, thE_exc, thE_bad, thIf_ok, thIf_exc, thIf_bad, ret_eq, setS_eq, retS_eq, skipS_eq, alloc_eq, callM_eq, evs_nil, evs_cons, asBool_bl, tru_bl, tru_int, tru_non, tru_tup, runR_nx, runR_rt, runR_exc, runR_bad, runR_ite, thn_ite, thS_ite, thE_ite, ite_app2, ite_app2S, add_ii, sub_ii, mul_ii, fdiv_ii, mod_ii, pow_ii, shl_ii, shr_ii, band_ii, bor_ii, bxor_ii, neg_i, lt_ii, le_ii, gt_ii, ge_ii, eq_ii, eq_ss, eq_bb, ne_ii, ne_ss, ne_bb, isN_non, isN_int, isN_tup, isN_ref, isN_str, int_i, int_b, abs_i, max_ii, min_ii, slotM, idx_r, idx_t, idxO_lst, idxO_fro, atO_some, stIx_r, len_r, lenO_lst, lenO_fro, list_r, listO_lst, listO_fro, andT_one, andT_two, orT_one, orT_two, andV_one, andV_two, orV_one, orV_two, asg_eq, subG_eq, onlyNx_eq, nxo_nx, lst_eq, tup_eq, pat_nm, forS_eq, okS_nx, okS_rt, okS_bk, okS_ct, okS_exc, okE_oke, List.getElem?_cons_zero, List.getElem?_cons_succ, List.set_cons_zero, List.set_cons_succ, ofString_inj, decide_eq_true_eq, Bool.not_eq_true', decide_eq_false_iff_not, reduceIte, if_true, if_false, Int.reduceLT, Int.reduceLE, Int.reduceEq, Int.reduceNe, decide_true, decide_false, Bool.false_eq_true, String.reduceEq, Bool.not_true, Bool.not_false, idxO_dct, stIxO_dct, keyV_str, keyV_int, isKd_nil, isKd_cons, dLook_nil, dLook_cons, dct_eq, dctO_ok, prs_nil, prs_cons, get_new, set_new, dPut, dHas, List.any_cons, List.any_nil, List.all_cons, List.all_nil, List.foldl_cons, List.foldl_nil, List.map_cons, List.map_nil, List.cons_append, List.nil_append, Option.some.injEq, Sum.inr.injEq, Sum.inl.injEq, Option.isSome_some, Bool.or_false, Bool.false_or, Bool.or_true, Bool.true_or, Bool.and_true, Bool.true_and, Bool.and_self, List.length_cons, List.length_nil, sizeLine_eq, Nat.reduceAdd, Nat.reduceLeDiff, Nat.reduceLT, and_self, and_true, true_and, false_and, and_false, Bool.or_self, Bool.and_false, Bool.false_and, reduceCtorEq, in_tup, memFlat_nil, memFlat_cons, eqFlat_ss, eqFlat_ii, flatA_str, flatA_int, cpow2, comp_eq, gs_nil, gs_cons, oI_int, chain_eq, all_new, any_new, meth_eq, mApp_append, appK_lst, appendA_r, appO_lst, aug_eq, ipAdd_ii, ipSub_ii, ipAdd_ss, len_t, itOf_str, isi_non, isi_bl, isi_int, isi_str, isi_tup, isiB, String.reduceBEq, Nat.reducePow, Int.reduceToNat, Int.reducePow, Int.reduceSub, Int.reduceNeg, Int.reduceAdd, Int.reduceMul, l_small, l_dig, mApp_split, splitA_ss, z1, z2, z3, split_keys, split_syms, ik, is, k1, k2, kc1 hz, kc2 hz, kc3 hz, all_map, nz_map, k3, len_S hz.z, slc_S hz.z, ct, l_hm, k5, k6', k7', k8, q]
      exact ⟨_, by rw [List.append_assoc, List.append_assoc, List.append_assoc, List.append_assoc]⟩
    · simp only [seqS_eq, bdS_eq, bd_eq, ifS_eq, thn_nx, thn_rt, thn_bk, thn_ct, thn_exc, thn_bad, thS_ok, thS_exc, thS_bad, thE_ok, thE_exc, thE_bad, thIf_ok, thIf_exc, thIf_bad, ret_eq, setS_eq, retS_eq, skipS_eq, alloc_eq, callM_eq, evs_nil, evs_cons, asBool_bl, tru_bl, tru_int, tru_non, tru_tup, runR_nx, runR_rt, runR_exc, runR_bad, runR_ite, thn_ite, thS_ite, thE_ite, ite_app2, ite_app2S, add_ii, sub_ii, mul_ii, fdiv_ii, mod_ii, pow_ii, shl_ii, shr_ii, band_ii, bor_ii, bxor_ii, neg_i, lt_ii, le_ii, gt_ii, ge_ii, eq_ii, eq_ss, eq_bb, ne_ii, ne_ss, ne_bb, isN_non, isN_int, isN_tup, isN_ref, isN_str, int_i, int_b, abs_i, max_ii, min_ii, slotM, idx_r, idx_t, idxO_lst, idxO_fro, atO_some, stIx_r, len_r, lenO_lst, lenO_fro, list_r, listO_lst, listO_fro, andT_one, andT_two, orT_one, orT_two, andV_one, andV_two, orV_one, orV_two, asg_eq, subG_eq, onlyNx_eq, nxo_nx, lst_eq, tup_eq, pat_nm, forS_eq, okS_nx, okS_rt, okS_bk, okS_ct, okS_exc, okE_oke, List.getElem?_cons_zero, List.getElem?_cons_succ, List.set_cons_zero, List.set_cons_succ, ofString_inj, decide_eq_true_eq, Bool.not_eq_true', decide_eq_false_iff_not, reduceIte, if_true, if_false, Int.reduceLT, Int.reduceLE, Int.reduceEq, Int.reduceNe, decide_true, decide_false, Bool.false_eq_true, String.reduceEq, Bool.not_true, Bool.not_false, idxO_dct, stIxO_dct, keyV_str, keyV_int, isKd_nil, isKd_cons, dLook_nil, dLook_cons, dct_eq, dctO_ok, prs_nil, prs_cons, get_new, set_new, dPut, dHas, List.any_cons, List.any_nil, List.all_cons, List.all_nil, List.foldl_cons, List.foldl_nil, List.map_cons, List.map_nil, List.cons_append, List.nil_append, Option.some.injEq, Sum.inr.injEq, Sum.inl.injEq, Option.isSome_some, Bool.or_false, Bool.false_or, Bool.or_true, Bool.true_or, Bool.and_true, Bool.true_and, Bool.and_self, List.length_cons, List.length_nil, sizeLine_eq, Nat.reduceAdd, Nat.reduceLeDiff, Nat.reduceLT, and_self, and_true, true_and, false_and, and_false, Bool.or_self, Bool.and_false, Bool.false_and, reduceCtorEq, in_tup, memFlat_nil, memFlat_cons, eqFlat_ss, eqFlat_ii, flatA_str, flatA_int, cpow2, comp_eq, gs_nil, gs_cons, oI_int, chain_eq, all_new, any_new, meth_eq, mApp_append, appK_lst, appendA_r, appO_lst, aug_eq, ipAdd_ii, ipSub_ii, ipAdd_ss, len_t, itOf_str, isi_non, isi_bl, isi_int, isi_str, isi_tup, isiB, String.reduceBEq, Nat.reducePow, Int.reduceToNat, Int.reducePow, Int.reduceSub, Int.reduceNeg, Int.reduceAdd, Int.reduceMul, l_small, l_dig, mApp_split, splitA_ss, z1, z2, z3, split_keys, split_syms, ik, is, k1, k2, kc1 hz, kc2 hz, kc3 hz, all_map, nz_map, k3, len_S hz.z, slc_S hz.z, ct, l_hm, k5, k6', k7', k8, q]
      exact ⟨_, by rw [List.append_assoc, List.append_assoc, List.append_assoc, List.append_assoc]⟩
  rw [if_neg k4]
  cases hpc : p with
  | nil => exact (hp hpc).elim
  | cons c t =>
  rw [← hpc]
  have i0 : ∀ (s : Sl) (h : AH), idxA (.str (S p)) (.int 0) s h = .ok (.str (S [c])) h := fun s h => by
    have := idx_S (l := p) (i := 0) (s := s) (h := h) (by rw [hpc]; simp) hz.z
    rw [show p[0]'(by rw [hpc]; simp) = c by simp [hpc]] at this
    exact this
  have hd : headIn smallL p = decide (c ∈ smallL) := by rw [hpc]; rfl
  rw [hd]
  by_cases k5 : p.take 2 = [35, 45]
  · by_cases k6 : 2 < p.length
    · have k6' : (2 : Int) < (p.length : Int) := by omega
      by_cases k7 : p.length < 13
      · have k7' : (p.length : Int) < 13 := by omega
        have k8 : ¬ allIn digL (p.drop 2) = true := fun q => k4 ⟨k5, ⟨k6, k7⟩, q⟩
        by_cases n1 : c ∈ smallL
        · by_cases n2 : allIn (smallL ++ digL) p = true
          · simp only [seqS_eq, bdS_eq, bd_eq, ifS_eq, thn_nx, thn_rt, thn_bk, thn_ct, thn_exc, thn_bad, thS_ok, thS_exc, thS_bad, thE_ok, thE_exc, thE_bad, thIf_ok, thIf_exc, thIf_bad, ret_eq, setS_eq, retS_eq, skipS_eq, alloc_eq, callM_eq, evs_nil, evs_cons, asBool_bl, tru_bl, tru_int, tru_non, tru_tup, runR_nx, runR_rt, runR_exc, runR_bad, runR_ite, thn_ite, thS_ite, thE_ite, ite_app2, ite_app2S, add_ii, sub_ii, mul_ii, fdiv_ii, mod_ii, pow_ii, shl_ii, shr_ii, band_ii, bor_ii, bxor_ii, neg_i, lt_ii, le_ii, gt_ii, ge_ii, eq_ii, eq_ss, eq_bb, ne_ii, ne_ss, ne_bb, isN_non, isN_int, isN_tup, isN_ref, isN_str, int_i, int_b, abs_i, max_ii, min_ii, slotM, idx_r, idx_t, idxO_lst, idxO_fro, atO_some, stIx_r, len_r, lenO_lst, lenO_fro, list_r, listO_lst, listO_fro, andT_one, andT_two, orT_one, orT_two, andV_one, andV_two, orV_one, orV_two, asg_eq, subG_eq, onlyNx_eq, nxo_nx, lst_eq, tup_eq, pat_nm, forS_eq, okS_nx, okS_rt, okS_bk, okS_ct, okS_exc, okE_oke, List.getElem?_cons_zero, List.getElem?_cons_succ, List.set_cons_zero, List.set_cons_succ, ofString_inj, decide_eq_true_eq, Bool.not_eq_true', decide_eq_false_iff_not, reduceIte, if_true, if_false, Int.reduceLT, Int.reduceLE, Int.reduceEq, Int.reduceNe, decide_true, decide_false, Bool.false_eq_true, String.reduceEq, Bool.not_true, Bool.not_false, idxO_dct, stIxO_dct, keyV_str, keyV_int, isKd_nil, isKd_cons, dLook_nil, dLook_cons, dct_eq, dctO_ok, prs_nil, prs_cons, get_new, set_new, dPut, dHas, List.any_cons, List.any_nil, List.all_cons, List.all_nil, List.foldl_cons, List.foldl_nil, List.map_cons, List.map_nil, List.cons_append, List.nil_append, Option.some.injEq, Sum.inr.injEq, Sum.inl.injEq, Option.isSome_some, Bool.or_false, Bool.false_or, Bool.or_true, Bool.true_or, Bool.and_true, Bool.true_and, Bool.and_self, List.length_cons, List.length_nil, sizeLine_eq, Nat.reduceAdd, Nat.reduceLeDiff, Nat.reduceLT, and_self, and_true, true_and, false_and, and_false, Bool.or_self, Bool.and_false, Bool.false_and, reduceCtorEq, in_tup, memFlat_nil, memFlat_cons, eqFlat_ss, eqFlat_ii, flatA_str, flatA_int, cpow2, comp_eq, gs_nil, gs_cons, oI_int, chain_eq, all_new, any_new, meth_eq, mApp_append, appK_lst, appendA_r, appO_lst, aug_eq, ipAdd_ii, ipSub_ii, ipAdd_ss, len_t, itOf_str, isi_non, isi_bl, isi_int, isi_str, isi_tup, isiB, String.reduceBEq, Nat.reducePow, Int.reduceToNat, Int.reducePow, Int.reduceSub, Int.reduceNeg, Int.reduceAdd, Int.reduceMul, l_small, l_dig, mApp_split, splitA_ss, z1, z2, z3, split_keys, split_syms, ik, is, k1, k2, kc1 hz, kc2 hz, kc3 hz, kc4 hz, all_map, nz_map, k3, len_S hz.z, slc_S hz.z, ct, l_hm, S_inj, i0, in_S, k5, k6', k7', k8, n1, n2]
            exact ⟨_, by simp only [List.append_assoc]; rfl⟩
          · simp only [seqS_eq, bdS_eq, bd_eq, ifS_eq, thn_nx, thn_rt, thn_bk, thn_ct, thn_exc, thn_bad, thS_ok, thS_exc, thS_bad, thE_ok, thE_exc, thE_bad, thIf_ok, thIf_exc, thIf_bad, ret_eq, setS_eq, retS_eq, skipS_eq, alloc_eq, callM_eq, evs_nil, evs_cons, asBool_bl, tru_bl, tru_int, tru_non, tru_tup, runR_nx, runR_rt, runR_exc, runR_bad, runR_ite, thn_ite, thS_ite, thE_ite, ite_app2, ite_app2S, add_ii, sub_ii, mul_ii, fdiv_ii, mod_ii, pow_ii, shl_ii, shr_ii, band_ii, bor_ii, bxor_ii, neg_i, lt_ii, le_ii, gt_ii, ge_ii, eq_ii, eq_ss, eq_bb, ne_ii, ne_ss, ne_bb, isN_non, isN_int, isN_tup, isN_ref, isN_str, int_i, int_b, abs_i, max_ii, min_ii, slotM, idx_r, idx_t, idxO_lst, idxO_fro, atO_some, stIx_r, len_r, lenO_lst, lenO_fro, list_r, listO_lst, listO_fro, andT_one, andT_two, orT_one, orT_two, andV_one, andV_two, orV_one, orV_two, asg_eq, subG_eq, onlyNx_eq, nxo_nx, lst_eq, tup_eq, pat_nm, forS_eq, okS_nx, okS_rt, okS_bk, okS_ct, okS_exc, okE_oke, List.getElem?_cons_zero, List.getElem?_cons_succ, List.set_cons_zero, List.set_cons_succ, ofString_inj, decide_eq_true_eq, Bool.not_eq_true', decide_eq_false_iff_not, reduceIte, if_true, if_false, Int.reduceLT, Int.reduceLE, Int.reduceEq, Int.reduceNe, decide_true, decide_false, Bool.false_eq_true, String.reduceEq, Bool.not_true, Bool.not_false, idxO_dct, stIxO_dct, keyV_str, keyV_int, isKd_nil, isKd_cons, dLook_nil, dLook_cons, dct_eq, dctO_ok, prs_nil, prs_cons, get_new, set_new, dPut, dHas, List.any_cons, List.any_nil, List.all_cons, List.all_nil, List.foldl_cons, List.foldl_nil, List.map_cons, List.map_nil, List.cons_append, List.nil_append, Option.some.injEq, Sum.inr.injEq, Sum.inl.injEq, Option.isSome_some, Bool.or_false, Bool.false_or, Bool.or_true, Bool.true_or, Bool.and_true, Bool.true_and, Bool.and_self, List.length_cons, List.length_nil, sizeLine_eq, Nat.reduceAdd, Nat.reduceLeDiff, Nat.reduceLT, and_self, and_true, true_and, false_and, and_false, Bool.or_self, Bool.and_false, Bool.false_and, reduceCtorEq, in_tup, memFlat_nil, memFlat_cons, eqFlat_ss, eqFlat_ii, flatA_str, flatA_int, cpow2, comp_eq, gs_nil, gs_cons, oI_int, chain_eq, all_new, any_new, meth_eq, mApp_append, appK_lst, appendA_r, appO_lst, aug_eq, ipAdd_ii, ipSub_ii, ipAdd_ss, len_t, itOf_str, isi_non, isi_bl, isi_int, isi_str, isi_tup, isiB, String.reduceBEq, Nat.reducePow, Int.reduceToNat, Int.reducePow, Int.reduceSub, Int.reduceNeg, Int.reduceAdd, Int.reduceMul, l_small, l_dig, mApp_split, splitA_ss, z1, z2, z3, split_keys, split_syms, ik, is, k1, k2, kc1 hz, kc2 hz, kc3 hz, kc4 hz, all_map, nz_map, k3, len_S hz.z, slc_S hz.z, ct, l_hm, S_inj, i0, in_S, k5, k6', k7', k8, n1, n2]
            exact ⟨_, by simp only [List.append_assoc]; rfl⟩
        · simp only [seqS_eq, bdS_eq, bd_eq, ifS_eq, thn_nx, thn_rt, thn_bk, thn_ct, thn_exc, thn_bad, thS_ok, thS_exc, thS_bad, thE_ok, thE_exc, thE_bad, thIf_ok, thIf_exc, thIf_bad, ret_eq, setS_eq, retS_eq, skipS_eq, alloc_eq, callM_eq, evs_nil, evs_cons, asBool_bl, tru_bl, tru_int, tru_non, tru_tup, runR_nx, runR_rt, runR_exc, runR_bad, runR_ite, thn_ite, thS_ite, thE_ite, ite_app2, ite_app2S, add_ii, sub_ii, mul_ii, fdiv_ii, mod_ii, pow_ii, shl_ii, shr_ii, band_ii, bor_ii, bxor_ii, neg_i, lt_ii, le_ii, gt_ii, ge_ii, eq_ii, eq_ss, eq_bb, ne_ii, ne_ss, ne_bb, isN_non, isN_int, isN_tup, isN_ref, isN_str, int_i, int_b, abs_i, max_ii, min_ii, slotM, idx_r, idx_t, idxO_lst, idxO_fro, atO_some, stIx_r, len_r, lenO_lst, lenO_fro, list_r, listO_lst, listO_fro, andT_one, andT_two, orT_one, orT_two, andV_one, andV_two, orV_one, orV_two, asg_eq, subG_eq, onlyNx_eq, nxo_nx, lst_eq, tup_eq, pat_nm, forS_eq, okS_nx, okS_rt, okS_bk, okS_ct, okS_exc, okE_oke, List.getElem?_cons_zero, List.getElem?_cons_succ, List.set_cons_zero, List.set_cons_succ, ofString_inj, decide_eq_true_eq, Bool.not_eq_true', decide_eq_false_iff_not, reduceIte, if_true, if_false, Int.reduceLT, Int.reduceLE, Int.reduceEq, Int.reduceNe, decide_true, decide_false, Bool.false_eq_true, String.reduceEq, Bool.not_true, Bool.not_false, idxO_dct, stIxO_dct, keyV_str, keyV_int, isKd_nil, isKd_cons, dLook_nil, dLook_cons, dct_eq, dctO_ok, prs_nil, prs_cons, get_new, set_new, dPut, dHas, List.any_cons, List.any_nil, List.all_cons, List.all_nil, List.foldl_cons, List.foldl_nil, List.map_cons, List.map_nil, List.cons_append, List.nil_append, Option.some.injEq, Sum.inr.injEq, Sum.inl.injEq, Option.isSome_some, Bool.or_false, Bool.false_or, Bool.or_true, Bool.true_or, Bool.and_true, Bool.true_and, Bool.and_self, List.length_cons, List.length_nil, sizeLine_eq, Nat.reduceAdd, Nat.reduceLeDiff, Nat.reduceLT, and_self, and_true, true_and, false_and, and_false, Bool.or_self, Bool.and_false, Bool.false_and, reduceCtorEq, in_tup, memFlat_nil, memFlat_cons, eqFlat_ss, eqFlat_ii, flatA_str, flatA_int, cpow2, comp_eq, gs_nil, gs_cons, oI_int, chain_eq, all_new, any_new, meth_eq, mApp_append, appK_lst, appendA_r, appO_lst, aug_eq, ipAdd_ii, ipSub_ii, ipAdd_ss, len_t, itOf_str, isi_non, isi_bl, isi_int, isi_str, isi_tup, isiB, String.reduceBEq, Nat.reducePow, Int.reduceToNat, Int.reducePow, Int.reduceSub, Int.reduceNeg, Int.reduceAdd, Int.reduceMul, l_small, l_dig, mApp_split, splitA_ss, z1, z2, z3, split_keys, split_syms, ik, is, k1, k2, kc1 hz, kc2 hz, kc3 hz, kc4 hz, all_map, nz_map, k3, len_S hz.z, slc_S hz.z, ct, l_hm, S_inj, i0, in_S, k5, k6', k7', k8, n1]
          exact ⟨_, by simp only [List.append_assoc]; rfl⟩
      · have k7' : ¬ (p.length : Int) < 13 := by omega
        by_cases n1 : c ∈ smallL
        · by_cases n2 : allIn (smallL ++ digL) p = true
          · simp only [seqS_eq, bdS_eq, bd_eq, ifS_eq, thn_nx, thn_rt, thn_bk, thn_ct, thn_exc, thn_bad, thS_ok, thS_exc, thS_bad, thE_ok, thE_exc, thE_bad, thIf_ok, thIf_exc, thIf_bad, ret_eq, setS_eq, retS_eq, skipS_eq, alloc_eq, callM_eq, evs_nil, evs_cons, asBool_bl, tru_bl, tru_int, tru_non, tru_tup, runR_nx, runR_rt, runR_exc, runR_bad, runR_ite, thn_ite, thS_ite, thE_ite, ite_app2, ite_app2S, add_ii, sub_ii, mul_ii, fdiv_ii, mod_ii, pow_ii, shl_ii, shr_ii, band_ii, bor_ii, bxor_ii, neg_i, lt_ii, le_ii, gt_ii, ge_ii, eq_ii, eq_ss, eq_bb, ne_ii, ne_ss, ne_bb, isN_non, isN_int, isN_tup, isN_ref, isN_str, int_i, int_b, abs_i, max_ii, min_ii, slotM, idx_r, idx_t, idxO_lst, idxO_fro, atO_some, stIx_r, len_r, lenO_lst, lenO_fro, list_r, listO_lst, listO_fro, andT_one, andT_two, orT_one, orT_two, andV_one, andV_two, orV_one, orV_two, asg_eq, subG_eq, onlyNx_eq, nxo_nx, lst_eq, tup_eq, pat_nm, forS_eq, okS_nx, okS_rt, okS_bk, okS_ct, okS_exc, okE_oke, List.getElem?_cons_zero, List.getElem?_cons_succ, List.set_cons_zero, List.set_cons_succ, ofString_inj, decide_eq_true_eq, Bool.not_eq_true', decide_eq_false_iff_not, reduceIte, if_true, if_false, Int.reduceLT, Int.reduceLE, Int.reduceEq, Int.reduceNe, decide_true, decide_false, Bool.false_eq_true, String.reduceEq, Bool.not_true, Bool.not_false, idxO_dct, stIxO_dct, keyV_str, keyV_int, isKd_nil, isKd_cons, dLook_nil, dLook_cons, dct_eq, dctO_ok, prs_nil, prs_cons, get_new, set_new, dPut, dHas, List.any_cons, List.any_nil, List.all_cons, List.all_nil, List.foldl_cons, List.foldl_nil, List.map_cons, List.map_nil, List.cons_append, List.nil_append, Option.some.injEq, Sum.inr.injEq, Sum.inl.injEq, Option.isSome_some, Bool.or_false, Bool.false_or, Bool.or_true, Bool.true_or, Bool.and_true, Bool.true_and, Bool.and_self, List.length_cons, List.length_nil, sizeLine_eq, Nat.reduceAdd, Nat.reduceLeDiff, Nat.reduceLT, and_self, and_true, true_and, false_and, and_false, Bool.or_self, Bool.and_false, Bool.false_and, reduceCtorEq, in_tup, memFlat_nil, memFlat_cons, eqFlat_ss, eqFlat_ii, flatA_str, flatA_int, cpow2, comp_eq, gs_nil, gs_cons, oI_int, chain_eq, all_new, any_new, meth_eq, mApp_append, appK_lst, appendA_r, appO_lst, aug_eq, ipAdd_ii, ipSub_ii, ipAdd_ss, len_t, itOf_str, isi_non, isi_bl, isi_int, isi_str, isi_tup, isiB, String.reduceBEq, Nat.reducePow, Int.reduceToNat, Int.reducePow, Int.reduceSub, Int.reduceNeg, Int.reduceAdd, Int.reduceMul, l_small, l_dig, mApp_split, splitA_ss, z1, z2, z3, split_keys, split_syms, ik, is, k1, k2, kc1 hz, kc2 hz, kc3 hz, kc4 hz, all_map, nz_map, k3, len_S hz.z, slc_S hz.z, ct, l_hm, S_inj, i0, in_S, k5, k6', k7', n1, n2]
            exact ⟨_, by simp only [List.append_assoc]; rfl⟩
          · simp only [seqS_eq, bdS_eq, bd_eq, ifS_eq, thn_nx, thn_rt, thn_bk, thn_ct, thn_exc, thn_bad, thS_ok, thS_exc, thS_bad, thE_ok, thE_exc, thE_bad, thIf_ok, thIf_exc, thIf_bad, ret_eq, setS_eq, retS_eq, skipS_eq, alloc_eq, callM_eq, evs_nil, evs_cons, asBool_bl, tru_bl, tru_int, tru_non, tru_tup, runR_nx, runR_rt, runR_exc, runR_bad, runR_ite, thn_ite, thS_ite, thE_ite, ite_app2, ite_app2S, add_ii, sub_ii, mul_ii, fdiv_ii, mod_ii, pow_ii, shl_ii, shr_ii, band_ii, bor_ii, bxor_ii, neg_i, lt_ii, le_ii, gt_ii, ge_ii, eq_ii, eq_ss, eq_bb, ne_ii, ne_ss, ne_bb, isN_non, isN_int, isN_tup, isN_ref, isN_str, int_i, int_b, abs_i, max_ii, min_ii, slotM, idx_r, idx_t, idxO_lst, idxO_fro, atO_some, stIx_r, len_r, lenO_lst, lenO_fro, list_r, listO_lst, listO_fro, andT_one, andT_two, orT_one, orT_two, andV_one, andV_two, orV_one, orV_two, asg_eq, subG_eq, onlyNx_eq, nxo_nx, lst_eq, tup_eq, pat_nm, forS_eq, okS_nx, okS_rt, okS_bk, okS_ct, okS_exc, okE_oke, List.getElem?_cons_zero, List.getElem?_cons_succ, List.set_cons_zero, List.set_cons_succ, ofString_inj, decide_eq_true_eq, Bool.not_eq_true', decide_eq_false_iff_not, reduceIte, if_true, if_false, Int.reduceLT, Int.reduceLE, Int.reduceEq, Int.reduceNe, decide_true, decide_false, Bool.false_eq_true, String.reduceEq, Bool.not_true, Bool.not_false, idxO_dct, stIxO_dct, keyV_str, keyV_int, isKd_nil, isKd_cons, dLook_nil, dLook_cons, dct_eq, dctO_ok, prs_nil, prs_cons, get_new, set_new, dPut, dHas, List.any_cons, List.any_nil, List.all_cons, List.all_nil, List.foldl_cons, List.foldl_nil, List.map_cons, List.map_nil, List.cons_append, List.nil_append, Option.some.injEq, Sum.inr.injEq, Sum.inl.injEq, Option.isSome_some, Bool.or_false, Bool.false_or, Bool.or_true, Bool.true_or, Bool.and_true, Bool.true_and, Bool.and_self, List.length_cons, List.length_nil, sizeLine_eq, Nat.reduceAdd, Nat.reduceLeDiff, Nat.reduceLT, and_self, and_true, true_and, false_and, and_false, Bool.or_self, Bool.and_false, Bool.false_and, reduceCtorEq, in_tup, memFlat_nil, memFlat_cons, eqFlat_ss, eqFlat_ii, flatA_str, flatA_int, cpow2, comp_eq, gs_nil, gs_cons, oI_int, chain_eq, all_new, any_new, meth_eq, mApp_append, appK_lst, appendA_r, appO_lst, aug_eq, ipAdd_ii, ipSub_ii, ipAdd_ss, len_t, itOf_str, isi_non, isi_bl, isi_int, isi_str, isi_tup, isiB, String.reduceBEq, Nat.reducePow, Int.reduceToNat, Int.reducePow, Int.reduceSub, Int.reduceNeg, Int.reduceAdd, Int.reduceMul, l_small, l_dig, mApp_split, splitA_ss, z1, z2, z3, split_keys, split_syms, ik, is, k1, k2, kc1 hz, kc2 hz, kc3 hz, kc4 hz, all_map, nz_map, k3, len_S hz.z, slc_S hz.z, ct, l_hm, S_inj, i0, in_S, k5, k6', k7', n1, n2]
            exact ⟨_, by simp only [List.append_assoc]; rfl⟩
        · simp only [seqS_eq, bdS_eq, bd_eq, ifS_eq, thn_nx, thn_rt, thn_bk, thn_ct, thn_exc, thn_bad, thS_ok, thS_exc, thS_bad, thE_ok, thE_exc, thE_bad, thIf_ok, thIf_exc, thIf_bad, ret_eq, setS_eq, retS_eq, skipS_eq, alloc_eq, callM_eq, evs_nil, evs_cons, asBool_bl, tru_bl, tru_int, tru_non, tru_tup, runR_nx, runR_rt, runR_exc, runR_bad, runR_ite, thn_ite, thS_ite, thE_ite, ite_app2, ite_app2S, add_ii, sub_ii, mul_ii, fdiv_ii, mod_ii, pow_ii, shl_ii, shr_ii, band_ii, bor_ii, bxor_ii, neg_i, lt_ii, le_ii, gt_ii, ge_ii, eq_ii, eq_ss, eq_bb, ne_ii, ne_ss, ne_bb, isN_non, isN_int, isN_tup, isN_ref, isN_str, int_i, int_b, abs_i, max_ii, min_ii, slotM, idx_r, idx_t, idxO_lst, idxO_fro, atO_some, stIx_r, len_r, lenO_lst, lenO_fro, list_r, listO_lst, listO_fro, andT_one, andT_two, orT_one, orT_two, andV_one, andV_two, orV_one, orV_two, asg_eq, subG_eq, onlyNx_eq, nxo_nx, lst_eq, tup_eq, pat_nm, forS_eq, okS_nx, okS_rt, okS_bk, okS_ct, okS_exc, okE_oke, List.getElem?_cons_zero, List.getElem?_cons_succ, List.set_cons_zero, List.set_cons_succ, ofString_inj, decide_eq_true_eq, Bool.not_eq_true', decide_eq_false_iff_not, reduceIte, if_true, if_false, Int.reduceLT, Int.reduceLE, Int.reduceEq, Int.reduceNe, decide_true, decide_false, Bool.false_eq_true, String.reduceEq, Bool.not_true, Bool.not_false, idxO_dct, stIxO_dct, keyV_str, keyV_int, isKd_nil, isKd_cons, dLook_nil, dLook_cons, dct_eq, dctO_ok, prs_nil, prs_cons, get_new, set_new, dPut, dHas, List.any_cons, List.any_nil, List.all_cons, List.all_nil, List.foldl_cons, List.foldl_nil, List.map_cons, List.map_nil, List.cons_append, List.nil_append, Option.some.injEq, Sum.inr.injEq, Sum.inl.injEq, Option.isSome_some, Bool.or_false, Bool.false_or, Bool.or_true, Bool.true_or, Bool.and_true, Bool.true_and, Bool.and_self, List.length_cons, List.length_nil, sizeLine_eq, Nat.reduceAdd, Nat.reduceLeDiff, Nat.reduceLT, and_self, and_true, true_and, false_and, and_false, Bool.or_self, Bool.and_false, Bool.false_and, reduceCtorEq, in_tup, memFlat_nil, memFlat_cons, eqFlat_ss, eqFlat_ii, flatA_str, flatA_int, cpow2, comp_eq, gs_nil, gs_cons, oI_int, chain_eq, all_new, any_new, meth_eq, mApp_append, appK_lst, appendA_r, appO_lst, aug_eq, ipAdd_ii, ipSub_ii, ipAdd_ss, len_t, itOf_str, isi_non, isi_bl, isi_int, isi_str, isi_tup, isiB, String.reduceBEq, Nat.reducePow, Int.reduceToNat, Int.reducePow, Int.reduceSub, Int.reduceNeg, Int.reduceAdd, Int.reduceMul, l_small, l_dig, mApp_split, splitA_ss, z1, z2, z3, split_keys, split_syms, ik, is, k1, k2, kc1 hz, kc2 hz, kc3 hz, kc4 hz, all_map, nz_map, k3, len_S hz.z, slc_S hz.z, ct, l_hm, S_inj, i0, in_S, k5, k6', k7', n1]
          exact ⟨_, by simp only [List.append_assoc]; rfl⟩
    · have k6' : ¬ (2 : Int) < (p.length : Int) := by omega
      by_cases n1 : c ∈ smallL
      · by_cases n2 : allIn (smallL ++ digL) p = true
        · simp only [seqS_eq, bdS_eq, bd_eq, ifS_eq, thn_nx, thn_rt, thn_bk, thn_ct, thn_exc, thn_bad, thS_ok, thS_exc, thS_bad, thE_ok, thE_exc, thE_bad, thIf_ok, thIf_exc, thIf_bad, ret_eq, setS_eq, retS_eq, skipS_eq, alloc_eq, callM_eq, evs_nil, evs_cons, asBool_bl, tru_bl, tru_int, tru_non, tru_tup, runR_nx, runR_rt, runR_exc, runR_bad, runR_ite, thn_ite, thS_ite, thE_ite, ite_app2, ite_app2S, add_ii, sub_ii, mul_ii, fdiv_ii, mod_ii, pow_ii, shl_ii, shr_ii, band_ii, bor_ii, bxor_ii, neg_i, lt_ii, le_ii, gt_ii, ge_ii, eq_ii, eq_ss, eq_bb, ne_ii, ne_ss, ne_bb, isN_non, isN_int, isN_tup, isN_ref, isN_str, int_i, int_b, abs_i, max_ii, min_ii, slotM, idx_r, idx_t, idxO_lst, idxO_fro, atO_some, stIx_r, len_r, lenO_lst, lenO_fro, list_r, listO_lst, listO_fro, andT_one, andT_two, orT_one, orT_two, andV_one, andV_two, orV_one, orV_two, asg_eq, subG_eq, onlyNx_eq, nxo_nx, lst_eq, tup_eq, pat_nm, forS_eq, okS_nx, okS_rt, okS_bk, okS_ct, okS_exc, okE_oke, List.getElem?_cons_zero, List.getElem?_cons_succ, List.set_cons_zero, List.set_cons_succ, ofString_inj, decide_eq_true_eq, Bool.not_eq_true', decide_eq_false_iff_not, reduceIte, if_true, if_false, Int.reduceLT, Int.reduceLE, Int.reduceEq, Int.reduceNe, decide_true, decide_false, Bool.false_eq_true, String.reduceEq, Bool.not_true, Bool.not_false, idxO_dct, stIxO_dct, keyV_str, keyV_int, isKd_nil, isKd_cons, dLook_nil, dLook_cons, dct_eq, dctO_ok, prs_nil, prs_cons, get_new, set_new, dPut, dHas, List.any_cons, List.any_nil, List.all_cons, List.all_nil, List.foldl_cons, List.foldl_nil, List.map_cons, List.map_nil, List.cons_append, List.nil_append, Option.some.injEq, Sum.inr.injEq, Sum.inl.injEq, Option.isSome_some, Bool.or_false, Bool.false_or, Bool.or_true, Bool.true_or, Bool.and_true, Bool.true_and, Bool.and_self, List.length_cons, List.length_nil, sizeLine_eq, Nat.reduceAdd, Nat.reduceLeDiff, Nat.reduceLT, and_self, and_true, true_and, false_and, and_false, Bool.or_self, Bool.and_false, Bool.false_and, reduceCtorEq, in_tup, memFlat_nil, memFlat_cons, eqFlat_ss, eqFlat_ii, flatA_str, flatA_int, cpow2, comp_eq, gs_nil, gs_cons, oI_int, chain_eq, all_new, any_new, meth_eq, mApp_append, appK_lst, appendA_r, appO_lst, aug_eq, ipAdd_ii, ipSub_ii, ipAdd_ss, len_t, itOf_str, isi_non, isi_bl, isi_int, isi_str, isi_tup, isiB, String.reduceBEq, Nat.reducePow, Int.reduceToNat, Int.reducePow, Int.reduceSub, Int.reduceNeg, Int.reduceAdd, Int.reduceMul, l_small, l_dig, mApp_split, splitA_ss, z1, z2, z3, split_keys, split_syms, ik, is, k1, k2, kc1 hz, kc2 hz, kc3 hz, kc4 hz, all_map, nz_map, k3, len_S hz.z, slc_S hz.z, ct, l_hm, S_inj, i0, in_S, k5, k6', n1, n2]
          exact ⟨_, by simp only [List.append_assoc]; rfl⟩
        · simp only [seqS_eq, bdS_eq, bd_eq, ifS_eq, thn_nx, thn_rt, thn_bk, thn_ct, thn_exc, thn_bad, thS_ok, thS_exc, thS_bad, thE_ok, thE_exc, thE_bad, thIf_ok, thIf_exc, thIf_bad, ret_eq, setS_eq, retS_eq, skipS_eq, alloc_eq, callM_eq, evs_nil, evs_cons, asBool_bl, tru_bl, tru_int, tru_non, tru_tup, runR_nx, runR_rt, runR_exc, runR_bad, runR_ite, thn_ite, thS_ite, thE_ite, ite_app2, ite_app2S, add_ii, sub_ii, mul_ii, fdiv_ii, mod_ii, pow_ii, shl_ii, shr_ii, band_ii, bor_ii, bxor_ii, neg_i, lt_ii, le_ii, gt_ii, ge_ii, eq_ii, eq_ss, eq_bb, ne_ii, ne_ss, ne_bb, isN_non, isN_int, isN_tup, isN_ref, isN_str, int_i, int_b, abs_i, max_ii, min_ii, slotM, idx_r, idx_t, idxO_lst, idxO_fro, atO_some, stIx_r, len_r, lenO_lst, lenO_fro, list_r, listO_lst, listO_fro, andT_one, andT_two, orT_one, orT_two, andV_one, andV_two, orV_one, orV_two, asg_eq, subG_eq, onlyNx_eq, nxo_nx, lst_eq, tup_eq, pat_nm, forS_eq, okS_nx, okS_rt, okS_bk, okS_ct, okS_exc, okE_oke, List.getElem?_cons_zero, List.getElem?_cons_succ, List.set_cons_zero, List.set_cons_succ, ofString_inj, decide_eq_true_eq, Bool.not_eq_true', decide_eq_false_iff_not, reduceIte, if_true, if_false, Int.reduceLT, Int.reduceLE, Int.reduceEq, Int.reduceNe, decide_true, decide_false, Bool.false_eq_true, String.reduceEq, Bool.not_true, Bool.not_false, idxO_dct, stIxO_dct, keyV_str, keyV_int, isKd_nil, isKd_cons, dLook_nil, dLook_cons, dct_eq, dctO_ok, prs_nil, prs_cons, get_new, set_new, dPut, dHas, List.any_cons, List.any_nil, List.all_cons, List.all_nil, List.foldl_cons, List.foldl_nil, List.map_cons, List.map_nil, List.cons_append, List.nil_append, Option.some.injEq, Sum.inr.injEq, Sum.inl.injEq, Option.isSome_some, Bool.or_false, Bool.false_or, Bool.or_true, Bool.true_or, Bool.and_true, Bool.true_and, Bool.and_self, List.length_cons, List.length_nil, sizeLine_eq, Nat.reduceAdd, Nat.reduceLeDiff, Nat.reduceLT, and_self, and_true, true_and, false_and, and_false, Bool.or_self, Bool.and_false, Bool.false_and, reduceCtorEq, in_tup, memFlat_nil, memFlat_cons, eqFlat_ss, eqFlat_ii, flatA_str, flatA_int, cpow2, comp_eq, gs_nil, gs_cons, oI_int, chain_eq, all_new, any_new, meth_eq, mApp_append, appK_lst, appendA_r, appO_lst, aug_eq, ipAdd_ii, ipSub_ii, ipAdd_ss, len_t, itOf_str, isi_non, isi_bl, isi_int, isi_str, isi_tup, isiB, String.reduceBEq, Nat.reducePow, Int.reduceToNat, Int.reducePow, Int.reduceSub, Int.reduceNeg, Int.reduceAdd, Int.reduceMul, l_small, l_dig, mApp_split, splitA_ss, z1, z2, z3, split_keys, split_syms, ik, is, k1, k2, kc1 hz, kc2 hz, kc3 hz, kc4 hz, all_map, nz_map, k3, len_S hz.z, slc_S hz.z, ct, l_hm, S_inj, i0, in_S, k5, k6', n1, n2]
          exact ⟨_, by simp only [List.append_assoc]; rfl⟩
      · simp only [seqS_eq, bdS_eq, bd_eq, ifS_eq, thn_nx, thn_rt, thn_bk, thn_ct, thn_exc, thn_bad, thS_ok, thS_exc, thS_bad, thE_ok, thE_exc, thE_bad, thIf_ok, thIf_exc, thIf_bad, ret_eq, setS_eq, retS_eq, skipS_eq, alloc_eq, callM_eq, evs_nil, evs_cons, asBool_bl, tru_bl, tru_int, tru_non, tru_tup, runR_nx, runR_rt, runR_exc, runR_bad, runR_ite, thn_ite, thS_ite, thE_ite, ite_app2, ite_app2S, add_ii, sub_ii, mul_ii, fdiv_ii, mod_ii, pow_ii, shl_ii, shr_ii, band_ii, bor_ii, bxor_ii, neg_i, lt_ii, le_ii, gt_ii, ge_ii, eq_ii, eq_ss, eq_bb, ne_ii, ne_ss, ne_bb, isN_non, isN_int, isN_tup, isN_ref, isN_str, int_i, int_b, abs_i, max_ii, min_ii, slotM, idx_r, idx_t, idxO_lst, idxO_fro, atO_some, stIx_r, len_r, lenO_lst, lenO_fro, list_r, listO_lst, listO_fro, andT_one, andT_two, orT_one, orT_two, andV_one, andV_two, orV_one, orV_two, asg_eq, subG_eq, onlyNx_eq, nxo_nx, lst_eq, tup_eq, pat_nm, forS_eq, okS_nx, okS_rt, okS_bk, okS_ct, okS_exc, okE_oke, List.getElem?_cons_zero, List.getElem?_cons_succ, List.set_cons_zero, List.set_cons_succ, ofString_inj, decide_eq_true_eq, Bool.not_eq_true', decide_eq_false_iff_not, reduceIte, if_true, if_false, Int.reduceLT, Int.reduceLE, Int.reduceEq, Int.reduceNe, decide_true, decide_false, Bool.false_eq_true, String.reduceEq, Bool.not_true, Bool.not_false, idxO_dct, stIxO_dct, keyV_str, keyV_int, isKd_nil, isKd_cons, dLook_nil, dLook_cons, dct_eq, dctO_ok, prs_nil, prs_cons, get_new, set_new, dPut, dHas, List.any_cons, List.any_nil, List.all_cons, List.all_nil, List.foldl_cons, List.foldl_nil, List.map_cons, List.map_nil, List.cons_append, List.nil_append, Option.some.injEq, Sum.inr.injEq, Sum.inl.injEq, Option.isSome_some, Bool.or_false, Bool.false_or, Bool.or_true, Bool.true_or, Bool.and_true, Bool.true_and, Bool.and_self, List.length_cons, List.length_nil, sizeLine_eq, Nat.reduceAdd, Nat.reduceLeDiff, Nat.reduceLT, and_self, and_true, true_and, false_and, and_false, Bool.or_self, Bool.and_false, Bool.false_and, reduceCtorEq, in_tup, memFlat_nil, memFlat_cons, eqFlat_ss, eqFlat_ii, flatA_str, flatA_int, cpow2, comp_eq, gs_nil, gs_cons, oI_int, chain_eq, all_new, any_new, meth_eq, mApp_append, appK_lst, appendA_r, appO_lst, aug_eq, ipAdd_ii, ipSub_ii, ipAdd_ss, len_t, itOf_str, isi_non, isi_bl, isi_int, isi_str, isi_tup, isiB, String.reduceBEq, Nat.reducePow, Int.reduceToNat, Int.reducePow, Int.reduceSub, Int.reduceNeg, Int.reduceAdd, Int.reduceMul, l_small, l_dig, mApp_split, splitA_ss, z1, z2, z3, split_keys, split_syms, ik, is, k1, k2, kc1 hz, kc2 hz, kc3 hz, kc4 hz, all_map, nz_map, k3, len_S hz.z, slc_S hz.z, ct, l_hm, S_inj, i0, in_S, k5, k6', n1]
        exact ⟨_, by simp only [List.append_assoc]; rfl⟩
  · skip
    by_cases n1 : c ∈ smallL
    · by_cases n2 : allIn (smallL ++ digL) p = true
      · simp only [seqS_eq, bdS_eq, bd_eq, ifS_eq, thn_nx, thn_rt, thn_bk, thn_ct, thn_exc, thn_bad, thS_ok, thS_exc, thS_bad, thE_ok, thE_exc, thE_bad, thIf_ok, thIf_exc, thIf_bad, ret_eq, setS_eq, retS_eq, skipS_eq, alloc_eq, callM_eq, evs_nil, evs_cons, asBool_bl, tru_bl, tru_int, tru_non, tru_tup, runR_nx, runR_rt, runR_exc, runR_bad, runR_ite, thn_ite, thS_ite, thE_ite, ite_app2, ite_app2S, add_ii, sub_ii, mul_ii, fdiv_ii, mod_ii, pow_ii, shl_ii, shr_ii, band_ii, bor_ii, bxor_ii, neg_i, lt_ii, le_ii, gt_ii, ge_ii, eq_ii, eq_ss, eq_bb, ne_ii, ne_ss, ne_bb, isN_non, isN_int, isN_tup, isN_ref, isN_str, int_i, int_b, abs_i, max_ii, min_ii, slotM, idx_r, idx_t, idxO_lst, idxO_fro, atO_some, stIx_r, len_r, lenO_lst, lenO_fro, list_r, listO_lst, listO_fro, andT_one, andT_two, orT_one, orT_two, andV_one, andV_two, orV_one, orV_two, asg_eq, subG_eq, onlyNx_eq, nxo_nx, lst_eq, tup_eq, pat_nm, forS_eq, okS_nx, okS_rt, okS_bk, okS_ct, okS_exc, okE_oke, List.getElem?_cons_zero, List.getElem?_cons_succ, List.set_cons_zero, List.set_cons_succ, ofString_inj, decide_eq_true_eq, Bool.not_eq_true', decide_eq_false_iff_not, reduceIte, if_true, if_false, Int.reduceLT, Int.reduceLE, Int.reduceEq, Int.reduceNe, decide_true, decide_false, Bool.false_eq_true, String.reduceEq, Bool.not_true, Bool.not_false, idxO_dct, stIxO_dct, keyV_str, keyV_int, isKd_nil, isKd_cons, dLook_nil, dLook_cons, dct_eq, dctO_ok, prs_nil, prs_cons, get_new, set_new, dPut, dHas, List.any_cons, List.any_nil, List.all_cons, List.all_nil, List.foldl_cons, List.foldl_nil, List.map_cons, List.map_nil, List.cons_append, List.nil_append, Option.some.injEq, Sum.inr.injEq, Sum.inl.injEq, Option.isSome_some, Bool.or_false, Bool.false_or, Bool.or_true, Bool.true_or, Bool.and_true, Bool.true_and, Bool.and_self, List.length_cons, List.length_nil, sizeLine_eq, Nat.reduceAdd, Nat.reduceLeDiff, Nat.reduceLT, and_self, and_true, true_and, false_and, and_false, Bool.or_self, Bool.and_false, Bool.false_and, reduceCtorEq, in_tup, memFlat_nil, memFlat_cons, eqFlat_ss, eqFlat_ii, flatA_str, flatA_int, cpow2, comp_eq, gs_nil, gs_cons, oI_int, chain_eq, all_new, any_new, meth_eq, mApp_append, appK_lst, appendA_r, appO_lst, aug_eq, ipAdd_ii, ipSub_ii, ipAdd_ss, len_t, itOf_str, isi_non, isi_bl, isi_int, isi_str, isi_tup, isiB, String.reduceBEq, Nat.reducePow, Int.reduceToNat, Int.reducePow, Int.reduceSub, Int.reduceNeg, Int.reduceAdd, Int.reduceMul, l_small, l_dig, mApp_split, splitA_ss, z1, z2, z3, split_keys, split_syms, ik, is, k1, k2, kc1 hz, kc2 hz, kc3 hz, kc4 hz, all_map, nz_map, k3, len_S hz.z, slc_S hz.z, ct, l_hm, S_inj, i0, in_S, k5, n1, n2]
        exact ⟨_, by simp only [List.append_assoc]; rfl⟩
      · simp only [seqS_eq, bdS_eq, bd_eq, ifS_eq, thn_nx, thn_rt, thn_bk, thn_ct, thn_exc, thn_bad, thS_ok, thS_exc, thS_bad, thE_ok, thE_exc, thE_bad, thIf_ok, thIf_exc, thIf_bad, ret_eq, setS_eq, retS_eq, skipS_eq, alloc_eq, callM_eq, evs_nil, evs_cons, asBool_bl, tru_bl, tru_int, tru_non, tru_tup, runR_nx, runR_rt, runR_exc, runR_bad, runR_ite, thn_ite, thS_ite, thE_ite, ite_app2, ite_app2S, add_ii, sub_ii, mul_ii, fdiv_ii, mod_ii, pow_ii, shl_ii, shr_ii, band_ii, bor_ii, bxor_ii, neg_i, lt_ii, le_ii, gt_ii, ge_ii, eq_ii, eq_ss, eq_bb, ne_ii, ne_ss, ne_bb, isN_non, isN_int, isN_tup, isN_ref, isN_str, int_i, int_b, abs_i, max_ii, min_ii, slotM, idx_r, idx_t, idxO_lst, idxO_fro, atO_some, stIx_r, len_r, lenO_lst, lenO_fro, list_r, listO_lst, listO_fro, andT_one, andT_two, orT_one, orT_two, andV_one, andV_two, orV_one, orV_two, asg_eq, subG_eq, onlyNx_eq, nxo_nx, lst_eq, tup_eq, pat_nm, forS_eq, okS_nx, okS_rt, okS_bk, okS_ct, okS_exc, okE_oke, List.getElem?_cons_zero, List.getElem?_cons_succ, List.set_cons_zero, List.set_cons_succ, ofString_inj, decide_eq_true_eq, Bool.not_eq_true', decide_eq_false_iff_not, reduceIte, if_true, if_false, Int.reduceLT, Int.reduceLE, Int.reduceEq, Int.reduceNe, decide_true, decide_false, Bool.false_eq_true, String.reduceEq, Bool.not_true, Bool.not_false, idxO_dct, stIxO_dct, keyV_str, keyV_int, isKd_nil, isKd_cons, dLook_nil, dLook_cons, dct_eq, dctO_ok, prs_nil, prs_cons, get_new, set_new, dPut, dHas, List.any_cons, List.any_nil, List.all_cons, List.all_nil, List.foldl_cons, List.foldl_nil, List.map_cons, List.map_nil, List.cons_append, List.nil_append, Option.some.injEq, Sum.inr.injEq, Sum.inl.injEq, Option.isSome_some, Bool.or_false, Bool.false_or, Bool.or_true, Bool.true_or, Bool.and_true, Bool.true_and, Bool.and_self, List.length_cons, List.length_nil, sizeLine_eq, Nat.reduceAdd, Nat.reduceLeDiff, Nat.reduceLT, and_self, and_true, true_and, false_and, and_false, Bool.or_self, Bool.and_false, Bool.false_and, reduceCtorEq, in_tup, memFlat_nil, memFlat_cons, eqFlat_ss, eqFlat_ii, flatA_str, flatA_int, cpow2, comp_eq, gs_nil, gs_cons, oI_int, chain_eq, all_new, any_new, meth_eq, mApp_append, appK_lst, appendA_r, appO_lst, aug_eq, ipAdd_ii, ipSub_ii, ipAdd_ss, len_t, itOf_str, isi_non, isi_bl, isi_int, isi_str, isi_tup, isiB, String.reduceBEq, Nat.reducePow, Int.reduceToNat, Int.reducePow, Int.reduceSub, Int.reduceNeg, Int.reduceAdd, Int.reduceMul, l_small, l_dig, mApp_split, splitA_ss, z1, z2, z3, split_keys, split_syms, ik, is, k1, k2, kc1 hz, kc2 hz, kc3 hz, kc4 hz, all_map, nz_map, k3, len_S hz.z, slc_S hz.z, ct, l_hm, S_inj, i0, in_S, k5, n1, n2]
        exact ⟨_, by simp only [List.append_assoc]; rfl⟩
    · simp only [seqS_eq, bdS_eq, bd_eq, ifS_eq, thn_nx, thn_rt, thn_bk, thn_ct, thn_exc, thn_bad, thS_ok, thS_exc, thS_bad, thE_ok, thE_exc, thE_bad, thIf_ok, thIf_exc, thIf_bad, ret_eq, setS_eq, retS_eq, skipS_eq, alloc_eq, callM_eq, evs_nil, evs_cons, asBool_bl, tru_bl, tru_int, tru_non, tru_tup, runR_nx, runR_rt, runR_exc, runR_bad, runR_ite, thn_ite, thS_ite, thE_ite, ite_app2, ite_app2S, add_ii, sub_ii, mul_ii, fdiv_ii, mod_ii, pow_ii, shl_ii, shr_ii, band_ii, bor_ii, bxor_ii, neg_i, lt_ii, le_ii, gt_ii, ge_ii, eq_ii, eq_ss, eq_bb, ne_ii, ne_ss, ne_bb, isN_non, isN_int, isN_tup, isN_ref, isN_str, int_i, int_b, abs_i, max_ii, min_ii, slotM, idx_r, idx_t, idxO_lst, idxO_fro, atO_some, stIx_r, len_r, lenO_lst, lenO_fro, list_r, listO_lst, listO_fro, andT_one, andT_two, orT_one, orT_two, andV_one, andV_two, orV_one, orV_two, asg_eq, subG_eq, onlyNx_eq, nxo_nx, lst_eq, tup_eq, pat_nm, forS_eq, okS_nx, okS_rt, okS_bk, okS_ct, okS_exc, okE_oke, List.getElem?_cons_zero, List.getElem?_cons_succ, List.set_cons_zero, List.set_cons_succ, ofString_inj, decide_eq_true_eq, Bool.not_eq_true', decide_eq_false_iff_not, reduceIte, if_true, if_false, Int.reduceLT, Int.reduceLE, Int.reduceEq, Int.reduceNe, decide_true, decide_false, Bool.false_eq_true, String.reduceEq, Bool.not_true, Bool.not_false, idxO_dct, stIxO_dct, keyV_str, keyV_int, isKd_nil, isKd_cons, dLook_nil, dLook_cons, dct_eq, dctO_ok, prs_nil, prs_cons, get_new, set_new, dPut, dHas, List.any_cons, List.any_nil, List.all_cons, List.all_nil, List.foldl_cons, List.foldl_nil, List.map_cons, List.map_nil, List.cons_append, List.nil_append, Option.some.injEq, Sum.inr.injEq, Sum.inl.injEq, Option.isSome_some, Bool.or_false, Bool.false_or, Bool.or_true, Bool.true_or, Bool.and_true, Bool.true_and, Bool.and_self, List.length_cons, List.length_nil, sizeLine_eq, Nat.reduceAdd, Nat.reduceLeDiff, Nat.reduceLT, and_self, and_true, true_and, false_and, and_false, Bool.or_self, Bool.and_false, Bool.false_and, reduceCtorEq, in_tup, memFlat_nil, memFlat_cons, eqFlat_ss, eqFlat_ii, flatA_str, flatA_int, cpow2, comp_eq, gs_nil, gs_cons, oI_int, chain_eq, all_new, any_new, meth_eq, mApp_append, appK_lst, appendA_r, appO_lst, aug_eq, ipAdd_ii, ipSub_ii, ipAdd_ss, len_t, itOf_str, isi_non, isi_bl, isi_int, isi_str, isi_tup, isiB, String.reduceBEq, Nat.reducePow, Int.reduceToNat, Int.reducePow, Int.reduceSub, Int.reduceNeg, Int.reduceAdd, Int.reduceMul, l_small, l_dig, mApp_split, splitA_ss, z1, z2, z3, split_keys, split_syms, ik, is, k1, k2, kc1 hz, kc2 hz, kc3 hz, kc4 hz, all_map, nz_map, k3, len_S hz.z, slc_S hz.z, ct, l_hm, S_inj, i0, in_S, k5, n1]
      exact ⟨_, by simp only [List.append_assoc]; rfl⟩
end K14
namespace K14
open PySem PySem.Spec PyProof.Rows L2 Ev
def condL (P : List Nat) : Prop := allIn capL P = true ∨ allIn digL P = true ∨ (P.take 2 = [35, 45] ∧ allIn digL (P.drop 2) = true) ∨ kindL P ≠ ""
instance (P : List Nat) : Decidable (condL P) := by unfold condL; infer_instance
def runF (R : List Nat) : Nat → List Nat
  | 0 => []
  | j + 1 => if condL (R.take (j + 1)) then R.take (j + 1) else runF R j
def runL (R : List Nat) : List Nat := runF R (min R.length 40)
section
variable {cf : CF} {p : List Nat} {h : AH} {c0 c1 c2 c3 c4 c5 c7 c8 : Option AV}
theorem rc1 (hz : big p) : s_law_run_c1 cf [c0, c1, some (.str (S capL)), c3, c4, c5, some (.str (S p)), c7, c8] h = .ok (.ref h.length) (h ++ [.lst ((p.map (isIn capL)).map AV.bl)]) := by
  unfold s_law_run_c1
  refine comp_in (l := p) (g := capL) ?_ (fun c hc h' => ?_) hz
  · simp only [seqS_eq, bdS_eq, bd_eq, ifS_eq, thn_nx, thn_rt, thn_bk, thn_ct, thn_exc, thn_bad, thS_ok, thS_exc, thS_bad, thE_ok, thE_exc, thE_bad, thIf_ok, thIf_exc, thIf_bad, ret_eq, setS_eq, retS_eq, skipS_eq, alloc_eq, callM_eq, evs_nil, evs_cons, asBool_bl, tru_bl, tru_int, tru_non, tru_tup, runR_nx, runR_rt, runR_exc, runR_bad, runR_ite, thn_ite, thS_ite, thE_ite, ite_app2, ite_app2S, add_ii, sub_ii, mul_ii, fdiv_ii, mod_ii, pow_ii, shl_ii, shr_ii, band_ii, bor_ii, bxor_ii, neg_i, lt_ii, le_ii, gt_ii, ge_ii, eq_ii, eq_ss, eq_bb, ne_ii, ne_ss, ne_bb, isN_non, isN_int, isN_tup, isN_ref, isN_str, int_i, int_b, abs_i, max_ii, min_ii, slotM, idx_r, idx_t, idxO_lst, idxO_fro, atO_some, stIx_r, len_r, lenO_lst, lenO_fro, list_r, listO_lst, listO_fro, andT_one, andT_two, orT_one, orT_two, andV_one, andV_two, orV_one, orV_two, asg_eq, subG_eq, onlyNx_eq, nxo_nx, lst_eq, tup_eq, pat_nm, forS_eq, okS_nx, okS_rt, okS_bk, okS_ct, okS_exc, okE_oke, List.getElem?_cons_zero, List.getElem?_cons_succ, List.set_cons_zero, List.set_cons_succ, ofString_inj, decide_eq_true_eq, Bool.not_eq_true', decide_eq_false_iff_not, reduceIte, if_true, if_false, Int.reduceLT, Int.reduceLE, Int.reduceEq, Int.reduceNe, decide_true, decide_false, Bool.false_eq_true, String.reduceEq, Bool.not_true, Bool.not_false, idxO_dct, stIxO_dct, keyV_str, keyV_int, isKd_nil, isKd_cons, dLook_nil, dLook_cons, dct_eq, dctO_ok, prs_nil, prs_cons, get_new, set_new, dPut, dHas, List.any_cons, List.any_nil, List.all_cons, List.all_nil, List.foldl_cons, List.foldl_nil, List.map_cons, List.map_nil, List.cons_append, List.nil_append, Option.some.injEq, Sum.inr.injEq, Sum.inl.injEq, Option.isSome_some, Bool.or_false, Bool.false_or, Bool.or_true, Bool.true_or, Bool.and_true, Bool.true_and, Bool.and_self, List.length_cons, List.length_nil, sizeLine_eq, Nat.reduceAdd, Nat.reduceLeDiff, Nat.reduceLT, and_self, and_true, true_and, false_and, and_false, Bool.or_self, Bool.and_false, Bool.false_and, reduceCtorEq, in_tup, memFlat_nil, memFlat_cons, eqFlat_ss, eqFlat_ii, flatA_str, flatA_int, cpow2, comp_eq, gs_nil, gs_cons, oI_int, chain_eq, all_new, any_new, meth_eq, mApp_append, appK_lst, appendA_r, appO_lst, aug_eq, ipAdd_ii, ipSub_ii, ipAdd_ss, len_t, itOf_str, isi_non, isi_bl, isi_int, isi_str, isi_tup, isiB, String.reduceBEq, Nat.reducePow, Int.reduceToNat, Int.reducePow, Int.reduceSub, Int.reduceNeg, Int.reduceAdd, Int.reduceMul]
  · simp only [seqS_eq, bdS_eq, bd_eq, ifS_eq, thn_nx, thn_rt, thn_bk, thn_ct, thn_exc, thn_bad, thS_ok, thS_exc, thS_bad, thE_ok, thE_exc, thE_bad, thIf_ok, thIf_exc, thIf_bad, ret_eq, setS_eq, retS_eq, skipS_eq, alloc_eq, callM_eq, evs_nil, evs_cons, asBool_bl, tru_bl, tru_int, tru_non, tru_tup, runR_nx, runR_rt, runR_exc, runR_bad, runR_ite, thn_ite, thS_ite, thE_ite, ite_app2, ite_app2S, add_ii, sub_ii, mul_ii, fdiv_ii, mod_ii, pow_ii, shl_ii, shr_ii, band_ii, bor_ii, bxor_ii, neg_i, lt_ii, le_ii, gt_ii, ge_ii, eq_ii, eq_ss, eq_bb, ne_ii, ne_ss, ne_bb, isN_non, isN_int, isN_tup, isN_ref, isN_str, int_i, int_b, abs_i, max_ii, min_ii, slotM, idx_r, idx_t, idxO_lst, idxO_fro, atO_some, stIx_r, len_r, lenO_lst, lenO_fro, list_r, listO_lst, listO_fro, andT_one, andT_two, orT_one, orT_two, andV_one, andV_two, orV_one, orV_two, asg_eq, subG_eq, onlyNx_eq, nxo_nx, lst_eq, tup_eq, pat_nm, forS_eq, okS_nx, okS_rt, okS_bk, okS_ct, okS_exc, okE_oke, List.getElem?_cons_zero, List.getElem?_cons_succ, List.set_cons_zero, List.set_cons_succ, ofString_inj, decide_eq_true_eq, Bool.not_eq_true', decide_eq_false_iff_not, reduceIte, if_true, if_false, Int.reduceLT, Int.reduceLE, Int.reduceEq, Int.reduceNe, decide_true, decide_false, Bool.false_eq_true, String.reduceEq, Bool.not_true, Bool.not_false, idxO_dct, stIxO_dct, keyV_str, keyV_int, isKd_nil, isKd_cons, dLook_nil, dLook_cons, dct_eq, dctO_ok, prs_nil, prs_cons, get_new, set_new, dPut, dHas, List.any_cons, List.any_nil, List.all_cons, List.all_nil, List.foldl_cons, List.foldl_nil, List.map_cons, List.map_nil, List.cons_append, List.nil_append, Option.some.injEq, Sum.inr.injEq, Sum.inl.injEq, Option.isSome_some, Bool.or_false, Bool.false_or, Bool.or_true, Bool.true_or, Bool.and_true, Bool.true_and, Bool.and_self, List.length_cons, List.length_nil, sizeLine_eq, Nat.reduceAdd, Nat.reduceLeDiff, Nat.reduceLT, and_self, and_true, true_and, false_and, and_false, Bool.or_self, Bool.and_false, Bool.false_and, reduceCtorEq, in_tup, memFlat_nil, memFlat_cons, eqFlat_ss, eqFlat_ii, flatA_str, flatA_int, cpow2, comp_eq, gs_nil, gs_cons, oI_int, chain_eq, all_new, any_new, meth_eq, mApp_append, appK_lst, appendA_r, appO_lst, aug_eq, ipAdd_ii, ipSub_ii, ipAdd_ss, len_t, itOf_str, isi_non, isi_bl, isi_int, isi_str, isi_tup, isiB, String.reduceBEq, Nat.reducePow, Int.reduceToNat, Int.reducePow, Int.reduceSub, Int.reduceNeg, Int.reduceAdd, Int.reduceMul, wipeA, in_S]
theorem rc2 (hz : big p) : s_law_run_c2 cf [c0, c1, c2, some (.str (S digL)), c4, c5, some (.str (S p)), c7, c8] h = .ok (.ref h.length) (h ++ [.lst ((p.map (isIn digL)).map AV.bl)]) := by
  unfold s_law_run_c2
  refine comp_in (l := p) (g := digL) ?_ (fun c hc h' => ?_) hz
  · simp only [seqS_eq, bdS_eq, bd_eq, ifS_eq, thn_nx, thn_rt, thn_bk, thn_ct, thn_exc, thn_bad, thS_ok, thS_exc, thS_bad, thE_ok, thE_exc, thE_bad, thIf_ok, thIf_exc, thIf_bad, ret_eq, setS_eq, retS_eq, skipS_eq, alloc_eq, callM_eq, evs_nil, evs_cons, asBool_bl, tru_bl, tru_int, tru_non, tru_tup, runR_nx, runR_rt, runR_exc, runR_bad, runR_ite, thn_ite, thS_ite, thE_ite, ite_app2, ite_app2S, add_ii, sub_ii, mul_ii, fdiv_ii, mod_ii, pow_ii, shl_ii, shr_ii, band_ii, bor_ii, bxor_ii, neg_i, lt_ii, le_ii, gt_ii, ge_ii, eq_ii, eq_ss, eq_bb, ne_ii, ne_ss, ne_bb, isN_non, isN_int, isN_tup, isN_ref, isN_str, int_i, int_b, abs_i, max_ii, min_ii, slotM, idx_r, idx_t, idxO_lst, idxO_fro, atO_some, stIx_r, len_r, lenO_lst, lenO_fro, list_r, listO_lst, listO_fro, andT_one, andT_two, orT_one, orT_two, andV_one, andV_two, orV_one, orV_two, asg_eq, subG_eq, onlyNx_eq, nxo_nx, lst_eq, tup_eq, pat_nm, forS_eq, okS_nx, okS_rt, okS_bk, okS_ct, okS_exc, okE_oke, List.getElem?_cons_zero, List.getElem?_cons_succ, List.set_cons_zero, List.set_cons_succ, ofString_inj, decide_eq_true_eq, Bool.not_eq_true', decide_eq_false_iff_not, reduceIte, if_true, if_false, Int.reduceLT, Int.reduceLE, Int.reduceEq, Int.reduceNe, decide_true, decide_false, Bool.false_eq_true, String.reduceEq, Bool.not_true, Bool.not_false, idxO_dct, stIxO_dct, keyV_str, keyV_int, isKd_nil, isKd_cons, dLook_nil, dLook_cons, dct_eq, dctO_ok, prs_nil, prs_cons, get_new, set_new, dPut, dHas, List.any_cons, List.any_nil, List.all_cons, List.all_nil, List.foldl_cons, List.foldl_nil, List.map_cons, List.map_nil, List.cons_append, List.nil_append, Option.some.injEq, Sum.inr.injEq, Sum.inl.injEq, Option.isSome_some, Bool.or_false, Bool.false_or, Bool.or_true, Bool.true_or, Bool.and_true, Bool.true_and, Bool.and_self, List.length_cons, List.length_nil, sizeLine_eq, Nat.reduceAdd, Nat.reduceLeDiff, Nat.reduceLT, and_self, and_true, true_and, false_and, and_false, Bool.or_self, Bool.and_false, Bool.false_and, reduceCtorEq, in_tup, memFlat_nil, memFlat_cons, eqFlat_ss, eqFlat_ii, flatA_str, flatA_int, cpow2, comp_eq, gs_nil, gs_cons, oI_int, chain_eq, all_new, any_new, meth_eq, mApp_append, appK_lst, appendA_r, appO_lst, aug_eq, ipAdd_ii, ipSub_ii, ipAdd_ss, len_t, itOf_str, isi_non, isi_bl, isi_int, isi_str, isi_tup, isiB, String.reduceBEq, Nat.reducePow, Int.reduceToNat, Int.reducePow, Int.reduceSub, Int.reduceNeg, Int.reduceAdd, Int.reduceMul]
  · simp only [seqS_eq, bdS_eq, bd_eq, ifS_eq, thn_nx, thn_rt, thn_bk, thn_ct, thn_exc, thn_bad, thS_ok, thS_exc, thS_bad, thE_ok, thE_exc, thE_bad, thIf_ok, thIf_exc, thIf_bad, ret_eq, setS_eq, retS_eq, skipS_eq, alloc_eq, callM_eq, evs_nil, evs_cons, asBool_bl, tru_bl, tru_int, tru_non, tru_tup, runR_nx, runR_rt, runR_exc, runR_bad, runR_ite, thn_ite, thS_ite, thE_ite, ite_app2, ite_app2S, add_ii, sub_ii, mul_ii, fdiv_ii, mod_ii, pow_ii, shl_ii, shr_ii, band_ii, bor_ii, bxor_ii, neg_i, lt_ii, le_ii, gt_ii, ge_ii, eq_ii, eq_ss, eq_bb, ne_ii, ne_ss, ne_bb, isN_non, isN_int, isN_tup, isN_ref, isN_str, int_i, int_b, abs_i, max_ii, min_ii, slotM, idx_r, idx_t, idxO_lst, idxO_fro, atO_some, stIx_r, len_r, lenO_lst, lenO_fro, list_r, listO_lst, listO_fro, andT_one, andT_two, orT_one, orT_two, andV_one, andV_two, orV_one, orV_two, asg_eq, subG_eq, onlyNx_eq, nxo_nx, lst_eq, tup_eq, pat_nm, forS_eq, okS_nx, okS_rt, okS_bk, okS_ct, okS_exc, okE_oke, List.getElem?_cons_zero, List.getElem?_cons_succ, List.set_cons_zero, List.set_cons_succ, ofString_inj, decide_eq_true_eq, Bool.not_eq_true', decide_eq_false_iff_not, reduceIte, if_true, if_false, Int.reduceLT, Int.reduceLE, Int.reduceEq, Int.reduceNe, decide_true, decide_false, Bool.false_eq_true, String.reduceEq, Bool.not_true, Bool.not_false, idxO_dct, stIxO_dct, keyV_str, keyV_int, isKd_nil, isKd_cons, dLook_nil, dLook_cons, dct_eq, dctO_ok, prs_nil, prs_cons, get_new, set_new, dPut, dHas, List.any_cons, List.any_nil, List.all_cons, List.all_nil, List.foldl_cons, List.foldl_nil, List.map_cons, List.map_nil, List.cons_append, List.nil_append, Option.some.injEq, Sum.inr.injEq, Sum.inl.injEq, Option.isSome_some, Bool.or_false, Bool.false_or, Bool.or_true, Bool.true_or, Bool.and_true, Bool.true_and, Bool.and_self, List.length_cons, List.length_nil, sizeLine_eq, Nat.reduceAdd, Nat.reduceLeDiff, Nat.reduceLT, and_self, and_true, true_and, false_and, and_false, Bool.or_self, Bool.and_false, Bool.false_and, reduceCtorEq, in_tup, memFlat_nil, memFlat_cons, eqFlat_ss, eqFlat_ii, flatA_str, flatA_int, cpow2, comp_eq, gs_nil, gs_cons, oI_int, chain_eq, all_new, any_new, meth_eq, mApp_append, appK_lst, appendA_r, appO_lst, aug_eq, ipAdd_ii, ipSub_ii, ipAdd_ss, len_t, itOf_str, isi_non, isi_bl, isi_int, isi_str, isi_tup, isiB, String.reduceBEq, Nat.reducePow, Int.reduceToNat, Int.reducePow, Int.reduceSub, Int.reduceNeg, Int.reduceAdd, Int.reduceMul, wipeA, in_S]
theorem rc3 (hz : big p) : s_law_run_c3 cf [c0, c1, c2, some (.str (S digL)), c4, c5, some (.str (S p)), c7, c8] h = .ok (.ref h.length) (h ++ [.lst (((p.drop 2).map (isIn digL)).map AV.bl)]) := by
  unfold s_law_run_c3
  have ct : cutS (S p) (some 2) none = S (p.drop 2) := cut_tail (i := 2)
  refine comp_in (l := p.drop 2) (g := digL) ?_ (fun c hc h' => ?_) (by unfold big at *; simp; omega)
  · simp only [seqS_eq, bdS_eq, bd_eq, ifS_eq, thn_nx, thn_rt, thn_bk, thn_ct, thn_exc, thn_bad, thS_ok, thS_exc, thS_bad, thE_ok, thE_exc, thE_bad, thIf_ok, thIf_exc, thIf_bad, ret_eq, setS_eq, retS_eq, skipS_eq, alloc_eq, callM_eq, evs_nil, evs_cons, asBool_bl, tru_bl, tru_int, tru_non, tru_tup, runR_nx, runR_rt, runR_exc, runR_bad, runR_ite, thn_ite, thS_ite, thE_ite, ite_app2, ite_app2S, add_ii, sub_ii, mul_ii, fdiv_ii, mod_ii, pow_ii, shl_ii, shr_ii, band_ii, bor_ii, bxor_ii, neg_i, lt_ii, le_ii, gt_ii, ge_ii, eq_ii, eq_ss, eq_bb, ne_ii, ne_ss, ne_bb, isN_non, isN_int, isN_tup, isN_ref, isN_str, int_i, int_b, abs_i, max_ii, min_ii, slotM, idx_r, idx_t, idxO_lst, idxO_fro, atO_some, stIx_r, len_r, lenO_lst, lenO_fro, list_r, listO_lst, listO_fro, andT_one, andT_two, orT_one, orT_two, andV_one, andV_two, orV_one, orV_two, asg_eq, subG_eq, onlyNx_eq, nxo_nx, lst_eq, tup_eq, pat_nm, forS_eq, okS_nx, okS_rt, okS_bk, okS_ct, okS_exc, okE_oke, List.getElem?_cons_zero, List.getElem?_cons_succ, List.set_cons_zero, List.set_cons_succ, ofString_inj, decide_eq_true_eq, Bool.not_eq_true', decide_eq_false_iff_not, reduceIte, if_true, if_false, Int.reduceLT, Int.reduceLE, Int.reduceEq, Int.reduceNe, decide_true, decide_false, Bool.false_eq_true, String.reduceEq, Bool.not_true, Bool.not_false, idxO_dct, stIxO_dct, keyV_str, keyV_int, isKd_nil, isKd_cons, dLook_nil, dLook_cons, dct_eq, dctO_ok, prs_nil, prs_cons, get_new, set_new, dPut, dHas, List.any_cons, List.any_nil, List.all_cons, List.all_nil, List.foldl_cons, List.foldl_nil, List.map_cons, List.map_nil, List.cons_append, List.nil_append, Option.some.injEq, Sum.inr.injEq, Sum.inl.injEq, Option.isSome_some, Bool.or_false, Bool.false_or, Bool.or_true, Bool.true_or, Bool.and_true, Bool.true_and, Bool.and_self, List.length_cons, List.length_nil, sizeLine_eq, Nat.reduceAdd, Nat.reduceLeDiff, Nat.reduceLT, and_self, and_true, true_and, false_and, and_false, Bool.or_self, Bool.and_false, Bool.false_and, reduceCtorEq, in_tup, memFlat_nil, memFlat_cons, eqFlat_ss, eqFlat_ii, flatA_str, flatA_int, cpow2, comp_eq, gs_nil, gs_cons, oI_int, chain_eq, all_new, any_new, meth_eq, mApp_append, appK_lst, appendA_r, appO_lst, aug_eq, ipAdd_ii, ipSub_ii, ipAdd_ss, len_t, itOf_str, isi_non, isi_bl, isi_int, isi_str, isi_tup, isiB, String.reduceBEq, Nat.reducePow, Int.reduceToNat, Int.reducePow, Int.reduceSub, Int.reduceNeg, Int.reduceAdd, Int.reduceMul, slc_S hz.z, ct]
  · simp only [seqS_eq, bdS_eq, bd_eq, ifS_eq, thn_nx, thn_rt, thn_bk, thn_ct, thn_exc, thn_bad, thS_ok, thS_exc, thS_bad, thE_ok, thE_exc, thE_bad, thIf_ok, thIf_exc, thIf_bad, ret_eq, setS_eq, retS_eq, skipS_eq, alloc_eq, callM_eq, evs_nil, evs_cons, asBool_bl, tru_bl, tru_int, tru_non, tru_tup, runR_nx, runR_rt, runR_exc, runR_bad, runR_ite, thn_ite, thS_ite, thE_ite, ite_app2, ite_app2S, add_ii, sub_ii, mul_ii, fdiv_ii, mod_ii, pow_ii, shl_ii, shr_ii, band_ii, bor_ii, bxor_ii, neg_i, lt_ii, le_ii, gt_ii, ge_ii, eq_ii, eq_ss, eq_bb, ne_ii, ne_ss, ne_bb, isN_non, isN_int, isN_tup, isN_ref, isN_str, int_i, int_b, abs_i, max_ii, min_ii, slotM, idx_r, idx_t, idxO_lst, idxO_fro, atO_some, stIx_r, len_r, lenO_lst, lenO_fro, list_r, listO_lst, listO_fro, andT_one, andT_two, orT_one, orT_two, andV_one, andV_two, orV_one, orV_two, asg_eq, subG_eq, onlyNx_eq, nxo_nx, lst_eq, tup_eq, pat_nm, forS_eq, okS_nx, okS_rt, okS_bk, okS_ct, okS_exc, okE_oke, List.getElem?_cons_zero, List.getElem?_cons_succ, List.set_cons_zero, List.set_cons_succ, ofString_inj, decide_eq_true_eq, Bool.not_eq_true', decide_eq_false_iff_not, reduceIte, if_true, if_false, Int.reduceLT, Int.reduceLE, Int.reduceEq, Int.reduceNe, decide_true, decide_false, Bool.false_eq_true, String.reduceEq, Bool.not_true, Bool.not_false, idxO_dct, stIxO_dct, keyV_str, keyV_int, isKd_nil, isKd_cons, dLook_nil, dLook_cons, dct_eq, dctO_ok, prs_nil, prs_cons, get_new, set_new, dPut, dHas, List.any_cons, List.any_nil, List.all_cons, List.all_nil, List.foldl_cons, List.foldl_nil, List.map_cons, List.map_nil, List.cons_append, List.nil_append, Option.some.injEq, Sum.inr.injEq, Sum.inl.injEq, Option.isSome_some, Bool.or_false, Bool.false_or, Bool.or_true, Bool.true_or, Bool.and_true, Bool.true_and, Bool.and_self, List.length_cons, List.length_nil, sizeLine_eq, Nat.reduceAdd, Nat.reduceLeDiff, Nat.reduceLT, and_self, and_true, true_and, false_and, and_false, Bool.or_self, Bool.and_false, Bool.false_and, reduceCtorEq, in_tup, memFlat_nil, memFlat_cons, eqFlat_ss, eqFlat_ii, flatA_str, flatA_int, cpow2, comp_eq, gs_nil, gs_cons, oI_int, chain_eq, all_new, any_new, meth_eq, mApp_append, appK_lst, appendA_r, appO_lst, aug_eq, ipAdd_ii, ipSub_ii, ipAdd_ss, len_t, itOf_str, isi_non, isi_bl, isi_int, isi_str, isi_tup, isiB, String.reduceBEq, Nat.reducePow, Int.reduceToNat, Int.reducePow, Int.reduceSub, Int.reduceNeg, Int.reduceAdd, Int.reduceMul, wipeA, in_S]
end
theorem rng2 {i j : Int} {s : Sl} {h : AH} (h1 : 0 ≤ i) (h2 : i < 2 ^ 62) (h3 : 0 ≤ j) (h4 : j < 2 ^ 62) : rangeI2 (.int i) (.int j) s h = .ok (.vals ((List.range (j - i).toNat).map fun (k : Nat) => AV.int (i + (k : Int)))) h := by
  unfold rangeI2
  have : -(2 ^ 62) ≤ i ∧ i < 2 ^ 62 ∧ -(2 ^ 62) ≤ j ∧ j < 2 ^ 62 := ⟨by omega, h2, by omega, h4⟩
  dsimp only
  rw [if_pos this]
  rfl
theorem lrun_ok (k : Nat) {L : List Nat} {at_ : Nat} {h : AH} (ha : at_ < L.length) (hz : big L) : ∃ l, callA T fs (k + 2) "_law_run" [.str (S L), .int at_] h = .ok (.str (S (runL (L.drop at_)))) (h ++ l) := by
  have key : okE (callA T fs (k + 2) "_law_run" [.str (S L), .int at_] h) fun v h' => v = .str (S (runL (L.drop at_))) ∧ ∃ l, h' = h ++ l := by
    rw [c_law_run]
    apply okE_runR
    unfold s_law_run
    have cnt : (((if (at_ : Int) + 40 < (L.length : Int) then (at_ : Int) + 40 else (L.length : Int)) + 1 - ((at_ : Int) + 1)).toNat) = min (L.drop at_).length 40 := by
      rw [List.length_drop]
      split <;> omega
    have r2 : ∀ (s : Sl) (h : AH), rangeI2 (.int ((at_ : Int) + 1)) (.int ((if (at_ : Int) + 40 < (L.length : Int) then (at_ : Int) + 40 else (L.length : Int)) + 1)) s h = .ok (.vals ((List.range (min (L.drop at_).length 40)).map fun (k : Nat) => AV.int ((at_ : Int) + 1 + (k : Int)))) h := fun s h => by
      rw [rng2 (by omega) (by unfold big at hz; omega) (by split <;> omega) (by unfold big at hz; split <;> omega), cnt]
    simp only [seqS_eq, bdS_eq, bd_eq, ifS_eq, thn_nx, thn_rt, thn_bk, thn_ct, thn_exc, thn_bad, thS_ok, thS_exc, thS_bad, thE_ok, thE_exc, thE_bad, thIf_ok, thIf_exc, thIf_bad, ret_eq, setS_eq, retS_eq, skipS_eq, alloc_eq, callM_eq, evs_nil, evs_cons, asBool_bl, tru_bl, tru_int, tru_non, tru_tup, runR_nx, runR_rt, runR_exc, runR_bad, runR_ite, thn_ite, thS_ite, thE_ite, ite_app2, ite_app2S, add_ii, sub_ii, mul_ii, fdiv_ii, mod_ii, pow_ii, shl_ii, shr_ii, band_ii, bor_ii, bxor_ii, neg_i, lt_ii, le_ii, gt_ii, ge_ii, eq_ii, eq_ss, eq_bb, ne_ii, ne_ss, ne_bb, isN_non, isN_int, isN_tup, isN_ref, isN_str, int_i, int_b, abs_i, max_ii, min_ii, slotM, idx_r, idx_t, idxO_lst, idxO_fro, atO_some, stIx_r, len_r, lenO_lst, lenO_fro, list_r, listO_lst, listO_fro, andT_one, andT_two, orT_one, orT_two, andV_one, andV_two, orV_one, orV_two, asg_eq, subG_eq, onlyNx_eq, nxo_nx, lst_eq, tup_eq, pat_nm, forS_eq, okS_nx, okS_rt, okS_bk, okS_ct, okS_exc, okE_oke, List.getElem?_cons_zero, List.getElem?_cons_succ, List.set_cons_zero, List.set_cons_succ, ofString_inj, decide_eq_true_eq, Bool.not_eq_true', decide_eq_false_iff_not, reduceIte, if_true, if_false, Int.reduceLT, Int.reduceLE, Int.reduceEq, Int.reduceNe, decide_true, decide_false, Bool.false_eq_true, String.reduceEq, Bool.not_true, Bool.not_false, idxO_dct, stIxO_dct, keyV_str, keyV_int, isKd_nil, isKd_cons, dLook_nil, dLook_cons, dct_eq, dctO_ok, prs_nil, prs_cons, get_new, set_new, dPut, dHas, List.any_cons, List.any_nil, List.all_cons, List.all_nil, List.foldl_cons, List.foldl_nil, List.map_cons, List.map_nil, List.cons_append, List.nil_append, Option.some.injEq, Sum.inr.injEq, Sum.inl.injEq, Option.isSome_some, Bool.or_false, Bool.false_or, Bool.or_true, Bool.true_or, Bool.and_true, Bool.true_and, Bool.and_self, List.length_cons, List.length_nil, sizeLine_eq, Nat.reduceAdd, Nat.reduceLeDiff, Nat.reduceLT, and_self, and_true, true_and, false_and, and_false, Bool.or_self, Bool.and_false, Bool.false_and, reduceCtorEq, in_tup, memFlat_nil, memFlat_cons, eqFlat_ss, eqFlat_ii, flatA_str, flatA_int, cpow2, comp_eq, gs_nil, gs_cons, oI_int, chain_eq, all_new, any_new, meth_eq, mApp_append, appK_lst, appendA_r, appO_lst, aug_eq, ipAdd_ii, ipSub_ii, ipAdd_ss, len_t, itOf_str, isi_non, isi_bl, isi_int, isi_str, isi_tup, isiB, String.reduceBEq, Nat.reducePow, Int.reduceToNat, Int.reducePow, Int.reduceSub, Int.reduceNeg, Int.reduceAdd, Int.reduceMul, len_S hz.z, r2, l_cap, l_dig, l_e]
    apply okS_thn
    refine okS_forV (fun i s h' => (∃ l, h' = h ++ l) ∧ ∃ c5 c6 c7 c8, s = [some (.str (S L)), some (.int at_), some (.str (S capL)), some (.str (S digL)), some (.str (S (runF (L.drop at_) i))), c5, c6, c7, c8]) ?_ ?_ _ _ _ _ ⟨⟨[], by simp⟩, none, none, none, none, rfl⟩ (by simp) (by simp; unfold turnsMax; omega)
    · rintro i x s h' ex ⟨⟨l, rfl⟩, c5, c6, c7, c8, rfl⟩
      have hi : i < min (L.drop at_).length 40 := by
        have := (List.getElem?_eq_some_iff.mp ex).1
        simpa using this
      obtain rfl : AV.int ((at_ : Int) + 1 + (i : Int)) = x := by
        rw [List.getElem?_map, List.getElem?_range hi] at ex
        simpa using ex
      have cast : (at_ : Int) + 1 + (i : Int) = ((at_ + (i + 1) : Nat) : Int) := by omega
      rw [cast]
      have dl : (L.drop at_).length = L.length - at_ := List.length_drop
      have cut : cutS (S L) (some (at_ : Int)) (some ((at_ + (i + 1) : Nat) : Int)) = S ((L.drop at_).take (i + 1)) := by
        rw [cut_take (Nat.le_of_lt ha), Nat.add_sub_cancel_left]
      have rf : runF (L.drop at_) (i + 1) = if condL ((L.drop at_).take (i + 1)) then (L.drop at_).take (i + 1) else runF (L.drop at_) i := rfl
      rw [rf]
      have pz : big ((L.drop at_).take (i + 1)) := by
        unfold big at *
        rw [List.length_take, dl]
        omega
      have pn : (L.drop at_).take (i + 1) ≠ [] := by
        intro z
        have := congrArg List.length z
        rw [List.length_take, dl] at this
        simp at this
        omega
      generalize (L.drop at_).take (i + 1) = P at *
      have ct : cutS (S P) none (some 2) = S (P.take 2) := cut_head (j := 2)
      have ke : (Str.ofString (kindL P) = S []) = (kindL P = "") := by rw [← l_e, ofString_inj]
      by_cases q1 : allIn capL P = true
      · have qc : condL P := .inl q1
        rw [if_pos qc]
        simp only [seqS_eq, bdS_eq, bd_eq, ifS_eq, thn_nx, thn_rt, thn_bk, thn_ct, thn_exc, thn_bad, thS_ok, thS_exc, thS_bad, thE_ok, thE_exc, thE_bad, thIf_ok, thIf_exc, thIf_bad, ret_eq, setS_eq, retS_eq, skipS_eq, alloc_eq, callM_eq, evs_nil, evs_cons, asBool_bl, tru_bl, tru_int, tru_non, tru_tup, runR_nx, runR_rt, runR_exc, runR_bad, runR_ite, thn_ite, thS_ite, thE_ite, ite_app2, ite_app2S, add_ii, sub_ii, mul_ii, fdiv_ii, mod_ii, pow_ii, shl_ii, shr_ii, band_ii, bor_ii, bxor_ii, neg_i, lt_ii, le_ii, gt_ii, ge_ii, eq_ii, eq_ss, eq_bb, ne_ii, ne_ss, ne_bb, isN_non, isN_int, isN_tup, isN_ref, isN_str, int_i, int_b, abs_i, max_ii, min_ii, slotM, idx_r, idx_t, idxO_lst, idxO_fro, atO_some, stIx_r, len_r, lenO_lst, lenO_fro, list_r, listO_lst, listO_fro, andT_one, andT_two, orT_one, orT_two, andV_one, andV_two, orV_one, orV_two, asg_eq, subG_eq, onlyNx_eq, nxo_nx, lst_eq, tup_eq, pat_nm, forS_eq, okS_nx, okS_rt, okS_bk, okS_ct, okS_exc, okE_oke, List.getElem?_cons_zero, List.getElem?_cons_succ, List.set_cons_zero, List.set_cons_succ, ofString_inj, decide_eq_true_eq, Bool.not_eq_true', decide_eq_false_iff_not, reduceIte, if_true, if_false, Int.reduceLT, Int.reduceLE, Int.reduceEq, Int.reduceNe, decide_true, decide_false, Bool.false_eq_true, String.reduceEq, Bool.not_true, Bool.not_false, idxO_dct, stIxO_dct, keyV_str, keyV_int, isKd_nil, isKd_cons, dLook_nil, dLook_cons, dct_eq, dctO_ok, prs_nil, prs_cons, get_new, set_new, dPut, dHas, List.any_cons, List.any_nil, List.all_cons, List.all_nil, List.foldl_cons, List.foldl_nil, List.map_cons, List.map_nil, List.cons_append, List.nil_append, Option.some.injEq, Sum.inr.injEq, Sum.inl.injEq, Option.isSome_some, Bool.or_false, Bool.false_or, Bool.or_true, Bool.true_or, Bool.and_true, Bool.true_and, Bool.and_self, List.length_cons, List.length_nil, sizeLine_eq, Nat.reduceAdd, Nat.reduceLeDiff, Nat.reduceLT, and_self, and_true, true_and, false_and, and_false, Bool.or_self, Bool.and_false, Bool.false_and, reduceCtorEq, in_tup, memFlat_nil, memFlat_cons, eqFlat_ss, eqFlat_ii, flatA_str, flatA_int, cpow2, comp_eq, gs_nil, gs_cons, oI_int, chain_eq, all_new, any_new, meth_eq, mApp_append, appK_lst, appendA_r, appO_lst, aug_eq, ipAdd_ii, ipSub_ii, ipAdd_ss, len_t, itOf_str, isi_non, isi_bl, isi_int, isi_str, isi_tup, isiB, String.reduceBEq, Nat.reducePow, Int.reduceToNat, Int.reducePow, Int.reduceSub, Int.reduceNeg, Int.reduceAdd, Int.reduceMul, slc_S hz.z, slc_S pz.z, cut, rc1 pz, rc2 pz, rc3 pz, all_map, q1]
        exact ⟨⟨_, by simp only [List.append_assoc]; rfl⟩, _, _, _, _, rfl⟩
      by_cases q2 : allIn digL P = true
      · have qc : condL P := .inr (.inl q2)
        rw [if_pos qc]
        simp only [seqS_eq, bdS_eq, bd_eq, ifS_eq, thn_nx, thn_rt, thn_bk, thn_ct, thn_exc, thn_bad, thS_ok, thS_exc, thS_bad, thE_ok, thE_exc, thE_bad, thIf_ok, thIf_exc, thIf_bad, ret_eq, setS_eq, retS_eq, skipS_eq, alloc_eq, callM_eq, evs_nil, evs_cons, asBool_bl, tru_bl, tru_int, tru_non, tru_tup, runR_nx, runR_rt, runR_exc, runR_bad, runR_ite, thn_ite, thS_ite, thE_ite, ite_app2, ite_app2S, add_ii, sub_ii, mul_ii, fdiv_ii, mod_ii, pow_ii, shl_ii, shr_ii, band_ii, bor_ii, bxor_ii, neg_i, lt_ii, le_ii, gt_ii, ge_ii, eq_ii, eq_ss, eq_bb, ne_ii, ne_ss, ne_bb, isN_non, isN_int, isN_tup, isN_ref, isN_str, int_i, int_b, abs_i, max_ii, min_ii, slotM, idx_r, idx_t, idxO_lst, idxO_fro, atO_some, stIx_r, len_r, lenO_lst, lenO_fro, list_r, listO_lst, listO_fro, andT_one, andT_two, orT_one, orT_two, andV_one, andV_two, orV_one, orV_two, asg_eq, subG_eq, onlyNx_eq, nxo_nx, lst_eq, tup_eq, pat_nm, forS_eq, okS_nx, okS_rt, okS_bk, okS_ct, okS_exc, okE_oke, List.getElem?_cons_zero, List.getElem?_cons_succ, List.set_cons_zero, List.set_cons_succ, ofString_inj, decide_eq_true_eq, Bool.not_eq_true', decide_eq_false_iff_not, reduceIte, if_true, if_false, Int.reduceLT, Int.reduceLE, Int.reduceEq, Int.reduceNe, decide_true, decide_false, Bool.false_eq_true, String.reduceEq, Bool.not_true, Bool.not_false, idxO_dct, stIxO_dct, keyV_str, keyV_int, isKd_nil, isKd_cons, dLook_nil, dLook_cons, dct_eq, dctO_ok, prs_nil, prs_cons, get_new, set_new, dPut, dHas, List.any_cons, List.any_nil, List.all_cons, List.all_nil, List.foldl_cons, List.foldl_nil, List.map_cons, List.map_nil, List.cons_append, List.nil_append, Option.some.injEq, Sum.inr.injEq, Sum.inl.injEq, Option.isSome_some, Bool.or_false, Bool.false_or, Bool.or_true, Bool.true_or, Bool.and_true, Bool.true_and, Bool.and_self, List.length_cons, List.length_nil, sizeLine_eq, Nat.reduceAdd, Nat.reduceLeDiff, Nat.reduceLT, and_self, and_true, true_and, false_and, and_false, Bool.or_self, Bool.and_false, Bool.false_and, reduceCtorEq, in_tup, memFlat_nil, memFlat_cons, eqFlat_ss, eqFlat_ii, flatA_str, flatA_int, cpow2, comp_eq, gs_nil, gs_cons, oI_int, chain_eq, all_new, any_new, meth_eq, mApp_append, appK_lst, appendA_r, appO_lst, aug_eq, ipAdd_ii, ipSub_ii, ipAdd_ss, len_t, itOf_str, isi_non, isi_bl, isi_int, isi_str, isi_tup, isiB, String.reduceBEq, Nat.reducePow, Int.reduceToNat, Int.reducePow, Int.reduceSub, Int.reduceNeg, Int.reduceAdd, Int.reduceMul, slc_S hz.z, slc_S pz.z, cut, rc1 pz, rc2 pz, rc3 pz, all_map, q1, q2]
        exact ⟨⟨_, by simp only [List.append_assoc]; rfl⟩, _, _, _, _, rfl⟩
      by_cases q3 : P.take 2 = [35, 45]
      · by_cases q4 : allIn digL (P.drop 2) = true
        · have qc : condL P := .inr (.inr (.inl ⟨q3, q4⟩))
          rw [if_pos qc]
          simp only [seqS_eq, bdS_eq, bd_eq, ifS_eq, thn_nx, thn_rt, thn_bk, thn_ct, thn_exc, thn_bad, thS_ok, thS_exc, thS_bad, thE_ok, thE_exc, thE_bad, thIf_ok, thIf_exc, thIf_bad, ret_eq, setS_eq, retS_eq, skipS_eq, alloc_eq, callM_eq, evs_nil, evs_cons, asBool_bl, tru_bl, tru_int, tru_non, tru_tup, runR_nx, runR_rt, runR_exc, runR_bad, runR_ite, thn_ite, thS_ite, thE_ite, ite_app2, ite_app2S, add_ii, sub_ii, mul_ii, fdiv_ii, mod_ii, pow_ii, shl_ii, shr_ii, band_ii, bor_ii, bxor_ii, neg_i, lt_ii, le_ii, gt_ii, ge_ii, eq_ii, eq_ss, eq_bb, ne_ii, ne_ss, ne_bb, isN_non, isN_int, isN_tup, isN_ref, isN_str, int_i, int_b, abs_i, max_ii, min_ii, slotM, idx_r, idx_t, idxO_lst, idxO_fro, atO_some, stIx_r, len_r, lenO_lst, lenO_fro, list_r, listO_lst, listO_fro, andT_one, andT_two, orT_one, orT_two, andV_one, andV_two, orV_one, orV_two, asg_eq, subG_eq, onlyNx_eq, nxo_nx, lst_eq, tup_eq, pat_nm, forS_eq, okS_nx, okS_rt, okS_bk, okS_ct, okS_exc, okE_oke, List.getElem?_cons_zero, List.getElem?_cons_succ, List.set_cons_zero, List.set_cons_succ, ofString_inj, decide_eq_true_eq, Bool.not_eq_true', decide_eq_false_iff_not, reduceIte, if_true, if_false, Int.reduceLT, Int.reduceLE, Int.reduceEq, Int.reduceNe, decide_true, decide_false, Bool.false_eq_true, String.reduceEq, Bool.not_true, Bool.not_false, idxO_dct, stIxO_dct, keyV_str, keyV_int, isKd_nil, isKd_cons, dLook_nil, dLook_cons, dct_eq, dctO_ok, prs_nil, prs_cons, get_new, set_new, dPut, dHas, List.any_cons, List.any_nil, List.all_cons, List.all_nil, List.foldl_cons, List.foldl_nil, List.map_cons, List.map_nil, List.cons_append, List.nil_append, Option.some.injEq, Sum.inr.injEq, Sum.inl.injEq, Option.isSome_some, Bool.or_false, Bool.false_or, Bool.or_true, Bool.true_or, Bool.and_true, Bool.true_and, Bool.and_self, List.length_cons, List.length_nil, sizeLine_eq, Nat.reduceAdd, Nat.reduceLeDiff, Nat.reduceLT, and_self, and_true, true_and, false_and, and_false, Bool.or_self, Bool.and_false, Bool.false_and, reduceCtorEq, in_tup, memFlat_nil, memFlat_cons, eqFlat_ss, eqFlat_ii, flatA_str, flatA_int, cpow2, comp_eq, gs_nil, gs_cons, oI_int, chain_eq, all_new, any_new, meth_eq, mApp_append, appK_lst, appendA_r, appO_lst, aug_eq, ipAdd_ii, ipSub_ii, ipAdd_ss, len_t, itOf_str, isi_non, isi_bl, isi_int, isi_str, isi_tup, isiB, String.reduceBEq, Nat.reducePow, Int.reduceToNat, Int.reducePow, Int.reduceSub, Int.reduceNeg, Int.reduceAdd, Int.reduceMul, slc_S hz.z, slc_S pz.z, cut, rc1 pz, rc2 pz, rc3 pz, all_map, q1, q2, ct, l_hm, q3, q4]
          exact ⟨⟨_, by simp only [List.append_assoc]; rfl⟩, _, _, _, _, rfl⟩
        · obtain ⟨m, em⟩ := kind_ok k (p := P) (h := h ++ l ++ [.lst ((P.map (isIn capL)).map AV.bl)] ++ [.lst ((P.map (isIn digL)).map AV.bl)] ++ [.lst (((P.drop 2).map (isIn digL)).map AV.bl)]) pz pn
          by_cases q5 : kindL P = ""
          · have qc : ¬ condL P := fun z => by
              rcases z with z | z | z | z
              · exact q1 z
              · exact q2 z
              · exact q4 z.2
              · exact z q5
            rw [if_neg qc]
            simp only [seqS_eq, bdS_eq, bd_eq, ifS_eq, thn_nx, thn_rt, thn_bk, thn_ct, thn_exc, thn_bad, thS_ok, thS_exc, thS_bad, thE_ok, thE_exc, thE_bad, thIf_ok, thIf_exc, thIf_bad, ret_eq, setS_eq, retS_eq, skipS_eq, alloc_eq, callM_eq, evs_nil, evs_cons, asBool_bl, tru_bl, tru_int, tru_non, tru_tup, runR_nx, runR_rt, runR_exc, runR_bad, runR_ite, thn_ite, thS_ite, thE_ite, ite_app2, ite_app2S, add_ii, sub_ii, mul_ii, fdiv_ii, mod_ii, pow_ii, shl_ii, shr_ii, band_ii, bor_ii, bxor_ii, neg_i, lt_ii, le_ii, gt_ii, ge_ii, eq_ii, eq_ss, eq_bb, ne_ii, ne_ss, ne_bb, isN_non, isN_int, isN_tup, isN_ref, isN_str, int_i, int_b, abs_i, max_ii, min_ii, slotM, idx_r, idx_t, idxO_lst, idxO_fro, atO_some, stIx_r, len_r, lenO_lst, lenO_fro, list_r, listO_lst, listO_fro, andT_one, andT_two, orT_one, orT_two, andV_one, andV_two, orV_one, orV_two, asg_eq, subG_eq, onlyNx_eq, nxo_nx, lst_eq, tup_eq, pat_nm, forS_eq, okS_nx, okS_rt, okS_bk, okS_ct, okS_exc, okE_oke, List.getElem?_cons_zero, List.getElem?_cons_succ, List.set_cons_zero, List.set_cons_succ, ofString_inj, decide_eq_true_eq, Bool.not_eq_true', decide_eq_false_iff_not, reduceIte, if_true, if_false, Int.reduceLT, Int.reduceLE, Int.reduceEq, Int.reduceNe, decide_true, decide_false, Bool.false_eq_true, String.reduceEq, Bool.not_true, Bool.not_false, idxO_dct, stIxO_dct, keyV_str, keyV_int, isKd_nil, isKd_cons, dLook_nil, dLook_cons, dct_eq, dctO_ok, prs_nil, prs_cons, get_new, set_new, dPut, dHas, List.any_cons, List.any_nil, List.all_cons, List.all_nil, List.foldl_cons, List.foldl_nil, List.map_cons, List.map_nil, List.cons_append, List.nil_append, Option.some.injEq, Sum.inr.injEq, Sum.inl.injEq, Option.isSome_some, Bool.or_false, Bool.false_or, Bool.or_true, Bool.true_or, Bool.and_true, Bool.true_and, Bool.and_self, List.length_cons, List.length_nil, sizeLine_eq, Nat.reduceAdd, Nat.reduceLeDiff, Nat.reduceLT, and_self, and_true, true_and, false_and, and_false, Bool.or_self, Bool.and_false, Bool.false_and, reduceCtorEq, in_tup, memFlat_nil, memFlat_cons, eqFlat_ss, eqFlat_ii, flatA_str, flatA_int, cpow2, comp_eq, gs_nil, gs_cons, oI_int, chain_eq, all_new, any_new, meth_eq, mApp_append, appK_lst, appendA_r, appO_lst, aug_eq, ipAdd_ii, ipSub_ii, ipAdd_ss, len_t, itOf_str, isi_non, isi_bl, isi_int, isi_str, isi_tup, isiB, String.reduceBEq, Nat.reducePow, Int.reduceToNat, Int.reducePow, Int.reduceSub, Int.reduceNeg, Int.reduceAdd, Int.reduceMul, slc_S hz.z, slc_S pz.z, cut, rc1 pz, rc2 pz, rc3 pz, all_map, q1, q2, ct, l_hm, q3, q4, em, ke, q5]
            exact ⟨⟨_, by simp only [List.append_assoc]; rfl⟩, _, _, _, _, rfl⟩
          · have qc : condL P := .inr (.inr (.inr q5))
            rw [if_pos qc]
            simp only [seqS_eq, bdS_eq, bd_eq, ifS_eq, thn_nx, thn_rt, thn_bk, thn_ct, thn_exc, thn_bad, thS_ok, thS_exc, thS_bad, thE_ok, thE_exc, thE_bad, thIf_ok, thIf_exc, thIf_bad, ret_eq, setS_eq, retS_eq, skipS_eq, alloc_eq, callM_eq, evs_nil, evs_cons, asBool_bl, tru_bl, tru_int, tru_non, tru_tup, runR_nx, runR_rt, runR_exc, runR_bad, runR_ite, thn_ite, thS_ite, thE_ite, ite_app2, ite_app2S, add_ii, sub_ii, mul_ii, fdiv_ii, mod_ii, pow_ii, shl_ii, shr_ii, band_ii, bor_ii, bxor_ii, neg_i, lt_ii, le_ii, gt_ii, ge_ii, eq_ii, eq_ss, eq_bb, ne_ii, ne_ss, ne_bb, isN_non, isN_int, isN_tup, isN_ref, isN_str, int_i, int_b, abs_i, max_ii, min_ii, slotM, idx_r, idx_t, idxO_lst, idxO_fro, atO_some, stIx_r, len_r, lenO_lst, lenO_fro, list_r, listO_lst, listO_fro, andT_one, andT_two, orT_one, orT_two, andV_one, andV_two, orV_one, orV_two, asg_eq, subG_eq, onlyNx_eq, nxo_nx, lst_eq, tup_eq, pat_nm, forS_eq, okS_nx, okS_rt, okS_bk, okS_ct, okS_exc, okE_oke, List.getElem?_cons_zero, List.getElem?_cons_succ, List.set_cons_zero, List.set_cons_succ, ofString_inj, decide_eq_true_eq, Bool.not_eq_true', decide_eq_false_iff_not, reduceIte, if_true, if_false, Int.reduceLT, Int.reduceLE, Int.reduceEq, Int.reduceNe, decide_true, decide_false, Bool.false_eq_true, String.reduceEq, Bool.not_true, Bool.not_false, idxO_dct, stIxO_dct, keyV_str, keyV_int, isKd_nil, isKd_cons, dLook_nil, dLook_cons, dct_eq, dctO_ok, prs_nil, prs_cons, get_new, set_new, dPut, dHas, List.any_cons, List.any_nil, List.all_cons, List.all_nil, List.foldl_cons, List.foldl_nil, List.map_cons, List.map_nil, List.cons_append, List.nil_append, Option.some.injEq, Sum.inr.injEq, Sum.inl.injEq, Option.isSome_some, Bool.or_false, Bool.false_or, Bool.or_true, Bool.true_or, Bool.and_true, Bool.true_and, Bool.and_self, List.length_cons, List.length_nil, sizeLine_eq, Nat.reduceAdd, Nat.reduceLeDiff, Nat.reduceLT, and_self, and_true, true_and, false_and, and_false, Bool.or_self, Bool.and_false, Bool.false_and, reduceCtorEq, in_tup, memFlat_nil, memFlat_cons, eqFlat_ss, eqFlat_ii, flatA_str, flatA_int, cpow2, comp_eq, gs_nil, gs_cons, oI_int, chain_eq, all_new, any_new, meth_eq, mApp_append, appK_lst, appendA_r, appO_lst, aug_eq, ipAdd_ii, ipSub_ii, ipAdd_ss, len_t, itOf_str, isi_non, isi_bl, isi_int, isi_str, isi_tup, isiB, String.reduceBEq, Nat.reducePow, Int.reduceToNat, Int.reducePow, Int.reduceSub, Int.reduceNeg, Int.reduceAdd, Int.reduceMul, slc_S hz.z, slc_S pz.z, cut, rc1 pz, rc2 pz, rc3 pz, all_map, q1, q2, ct, l_hm, q3, q4, em, ke, q5]
            exact ⟨⟨_, by simp only [List.append_assoc]; rfl⟩, _, _, _, _, rfl⟩
      · obtain ⟨m, em⟩ := kind_ok k (p := P) (h := h ++ l ++ [.lst ((P.map (isIn capL)).map AV.bl)] ++ [.lst ((P.map (isIn digL)).map AV.bl)]) pz pn
        by_cases q5 : kindL P = ""
        · have qc : ¬ condL P := fun z => by
            rcases z with z | z | z | z
            · exact q1 z
            · exact q2 z
            · exact q3 z.1
            · exact z q5
          rw [if_neg qc]
          simp only [seqS_eq, bdS_eq, bd_eq, ifS_eq, thn_nx, thn_rt, thn_bk, thn_ct, thn_exc, thn_bad, thS_ok, thS_exc, thS_bad, thE_ok, thE_exc, thE_bad, thIf_ok, thIf_exc, thIf_bad, ret_eq, setS_eq, retS_eq, skipS_eq, alloc_eq, callM_eq, evs_nil, evs_cons, asBool_bl, tru_bl, tru_int, tru_non, tru_tup, runR_nx, runR_rt, runR_exc, runR_bad, runR_ite, thn_ite, thS_ite, thE_ite, ite_app2, ite_app2S, add_ii, sub_ii, mul_ii, fdiv_ii, mod_ii, pow_ii, shl_ii, shr_ii, band_ii, bor_ii, bxor_ii, neg_i, lt_ii, le_ii, gt_ii, ge_ii, eq_ii, eq_ss, eq_bb, ne_ii, ne_ss, ne_bb, isN_non, isN_int, isN_tup, isN_ref, isN_str, int_i, int_b, abs_i, max_ii, min_ii, slotM, idx_r, idx_t, idxO_lst, idxO_fro, atO_some, stIx_r, len_r, lenO_lst, lenO_fro, list_r, listO_lst, listO_fro, andT_one, andT_two, orT_one, orT_two, andV_one, andV_two, orV_one, orV_two, asg_eq, subG_eq, onlyNx_eq, nxo_nx, lst_eq, tup_eq, pat_nm, forS_eq, okS_nx, okS_rt, okS_bk, okS_ct, okS_exc, okE_oke, List.getElem?_cons_zero, List.getElem?_cons_succ, List.set_cons_zero, List.set_cons_succ, ofString_inj, decide_eq_true_eq, Bool.not_eq_true', decide_eq_false_iff_not, reduceIte, if_true, if_false, Int.reduceLT, Int.reduceLE, Int.reduceEq, Int.reduceNe, decide_true, decide_false, Bool.false_eq_true, String.reduceEq, Bool.not_true, Bool.not_false, idxO_dct, stIxO_dct, keyV_str, keyV_int, isKd_nil, isKd_cons, dLook_nil, dLook_cons, dct_eq, dctO_ok, prs_nil, prs_cons, get_new, set_new, dPut, dHas, List.any_cons, List.any_nil, List.all_cons, List.all_nil, List.foldl_cons, List.foldl_nil, List.map_cons, List.map_nil, List.cons_append, List.nil_append, Option.some.injEq, Sum.inr.injEq, Sum.inl.injEq, Option.isSome_some, Bool.or_false, Bool.false_or, Bool.or_true, Bool.true_or, Bool.and_true, Bool.true_and, Bool.and_self, List.length_cons, List.length_nil, sizeLine_eq, Nat.reduceAdd, Nat.reduceLeDiff, Nat.reduceLT, and_self, and_true, true_and, false_and, and_false, Bool.or_self, Bool.and_false, Bool.false_and, reduceCtorEq, in_tup, memFlat_nil, memFlat_cons, eqFlat_ss, eqFlat_ii, flatA_str, flatA_int, cpow2, comp_eq, gs_nil, gs_cons, oI_int, chain_eq, all_new, any_new, meth_eq, mApp_append, appK_lst, appendA_r, appO_lst, aug_eq, ipAdd_ii, ipSub_ii, ipAdd_ss, len_t, itOf_str, isi_non, isi_bl, isi_int, isi_str, isi_tup, isiB, String.reduceBEq, Nat.reducePow, Int.reduceToNat, Int.reducePow, Int.reduceSub, Int.reduceNeg, Int.reduceAdd, Int.reduceMul, slc_S hz.z, slc_S pz.z, cut, rc1 pz, rc2 pz, rc3 pz, all_map, q1, q2, ct, l_hm, S_inj, q3, em, ke, q5]
          exact ⟨⟨_, by simp only [List.append_assoc]; rfl⟩, _, _, _, _, rfl⟩
        · have qc : condL P := .inr (.inr (.inr q5))
          rw [if_pos qc]
          simp only [seqS_eq, bdS_eq, bd_eq, ifS_eq, thn_nx, thn_rt, thn_bk, thn_ct, thn_exc, thn_bad, thS_ok, thS_exc, thS_bad, thE_ok, thE_exc, thE_bad, thIf_ok, thIf_exc, thIf_bad, ret_eq, setS_eq, retS_eq, skipS_eq, alloc_eq, callM_eq, evs_nil, evs_cons, asBool_bl, tru_bl, tru_int, tru_non, tru_tup, runR_nx, runR_rt, runR_exc, runR_bad, runR_ite, thn_ite, thS_ite, thE_ite, ite_app2, ite_app2S, add_ii, sub_ii, mul_ii, fdiv_ii, mod_ii, pow_ii, shl_ii, shr_ii, band_ii, bor_ii, bxor_ii, neg_i, lt_ii, le_ii, gt_ii, ge_ii, eq_ii, eq_ss, eq_bb, ne_ii, ne_ss, ne_bb, isN_non, isN_int, isN_tup, isN_ref, isN_str, int_i, int_b, abs_i, max_ii, min_ii, slotM, idx_r, idx_t, idxO_lst, idxO_fro, atO_some, stIx_r, len_r, lenO_lst, lenO_fro, list_r, listO_lst, listO_fro, andT_one, andT_two, orT_one, orT_two, andV_one, andV_two, orV_one, orV_two, asg_eq, subG_eq, onlyNx_eq, nxo_nx, lst_eq, tup_eq, pat_nm, forS_eq, okS_nx, okS_rt, okS_bk, okS_ct, okS_exc, okE_oke, List.getElem?_cons_zero, List.getElem?_cons_succ, List.set_cons_zero, List.set_cons_succ, ofString_inj, decide_eq_true_eq, Bool.not_eq_true', decide_eq_false_iff_not, reduceIte, if_true, if_false, Int.reduceLT, Int.reduceLE, Int.reduceEq, Int.reduceNe, decide_true, decide_false, Bool.false_eq_true, String.reduceEq, Bool.not_true, Bool.not_false, idxO_dct, stIxO_dct, keyV_str, keyV_int, isKd_nil, isKd_cons, dLook_nil, dLook_cons, dct_eq, dctO_ok, prs_nil, prs_cons, get_new, set_new, dPut, dHas, List.any_cons, List.any_nil, List.all_cons, List.all_nil, List.foldl_cons, List.foldl_nil, List.map_cons, List.map_nil, List.cons_append, List.nil_append, Option.some.injEq, Sum.inr.injEq, Sum.inl.injEq, Option.isSome_some, Bool.or_false, Bool.false_or, Bool.or_true, Bool.true_or, Bool.and_true, Bool.true_and, Bool.and_self, List.length_cons, List.length_nil, sizeLine_eq, Nat.reduceAdd, Nat.reduceLeDiff, Nat.reduceLT, and_self, and_true, true_and, false_and, and_false, Bool.or_self, Bool.and_false, Bool.false_and, reduceCtorEq, in_tup, memFlat_nil, memFlat_cons, eqFlat_ss, eqFlat_ii, flatA_str, flatA_int, cpow2, comp_eq, gs_nil, gs_cons, oI_int, chain_eq, all_new, any_new, meth_eq, mApp_append, appK_lst, appendA_r, appO_lst, aug_eq, ipAdd_ii, ipSub_ii, ipAdd_ss, len_t, itOf_str, isi_non, isi_bl, isi_int, isi_str, isi_tup, isiB, String.reduceBEq, Nat.reducePow, Int.reduceToNat, Int.reducePow, Int.reduceSub, Int.reduceNeg, Int.reduceAdd, Int.reduceMul, slc_S hz.z, slc_S pz.z, cut, rc1 pz, rc2 pz, rc3 pz, all_map, q1, q2, ct, l_hm, S_inj, q3, em, ke, q5]
          exact ⟨⟨_, by simp only [List.append_assoc]; rfl⟩, _, _, _, _, rfl⟩
    · rintro s h' ⟨⟨l, rfl⟩, c5, c6, c7, c8, rfl⟩
      rw [List.length_map, List.length_range]
      simp only [seqS_eq, bdS_eq, bd_eq, ifS_eq, thn_nx, thn_rt, thn_bk, thn_ct, thn_exc, thn_bad, thS_ok, thS_exc, thS_bad, thE_ok, thE_exc, thE_bad, thIf_ok, thIf_exc, thIf_bad, ret_eq, setS_eq, retS_eq, skipS_eq, alloc_eq, callM_eq, evs_nil, evs_cons, asBool_bl, tru_bl, tru_int, tru_non, tru_tup, runR_nx, runR_rt, runR_exc, runR_bad, runR_ite, thn_ite, thS_ite, thE_ite, ite_app2, ite_app2S, add_ii, sub_ii, mul_ii, fdiv_ii, mod_ii, pow_ii, shl_ii, shr_ii, band_ii, bor_ii, bxor_ii, neg_i, lt_ii, le_ii, gt_ii, ge_ii, eq_ii, eq_ss, eq_bb, ne_ii, ne_ss, ne_bb, isN_non, isN_int, isN_tup, isN_ref, isN_str, int_i, int_b, abs_i, max_ii, min_ii, slotM, idx_r, idx_t, idxO_lst, idxO_fro, atO_some, stIx_r, len_r, lenO_lst, lenO_fro, list_r, listO_lst, listO_fro, andT_one, andT_two, orT_one, orT_two, andV_one, andV_two, orV_one, orV_two, asg_eq, subG_eq, onlyNx_eq, nxo_nx, lst_eq, tup_eq, pat_nm, forS_eq, okS_nx, okS_rt, okS_bk, okS_ct, okS_exc, okE_oke, List.getElem?_cons_zero, List.getElem?_cons_succ, List.set_cons_zero, List.set_cons_succ, ofString_inj, decide_eq_true_eq, Bool.not_eq_true', decide_eq_false_iff_not, reduceIte, if_true, if_false, Int.reduceLT, Int.reduceLE, Int.reduceEq, Int.reduceNe, decide_true, decide_false, Bool.false_eq_true, String.reduceEq, Bool.not_true, Bool.not_false, idxO_dct, stIxO_dct, keyV_str, keyV_int, isKd_nil, isKd_cons, dLook_nil, dLook_cons, dct_eq, dctO_ok, prs_nil, prs_cons, get_new, set_new, dPut, dHas, List.any_cons, List.any_nil, List.all_cons, List.all_nil, List.foldl_cons, List.foldl_nil, List.map_cons, List.map_nil, List.cons_append, List.nil_append, Option.some.injEq, Sum.inr.injEq, Sum.inl.injEq, Option.isSome_some, Bool.or_false, Bool.false_or, Bool.or_true, Bool.true_or, Bool.and_true, Bool.true_and, Bool.and_self, List.length_cons, List.length_nil, sizeLine_eq, Nat.reduceAdd, Nat.reduceLeDiff, Nat.reduceLT, and_self, and_true, true_and, false_and, and_false, Bool.or_self, Bool.and_false, Bool.false_and, reduceCtorEq, in_tup, memFlat_nil, memFlat_cons, eqFlat_ss, eqFlat_ii, flatA_str, flatA_int, cpow2, comp_eq, gs_nil, gs_cons, oI_int, chain_eq, all_new, any_new, meth_eq, mApp_append, appK_lst, appendA_r, appO_lst, aug_eq, ipAdd_ii, ipSub_ii, ipAdd_ss, len_t, itOf_str, isi_non, isi_bl, isi_int, isi_str, isi_tup, isiB, String.reduceBEq, Nat.reducePow, Int.reduceToNat, Int.reducePow, Int.reduceSub, Int.reduceNeg, Int.reduceAdd, Int.reduceMul]
      exact ⟨rfl, l, rfl⟩
  obtain ⟨v, h', e1, rfl, l, rfl⟩ := okE_iff.mp key
  exact ⟨l, e1⟩
end K14
namespace K14
open PySem PySem.Spec PyProof.Rows L2 Ev
/-! the law's token -/
def kind0 (P : List Nat) : String := if P = [] then "" else kindL P
def tokL (R : List Nat) : String × List Nat := (if kind0 (runL R) = "name" ∧ (runL R).length > 12 then "" else kind0 (runL R), runL R)
theorem runF_len (R : List Nat) : ∀ j, (runF R j).length ≤ R.length
  | 0 => Nat.zero_le _
  | j + 1 => by
    unfold runF
    split
    · rw [List.length_take]; omega
    · exact runF_len R j
theorem kindL_in (P : List Nat) : kindL P ∈ kindsL := by
  unfold kindL
  repeat' split
  all_goals decide
theorem kind0_in (P : List Nat) : kind0 P ∈ kindsL := by
  unfold kind0
  split
  · decide
  · exact kindL_in P
theorem tokL_len (R : List Nat) : (tokL R).2.length ≤ R.length := runF_len R _
theorem tokL_ne (R : List Nat) (h : (tokL R).1 ≠ "") : (tokL R).2 ≠ [] := by
  intro e
  apply h
  show (if _ then "" else kind0 (runL R)) = ""
  have e : runL R = [] := e
  rw [e]
  rfl
theorem ltokens_ok (k : Nat) {L : List Nat} {h : AH} (hz : big L) : ∃ l, callA T fs (k + 3) "_law_tokens" [.str (S L)] h = .ok (.ref h.length) ((h ++ [.lst ((runT tokL L 0).map tokAV)]) ++ l) := by
  have key : okE (callA T fs (k + 3) "_law_tokens" [.str (S L)] h) fun v h' => v = .ref h.length ∧ ∃ l, h' = (h ++ [.lst ((runT tokL L 0).map tokAV)]) ++ l := by
    rw [c_law_tokens]
    apply okE_runR
    unfold s_law_tokens
    simp only [seqS_eq, bdS_eq, bd_eq, ifS_eq, thn_nx, thn_rt, thn_bk, thn_ct, thn_exc, thn_bad, thS_ok, thS_exc, thS_bad, thE_ok, thE_exc, thE_bad, thIf_ok, thIf_exc, thIf_bad, ret_eq, setS_eq, retS_eq, skipS_eq, alloc_eq, callM_eq, evs_nil, evs_cons, asBool_bl, tru_bl, tru_int, tru_non, tru_tup, runR_nx, runR_rt, runR_exc, runR_bad, runR_ite, thn_ite, thS_ite, thE_ite, ite_app2, ite_app2S, add_ii, sub_ii, mul_ii, fdiv_ii, mod_ii, pow_ii, shl_ii, shr_ii, band_ii, bor_ii, bxor_ii, neg_i, lt_ii, le_ii, gt_ii, ge_ii, eq_ii, eq_ss, eq_bb, ne_ii, ne_ss, ne_bb, isN_non, isN_int, isN_tup, isN_ref, isN_str, int_i, int_b, abs_i, max_ii, min_ii, slotM, idx_r, idx_t, idxO_lst, idxO_fro, atO_some, stIx_r, len_r, lenO_lst, lenO_fro, list_r, listO_lst, listO_fro, andT_one, andT_two, orT_one, orT_two, andV_one, andV_two, orV_one, orV_two, asg_eq, subG_eq, onlyNx_eq, nxo_nx, lst_eq, tup_eq, pat_nm, forS_eq, okS_nx, okS_rt, okS_bk, okS_ct, okS_exc, okE_oke, List.getElem?_cons_zero, List.getElem?_cons_succ, List.set_cons_zero, List.set_cons_succ, ofString_inj, decide_eq_true_eq, Bool.not_eq_true', decide_eq_false_iff_not, reduceIte, if_true, if_false, Int.reduceLT, Int.reduceLE, Int.reduceEq, Int.reduceNe, decide_true, decide_false, Bool.false_eq_true, String.reduceEq, Bool.not_true, Bool.not_false, idxO_dct, stIxO_dct, keyV_str, keyV_int, isKd_nil, isKd_cons, dLook_nil, dLook_cons, dct_eq, dctO_ok, prs_nil, prs_cons, get_new, set_new, dPut, dHas, List.any_cons, List.any_nil, List.all_cons, List.all_nil, List.foldl_cons, List.foldl_nil, List.map_cons, List.map_nil, List.cons_append, List.nil_append, Option.some.injEq, Sum.inr.injEq, Sum.inl.injEq, Option.isSome_some, Bool.or_false, Bool.false_or, Bool.or_true, Bool.true_or, Bool.and_true, Bool.true_and, Bool.and_self, List.length_cons, List.length_nil, sizeLine_eq, Nat.reduceAdd, Nat.reduceLeDiff, Nat.reduceLT, and_self, and_true, true_and, false_and, and_false, Bool.or_self, Bool.and_false, Bool.false_and, reduceCtorEq, in_tup, memFlat_nil, memFlat_cons, eqFlat_ss, eqFlat_ii, flatA_str, flatA_int, cpow2, comp_eq, gs_nil, gs_cons, oI_int, chain_eq, all_new, any_new, meth_eq, mApp_append, appK_lst, appendA_r, appO_lst, aug_eq, ipAdd_ii, ipSub_ii, ipAdd_ss, len_t, itOf_str, isi_non, isi_bl, isi_int, isi_str, isi_tup, isiB, String.reduceBEq, Nat.reducePow, Int.reduceToNat, Int.reducePow, Int.reduceSub, Int.reduceNeg, Int.reduceAdd, Int.reduceMul]
    apply okS_thn
    refine okS_while (fun m s h' => ∃ (at_ : Nat) (acc : List Tk) (c3 c4 : Option AV) (l : AH), at_ ≤ L.length ∧ m = L.length - at_ ∧ acc.length ≤ at_ ∧ h' = (h ++ [.lst (acc.map tokAV)]) ++ l ∧ s = [some (.str (S L)), some (.ref h.length), some (.int at_), c3, c4] ∧ acc ++ runT tokL L at_ = runT tokL L 0) ?_ _ (L.length - 0) _ _ ⟨0, [], none, none, [], Nat.zero_le _, rfl, Nat.le_refl _, by simp, rfl, rfl⟩ (by unfold turnsMax; unfold big at hz; omega)
    rintro m s h' ⟨at_, acc, c3, c4, l, h1, rfl, h2, rfl, rfl, h3⟩
    have l_s1 : Str.ofString " " = S [32] := by decide +kernel
    have l_s2 : Str.ofString "\n" = S [10] := by decide +kernel
    have sp : ∀ (c : Nat) (s : Sl) (h : AH), inA (.str (S [c])) (.tup [.str (S [32]), .str (S [10])]) s h = .ok (.bl (decide (c ∈ [32, 10]))) h := fun c s h => by
      have := in_sTab (l := [c]) (ls := [[32], [10]]) (s := s) (h := h)
      have e : decide ([c] ∈ [[32], [10]]) = decide (c ∈ [32, 10]) := by simp
      rw [e] at this
      exact this
    have gn : ∀ (l : AH), ((h ++ [AO.lst (acc.map tokAV)]) ++ l)[h.length]? = some (.lst (acc.map tokAV)) := fun l => get_app get_new
    have sn : ∀ (l : AH) (o : AO), ((h ++ [AO.lst (acc.map tokAV)]) ++ l).set h.length o = (h ++ [o]) ++ l := fun l o => by
      rw [List.set_append_left _ _ (by simp), set_new]
    by_cases hl : at_ < L.length
    · have hle : (at_ : Int) < (L.length : Int) := by omega
      rw [runT, dif_pos hl] at h3
      by_cases hs : L[at_] ∈ [32, 10]
      · rw [if_pos hs] at h3
        simp only [seqS_eq, bdS_eq, bd_eq, ifS_eq, thn_nx, thn_rt, thn_bk, thn_ct, thn_exc, thn_bad, thS_ok, thS_exc, thS_bad, thE_ok, thE_exc, thE_bad, thIf_ok, thIf_exc, thIf_bad, ret_eq, setS_eq, retS_eq, skipS_eq, alloc_eq, callM_eq, evs_nil, evs_cons, asBool_bl, tru_bl, tru_int, tru_non, tru_tup, runR_nx, runR_rt, runR_exc, runR_bad, runR_ite, thn_ite, thS_ite, thE_ite, ite_app2, ite_app2S, add_ii, sub_ii, mul_ii, fdiv_ii, mod_ii, pow_ii, shl_ii, shr_ii, band_ii, bor_ii, bxor_ii, neg_i, lt_ii, le_ii, gt_ii, ge_ii, eq_ii, eq_ss, eq_bb, ne_ii, ne_ss, ne_bb, isN_non, isN_int, isN_tup, isN_ref, isN_str, int_i, int_b, abs_i, max_ii, min_ii, slotM, idx_r, idx_t, idxO_lst, idxO_fro, atO_some, stIx_r, len_r, lenO_lst, lenO_fro, list_r, listO_lst, listO_fro, andT_one, andT_two, orT_one, orT_two, andV_one, andV_two, orV_one, orV_two, asg_eq, subG_eq, onlyNx_eq, nxo_nx, lst_eq, tup_eq, pat_nm, forS_eq, okS_nx, okS_rt, okS_bk, okS_ct, okS_exc, okE_oke, List.getElem?_cons_zero, List.getElem?_cons_succ, List.set_cons_zero, List.set_cons_succ, ofString_inj, decide_eq_true_eq, Bool.not_eq_true', decide_eq_false_iff_not, reduceIte, if_true, if_false, Int.reduceLT, Int.reduceLE, Int.reduceEq, Int.reduceNe, decide_true, decide_false, Bool.false_eq_true, String.reduceEq, Bool.not_true, Bool.not_false, idxO_dct, stIxO_dct, keyV_str, keyV_int, isKd_nil, isKd_cons, dLook_nil, dLook_cons, dct_eq, dctO_ok, prs_nil, prs_cons, get_new, set_new, dPut, dHas, List.any_cons, List.any_nil, List.all_cons, List.all_nil, List.foldl_cons, List.foldl_nil, List.map_cons, List.map_nil, List.cons_append, List.nil_append, Option.some.injEq, Sum.inr.injEq, Sum.inl.injEq, Option.isSome_some, Bool.or_false, Bool.false_or, Bool.or_true, Bool.true_or, Bool.and_true, Bool.true_and, Bool.and_self, List.length_cons, List.length_nil, sizeLine_eq, Nat.reduceAdd, Nat.reduceLeDiff, Nat.reduceLT, and_self, and_true, true_and, false_and, and_false, Bool.or_self, Bool.and_false, Bool.false_and, reduceCtorEq, memFlat_nil, memFlat_cons, eqFlat_ss, eqFlat_ii, flatA_str, flatA_int, cpow2, comp_eq, gs_nil, gs_cons, oI_int, chain_eq, all_new, any_new, meth_eq, mApp_append, appK_lst, appendA_r, appO_lst, aug_eq, ipAdd_ii, ipSub_ii, ipAdd_ss, len_t, itOf_str, isi_non, isi_bl, isi_int, isi_str, isi_tup, isiB, String.reduceBEq, Nat.reducePow, Int.reduceToNat, Int.reducePow, Int.reduceSub, Int.reduceNeg, Int.reduceAdd, Int.reduceMul, len_S hz.z, hle, idx_S hl hz.z, l_s1, l_s2, sp, hs]
        exact ⟨L.length - (at_ + 1), by omega, at_ + 1, acc, c3, c4, l, by omega, rfl, by omega, rfl, by simp, h3⟩
      · rw [if_neg hs] at h3
        obtain ⟨l1, e1⟩ := lrun_ok (k + 0) (L := L) (at_ := at_) (h := (h ++ [.lst (acc.map tokAV)]) ++ l) hl hz
        have tl := tokL_len (L.drop at_)
        have tn := tokL_ne (L.drop at_)
        have t2 : (tokL (L.drop at_)).2 = runL (L.drop at_) := rfl
        have t1 : (tokL (L.drop at_)).1 = if kind0 (runL (L.drop at_)) = "name" ∧ (runL (L.drop at_)).length > 12 then "" else kind0 (runL (L.drop at_)) := rfl
        rw [t2] at h3 tl tn
        rw [t1] at h3 tn
        generalize runL (L.drop at_) = P at *
        rw [List.length_drop] at tl
        have al : (acc.map tokAV).length < 16777216 := by rw [List.length_map]; unfold big at hz; omega
        have pz : big P := by unfold big at *; omega
        have pcast : (at_ : Int) + (P.length : Int) = ((at_ + P.length : Nat) : Int) := by omega
        have pe2 : (S P = Str.ofString "") = (P = []) := by rw [l_e, S_inj]
        have g2 : ∀ m : AH, (((h ++ [AO.lst (acc.map tokAV)]) ++ l) ++ m)[h.length]? = some (.lst (acc.map tokAV)) := fun m => by rw [List.append_assoc]; exact gn _
        have s2 : ∀ (m : AH) (o : AO), (((h ++ [AO.lst (acc.map tokAV)]) ++ l) ++ m).set h.length o = (h ++ [o]) ++ (l ++ m) := fun m o => by rw [List.append_assoc, sn]
        by_cases pe : P = []
        · subst pe
          have z : kind0 [] = "" := rfl
          rw [z] at h3
          have zz : (if ("" : String) = "name" ∧ ([] : List Nat).length > 12 then "" else "") = "" := by split <;> rfl
          rw [zz, if_pos rfl] at h3
          simp only [seqS_eq, bdS_eq, bd_eq, ifS_eq, thn_nx, thn_rt, thn_bk, thn_ct, thn_exc, thn_bad, thS_ok, thS_exc, thS_bad, thE_ok, thE_exc, thE_bad, thIf_ok, thIf_exc, thIf_bad, ret_eq, setS_eq, retS_eq, skipS_eq, alloc_eq, callM_eq, evs_nil, evs_cons, asBool_bl, tru_bl, tru_int, tru_non, tru_tup, runR_nx, runR_rt, runR_exc, runR_bad, runR_ite, thn_ite, thS_ite, thE_ite, ite_app2, ite_app2S, add_ii, sub_ii, mul_ii, fdiv_ii, mod_ii, pow_ii, shl_ii, shr_ii, band_ii, bor_ii, bxor_ii, neg_i, lt_ii, le_ii, gt_ii, ge_ii, eq_ii, eq_ss, eq_bb, ne_ii, ne_ss, ne_bb, isN_non, isN_int, isN_tup, isN_ref, isN_str, int_i, int_b, abs_i, max_ii, min_ii, slotM, idx_r, idx_t, idxO_lst, idxO_fro, atO_some, stIx_r, len_r, lenO_lst, lenO_fro, list_r, listO_lst, listO_fro, andT_one, andT_two, orT_one, orT_two, andV_one, andV_two, orV_one, orV_two, asg_eq, subG_eq, onlyNx_eq, nxo_nx, lst_eq, tup_eq, pat_nm, forS_eq, okS_nx, okS_rt, okS_bk, okS_ct, okS_exc, okE_oke, List.getElem?_cons_zero, List.getElem?_cons_succ, List.set_cons_zero, List.set_cons_succ, ofString_inj, decide_eq_true_eq, Bool.not_eq_true', decide_eq_false_iff_not, reduceIte, if_true, if_false, Int.reduceLT, Int.reduceLE, Int.reduceEq, Int.reduceNe, decide_true, decide_false, Bool.false_eq_true, String.reduceEq, Bool.not_true, Bool.not_false, idxO_dct, stIxO_dct, keyV_str, keyV_int, isKd_nil, isKd_cons, dLook_nil, dLook_cons, dct_eq, dctO_ok, prs_nil, prs_cons, get_new, set_new, dPut, dHas, List.any_cons, List.any_nil, List.all_cons, List.all_nil, List.foldl_cons, List.foldl_nil, List.map_cons, List.map_nil, List.cons_append, List.nil_append, Option.some.injEq, Sum.inr.injEq, Sum.inl.injEq, Option.isSome_some, Bool.or_false, Bool.false_or, Bool.or_true, Bool.true_or, Bool.and_true, Bool.true_and, Bool.and_self, List.length_cons, List.length_nil, sizeLine_eq, Nat.reduceAdd, Nat.reduceLeDiff, Nat.reduceLT, and_self, and_true, true_and, false_and, and_false, Bool.or_self, Bool.and_false, Bool.false_and, reduceCtorEq, memFlat_nil, memFlat_cons, eqFlat_ss, eqFlat_ii, flatA_str, flatA_int, cpow2, comp_eq, gs_nil, gs_cons, oI_int, chain_eq, all_new, any_new, meth_eq, mApp_append, appK_lst, appendA_r, appO_lst, aug_eq, ipAdd_ii, ipSub_ii, ipAdd_ss, len_t, itOf_str, isi_non, isi_bl, isi_int, isi_str, isi_tup, isiB, String.reduceBEq, Nat.reducePow, Int.reduceToNat, Int.reducePow, Int.reduceSub, Int.reduceNeg, Int.reduceAdd, Int.reduceMul, len_S hz.z, hle, idx_S hl hz.z, l_s1, l_s2, sp, hs, e1, pe2, g2, s2, al]
          rw [← h3, List.map_append]
          exact ⟨_, rfl⟩
        · obtain ⟨l2, e2⟩ := kind_ok (k + 1) (p := P) (h := ((h ++ [.lst (acc.map tokAV)]) ++ l) ++ l1) pz pe
          have z : kind0 P = kindL P := if_neg pe
          rw [z] at h3 tn
          have kin := kindL_in P
          generalize kindL P = kd at *
          have g3 : ((((h ++ [AO.lst (acc.map tokAV)]) ++ l) ++ l1) ++ l2)[h.length]? = some (.lst (acc.map tokAV)) := by rw [List.append_assoc]; exact g2 _
          have s3 : ∀ o : AO, ((((h ++ [AO.lst (acc.map tokAV)]) ++ l) ++ l1) ++ l2).set h.length o = (h ++ [o]) ++ (l ++ (l1 ++ l2)) := fun o => by rw [List.append_assoc, s2]
          by_cases q1 : kd = "name" ∧ P.length > 12
          · obtain ⟨rfl, q2⟩ := q1
            have q2' : (12 : Int) < (P.length : Int) := by omega
            have zz : (if ("name" : String) = "name" ∧ P.length > 12 then "" else "name") = "" := if_pos ⟨rfl, q2⟩
            rw [zz, if_pos rfl] at h3
            simp only [seqS_eq, bdS_eq, bd_eq, ifS_eq, thn_nx, thn_rt, thn_bk, thn_ct, thn_exc, thn_bad, thS_ok, thS_exc, thS_bad, thE_ok, thE_exc, thE_bad, thIf_ok, thIf_exc, thIf_bad, ret_eq, setS_eq, retS_eq, skipS_eq, alloc_eq, callM_eq, evs_nil, evs_cons, asBool_bl, tru_bl, tru_int, tru_non, tru_tup, runR_nx, runR_rt, runR_exc, runR_bad, runR_ite, thn_ite, thS_ite, thE_ite, ite_app2, ite_app2S, add_ii, sub_ii, mul_ii, fdiv_ii, mod_ii, pow_ii, shl_ii, shr_ii, band_ii, bor_ii, bxor_ii, neg_i, lt_ii, le_ii, gt_ii, ge_ii, eq_ii, eq_ss, eq_bb, ne_ii, ne_ss, ne_bb, isN_non, isN_int, isN_tup, isN_ref, isN_str, int_i, int_b, abs_i, max_ii, min_ii, slotM, idx_r, idx_t, idxO_lst, idxO_fro, atO_some, stIx_r, len_r, lenO_lst, lenO_fro, list_r, listO_lst, listO_fro, andT_one, andT_two, orT_one, orT_two, andV_one, andV_two, orV_one, orV_two, asg_eq, subG_eq, onlyNx_eq, nxo_nx, lst_eq, tup_eq, pat_nm, forS_eq, okS_nx, okS_rt, okS_bk, okS_ct, okS_exc, okE_oke, List.getElem?_cons_zero, List.getElem?_cons_succ, List.set_cons_zero, List.set_cons_succ, ofString_inj, decide_eq_true_eq, Bool.not_eq_true', decide_eq_false_iff_not, reduceIte, if_true, if_false, Int.reduceLT, Int.reduceLE, Int.reduceEq, Int.reduceNe, decide_true, decide_false, Bool.false_eq_true, String.reduceEq, Bool.not_true, Bool.not_false, idxO_dct, stIxO_dct, keyV_str, keyV_int, isKd_nil, isKd_cons, dLook_nil, dLook_cons, dct_eq, dctO_ok, prs_nil, prs_cons, get_new, set_new, dPut, dHas, List.any_cons, List.any_nil, List.all_cons, List.all_nil, List.foldl_cons, List.foldl_nil, List.map_cons, List.map_nil, List.cons_append, List.nil_append, Option.some.injEq, Sum.inr.injEq, Sum.inl.injEq, Option.isSome_some, Bool.or_false, Bool.false_or, Bool.or_true, Bool.true_or, Bool.and_true, Bool.true_and, Bool.and_self, List.length_cons, List.length_nil, sizeLine_eq, Nat.reduceAdd, Nat.reduceLeDiff, Nat.reduceLT, and_self, and_true, true_and, false_and, and_false, Bool.or_self, Bool.and_false, Bool.false_and, reduceCtorEq, memFlat_nil, memFlat_cons, eqFlat_ss, eqFlat_ii, flatA_str, flatA_int, cpow2, comp_eq, gs_nil, gs_cons, oI_int, chain_eq, all_new, any_new, meth_eq, mApp_append, appK_lst, appendA_r, appO_lst, aug_eq, ipAdd_ii, ipSub_ii, ipAdd_ss, len_t, itOf_str, isi_non, isi_bl, isi_int, isi_str, isi_tup, isiB, String.reduceBEq, Nat.reducePow, Int.reduceToNat, Int.reducePow, Int.reduceSub, Int.reduceNeg, Int.reduceAdd, Int.reduceMul, len_S hz.z, len_S pz.z, hle, idx_S hl hz.z, l_s1, l_s2, sp, hs, e1, e2, pe2, pe, g3, s3, al, q2']
            rw [← h3, List.map_append]
            exact ⟨_, rfl⟩
          · have zz : (if kd = "name" ∧ P.length > 12 then "" else kd) = kd := if_neg q1
            rw [zz] at h3 tn
            by_cases q0 : kd = ""
            · subst q0
              rw [if_pos rfl] at h3
              simp only [seqS_eq, bdS_eq, bd_eq, ifS_eq, thn_nx, thn_rt, thn_bk, thn_ct, thn_exc, thn_bad, thS_ok, thS_exc, thS_bad, thE_ok, thE_exc, thE_bad, thIf_ok, thIf_exc, thIf_bad, ret_eq, setS_eq, retS_eq, skipS_eq, alloc_eq, callM_eq, evs_nil, evs_cons, asBool_bl, tru_bl, tru_int, tru_non, tru_tup, runR_nx, runR_rt, runR_exc, runR_bad, runR_ite, thn_ite, thS_ite, thE_ite, ite_app2, ite_app2S, add_ii, sub_ii, mul_ii, fdiv_ii, mod_ii, pow_ii, shl_ii, shr_ii, band_ii, bor_ii, bxor_ii, neg_i, lt_ii, le_ii, gt_ii, ge_ii, eq_ii, eq_ss, eq_bb, ne_ii, ne_ss, ne_bb, isN_non, isN_int, isN_tup, isN_ref, isN_str, int_i, int_b, abs_i, max_ii, min_ii, slotM, idx_r, idx_t, idxO_lst, idxO_fro, atO_some, stIx_r, len_r, lenO_lst, lenO_fro, list_r, listO_lst, listO_fro, andT_one, andT_two, orT_one, orT_two, andV_one, andV_two, orV_one, orV_two, asg_eq, subG_eq, onlyNx_eq, nxo_nx, lst_eq, tup_eq, pat_nm, forS_eq, okS_nx, okS_rt, okS_bk, okS_ct, okS_exc, okE_oke, List.getElem?_cons_zero, List.getElem?_cons_succ, List.set_cons_zero, List.set_cons_succ, ofString_inj, decide_eq_true_eq, Bool.not_eq_true', decide_eq_false_iff_not, reduceIte, if_true, if_false, Int.reduceLT, Int.reduceLE, Int.reduceEq, Int.reduceNe, decide_true, decide_false, Bool.false_eq_true, String.reduceEq, Bool.not_true, Bool.not_false, idxO_dct, stIxO_dct, keyV_str, keyV_int, isKd_nil, isKd_cons, dLook_nil, dLook_cons, dct_eq, dctO_ok, prs_nil, prs_cons, get_new, set_new, dPut, dHas, List.any_cons, List.any_nil, List.all_cons, List.all_nil, List.foldl_cons, List.foldl_nil, List.map_cons, List.map_nil, List.cons_append, List.nil_append, Option.some.injEq, Sum.inr.injEq, Sum.inl.injEq, Option.isSome_some, Bool.or_false, Bool.false_or, Bool.or_true, Bool.true_or, Bool.and_true, Bool.true_and, Bool.and_self, List.length_cons, List.length_nil, sizeLine_eq, Nat.reduceAdd, Nat.reduceLeDiff, Nat.reduceLT, and_self, and_true, true_and, false_and, and_false, Bool.or_self, Bool.and_false, Bool.false_and, reduceCtorEq, memFlat_nil, memFlat_cons, eqFlat_ss, eqFlat_ii, flatA_str, flatA_int, cpow2, comp_eq, gs_nil, gs_cons, oI_int, chain_eq, all_new, any_new, meth_eq, mApp_append, appK_lst, appendA_r, appO_lst, aug_eq, ipAdd_ii, ipSub_ii, ipAdd_ss, len_t, itOf_str, isi_non, isi_bl, isi_int, isi_str, isi_tup, isiB, String.reduceBEq, Nat.reducePow, Int.reduceToNat, Int.reducePow, Int.reduceSub, Int.reduceNeg, Int.reduceAdd, Int.reduceMul, len_S hz.z, len_S pz.z, hle, idx_S hl hz.z, l_s1, l_s2, sp, hs, e1, e2, pe2, pe, g3, s3, al]
              rw [← h3, List.map_append]
              exact ⟨_, rfl⟩
            · rw [if_neg q0] at h3
              have pn := tn q0
              have mx : max 1 P.length = P.length := by
                cases P with
                | nil => exact (pn rfl).elim
                | cons _ _ => simp
              rw [mx] at h3
              have p1 : 1 ≤ P.length := by omega
              have goal : ∀ (c3 c4 : Option AV), ∃ m', m' < L.length - at_ ∧ ∃ (a : Nat) (ac : List Tk) (d3 d4 : Option AV) (l' : AH), a ≤ L.length ∧ m' = L.length - a ∧ ac.length ≤ a ∧ (h ++ [AO.lst (acc.map tokAV ++ [tokAV (kd, P, at_)])]) ++ (l ++ (l1 ++ l2)) = (h ++ [.lst (ac.map tokAV)]) ++ l' ∧ [some (.str (S L)), some (.ref h.length), some (.int ((at_ + P.length : Nat) : Int)), c3, c4] = [some (.str (S L)), some (.ref h.length), some (.int a), d3, d4] ∧ ac ++ runT tokL L a = runT tokL L 0 := fun c3 c4 =>
                ⟨L.length - (at_ + P.length), by omega, at_ + P.length, acc ++ [(kd, P, at_)], c3, c4, l ++ (l1 ++ l2), by omega, rfl, by simp; omega, by rw [List.map_append]; rfl, rfl, by rw [← h3, List.append_assoc]; rfl⟩
              by_cases q3 : kd = "name"
              · have q2' : ¬ (12 : Int) < (P.length : Int) := fun z => q1 ⟨q3, by omega⟩
                simp only [seqS_eq, bdS_eq, bd_eq, ifS_eq, thn_nx, thn_rt, thn_bk, thn_ct, thn_exc, thn_bad, thS_ok, thS_exc, thS_bad, thE_ok, thE_exc, thE_bad, thIf_ok, thIf_exc, thIf_bad, ret_eq, setS_eq, retS_eq, skipS_eq, alloc_eq, callM_eq, evs_nil, evs_cons, asBool_bl, tru_bl, tru_int, tru_non, tru_tup, runR_nx, runR_rt, runR_exc, runR_bad, runR_ite, thn_ite, thS_ite, thE_ite, ite_app2, ite_app2S, add_ii, sub_ii, mul_ii, fdiv_ii, mod_ii, pow_ii, shl_ii, shr_ii, band_ii, bor_ii, bxor_ii, neg_i, lt_ii, le_ii, gt_ii, ge_ii, eq_ii, eq_ss, eq_bb, ne_ii, ne_ss, ne_bb, isN_non, isN_int, isN_tup, isN_ref, isN_str, int_i, int_b, abs_i, max_ii, min_ii, slotM, idx_r, idx_t, idxO_lst, idxO_fro, atO_some, stIx_r, len_r, lenO_lst, lenO_fro, list_r, listO_lst, listO_fro, andT_one, andT_two, orT_one, orT_two, andV_one, andV_two, orV_one, orV_two, asg_eq, subG_eq, onlyNx_eq, nxo_nx, lst_eq, tup_eq, pat_nm, forS_eq, okS_nx, okS_rt, okS_bk, okS_ct, okS_exc, okE_oke, List.getElem?_cons_zero, List.getElem?_cons_succ, List.set_cons_zero, List.set_cons_succ, ofString_inj, decide_eq_true_eq, Bool.not_eq_true', decide_eq_false_iff_not, reduceIte, if_true, if_false, Int.reduceLT, Int.reduceLE, Int.reduceEq, Int.reduceNe, decide_true, decide_false, Bool.false_eq_true, String.reduceEq, Bool.not_true, Bool.not_false, idxO_dct, stIxO_dct, keyV_str, keyV_int, isKd_nil, isKd_cons, dLook_nil, dLook_cons, dct_eq, dctO_ok, prs_nil, prs_cons, get_new, set_new, dPut, dHas, List.any_cons, List.any_nil, List.all_cons, List.all_nil, List.foldl_cons, List.foldl_nil, List.map_cons, List.map_nil, List.cons_append, List.nil_append, Option.some.injEq, Sum.inr.injEq, Sum.inl.injEq, Option.isSome_some, Bool.or_false, Bool.false_or, Bool.or_true, Bool.true_or, Bool.and_true, Bool.true_and, Bool.and_self, List.length_cons, List.length_nil, sizeLine_eq, Nat.reduceAdd, Nat.reduceLeDiff, Nat.reduceLT, and_self, and_true, true_and, false_and, and_false, Bool.or_self, Bool.and_false, Bool.false_and, reduceCtorEq, memFlat_nil, memFlat_cons, eqFlat_ss, eqFlat_ii, flatA_str, flatA_int, cpow2, comp_eq, gs_nil, gs_cons, oI_int, chain_eq, all_new, any_new, meth_eq, mApp_append, appK_lst, appendA_r, appO_lst, aug_eq, ipAdd_ii, ipSub_ii, ipAdd_ss, len_t, itOf_str, isi_non, isi_bl, isi_int, isi_str, isi_tup, isiB, String.reduceBEq, Nat.reducePow, Int.reduceToNat, Int.reducePow, Int.reduceSub, Int.reduceNeg, Int.reduceAdd, Int.reduceMul, len_S hz.z, len_S pz.z, hle, idx_S hl hz.z, l_s1, l_s2, sp, hs, e1, e2, pe2, pe, g3, s3, al, q3, q2', pcast]
                have := goal (some (.str (S P))) (some (.str (Str.ofString kd)))
                rw [q3] at this
                exact this
              · simp only [seqS_eq, bdS_eq, bd_eq, ifS_eq, thn_nx, thn_rt, thn_bk, thn_ct, thn_exc, thn_bad, thS_ok, thS_exc, thS_bad, thE_ok, thE_exc, thE_bad, thIf_ok, thIf_exc, thIf_bad, ret_eq, setS_eq, retS_eq, skipS_eq, alloc_eq, callM_eq, evs_nil, evs_cons, asBool_bl, tru_bl, tru_int, tru_non, tru_tup, runR_nx, runR_rt, runR_exc, runR_bad, runR_ite, thn_ite, thS_ite, thE_ite, ite_app2, ite_app2S, add_ii, sub_ii, mul_ii, fdiv_ii, mod_ii, pow_ii, shl_ii, shr_ii, band_ii, bor_ii, bxor_ii, neg_i, lt_ii, le_ii, gt_ii, ge_ii, eq_ii, eq_ss, eq_bb, ne_ii, ne_ss, ne_bb, isN_non, isN_int, isN_tup, isN_ref, isN_str, int_i, int_b, abs_i, max_ii, min_ii, slotM, idx_r, idx_t, idxO_lst, idxO_fro, atO_some, stIx_r, len_r, lenO_lst, lenO_fro, list_r, listO_lst, listO_fro, andT_one, andT_two, orT_one, orT_two, andV_one, andV_two, orV_one, orV_two, asg_eq, subG_eq, onlyNx_eq, nxo_nx, lst_eq, tup_eq, pat_nm, forS_eq, okS_nx, okS_rt, okS_bk, okS_ct, okS_exc, okE_oke, List.getElem?_cons_zero, List.getElem?_cons_succ, List.set_cons_zero, List.set_cons_succ, ofString_inj, decide_eq_true_eq, Bool.not_eq_true', decide_eq_false_iff_not, reduceIte, if_true, if_false, Int.reduceLT, Int.reduceLE, Int.reduceEq, Int.reduceNe, decide_true, decide_false, Bool.false_eq_true, String.reduceEq, Bool.not_true, Bool.not_false, idxO_dct, stIxO_dct, keyV_str, keyV_int, isKd_nil, isKd_cons, dLook_nil, dLook_cons, dct_eq, dctO_ok, prs_nil, prs_cons, get_new, set_new, dPut, dHas, List.any_cons, List.any_nil, List.all_cons, List.all_nil, List.foldl_cons, List.foldl_nil, List.map_cons, List.map_nil, List.cons_append, List.nil_append, Option.some.injEq, Sum.inr.injEq, Sum.inl.injEq, Option.isSome_some, Bool.or_false, Bool.false_or, Bool.or_true, Bool.true_or, Bool.and_true, Bool.true_and, Bool.and_self, List.length_cons, List.length_nil, sizeLine_eq, Nat.reduceAdd, Nat.reduceLeDiff, Nat.reduceLT, and_self, and_true, true_and, false_and, and_false, Bool.or_self, Bool.and_false, Bool.false_and, reduceCtorEq, memFlat_nil, memFlat_cons, eqFlat_ss, eqFlat_ii, flatA_str, flatA_int, cpow2, comp_eq, gs_nil, gs_cons, oI_int, chain_eq, all_new, any_new, meth_eq, mApp_append, appK_lst, appendA_r, appO_lst, aug_eq, ipAdd_ii, ipSub_ii, ipAdd_ss, len_t, itOf_str, isi_non, isi_bl, isi_int, isi_str, isi_tup, isiB, String.reduceBEq, Nat.reducePow, Int.reduceToNat, Int.reducePow, Int.reduceSub, Int.reduceNeg, Int.reduceAdd, Int.reduceMul, len_S hz.z, len_S pz.z, hle, idx_S hl hz.z, l_s1, l_s2, sp, hs, e1, e2, pe2, pe, g3, s3, al, q0, q3, pcast]
                exact goal _ _
    · have hle : ¬ (at_ : Int) < (L.length : Int) := by omega
      rw [runT, dif_neg hl, List.append_nil] at h3
      simp only [seqS_eq, bdS_eq, bd_eq, ifS_eq, thn_nx, thn_rt, thn_bk, thn_ct, thn_exc, thn_bad, thS_ok, thS_exc, thS_bad, thE_ok, thE_exc, thE_bad, thIf_ok, thIf_exc, thIf_bad, ret_eq, setS_eq, retS_eq, skipS_eq, alloc_eq, callM_eq, evs_nil, evs_cons, asBool_bl, tru_bl, tru_int, tru_non, tru_tup, runR_nx, runR_rt, runR_exc, runR_bad, runR_ite, thn_ite, thS_ite, thE_ite, ite_app2, ite_app2S, add_ii, sub_ii, mul_ii, fdiv_ii, mod_ii, pow_ii, shl_ii, shr_ii, band_ii, bor_ii, bxor_ii, neg_i, lt_ii, le_ii, gt_ii, ge_ii, eq_ii, eq_ss, eq_bb, ne_ii, ne_ss, ne_bb, isN_non, isN_int, isN_tup, isN_ref, isN_str, int_i, int_b, abs_i, max_ii, min_ii, slotM, idx_r, idx_t, idxO_lst, idxO_fro, atO_some, stIx_r, len_r, lenO_lst, lenO_fro, list_r, listO_lst, listO_fro, andT_one, andT_two, orT_one, orT_two, andV_one, andV_two, orV_one, orV_two, asg_eq, subG_eq, onlyNx_eq, nxo_nx, lst_eq, tup_eq, pat_nm, forS_eq, okS_nx, okS_rt, okS_bk, okS_ct, okS_exc, okE_oke, List.getElem?_cons_zero, List.getElem?_cons_succ, List.set_cons_zero, List.set_cons_succ, ofString_inj, decide_eq_true_eq, Bool.not_eq_true', decide_eq_false_iff_not, reduceIte, if_true, if_false, Int.reduceLT, Int.reduceLE, Int.reduceEq, Int.reduceNe, decide_true, decide_false, Bool.false_eq_true, String.reduceEq, Bool.not_true, Bool.not_false, idxO_dct, stIxO_dct, keyV_str, keyV_int, isKd_nil, isKd_cons, dLook_nil, dLook_cons, dct_eq, dctO_ok, prs_nil, prs_cons, get_new, set_new, dPut, dHas, List.any_cons, List.any_nil, List.all_cons, List.all_nil, List.foldl_cons, List.foldl_nil, List.map_cons, List.map_nil, List.cons_append, List.nil_append, Option.some.injEq, Sum.inr.injEq, Sum.inl.injEq, Option.isSome_some, Bool.or_false, Bool.false_or, Bool.or_true, Bool.true_or, Bool.and_true, Bool.true_and, Bool.and_self, List.length_cons, List.length_nil, sizeLine_eq, Nat.reduceAdd, Nat.reduceLeDiff, Nat.reduceLT, and_self, and_true, true_and, false_and, and_false, Bool.or_self, Bool.and_false, Bool.false_and, reduceCtorEq, in_tup, memFlat_nil, memFlat_cons, eqFlat_ss, eqFlat_ii, flatA_str, flatA_int, cpow2, comp_eq, gs_nil, gs_cons, oI_int, chain_eq, all_new, any_new, meth_eq, mApp_append, appK_lst, appendA_r, appO_lst, aug_eq, ipAdd_ii, ipSub_ii, ipAdd_ss, len_t, itOf_str, isi_non, isi_bl, isi_int, isi_str, isi_tup, isiB, String.reduceBEq, Nat.reducePow, Int.reduceToNat, Int.reducePow, Int.reduceSub, Int.reduceNeg, Int.reduceAdd, Int.reduceMul, len_S hz.z, hle]
      rw [h3]
      exact ⟨l, rfl⟩
  obtain ⟨v, h', e1, rfl, l, rfl⟩ := okE_iff.mp key
  exact ⟨l, e1⟩
end K14
namespace K14
open PySem PySem.Spec PyProof.Rows L2 Ev
/-! ### the two tokens are alike -/
theorem runF_upto {R : List Nat} {j0 t : Nat} (h0 : 1 ≤ j0) (h1 : j0 ≤ t) (h : ∀ j, j0 ≤ j → j ≤ R.length → (condL (R.take j) ↔ j ≤ t)) : ∀ n, j0 ≤ n → n ≤ R.length → runF R n = R.take (min n t)
  | 0, hn, _ => by omega
  | n + 1, hn, hl => by
    unfold runF
    by_cases c : n + 1 ≤ t
    · rw [if_pos ((h (n + 1) hn hl).mpr c), Nat.min_eq_left c]
    · rw [if_neg fun z => c ((h (n + 1) hn hl).mp z)]
      rw [runF_upto h0 h1 h n (by omega) (by omega), Nat.min_eq_right (by omega), Nat.min_eq_right (by omega)]
theorem runF_down {R : List Nat} {j0 : Nat} (h : ∀ j, j0 < j → j ≤ R.length → ¬ condL (R.take j)) : ∀ n, j0 ≤ n → n ≤ R.length → runF R n = runF R j0
  | 0, hn, _ => by
    have : j0 = 0 := by omega
    rw [this]
  | n + 1, hn, hl => by
    by_cases c : j0 = n + 1
    · rw [c]
    · show (if condL (R.take (n + 1)) then R.take (n + 1) else runF R n) = _
      rw [if_neg (h (n + 1) (by omega) hl)]
      exact runF_down h n (by omega) (by omega)
theorem allIn_take {g : List Nat} : ∀ {R : List Nat} {j : Nat}, j ≤ R.length → (allIn g (R.take j) = true ↔ j ≤ (tw g R).length)
  | R, 0, _ => by simp [allIn]
  | [], j + 1, h => by simp at h
  | c :: R, j + 1, h => by
    rw [List.take_succ_cons]
    unfold allIn tw
    rw [List.all_cons, List.takeWhile_cons]
    cases hc : isIn g c with
    | false => simp
    | true =>
      have := allIn_take (g := g) (R := R) (j := j) (by simpa using h)
      unfold allIn tw at this
      simp [this]
theorem tw_take (g R : List Nat) : tw g R = R.take (tw g R).length := by
  have := List.takeWhile_prefix (l := R) (isIn g)
  exact List.prefix_iff_eq_take.mp this
theorem dis_small : ∀ c ∈ smallL, c ∉ digL ∧ c ∉ capL ∧ c ≠ 35 := by decide
theorem dis_dig : ∀ c ∈ digL, c ∉ smallL ∧ c ∉ capL ∧ c ≠ 35 := by decide
theorem dis_cap : ∀ c ∈ capL, c ∉ smallL ∧ c ∉ digL ∧ c ≠ 35 := by decide
def hdOf (l : List Nat) : Nat := l.headD 0
theorem keys_cap : ∀ l ∈ keysL, allIn capL l = true ∧ l.length ≤ 8 ∧ hdOf l ∈ capL := by decide
theorem lsym_hd : ∀ l ∈ lsymL, hdOf l ∉ smallL ∧ hdOf l ∉ digL ∧ hdOf l ∉ capL ∧ hdOf l ≠ 35 ∧ l.length ≤ 2 ∧ 1 ≤ l.length := by decide
section
variable {c : Nat} {u : List Nat}
theorem allIn_hd {g : List Nat} (h : c ∉ g) : ¬ allIn g (c :: u) = true := by
  unfold allIn isIn
  simp [h]
theorem tk2 {P : List Nat} (h : (c :: u).take 2 = [35, 45]) : c = 35 := by
  cases u with
  | nil => simp at h
  | cons d v => simp at h; exact h.1
theorem hdIn {g : List Nat} : headIn g (c :: u) = isIn g c := rfl
theorem keyHd (z : c :: u ∈ keysL) : c ∈ capL := (keys_cap (c :: u) z).2.2
theorem symHd (z : c :: u ∈ lsymL) : c ∉ smallL ∧ c ∉ digL ∧ c ∉ capL ∧ c ≠ 35 ∧ (c :: u).length ≤ 2 ∧ 1 ≤ (c :: u).length := lsym_hd (c :: u) z
theorem kindL_a (h : c ∈ smallL) : kindL (c :: u) = if allIn (smallL ++ digL) (c :: u) = true then "name" else "" := by
  obtain ⟨a, b, d⟩ := dis_small c h
  unfold kindL
  rw [if_neg fun z => b (keyHd z), if_neg fun z => (symHd z).1 h, if_neg (allIn_hd a), if_neg fun z => d (tk2 (P := []) z.1)]
  have : headIn smallL (c :: u) = true := decide_eq_true h
  rw [this]
  simp
theorem kindL_b (h : c ∈ digL) : kindL (c :: u) = if allIn digL (c :: u) = true then (if (c :: u).length < 11 then "number" else "") else "" := by
  obtain ⟨a, b, d⟩ := dis_dig c h
  unfold kindL
  rw [if_neg fun z => b (keyHd z), if_neg fun z => (symHd z).2.1 h]
  split
  · rfl
  · rw [if_neg fun z => d (tk2 (P := []) z.1), if_neg]
    intro z
    have : c ∈ smallL := of_decide_eq_true z.1
    exact a this
theorem kindL_c (h : c ∈ capL) : kindL (c :: u) = if c :: u ∈ keysL then "key" else "" := by
  obtain ⟨a, b, d⟩ := dis_cap c h
  unfold kindL
  split
  · rfl
  · rw [if_neg fun z => (symHd z).2.2.1 h, if_neg (allIn_hd b), if_neg fun z => d (tk2 (P := []) z.1), if_neg]
    intro z
    have : c ∈ smallL := of_decide_eq_true z.1
    exact a this
theorem kindL_d : kindL (35 :: u) = if (35 :: u).take 2 = [35, 45] ∧ (2 < (35 :: u).length ∧ (35 :: u).length < 13) ∧ allIn digL ((35 :: u).drop 2) = true then (if nz ((35 :: u).drop 2) = true then "negative" else "") else "" := by
  unfold kindL
  rw [if_neg fun z => (by decide : 35 ∉ capL) (keyHd z), if_neg fun z => (symHd z).2.2.2.1 rfl, if_neg (allIn_hd (by decide))]
  split
  · rfl
  · rw [if_neg]
    intro z
    have : 35 ∈ smallL := of_decide_eq_true z.1
    exact absurd this (by decide)
theorem kindL_e (h1 : c ∉ smallL) (h2 : c ∉ digL) (h3 : c ∉ capL) (h4 : c ≠ 35) : kindL (c :: u) = if c :: u ∈ lsymL then "symbol" else "" := by
  unfold kindL
  rw [if_neg fun z => h3 (keyHd z)]
  split
  · rfl
  · rw [if_neg (allIn_hd h2), if_neg fun z => h4 (tk2 (P := []) z.1), if_neg]
    intro z
    exact h1 (of_decide_eq_true z.1)
end
def Alike (p q : String × List Nat) : Prop := p.1 = q.1 ∧ (p.1 ≠ "" → p.2 = q.2)
theorem take_cons {c : Nat} {t : List Nat} {j : Nat} (h : 1 ≤ j) : (c :: t).take j = c :: t.take (j - 1) := by
  cases j with
  | zero => omega
  | succ j => rfl
theorem kind0_cons {c : Nat} {u : List Nat} : kind0 (c :: u) = kindL (c :: u) := if_neg (by simp)
theorem tokL_eq {R P : List Nat} (h : runL R = P) : tokL R = (if kind0 P = "name" ∧ P.length > 12 then "" else kind0 P, P) := by
  unfold tokL
  rw [h]
theorem alike (R : List Nat) : Alike (tokP R) (tokL R) := by
  refine tokP_by (P := fun R p => Alike p (tokL R)) ⟨rfl, fun h => (h rfl).elim⟩ ?_ ?_ ?_ ?_ ?_ R
  · intro c t hc
    have t1 : 1 ≤ (tw (smallL ++ digL) (c :: t)).length := by
      have := tw_ne (t := t) (List.mem_append_left digL hc)
      exact List.length_pos_iff.mpr this
    have tl := tw_len (smallL ++ digL) (c :: t)
    obtain ⟨a, b, d⟩ := dis_small c hc
    have cond : ∀ j, 1 ≤ j → j ≤ (c :: t).length → (condL ((c :: t).take j) ↔ j ≤ (tw (smallL ++ digL) (c :: t)).length) := by
      intro j h1 h2
      rw [← allIn_take h2, take_cons h1]
      unfold condL
      rw [kindL_a hc]
      constructor
      · rintro (z | z | z | z)
        · exact (allIn_hd b z).elim
        · exact (allIn_hd a z).elim
        · exact (d (tk2 (P := []) z.1)).elim
        · apply Classical.byContradiction
          intro n
          rw [if_neg n] at z
          exact z rfl
      · intro z
        refine .inr (.inr (.inr ?_))
        rw [if_pos z]
        decide
    have rl : runL (c :: t) = (c :: t).take (min (min (c :: t).length 40) (tw (smallL ++ digL) (c :: t)).length) := runF_upto (Nat.le_refl 1) t1 cond _ (by simp; omega) (Nat.min_le_left _ _)
    have m1 : min (min (c :: t).length 40) (tw (smallL ++ digL) (c :: t)).length = min 40 (tw (smallL ++ digL) (c :: t)).length := by omega
    rw [m1] at rl
    generalize ht : (tw (smallL ++ digL) (c :: t)).length = n at *
    have ml : 1 ≤ min 40 n := by omega
    have aL : allIn (smallL ++ digL) ((c :: t).take (min 40 n)) = true := (allIn_take (by omega)).mpr (by omega)
    rw [tokL_eq rl]
    have k0 : kind0 ((c :: t).take (min 40 n)) = "name" := by
      rw [take_cons ml] at aL ⊢
      rw [kind0_cons, kindL_a hc, if_pos aL]
    have len : ((c :: t).take (min 40 n)).length = min 40 n := by rw [List.length_take]; omega
    rw [k0, len]
    by_cases q : n ≤ 12
    · rw [if_pos q, if_neg (by omega)]
      refine ⟨rfl, fun _ => ?_⟩
      show tw _ _ = _
      rw [tw_take, ht, Nat.min_eq_right (by omega)]
    · rw [if_neg q, if_pos ⟨rfl, by omega⟩]
      exact ⟨rfl, fun h => (h rfl).elim⟩
  · intro c t hs hc
    have t1 : 1 ≤ (tw digL (c :: t)).length := List.length_pos_iff.mpr (tw_ne (t := t) hc)
    have tl := tw_len digL (c :: t)
    obtain ⟨a, b, d⟩ := dis_dig c hc
    have cond : ∀ j, 1 ≤ j → j ≤ (c :: t).length → (condL ((c :: t).take j) ↔ j ≤ (tw digL (c :: t)).length) := by
      intro j h1 h2
      rw [← allIn_take h2, take_cons h1]
      unfold condL
      rw [kindL_b hc]
      constructor
      · rintro (z | z | z | z)
        · exact (allIn_hd b z).elim
        · exact z
        · exact (d (tk2 (P := []) z.1)).elim
        · apply Classical.byContradiction
          intro n
          rw [if_neg n] at z
          exact z rfl
      · intro z
        exact .inr (.inl z)
    have rl : runL (c :: t) = (c :: t).take (min (min (c :: t).length 40) (tw digL (c :: t)).length) := runF_upto (Nat.le_refl 1) t1 cond _ (by simp; omega) (Nat.min_le_left _ _)
    have m1 : min (min (c :: t).length 40) (tw digL (c :: t)).length = min 40 (tw digL (c :: t)).length := by omega
    rw [m1] at rl
    generalize ht : (tw digL (c :: t)).length = n at *
    have ml : 1 ≤ min 40 n := by omega
    have aL : allIn digL ((c :: t).take (min 40 n)) = true := (allIn_take (by omega)).mpr (by omega)
    rw [tokL_eq rl]
    have len : ((c :: t).take (min 40 n)).length = min 40 n := by rw [List.length_take]; omega
    have k0 : kind0 ((c :: t).take (min 40 n)) = if min 40 n < 11 then "number" else "" := by
      rw [take_cons ml] at aL len ⊢
      rw [kind0_cons, kindL_b hc, if_pos aL, len]
    rw [k0]
    by_cases q : n ≤ 10
    · rw [if_pos q, if_pos (by omega : min 40 n < 11), if_neg fun z => absurd z.1 (by decide)]
      refine ⟨rfl, fun _ => ?_⟩
      show tw _ _ = _
      rw [tw_take, ht, Nat.min_eq_right (by omega)]
    · rw [if_neg q, if_neg (by omega : ¬ min 40 n < 11)]
      refine ⟨?_, fun h => (h rfl).elim⟩
      show "" = _
      split <;> rfl
  · intro c t hs hd hc
    have t1 : 1 ≤ (tw capL (c :: t)).length := List.length_pos_iff.mpr (tw_ne (t := t) hc)
    have tl := tw_len capL (c :: t)
    obtain ⟨a, b, d⟩ := dis_cap c hc
    have cond : ∀ j, 1 ≤ j → j ≤ (c :: t).length → (condL ((c :: t).take j) ↔ j ≤ (tw capL (c :: t)).length) := by
      intro j h1 h2
      rw [← allIn_take h2, take_cons h1]
      unfold condL
      rw [kindL_c hc]
      constructor
      · rintro (z | z | z | z)
        · exact z
        · exact (allIn_hd b z).elim
        · exact (d (tk2 (P := []) z.1)).elim
        · apply Classical.byContradiction
          intro n
          rw [if_neg fun y => n (keys_cap _ y).1] at z
          exact z rfl
      · intro z
        exact .inl z
    have rl : runL (c :: t) = (c :: t).take (min (min (c :: t).length 40) (tw capL (c :: t)).length) := runF_upto (Nat.le_refl 1) t1 cond _ (by simp; omega) (Nat.min_le_left _ _)
    have m1 : min (min (c :: t).length 40) (tw capL (c :: t)).length = min 40 (tw capL (c :: t)).length := by omega
    rw [m1] at rl
    have tt : tw capL (c :: t) = (c :: t).take (tw capL (c :: t)).length := tw_take _ _
    generalize ht : (tw capL (c :: t)).length = n at *
    have ml : 1 ≤ min 40 n := by omega
    rw [tokL_eq rl]
    have len : ((c :: t).take (min 40 n)).length = min 40 n := by rw [List.length_take]; omega
    have k0 : kind0 ((c :: t).take (min 40 n)) = if (c :: t).take (min 40 n) ∈ keysL then "key" else "" := by
      rw [take_cons ml]
      rw [kind0_cons, kindL_c hc]
    have nn : ∀ P : List Nat, ¬ ((if P ∈ keysL then "key" else "") = "name" ∧ ((c :: t).take (min 40 n)).length > 12) := fun P z => by
      have z := z.1
      split at z <;> exact absurd z (by decide)
    rw [k0, if_neg (nn _), tt]
    by_cases q : n ≤ 40
    · rw [Nat.min_eq_right q]
      exact ⟨rfl, fun _ => rfl⟩
    · have l1 : (c :: t).take n ∉ keysL := fun z => by
        have := (keys_cap _ z).2.1
        rw [List.length_take] at this
        omega
      have l2 : (c :: t).take (min 40 n) ∉ keysL := fun z => by
        have := (keys_cap _ z).2.1
        rw [len] at this
        omega
      rw [if_neg l1, if_neg l2]
      exact ⟨rfl, fun h => (h rfl).elim⟩
  · intro c t hs hd hc e
    have e35 : c = 35 := tk2 (P := []) e
    subst e35
    cases t with
    | nil => simp at e
    | cons d v =>
    have e45 : d = 45 := by simpa using e
    subst e45
    have tl := tw_len digL v
    have dr : (35 :: 45 :: v).drop 2 = v := rfl
    rw [dr]
    have tj : ∀ j, 2 ≤ j → (35 :: 45 :: v).take j = 35 :: 45 :: v.take (j - 2) := fun j hj => by
      rw [take_cons (by omega), take_cons (by omega)]
      congr 3
    have cond : ∀ j, 2 ≤ j → j ≤ (35 :: 45 :: v).length → (condL ((35 :: 45 :: v).take j) ↔ j ≤ (tw digL v).length + 2) := by
      intro j h1 h2
      have al : allIn digL (v.take (j - 2)) = true ↔ j - 2 ≤ (tw digL v).length := allIn_take (by simp at h2; omega)
      rw [tj j h1]
      unfold condL
      rw [kindL_d]
      have d2 : (35 :: 45 :: v.take (j - 2)).drop 2 = v.take (j - 2) := rfl
      rw [d2]
      constructor
      · rintro (z | z | z | z)
        · exact (allIn_hd (by decide) z).elim
        · exact (allIn_hd (by decide) z).elim
        · have := al.mp z.2
          omega
        · apply Classical.byContradiction
          intro n
          rw [if_neg fun y => n (by have := al.mp y.2.2; omega)] at z
          exact z rfl
      · intro z
        exact .inr (.inr (.inl ⟨rfl, al.mpr (by omega)⟩))
    have rl : runL (35 :: 45 :: v) = (35 :: 45 :: v).take (min (min (35 :: 45 :: v).length 40) ((tw digL v).length + 2)) := runF_upto (by decide : 1 ≤ 2) (by omega) cond _ (by simp; omega) (Nat.min_le_left _ _)
    have m1 : min (min (35 :: 45 :: v).length 40) ((tw digL v).length + 2) = min 40 ((tw digL v).length + 2) := by simp; omega
    rw [m1, tj _ (by omega)] at rl
    have tt : tw digL v = v.take (tw digL v).length := tw_take _ _
    rw [tokL_eq rl]
    have k0 : kind0 (35 :: 45 :: v.take (min 40 ((tw digL v).length + 2) - 2)) = kindL (35 :: 45 :: v.take (min 40 ((tw digL v).length + 2) - 2)) := kind0_cons
    have d2 : (35 :: 45 :: v.take (min 40 ((tw digL v).length + 2) - 2)).drop 2 = v.take (min 40 ((tw digL v).length + 2) - 2) := rfl
    have t2 : (35 :: 45 :: v.take (min 40 ((tw digL v).length + 2) - 2)).take 2 = [35, 45] := rfl
    have ll : (35 :: 45 :: v.take (min 40 ((tw digL v).length + 2) - 2)).length = min 40 ((tw digL v).length + 2) := by
      simp
      omega
    have al : allIn digL (v.take (min 40 ((tw digL v).length + 2) - 2)) = true := (allIn_take (by omega)).mpr (by omega)
    have nn : kindL (35 :: 45 :: v.take (min 40 ((tw digL v).length + 2) - 2)) ≠ "name" := by
      rw [kindL_d]
      repeat' split
      all_goals decide
    have te : (if kind0 (35 :: 45 :: v.take (min 40 ((tw digL v).length + 2) - 2)) = "name" ∧ (35 :: 45 :: v.take (min 40 ((tw digL v).length + 2) - 2)).length > 12 then "" else kind0 (35 :: 45 :: v.take (min 40 ((tw digL v).length + 2) - 2))) = kindL (35 :: 45 :: v.take (min 40 ((tw digL v).length + 2) - 2)) := by
      rw [k0]
      exact if_neg fun z => nn z.1
    rw [te, kindL_d, d2, t2, ll]
    clear te nn k0
    generalize ht : (tw digL v).length = n at *
    by_cases q : n ≤ 10
    · have mm : min 40 (n + 2) - 2 = n := by omega
      rw [mm] at al ⊢
      rw [← tt] at al ⊢
      by_cases z : nz (tw digL v) = true
      · have n1 : 1 ≤ n := by
          cases n with
          | zero =>
            rw [tt] at z
            exact absurd z (by simp [nz])
          | succ _ => omega
        rw [if_pos ⟨z, q⟩, if_pos ⟨rfl, ⟨by omega, by omega⟩, al⟩, if_pos z]
        exact ⟨rfl, fun _ => rfl⟩
      · rw [if_neg fun y => z y.1]
        refine ⟨?_, fun h => (h rfl).elim⟩
        show "" = _
        split
        all_goals first | rfl | rw [if_neg z]
    · rw [if_neg fun y => q y.2, if_neg fun y => by have := y.2.1.2; omega]
      exact ⟨rfl, fun h => (h rfl).elim⟩
  · intro c t hs hd hc e
    have ee : ∀ (n : Nat) (ls : List (List Nat)), (∀ s ∈ ls, s.length = n) → ∀ R : List Nat, (ls.find? fun s => decide (R.take s.length = s)) = if R.take n ∈ ls then some (R.take n) else none := by
      intro n ls
      induction ls with
      | nil => intro _ R; rfl
      | cons s ls ih =>
        intro hl R
        have hs := hl s (by simp)
        have hr := ih (fun x hx => hl x (by simp [hx])) R
        rw [List.find?_cons]
        by_cases z : R.take n = s
        · have : decide (R.take s.length = s) = true := by rw [hs]; exact decide_eq_true z
          rw [this, if_pos (by simp [z])]
          simp [z]
        · have : decide (R.take s.length = s) = false := by rw [hs]; exact decide_eq_false z
          rw [this]
          show (ls.find? fun s => decide (R.take s.length = s)) = _
          rw [hr]
          have : (R.take n ∈ s :: ls) ↔ R.take n ∈ ls := by simp [z]
          simp [this]
    have sy : ∀ R : List Nat, sym R = if R.take 2 ∈ symsL.take 5 then R.take 2 else if R.take 1 ∈ symsL.drop 5 then R.take 1 else [] := by
      intro R
      unfold sym
      have sp : symsL = symsL.take 5 ++ symsL.drop 5 := by rw [List.take_append_drop]
      rw [sp, List.find?_append, ee 2 (symsL.take 5) (by decide), ee 1 (symsL.drop 5) (by decide)]
      have e1 : (symsL.take 5 ++ symsL.drop 5).take 5 = symsL.take 5 := by decide
      have e2 : (symsL.take 5 ++ symsL.drop 5).drop 5 = symsL.drop 5 := by decide
      rw [e1, e2]
      split
      · rfl
      · split <;> rfl
    have mem : ∀ l : List Nat, l ∈ lsymL ↔ l ∈ symsL.take 5 ∨ l ∈ symsL.drop 5 := by
      have a1 : ∀ l ∈ lsymL, l ∈ symsL.take 5 ∨ l ∈ symsL.drop 5 := by decide
      have a2 : ∀ l ∈ symsL.take 5, l ∈ lsymL := by decide
      have a3 : ∀ l ∈ symsL.drop 5, l ∈ lsymL := by decide
      exact fun l => ⟨a1 l, fun z => z.elim (a2 l) (a3 l)⟩
    have l5 : ∀ l ∈ symsL.take 5, l.length = 2 := by decide
    have l1 : ∀ l ∈ symsL.drop 5, l.length = 1 := by decide
    -- the condition
    have cond : ∀ j, 1 ≤ j → j ≤ (c :: t).length → (condL ((c :: t).take j) ↔ (c :: t).take j ∈ lsymL) := by
      intro j h1 h2
      have nt : ((c :: t).take j).take 2 ≠ [35, 45] := by
        rw [List.take_take]
        intro z
        have := congrArg List.length z
        rw [List.length_take] at this
        have m2 : min 2 j = 2 := by
          simp at this
          omega
        rw [m2] at z
        exact e z
      rw [take_cons h1] at nt ⊢
      unfold condL
      constructor
      · rintro (z | z | z | z)
        · exact (allIn_hd hc z).elim
        · exact (allIn_hd hd z).elim
        · exact (nt z.1).elim
        · by_cases c35 : c = 35
          · subst c35
            rw [kindL_d, if_neg fun y => nt y.1] at z
            exact (z rfl).elim
          · rw [kindL_e hs hd hc c35] at z
            apply Classical.byContradiction
            intro y
            rw [if_neg y] at z
            exact z rfl
      · intro z
        refine .inr (.inr (.inr ?_))
        rw [kindL_e hs hd hc (symHd z).2.2.2.1, if_pos z]
        decide
    have down : ∀ j, 2 < j → j ≤ (c :: t).length → ¬ condL ((c :: t).take j) := fun j h1 h2 z => by
      have := (cond j (by omega) h2).mp z
      have := (lsym_hd _ this).2.2.2.2.1
      rw [List.length_take] at this
      omega
    have r1 : runF (c :: t) 1 = if (c :: t).take 1 ∈ lsymL then (c :: t).take 1 else [] := by
      show (if condL ((c :: t).take 1) then (c :: t).take 1 else []) = _
      by_cases z : (c :: t).take 1 ∈ lsymL
      · rw [if_pos z, if_pos ((cond 1 (Nat.le_refl 1) (by simp)).mpr z)]
      · rw [if_neg z, if_neg fun y => z ((cond 1 (Nat.le_refl 1) (by simp)).mp y)]
    have rl : runL (c :: t) = sym (c :: t) := by
      rw [sy]
      unfold runL
      cases t with
      | nil =>
        show runF [c] 1 = _
        rw [r1]
        have n2 : ([c] : List Nat).take 2 ∉ symsL.take 5 := fun z => by
          have := l5 _ z
          simp at this
        rw [if_neg n2]
        have : ([c] : List Nat).take 1 ∈ lsymL ↔ ([c] : List Nat).take 1 ∈ symsL.drop 5 := by
          rw [mem]
          exact ⟨fun z => z.elim (fun y => by have := l5 _ y; simp at this) id, .inr⟩
        simp only [this]
      | cons d v =>
        rw [runF_down down _ (by simp; omega) (Nat.min_le_left _ _)]
        show (if condL ((c :: d :: v).take 2) then (c :: d :: v).take 2 else runF (c :: d :: v) 1) = _
        rw [r1]
        have c2 := cond 2 (by decide) (by simp)
        have m2 : (c :: d :: v).take 2 ∈ lsymL ↔ (c :: d :: v).take 2 ∈ symsL.take 5 := by
          rw [mem]
          exact ⟨fun z => z.elim id (fun y => by have := l1 _ y; simp at this), .inl⟩
        have m1 : (c :: d :: v).take 1 ∈ lsymL ↔ (c :: d :: v).take 1 ∈ symsL.drop 5 := by
          rw [mem]
          exact ⟨fun z => z.elim (fun y => by have := l5 _ y; simp at this) id, .inr⟩
        simp only [c2, m2, m1]
    rw [tokL_eq rl]
    have kk : kind0 (sym (c :: t)) = if sym (c :: t) = [] then "" else "symbol" := by
      by_cases z : sym (c :: t) = []
      · rw [if_pos z, z]
        rfl
      · rw [if_neg z]
        have hm : sym (c :: t) ∈ lsymL := by
          rw [sy] at z ⊢
          split
          · rename_i y
            exact (mem _).mpr (.inl y)
          · rename_i y
            rw [if_neg y] at z
            split
            · rename_i x
              exact (mem _).mpr (.inr x)
            · rename_i x
              rw [if_neg x] at z
              exact (z rfl).elim
        obtain ⟨q1, q2, q3, q4, q5, q6⟩ := lsym_hd _ hm
        generalize sym (c :: t) = P at *
        cases P with
        | nil => exact (z rfl).elim
        | cons a b => rw [kind0_cons, kindL_e (c := a) (u := b) q1 q2 q3 q4, if_pos hm]
    have nn : ¬ (kind0 (sym (c :: t)) = "name" ∧ (sym (c :: t)).length > 12) := fun z => by
      have z := z.1
      rw [kk] at z
      split at z <;> exact absurd z (by decide)
    rw [if_neg nn, kk]
    exact ⟨rfl, fun _ => rfl⟩
end K14
namespace K14
open PySem PySem.Spec PyProof.Rows L2 Ev
def RelT : List Tk → List Tk → Prop
  | [], [] => True
  | a :: as, b :: bs => a.1 = b.1 ∧ a.2.2 = b.2.2 ∧ (a.1 ≠ "" → a.2.1 = b.2.1) ∧ RelT as bs
  | _, _ => False
theorem RelT.len : ∀ {as bs : List Tk}, RelT as bs → as.length = bs.length
  | [], [], _ => rfl
  | a :: as, b :: bs, h => by simp [RelT.len h.2.2.2]
  | [], _ :: _, h => h.elim
  | _ :: _, [], h => h.elim
theorem RelT.get : ∀ {as bs : List Tk} {i : Nat} (h : RelT as bs) (h1 : i < as.length) (h2 : i < bs.length), as[i].1 = bs[i].1 ∧ as[i].2.2 = bs[i].2.2 ∧ (as[i].1 ≠ "" → as[i].2.1 = bs[i].2.1)
  | a :: as, b :: bs, 0, h, _, _ => ⟨h.1, h.2.1, h.2.2.1⟩
  | a :: as, b :: bs, i + 1, h, h1, h2 => RelT.get h.2.2.2 (by simpa using h1) (by simpa using h2)
theorem runT_eq (tok : List Nat → String × List Nat) (L : List Nat) (at_ : Nat) : runT tok L at_ = if h : at_ < L.length then
    if L[at_] ∈ [32, 10] then runT tok L (at_ + 1)
    else if (tok (L.drop at_)).1 = "" then [((tok (L.drop at_)).1, (tok (L.drop at_)).2, at_)]
    else ((tok (L.drop at_)).1, (tok (L.drop at_)).2, at_) :: runT tok L (at_ + max 1 (tok (L.drop at_)).2.length)
  else [] := by rw [runT]
theorem runs_alike (L : List Nat) : ∀ (m at_ : Nat), L.length - at_ ≤ m → RelT (runT tokP L at_) (runT tokL L at_) := by
  intro m
  induction m with
  | zero =>
    intro at_ h
    rw [runT_eq tokP, runT_eq tokL, dif_neg (by omega), dif_neg (by omega)]
    trivial
  | succ m ih =>
    intro at_ h
    rw [runT_eq tokP, runT_eq tokL]
    by_cases hl : at_ < L.length
    · rw [dif_pos hl, dif_pos hl]
      by_cases hs : L[at_] ∈ [32, 10]
      · rw [if_pos hs, if_pos hs]
        exact ih _ (by omega)
      · rw [if_neg hs, if_neg hs]
        obtain ⟨a, b⟩ := alike (L.drop at_)
        have pn := tokP_ne (L.drop at_)
        by_cases z : (tokP (L.drop at_)).1 = ""
        · rw [if_pos z, if_pos (a ▸ z)]
          exact ⟨a, rfl, b, trivial⟩
        · rw [if_neg z, if_neg (a ▸ z)]
          refine ⟨a, rfl, b, ?_⟩
          rw [← b z]
          have := List.length_pos_iff.mpr (pn z)
          exact ih _ (by omega)
    · rw [dif_neg hl, dif_neg hl]
      trivial
/-! ### the law -/
theorem draw_ok (k : Nat) {r q : Nat} {ns : List Int} {h : AH} {many : Int} (S : StAt r q ns h) (h0 : 0 < many) (h1 : many.natAbs < 2 ^ 64) :
    ∃ v h', callA T fs (k + 1) "_law_draw" [.ref r, .int many] h = .ok (.int v) h' ∧ StAt r q ns h' ∧ Same r h h' ∧ 0 ≤ v ∧ v < many := by
  obtain ⟨v, h', e, p⟩ := draw_pre (cf := callA T fs k) S h0 h1
  exact ⟨v, h', by rw [c_law_draw]; exact e, p⟩
theorem stream_ok (k : Nat) {ns : List Int} (hl : ns.length ≤ 63) : ∃ h', callA T fs (k + 1) "_law_stream" [.ref 0] [.fro (ns.map AV.int)] = .ok (.ref 2) h' ∧ h'.length = 3 ∧ StAt 2 1 ns h' := by
  obtain ⟨h', e, a, _, b⟩ := stream_pre (cf := callA T fs k) (p := 0) (ns := ns) (h := [.fro (ns.map AV.int)]) rfl hl
  exact ⟨h', by rw [c_law_stream]; exact e, a, b⟩
theorem pick_ok (k : Nat) {r q p : Nat} {ns : List Int} {xs : List AV} {h : AH} (S : StAt r q ns h) (hp : h[p]? = some (.lst xs)) (pr : p ≠ r) (h0 : xs ≠ []) (h1 : xs.length < 2 ^ 60) :
    ∃ v h', callA T fs (k + 2) "_law_pick" [.ref r, .ref p] h = .ok v h' ∧ v ∈ xs ∧ StAt r q ns h' ∧ Same r h h' := by
  have hl : 0 < xs.length := List.length_pos_iff.mpr h0
  obtain ⟨v, h', e, S', sm, v0, v1⟩ := draw_ok k (many := (xs.length : Int)) S (by omega) (by omega)
  have hv : v.toNat < xs.length := by omega
  have ex : atI xs v = some xs[v.toNat] := by
    have := atI_nat' hv
    rwa [Int.toNat_of_nonneg v0] at this
  rw [c_law_pick]
  unfold s_law_pick
  have hp' : h'[p]? = some (.lst xs) := by rw [sm.2 _ pr]; exact hp
  simp only [seqS_eq, bdS_eq, bd_eq, ifS_eq, thn_nx, thn_rt, thn_bk, thn_ct, thn_exc, thn_bad, thS_ok, thS_exc, thS_bad, thE_ok, thE_exc, thE_bad, thIf_ok, thIf_exc, thIf_bad, ret_eq, setS_eq, retS_eq, skipS_eq, alloc_eq, callM_eq, evs_nil, evs_cons, asBool_bl, tru_bl, tru_int, tru_non, tru_tup, runR_nx, runR_rt, runR_exc, runR_bad, runR_ite, thn_ite, thS_ite, thE_ite, ite_app2, ite_app2S, add_ii, sub_ii, mul_ii, fdiv_ii, mod_ii, pow_ii, shl_ii, shr_ii, band_ii, bor_ii, bxor_ii, neg_i, lt_ii, le_ii, gt_ii, ge_ii, eq_ii, eq_ss, eq_bb, ne_ii, ne_ss, ne_bb, isN_non, isN_int, isN_tup, isN_ref, isN_str, int_i, int_b, abs_i, max_ii, min_ii, slotM, idx_r, idx_t, idxO_lst, idxO_fro, atO_some, stIx_r, len_r, lenO_lst, lenO_fro, list_r, listO_lst, listO_fro, andT_one, andT_two, orT_one, orT_two, andV_one, andV_two, orV_one, orV_two, asg_eq, subG_eq, onlyNx_eq, nxo_nx, lst_eq, tup_eq, pat_nm, forS_eq, okS_nx, okS_rt, okS_bk, okS_ct, okS_exc, okE_oke, List.getElem?_cons_zero, List.getElem?_cons_succ, List.set_cons_zero, List.set_cons_succ, ofString_inj, decide_eq_true_eq, Bool.not_eq_true', decide_eq_false_iff_not, reduceIte, if_true, if_false, Int.reduceLT, Int.reduceLE, Int.reduceEq, Int.reduceNe, decide_true, decide_false, Bool.false_eq_true, String.reduceEq, Bool.not_true, Bool.not_false, idxO_dct, stIxO_dct, keyV_str, keyV_int, isKd_nil, isKd_cons, dLook_nil, dLook_cons, dct_eq, dctO_ok, prs_nil, prs_cons, get_new, set_new, dPut, dHas, List.any_cons, List.any_nil, List.all_cons, List.all_nil, List.foldl_cons, List.foldl_nil, List.map_cons, List.map_nil, List.cons_append, List.nil_append, Option.some.injEq, Sum.inr.injEq, Sum.inl.injEq, Option.isSome_some, Bool.or_false, Bool.false_or, Bool.or_true, Bool.true_or, Bool.and_true, Bool.true_and, Bool.and_self, List.length_cons, List.length_nil, sizeLine_eq, Nat.reduceAdd, Nat.reduceLeDiff, Nat.reduceLT, and_self, and_true, true_and, false_and, and_false, Bool.or_self, Bool.and_false, Bool.false_and, reduceCtorEq, in_tup, memFlat_nil, memFlat_cons, eqFlat_ss, eqFlat_ii, flatA_str, flatA_int, cpow2, comp_eq, gs_nil, gs_cons, oI_int, chain_eq, all_new, any_new, meth_eq, mApp_append, appK_lst, appendA_r, appO_lst, aug_eq, ipAdd_ii, ipSub_ii, ipAdd_ss, len_t, itOf_str, isi_non, isi_bl, isi_int, isi_str, isi_tup, isiB, String.reduceBEq, Nat.reducePow, Int.reduceToNat, Int.reducePow, Int.reduceSub, Int.reduceNeg, Int.reduceAdd, Int.reduceMul, hp, e, hp', ex]
  exact ⟨_, h', rfl, List.getElem_mem hv, S', sm⟩
theorem same_str (k : Nat) (a b : Str) (h : AH) : callA T fs (k + 1) "_law_same" [.str a, .str b] h = .ok (.bl (decide (a = b))) h := by
  rw [c_law_same]
  unfold s_law_same
  simp only [seqS_eq, bdS_eq, bd_eq, ifS_eq, thn_nx, thn_rt, thn_bk, thn_ct, thn_exc, thn_bad, thS_ok, thS_exc, thS_bad, thE_ok, thE_exc, thE_bad, thIf_ok, thIf_exc, thIf_bad, ret_eq, setS_eq, retS_eq, skipS_eq, alloc_eq, callM_eq, evs_nil, evs_cons, asBool_bl, tru_bl, tru_int, tru_non, tru_tup, runR_nx, runR_rt, runR_exc, runR_bad, runR_ite, thn_ite, thS_ite, thE_ite, ite_app2, ite_app2S, add_ii, sub_ii, mul_ii, fdiv_ii, mod_ii, pow_ii, shl_ii, shr_ii, band_ii, bor_ii, bxor_ii, neg_i, lt_ii, le_ii, gt_ii, ge_ii, eq_ii, eq_ss, eq_bb, ne_ii, ne_ss, ne_bb, isN_non, isN_int, isN_tup, isN_ref, isN_str, int_i, int_b, abs_i, max_ii, min_ii, slotM, idx_r, idx_t, idxO_lst, idxO_fro, atO_some, stIx_r, len_r, lenO_lst, lenO_fro, list_r, listO_lst, listO_fro, andT_one, andT_two, orT_one, orT_two, andV_one, andV_two, orV_one, orV_two, asg_eq, subG_eq, onlyNx_eq, nxo_nx, lst_eq, tup_eq, pat_nm, forS_eq, okS_nx, okS_rt, okS_bk, okS_ct, okS_exc, okE_oke, List.getElem?_cons_zero, List.getElem?_cons_succ, List.set_cons_zero, List.set_cons_succ, ofString_inj, decide_eq_true_eq, Bool.not_eq_true', decide_eq_false_iff_not, reduceIte, if_true, if_false, Int.reduceLT, Int.reduceLE, Int.reduceEq, Int.reduceNe, decide_true, decide_false, Bool.false_eq_true, String.reduceEq, Bool.not_true, Bool.not_false, idxO_dct, stIxO_dct, keyV_str, keyV_int, isKd_nil, isKd_cons, dLook_nil, dLook_cons, dct_eq, dctO_ok, prs_nil, prs_cons, get_new, set_new, dPut, dHas, List.any_cons, List.any_nil, List.all_cons, List.all_nil, List.foldl_cons, List.foldl_nil, List.map_cons, List.map_nil, List.cons_append, List.nil_append, Option.some.injEq, Sum.inr.injEq, Sum.inl.injEq, Option.isSome_some, Bool.or_false, Bool.false_or, Bool.or_true, Bool.true_or, Bool.and_true, Bool.true_and, Bool.and_self, List.length_cons, List.length_nil, sizeLine_eq, Nat.reduceAdd, Nat.reduceLeDiff, Nat.reduceLT, and_self, and_true, true_and, false_and, and_false, Bool.or_self, Bool.and_false, Bool.false_and, reduceCtorEq, in_tup, memFlat_nil, memFlat_cons, eqFlat_ss, eqFlat_ii, flatA_str, flatA_int, cpow2, comp_eq, gs_nil, gs_cons, oI_int, chain_eq, all_new, any_new, meth_eq, mApp_append, appK_lst, appendA_r, appO_lst, aug_eq, ipAdd_ii, ipSub_ii, ipAdd_ss, len_t, itOf_str, isi_non, isi_bl, isi_int, isi_str, isi_tup, isiB, String.reduceBEq, Nat.reducePow, Int.reduceToNat, Int.reducePow, Int.reduceSub, Int.reduceNeg, Int.reduceAdd, Int.reduceMul]
theorem same_int (k : Nat) (a b : Int) (h : AH) : callA T fs (k + 1) "_law_same" [.int a, .int b] h = .ok (.bl (decide (a = b))) h := by
  rw [c_law_same]
  unfold s_law_same
  simp only [seqS_eq, bdS_eq, bd_eq, ifS_eq, thn_nx, thn_rt, thn_bk, thn_ct, thn_exc, thn_bad, thS_ok, thS_exc, thS_bad, thE_ok, thE_exc, thE_bad, thIf_ok, thIf_exc, thIf_bad, ret_eq, setS_eq, retS_eq, skipS_eq, alloc_eq, callM_eq, evs_nil, evs_cons, asBool_bl, tru_bl, tru_int, tru_non, tru_tup, runR_nx, runR_rt, runR_exc, runR_bad, runR_ite, thn_ite, thS_ite, thE_ite, ite_app2, ite_app2S, add_ii, sub_ii, mul_ii, fdiv_ii, mod_ii, pow_ii, shl_ii, shr_ii, band_ii, bor_ii, bxor_ii, neg_i, lt_ii, le_ii, gt_ii, ge_ii, eq_ii, eq_ss, eq_bb, ne_ii, ne_ss, ne_bb, isN_non, isN_int, isN_tup, isN_ref, isN_str, int_i, int_b, abs_i, max_ii, min_ii, slotM, idx_r, idx_t, idxO_lst, idxO_fro, atO_some, stIx_r, len_r, lenO_lst, lenO_fro, list_r, listO_lst, listO_fro, andT_one, andT_two, orT_one, orT_two, andV_one, andV_two, orV_one, orV_two, asg_eq, subG_eq, onlyNx_eq, nxo_nx, lst_eq, tup_eq, pat_nm, forS_eq, okS_nx, okS_rt, okS_bk, okS_ct, okS_exc, okE_oke, List.getElem?_cons_zero, List.getElem?_cons_succ, List.set_cons_zero, List.set_cons_succ, ofString_inj, decide_eq_true_eq, Bool.not_eq_true', decide_eq_false_iff_not, reduceIte, if_true, if_false, Int.reduceLT, Int.reduceLE, Int.reduceEq, Int.reduceNe, decide_true, decide_false, Bool.false_eq_true, String.reduceEq, Bool.not_true, Bool.not_false, idxO_dct, stIxO_dct, keyV_str, keyV_int, isKd_nil, isKd_cons, dLook_nil, dLook_cons, dct_eq, dctO_ok, prs_nil, prs_cons, get_new, set_new, dPut, dHas, List.any_cons, List.any_nil, List.all_cons, List.all_nil, List.foldl_cons, List.foldl_nil, List.map_cons, List.map_nil, List.cons_append, List.nil_append, Option.some.injEq, Sum.inr.injEq, Sum.inl.injEq, Option.isSome_some, Bool.or_false, Bool.false_or, Bool.or_true, Bool.true_or, Bool.and_true, Bool.true_and, Bool.and_self, List.length_cons, List.length_nil, sizeLine_eq, Nat.reduceAdd, Nat.reduceLeDiff, Nat.reduceLT, and_self, and_true, true_and, false_and, and_false, Bool.or_self, Bool.and_false, Bool.false_and, reduceCtorEq, in_tup, memFlat_nil, memFlat_cons, eqFlat_ss, eqFlat_ii, flatA_str, flatA_int, cpow2, comp_eq, gs_nil, gs_cons, oI_int, chain_eq, all_new, any_new, meth_eq, mApp_append, appK_lst, appendA_r, appO_lst, aug_eq, ipAdd_ii, ipSub_ii, ipAdd_ss, len_t, itOf_str, isi_non, isi_bl, isi_int, isi_str, isi_tup, isiB, String.reduceBEq, Nat.reducePow, Int.reduceToNat, Int.reducePow, Int.reduceSub, Int.reduceNeg, Int.reduceAdd, Int.reduceMul]
theorem same_pair (k : Nat) (a : Str) (i : Int) (h : AH) : ∃ l, callA T fs (k + 2) "_law_same" [.tup [.str a, .int i], .tup [.str a, .int i]] h = .ok (.bl true) (h ++ l) := by
  have a0 : ∀ x y : AV, atI [x, y] 0 = some x := fun _ _ => rfl
  have a1 : ∀ x y : AV, atI [x, y] 1 = some y := fun _ _ => rfl
  have c : s_law_same_c1 (callA T fs (k + 1)) [some (.tup [.str a, .int i]), some (.tup [.str a, .int i]), none] h = .ok (.ref h.length) (h ++ [.lst (([true, true] : List Bool).map AV.bl)]) := by
    unfold s_law_same_c1
    refine comp_map (xs := [.int 0, .int 1]) ?_ (fun _ => .bl true) ?_ (by decide) (by decide)
    · have r := rng1 (j := 2) (s := [some (.tup [.str a, .int i]), some (.tup [.str a, .int i]), none]) (h := h) (by decide) (by decide)
      have e2 : (([AV.str a, AV.int i] : List AV).length : Int) = 2 := rfl
      simp only [seqS_eq, bdS_eq, bd_eq, ifS_eq, thn_nx, thn_rt, thn_bk, thn_ct, thn_exc, thn_bad, thS_ok, thS_exc, thS_bad, thE_ok, thE_exc, thE_bad, thIf_ok, thIf_exc, thIf_bad, ret_eq, setS_eq, retS_eq, skipS_eq, alloc_eq, callM_eq, evs_nil, evs_cons, asBool_bl, tru_bl, tru_int, tru_non, tru_tup, runR_nx, runR_rt, runR_exc, runR_bad, runR_ite, thn_ite, thS_ite, thE_ite, ite_app2, ite_app2S, add_ii, sub_ii, mul_ii, fdiv_ii, mod_ii, pow_ii, shl_ii, shr_ii, band_ii, bor_ii, bxor_ii, neg_i, lt_ii, le_ii, gt_ii, ge_ii, eq_ii, eq_ss, eq_bb, ne_ii, ne_ss, ne_bb, isN_non, isN_int, isN_tup, isN_ref, isN_str, int_i, int_b, abs_i, max_ii, min_ii, slotM, idx_r, idx_t, idxO_lst, idxO_fro, atO_some, stIx_r, len_r, lenO_lst, lenO_fro, list_r, listO_lst, listO_fro, andT_one, andT_two, orT_one, orT_two, andV_one, andV_two, orV_one, orV_two, asg_eq, subG_eq, onlyNx_eq, nxo_nx, lst_eq, tup_eq, pat_nm, forS_eq, okS_nx, okS_rt, okS_bk, okS_ct, okS_exc, okE_oke, List.getElem?_cons_zero, List.getElem?_cons_succ, List.set_cons_zero, List.set_cons_succ, ofString_inj, decide_eq_true_eq, Bool.not_eq_true', decide_eq_false_iff_not, reduceIte, if_true, if_false, Int.reduceLT, Int.reduceLE, Int.reduceEq, Int.reduceNe, decide_true, decide_false, Bool.false_eq_true, String.reduceEq, Bool.not_true, Bool.not_false, idxO_dct, stIxO_dct, keyV_str, keyV_int, isKd_nil, isKd_cons, dLook_nil, dLook_cons, dct_eq, dctO_ok, prs_nil, prs_cons, get_new, set_new, dPut, dHas, List.any_cons, List.any_nil, List.all_cons, List.all_nil, List.foldl_cons, List.foldl_nil, List.map_cons, List.map_nil, List.cons_append, List.nil_append, Option.some.injEq, Sum.inr.injEq, Sum.inl.injEq, Option.isSome_some, Bool.or_false, Bool.false_or, Bool.or_true, Bool.true_or, Bool.and_true, Bool.true_and, Bool.and_self, List.length_cons, List.length_nil, sizeLine_eq, Nat.reduceAdd, Nat.reduceLeDiff, Nat.reduceLT, and_self, and_true, true_and, false_and, and_false, Bool.or_self, Bool.and_false, Bool.false_and, reduceCtorEq, in_tup, memFlat_nil, memFlat_cons, eqFlat_ss, eqFlat_ii, flatA_str, flatA_int, cpow2, comp_eq, gs_nil, gs_cons, oI_int, chain_eq, all_new, any_new, meth_eq, mApp_append, appK_lst, appendA_r, appO_lst, aug_eq, ipAdd_ii, ipSub_ii, ipAdd_ss, len_t, itOf_str, isi_non, isi_bl, isi_int, isi_str, isi_tup, isiB, String.reduceBEq, Nat.reducePow, Int.reduceToNat, Int.reducePow, Int.reduceSub, Int.reduceNeg, Int.reduceAdd, Int.reduceMul, e2, r]
      rfl
    · intro x hx h'
      simp only [List.mem_cons, List.not_mem_nil, or_false] at hx
      rcases hx with rfl | rfl
      · simp only [seqS_eq, bdS_eq, bd_eq, ifS_eq, thn_nx, thn_rt, thn_bk, thn_ct, thn_exc, thn_bad, thS_ok, thS_exc, thS_bad, thE_ok, thE_exc, thE_bad, thIf_ok, thIf_exc, thIf_bad, ret_eq, setS_eq, retS_eq, skipS_eq, alloc_eq, callM_eq, evs_nil, evs_cons, asBool_bl, tru_bl, tru_int, tru_non, tru_tup, runR_nx, runR_rt, runR_exc, runR_bad, runR_ite, thn_ite, thS_ite, thE_ite, ite_app2, ite_app2S, add_ii, sub_ii, mul_ii, fdiv_ii, mod_ii, pow_ii, shl_ii, shr_ii, band_ii, bor_ii, bxor_ii, neg_i, lt_ii, le_ii, gt_ii, ge_ii, eq_ii, eq_ss, eq_bb, ne_ii, ne_ss, ne_bb, isN_non, isN_int, isN_tup, isN_ref, isN_str, int_i, int_b, abs_i, max_ii, min_ii, slotM, idx_r, idx_t, idxO_lst, idxO_fro, atO_some, stIx_r, len_r, lenO_lst, lenO_fro, list_r, listO_lst, listO_fro, andT_one, andT_two, orT_one, orT_two, andV_one, andV_two, orV_one, orV_two, asg_eq, subG_eq, onlyNx_eq, nxo_nx, lst_eq, tup_eq, pat_nm, forS_eq, okS_nx, okS_rt, okS_bk, okS_ct, okS_exc, okE_oke, List.getElem?_cons_zero, List.getElem?_cons_succ, List.set_cons_zero, List.set_cons_succ, ofString_inj, decide_eq_true_eq, Bool.not_eq_true', decide_eq_false_iff_not, reduceIte, if_true, if_false, Int.reduceLT, Int.reduceLE, Int.reduceEq, Int.reduceNe, decide_true, decide_false, Bool.false_eq_true, String.reduceEq, Bool.not_true, Bool.not_false, idxO_dct, stIxO_dct, keyV_str, keyV_int, isKd_nil, isKd_cons, dLook_nil, dLook_cons, dct_eq, dctO_ok, prs_nil, prs_cons, get_new, set_new, dPut, dHas, List.any_cons, List.any_nil, List.all_cons, List.all_nil, List.foldl_cons, List.foldl_nil, List.map_cons, List.map_nil, List.cons_append, List.nil_append, Option.some.injEq, Sum.inr.injEq, Sum.inl.injEq, Option.isSome_some, Bool.or_false, Bool.false_or, Bool.or_true, Bool.true_or, Bool.and_true, Bool.true_and, Bool.and_self, List.length_cons, List.length_nil, sizeLine_eq, Nat.reduceAdd, Nat.reduceLeDiff, Nat.reduceLT, and_self, and_true, true_and, false_and, and_false, Bool.or_self, Bool.and_false, Bool.false_and, reduceCtorEq, in_tup, memFlat_nil, memFlat_cons, eqFlat_ss, eqFlat_ii, flatA_str, flatA_int, cpow2, comp_eq, gs_nil, gs_cons, oI_int, chain_eq, all_new, any_new, meth_eq, mApp_append, appK_lst, appendA_r, appO_lst, aug_eq, ipAdd_ii, ipSub_ii, ipAdd_ss, len_t, itOf_str, isi_non, isi_bl, isi_int, isi_str, isi_tup, isiB, String.reduceBEq, Nat.reducePow, Int.reduceToNat, Int.reducePow, Int.reduceSub, Int.reduceNeg, Int.reduceAdd, Int.reduceMul, wipeA, a0, a1, same_str]
      · simp only [seqS_eq, bdS_eq, bd_eq, ifS_eq, thn_nx, thn_rt, thn_bk, thn_ct, thn_exc, thn_bad, thS_ok, thS_exc, thS_bad, thE_ok, thE_exc, thE_bad, thIf_ok, thIf_exc, thIf_bad, ret_eq, setS_eq, retS_eq, skipS_eq, alloc_eq, callM_eq, evs_nil, evs_cons, asBool_bl, tru_bl, tru_int, tru_non, tru_tup, runR_nx, runR_rt, runR_exc, runR_bad, runR_ite, thn_ite, thS_ite, thE_ite, ite_app2, ite_app2S, add_ii, sub_ii, mul_ii, fdiv_ii, mod_ii, pow_ii, shl_ii, shr_ii, band_ii, bor_ii, bxor_ii, neg_i, lt_ii, le_ii, gt_ii, ge_ii, eq_ii, eq_ss, eq_bb, ne_ii, ne_ss, ne_bb, isN_non, isN_int, isN_tup, isN_ref, isN_str, int_i, int_b, abs_i, max_ii, min_ii, slotM, idx_r, idx_t, idxO_lst, idxO_fro, atO_some, stIx_r, len_r, lenO_lst, lenO_fro, list_r, listO_lst, listO_fro, andT_one, andT_two, orT_one, orT_two, andV_one, andV_two, orV_one, orV_two, asg_eq, subG_eq, onlyNx_eq, nxo_nx, lst_eq, tup_eq, pat_nm, forS_eq, okS_nx, okS_rt, okS_bk, okS_ct, okS_exc, okE_oke, List.getElem?_cons_zero, List.getElem?_cons_succ, List.set_cons_zero, List.set_cons_succ, ofString_inj, decide_eq_true_eq, Bool.not_eq_true', decide_eq_false_iff_not, reduceIte, if_true, if_false, Int.reduceLT, Int.reduceLE, Int.reduceEq, Int.reduceNe, decide_true, decide_false, Bool.false_eq_true, String.reduceEq, Bool.not_true, Bool.not_false, idxO_dct, stIxO_dct, keyV_str, keyV_int, isKd_nil, isKd_cons, dLook_nil, dLook_cons, dct_eq, dctO_ok, prs_nil, prs_cons, get_new, set_new, dPut, dHas, List.any_cons, List.any_nil, List.all_cons, List.all_nil, List.foldl_cons, List.foldl_nil, List.map_cons, List.map_nil, List.cons_append, List.nil_append, Option.some.injEq, Sum.inr.injEq, Sum.inl.injEq, Option.isSome_some, Bool.or_false, Bool.false_or, Bool.or_true, Bool.true_or, Bool.and_true, Bool.true_and, Bool.and_self, List.length_cons, List.length_nil, sizeLine_eq, Nat.reduceAdd, Nat.reduceLeDiff, Nat.reduceLT, and_self, and_true, true_and, false_and, and_false, Bool.or_self, Bool.and_false, Bool.false_and, reduceCtorEq, in_tup, memFlat_nil, memFlat_cons, eqFlat_ss, eqFlat_ii, flatA_str, flatA_int, cpow2, comp_eq, gs_nil, gs_cons, oI_int, chain_eq, all_new, any_new, meth_eq, mApp_append, appK_lst, appendA_r, appO_lst, aug_eq, ipAdd_ii, ipSub_ii, ipAdd_ss, len_t, itOf_str, isi_non, isi_bl, isi_int, isi_str, isi_tup, isiB, String.reduceBEq, Nat.reducePow, Int.reduceToNat, Int.reducePow, Int.reduceSub, Int.reduceNeg, Int.reduceAdd, Int.reduceMul, wipeA, a0, a1, same_int]
  rw [c_law_same]
  unfold s_law_same
  have al : ∀ (s : Sl) (h : AH), allA [.ref h.length] s (h ++ [.lst [.bl true, .bl true]]) = .ok (.bl true) (h ++ [.lst [.bl true, .bl true]]) := fun s h => all_new (bs := [true, true])
  simp only [seqS_eq, bdS_eq, bd_eq, ifS_eq, thn_nx, thn_rt, thn_bk, thn_ct, thn_exc, thn_bad, thS_ok, thS_exc, thS_bad, thE_ok, thE_exc, thE_bad, thIf_ok, thIf_exc, thIf_bad, ret_eq, setS_eq, retS_eq, skipS_eq, alloc_eq, callM_eq, evs_nil, evs_cons, asBool_bl, tru_bl, tru_int, tru_non, tru_tup, runR_nx, runR_rt, runR_exc, runR_bad, runR_ite, thn_ite, thS_ite, thE_ite, ite_app2, ite_app2S, add_ii, sub_ii, mul_ii, fdiv_ii, mod_ii, pow_ii, shl_ii, shr_ii, band_ii, bor_ii, bxor_ii, neg_i, lt_ii, le_ii, gt_ii, ge_ii, eq_ii, eq_ss, eq_bb, ne_ii, ne_ss, ne_bb, isN_non, isN_int, isN_tup, isN_ref, isN_str, int_i, int_b, abs_i, max_ii, min_ii, slotM, idx_r, idx_t, idxO_lst, idxO_fro, atO_some, stIx_r, len_r, lenO_lst, lenO_fro, list_r, listO_lst, listO_fro, andT_one, andT_two, orT_one, orT_two, andV_one, andV_two, orV_one, orV_two, asg_eq, subG_eq, onlyNx_eq, nxo_nx, lst_eq, tup_eq, pat_nm, forS_eq, okS_nx, okS_rt, okS_bk, okS_ct, okS_exc, okE_oke, List.getElem?_cons_zero, List.getElem?_cons_succ, List.set_cons_zero, List.set_cons_succ, ofString_inj, decide_eq_true_eq, Bool.not_eq_true', decide_eq_false_iff_not, reduceIte, if_true, if_false, Int.reduceLT, Int.reduceLE, Int.reduceEq, Int.reduceNe, decide_true, decide_false, Bool.false_eq_true, String.reduceEq, Bool.not_true, Bool.not_false, idxO_dct, stIxO_dct, keyV_str, keyV_int, isKd_nil, isKd_cons, dLook_nil, dLook_cons, dct_eq, dctO_ok, prs_nil, prs_cons, get_new, set_new, dPut, dHas, List.any_cons, List.any_nil, List.all_cons, List.all_nil, List.foldl_cons, List.foldl_nil, List.map_cons, List.map_nil, List.cons_append, List.nil_append, Option.some.injEq, Sum.inr.injEq, Sum.inl.injEq, Option.isSome_some, Bool.or_false, Bool.false_or, Bool.or_true, Bool.true_or, Bool.and_true, Bool.true_and, Bool.and_self, List.length_cons, List.length_nil, sizeLine_eq, Nat.reduceAdd, Nat.reduceLeDiff, Nat.reduceLT, and_self, and_true, true_and, false_and, and_false, Bool.or_self, Bool.and_false, Bool.false_and, reduceCtorEq, in_tup, memFlat_nil, memFlat_cons, eqFlat_ss, eqFlat_ii, flatA_str, flatA_int, cpow2, comp_eq, gs_nil, gs_cons, oI_int, chain_eq, all_new, any_new, meth_eq, mApp_append, appK_lst, appendA_r, appO_lst, aug_eq, ipAdd_ii, ipSub_ii, ipAdd_ss, len_t, itOf_str, isi_non, isi_bl, isi_int, isi_str, isi_tup, isiB, String.reduceBEq, Nat.reducePow, Int.reduceToNat, Int.reducePow, Int.reduceSub, Int.reduceNeg, Int.reduceAdd, Int.reduceMul, c, al]
  exact ⟨_, rfl⟩
def psS : List String := "x" :: "abc9" :: "9" :: "120" :: "#-5" :: "#-" :: "#" :: "KERNEL" :: "IF" :: "IFX" :: "TID" :: "Q" :: "<" :: "<<" :: ">" :: ">>" :: "=" :: "==" :: "12345678901" :: "0000000000" :: "#-0" :: "#-00000000001" :: "#-0000000001" :: "!" :: "!=" :: "~" :: " " :: "\n" :: "(" :: "]" :: "{" :: "abcdefghijklm" :: "a1b2c3d4e5f6" :: ";" :: "," :: "-" :: "@" :: "\t" :: "+" :: "|" :: "MAX" :: []
theorem psS_len : ∀ z ∈ psS, (Str.ofString z).length ≤ 13 := by decide +kernel
def ps : List AV := psS.map fun z => AV.str (Str.ofString z)
theorem add_ll {p q : Nat} {xs ys : List AV} {s : Sl} {h : AH} (e1 : h[p]? = some (.lst xs)) (e2 : h[q]? = some (.lst ys)) (hl : xs.length + ys.length ≤ sizeLine) : addA (.ref p) (.ref q) s h = .ok (.ref h.length) (h ++ [.lst (xs ++ ys)]) := by
  show catL (.ref p) (.ref q) s h = _
  unfold catL
  dsimp only
  rw [e1, e2]
  dsimp only
  rw [if_pos hl]
  rfl
end K14
namespace K14
open PySem PySem.Spec PyProof.Rows L2 Ev
abbrev DX (P : Sl → AH → Prop) : Dst := { nx := P, rt := fun v _ => v = .bl true }
theorem okS_two {a b c : SM} {s : Sl} {h : AH} {D : Dst} {P : Sl → AH → Prop} (p : okS (seqS a b s h) { D with nx := P }) (q : ∀ s h, P s h → okS (c s h) D) : okS (seqS a (seqS b c) s h) D := by
  have e : seqS a (seqS b c) s h = seqS (seqS a b) c s h := by
    rw [seqS_eq, seqS_eq, seqS_eq]
    cases a s h with
    | nx s1 h1 => rw [thn_nx, thn_nx, seqS_eq]
    | _ => rfl
  rw [e]
  exact okS_seq P p q
abbrev cf : CF := callA T fs 5
variable {ns : List Int} {s : Sl} {h : AH}
def A1 (ns : List Int) (s : Sl) (h : AH) : Prop := s = [some (.ref 0), some (.ref 2), none, none, none, none, none] ∧ StAt 2 1 ns h
def A4 (ns : List Int) (s : Sl) (h : AH) : Prop := ∃ p : Nat, s = [some (.ref 0), some (.ref 2), some (.ref p), none, none, none, none] ∧ StAt 2 1 ns h ∧ h[p]? = some (.lst ps) ∧ p ≠ 1 ∧ p ≠ 2
def A6 (ns : List Int) (s : Sl) (h : AH) : Prop := ∃ (p : Nat) (L : List Nat) (c4 : Option AV), s = [some (.ref 0), some (.ref 2), some (.ref p), some (.str (S L)), c4, none, none] ∧ big L
def A11 (s : Sl) (h : AH) : Prop := ∃ (p : Nat) (L : List Nat) (c4 : Option AV) (a b : Nat), s = [some (.ref 0), some (.ref 2), some (.ref p), some (.str (S L)), c4, some (.ref a), some (.ref b)] ∧ big L ∧ h[a]? = some (.lst ((runT tokP L 0).map tokAV)) ∧ h[b]? = some (.lst ((runT tokL L 0).map tokAV))
def L1 : List AV := [.str "x", .str "abc9", .str "9", .str "120", .str "#-5", .str "#-", .str "#", .str "KERNEL", .str "IF", .str "IFX", .str "TID", .str "Q", .str "<", .str "<<", .str ">", .str ">>", .str "=", .str "=="]
def L2 : List AV := [.str "12345678901", .str "0000000000", .str "#-0", .str "#-00000000001", .str "#-0000000001"]
def L3 : List AV := [.str "!", .str "!=", .str "~", .str " ", .str "\n", .str "(", .str "]", .str "{", .str "abcdefghijklm", .str "a1b2c3d4e5f6", .str ";", .str ",", .str "-", .str "@", .str "\t", .str "+", .str "|", .str "MAX"]
theorem ps_eq : L1 ++ L2 ++ L3 = ps := rfl
theorem p1 (hl : ns.length ≤ 63) : okS (s_law_1 cf [some (.ref 0), none, none, none, none, none, none] [.fro (ns.map AV.int)]) (DX (A1 ns)) := by
  obtain ⟨h1, e1, l1, S1⟩ := stream_ok 4 hl
  unfold s_law_1 A1
  simp only [seqS_eq, bdS_eq, bd_eq, ifS_eq, thn_nx, thn_rt, thn_bk, thn_ct, thn_exc, thn_bad, thS_ok, thS_exc, thS_bad, thE_ok, thE_exc, thE_bad, thIf_ok, thIf_exc, thIf_bad, ret_eq, setS_eq, retS_eq, skipS_eq, alloc_eq, callM_eq, evs_nil, evs_cons, asBool_bl, tru_bl, tru_int, tru_non, tru_tup, runR_nx, runR_rt, runR_exc, runR_bad, runR_ite, thn_ite, thS_ite, thE_ite, ite_app2, ite_app2S, add_ii, sub_ii, mul_ii, fdiv_ii, mod_ii, pow_ii, shl_ii, shr_ii, band_ii, bor_ii, bxor_ii, neg_i, lt_ii, le_ii, gt_ii, ge_ii, eq_ii, eq_ss, eq_bb, ne_ii, ne_ss, ne_bb, isN_non, isN_int, isN_tup, isN_ref, isN_str, int_i, int_b, abs_i, max_ii, min_ii, slotM, idx_r, idx_t, idxO_lst, idxO_fro, atO_some, stIx_r, len_r, lenO_lst, lenO_fro, list_r, listO_lst, listO_fro, andT_one, andT_two, orT_one, orT_two, andV_one, andV_two, orV_one, orV_two, asg_eq, subG_eq, onlyNx_eq, nxo_nx, lst_eq, tup_eq, pat_nm, forS_eq, okS_nx, okS_rt, okS_bk, okS_ct, okS_exc, okE_oke, List.getElem?_cons_zero, List.getElem?_cons_succ, List.set_cons_zero, List.set_cons_succ, ofString_inj, decide_eq_true_eq, Bool.not_eq_true', decide_eq_false_iff_not, reduceIte, if_true, if_false, Int.reduceLT, Int.reduceLE, Int.reduceEq, Int.reduceNe, decide_true, decide_false, Bool.false_eq_true, String.reduceEq, Bool.not_true, Bool.not_false, idxO_dct, stIxO_dct, keyV_str, keyV_int, isKd_nil, isKd_cons, dLook_nil, dLook_cons, dct_eq, dctO_ok, prs_nil, prs_cons, get_new, set_new, dPut, dHas, List.any_cons, List.any_nil, List.all_cons, List.all_nil, List.foldl_cons, List.foldl_nil, List.map_cons, List.map_nil, List.cons_append, List.nil_append, Option.some.injEq, Sum.inr.injEq, Sum.inl.injEq, Option.isSome_some, Bool.or_false, Bool.false_or, Bool.or_true, Bool.true_or, Bool.and_true, Bool.true_and, Bool.and_self, List.length_cons, List.length_nil, sizeLine_eq, Nat.reduceAdd, Nat.reduceLeDiff, Nat.reduceLT, and_self, and_true, true_and, false_and, and_false, Bool.or_self, Bool.and_false, Bool.false_and, reduceCtorEq, in_tup, memFlat_nil, memFlat_cons, eqFlat_ss, eqFlat_ii, flatA_str, flatA_int, cpow2, comp_eq, gs_nil, gs_cons, oI_int, chain_eq, all_new, any_new, meth_eq, mApp_append, appK_lst, appendA_r, appO_lst, aug_eq, ipAdd_ii, ipSub_ii, ipAdd_ss, len_t, itOf_str, isi_non, isi_bl, isi_int, isi_str, isi_tup, isiB, String.reduceBEq, Nat.reducePow, Int.reduceToNat, Int.reducePow, Int.reduceSub, Int.reduceNeg, Int.reduceAdd, Int.reduceMul, e1]
  exact S1
theorem p2 (p : A1 ns s h) : okS (s_law_2 cf s h) (DX fun s h => ∃ p : Nat, s = [some (.ref 0), some (.ref 2), some (.ref p), none, none, none, none] ∧ StAt 2 1 ns h ∧ h[p]? = some (.lst L1) ∧ p ≠ 1 ∧ p ≠ 2) := by
  obtain ⟨rfl, S⟩ := p
  obtain ⟨l1, l2⟩ := S.lt
  unfold s_law_2
  simp only [seqS_eq, bdS_eq, bd_eq, ifS_eq, thn_nx, thn_rt, thn_bk, thn_ct, thn_exc, thn_bad, thS_ok, thS_exc, thS_bad, thE_ok, thE_exc, thE_bad, thIf_ok, thIf_exc, thIf_bad, ret_eq, setS_eq, retS_eq, skipS_eq, alloc_eq, callM_eq, evs_nil, evs_cons, asBool_bl, tru_bl, tru_int, tru_non, tru_tup, runR_nx, runR_rt, runR_exc, runR_bad, runR_ite, thn_ite, thS_ite, thE_ite, ite_app2, ite_app2S, add_ii, sub_ii, mul_ii, fdiv_ii, mod_ii, pow_ii, shl_ii, shr_ii, band_ii, bor_ii, bxor_ii, neg_i, lt_ii, le_ii, gt_ii, ge_ii, eq_ii, eq_ss, eq_bb, ne_ii, ne_ss, ne_bb, isN_non, isN_int, isN_tup, isN_ref, isN_str, int_i, int_b, abs_i, max_ii, min_ii, slotM, idx_r, idx_t, idxO_lst, idxO_fro, atO_some, stIx_r, len_r, lenO_lst, lenO_fro, list_r, listO_lst, listO_fro, andT_one, andT_two, orT_one, orT_two, andV_one, andV_two, orV_one, orV_two, asg_eq, subG_eq, onlyNx_eq, nxo_nx, lst_eq, tup_eq, pat_nm, forS_eq, okS_nx, okS_rt, okS_bk, okS_ct, okS_exc, okE_oke, List.getElem?_cons_zero, List.getElem?_cons_succ, List.set_cons_zero, List.set_cons_succ, ofString_inj, decide_eq_true_eq, Bool.not_eq_true', decide_eq_false_iff_not, reduceIte, if_true, if_false, Int.reduceLT, Int.reduceLE, Int.reduceEq, Int.reduceNe, decide_true, decide_false, Bool.false_eq_true, String.reduceEq, Bool.not_true, Bool.not_false, idxO_dct, stIxO_dct, keyV_str, keyV_int, isKd_nil, isKd_cons, dLook_nil, dLook_cons, dct_eq, dctO_ok, prs_nil, prs_cons, get_new, set_new, dPut, dHas, List.any_cons, List.any_nil, List.all_cons, List.all_nil, List.foldl_cons, List.foldl_nil, List.map_cons, List.map_nil, List.cons_append, List.nil_append, Option.some.injEq, Sum.inr.injEq, Sum.inl.injEq, Option.isSome_some, Bool.or_false, Bool.false_or, Bool.or_true, Bool.true_or, Bool.and_true, Bool.true_and, Bool.and_self, List.length_cons, List.length_nil, sizeLine_eq, Nat.reduceAdd, Nat.reduceLeDiff, Nat.reduceLT, and_self, and_true, true_and, false_and, and_false, Bool.or_self, Bool.and_false, Bool.false_and, reduceCtorEq, in_tup, memFlat_nil, memFlat_cons, eqFlat_ss, eqFlat_ii, flatA_str, flatA_int, cpow2, comp_eq, gs_nil, gs_cons, oI_int, chain_eq, all_new, any_new, meth_eq, mApp_append, appK_lst, appendA_r, appO_lst, aug_eq, ipAdd_ii, ipSub_ii, ipAdd_ss, len_t, itOf_str, isi_non, isi_bl, isi_int, isi_str, isi_tup, isiB, String.reduceBEq, Nat.reducePow, Int.reduceToNat, Int.reducePow, Int.reduceSub, Int.reduceNeg, Int.reduceAdd, Int.reduceMul]
  exact ⟨h.length, rfl, S.app, get_new, by omega, by omega⟩
theorem p3 (p : ∃ p : Nat, s = [some (.ref 0), some (.ref 2), some (.ref p), none, none, none, none] ∧ StAt 2 1 ns h ∧ h[p]? = some (.lst L1) ∧ p ≠ 1 ∧ p ≠ 2) : okS (s_law_3 cf s h) (DX fun s h => ∃ p : Nat, s = [some (.ref 0), some (.ref 2), some (.ref p), none, none, none, none] ∧ StAt 2 1 ns h ∧ h[p]? = some (.lst (L1 ++ L2)) ∧ p ≠ 1 ∧ p ≠ 2) := by
  obtain ⟨p, rfl, S, hp, p1, p2⟩ := p
  obtain ⟨l1, l2⟩ := S.lt
  have ad : ∀ s, addA (.ref p) (.ref h.length) s (h ++ [.lst L2]) = .ok (.ref (h ++ [AO.lst L2]).length) (h ++ [.lst L2] ++ [.lst (L1 ++ L2)]) := fun s => add_ll (get_app hp) get_new (by decide)
  unfold L2 at ad
  unfold s_law_3
  simp only [seqS_eq, bdS_eq, bd_eq, ifS_eq, thn_nx, thn_rt, thn_bk, thn_ct, thn_exc, thn_bad, thS_ok, thS_exc, thS_bad, thE_ok, thE_exc, thE_bad, thIf_ok, thIf_exc, thIf_bad, ret_eq, setS_eq, retS_eq, skipS_eq, alloc_eq, callM_eq, evs_nil, evs_cons, asBool_bl, tru_bl, tru_int, tru_non, tru_tup, runR_nx, runR_rt, runR_exc, runR_bad, runR_ite, thn_ite, thS_ite, thE_ite, ite_app2, ite_app2S, add_ii, sub_ii, mul_ii, fdiv_ii, mod_ii, pow_ii, shl_ii, shr_ii, band_ii, bor_ii, bxor_ii, neg_i, lt_ii, le_ii, gt_ii, ge_ii, eq_ii, eq_ss, eq_bb, ne_ii, ne_ss, ne_bb, isN_non, isN_int, isN_tup, isN_ref, isN_str, int_i, int_b, abs_i, max_ii, min_ii, slotM, idx_r, idx_t, idxO_lst, idxO_fro, atO_some, stIx_r, len_r, lenO_lst, lenO_fro, list_r, listO_lst, listO_fro, andT_one, andT_two, orT_one, orT_two, andV_one, andV_two, orV_one, orV_two, asg_eq, subG_eq, onlyNx_eq, nxo_nx, lst_eq, tup_eq, pat_nm, forS_eq, okS_nx, okS_rt, okS_bk, okS_ct, okS_exc, okE_oke, List.getElem?_cons_zero, List.getElem?_cons_succ, List.set_cons_zero, List.set_cons_succ, ofString_inj, decide_eq_true_eq, Bool.not_eq_true', decide_eq_false_iff_not, reduceIte, if_true, if_false, Int.reduceLT, Int.reduceLE, Int.reduceEq, Int.reduceNe, decide_true, decide_false, Bool.false_eq_true, String.reduceEq, Bool.not_true, Bool.not_false, idxO_dct, stIxO_dct, keyV_str, keyV_int, isKd_nil, isKd_cons, dLook_nil, dLook_cons, dct_eq, dctO_ok, prs_nil, prs_cons, get_new, set_new, dPut, dHas, List.any_cons, List.any_nil, List.all_cons, List.all_nil, List.foldl_cons, List.foldl_nil, List.map_cons, List.map_nil, List.cons_append, List.nil_append, Option.some.injEq, Sum.inr.injEq, Sum.inl.injEq, Option.isSome_some, Bool.or_false, Bool.false_or, Bool.or_true, Bool.true_or, Bool.and_true, Bool.true_and, Bool.and_self, List.length_cons, List.length_nil, sizeLine_eq, Nat.reduceAdd, Nat.reduceLeDiff, Nat.reduceLT, and_self, and_true, true_and, false_and, and_false, Bool.or_self, Bool.and_false, Bool.false_and, reduceCtorEq, in_tup, memFlat_nil, memFlat_cons, eqFlat_ss, eqFlat_ii, flatA_str, flatA_int, cpow2, comp_eq, gs_nil, gs_cons, oI_int, chain_eq, all_new, any_new, meth_eq, mApp_append, appK_lst, appendA_r, appO_lst, aug_eq, ipAdd_ii, ipSub_ii, ipAdd_ss, len_t, itOf_str, isi_non, isi_bl, isi_int, isi_str, isi_tup, isiB, String.reduceBEq, Nat.reducePow, Int.reduceToNat, Int.reducePow, Int.reduceSub, Int.reduceNeg, Int.reduceAdd, Int.reduceMul, ad]
  exact ⟨_, rfl, S.app.app, get_new, by rw [List.length_append]; show h.length + 1 ≠ _; omega, by rw [List.length_append]; show h.length + 1 ≠ _; omega⟩
theorem p4 (p : ∃ p : Nat, s = [some (.ref 0), some (.ref 2), some (.ref p), none, none, none, none] ∧ StAt 2 1 ns h ∧ h[p]? = some (.lst (L1 ++ L2)) ∧ p ≠ 1 ∧ p ≠ 2) : okS (s_law_4 cf s h) (DX (A4 ns)) := by
  obtain ⟨p, rfl, S, hp, p1, p2⟩ := p
  obtain ⟨l1, l2⟩ := S.lt
  have ad : ∀ s, addA (.ref p) (.ref h.length) s (h ++ [.lst L3]) = .ok (.ref (h ++ [AO.lst L3]).length) (h ++ [.lst L3] ++ [.lst (L1 ++ L2 ++ L3)]) := fun s => add_ll (get_app hp) get_new (by decide)
  unfold L3 at ad
  unfold s_law_4 A4
  simp only [seqS_eq, bdS_eq, bd_eq, ifS_eq, thn_nx, thn_rt, thn_bk, thn_ct, thn_exc, thn_bad, thS_ok, thS_exc, thS_bad, thE_ok, thE_exc, thE_bad, thIf_ok, thIf_exc, thIf_bad, ret_eq, setS_eq, retS_eq, skipS_eq, alloc_eq, callM_eq, evs_nil, evs_cons, asBool_bl, tru_bl, tru_int, tru_non, tru_tup, runR_nx, runR_rt, runR_exc, runR_bad, runR_ite, thn_ite, thS_ite, thE_ite, ite_app2, ite_app2S, add_ii, sub_ii, mul_ii, fdiv_ii, mod_ii, pow_ii, shl_ii, shr_ii, band_ii, bor_ii, bxor_ii, neg_i, lt_ii, le_ii, gt_ii, ge_ii, eq_ii, eq_ss, eq_bb, ne_ii, ne_ss, ne_bb, isN_non, isN_int, isN_tup, isN_ref, isN_str, int_i, int_b, abs_i, max_ii, min_ii, slotM, idx_r, idx_t, idxO_lst, idxO_fro, atO_some, stIx_r, len_r, lenO_lst, lenO_fro, list_r, listO_lst, listO_fro, andT_one, andT_two, orT_one, orT_two, andV_one, andV_two, orV_one, orV_two, asg_eq, subG_eq, onlyNx_eq, nxo_nx, lst_eq, tup_eq, pat_nm, forS_eq, okS_nx, okS_rt, okS_bk, okS_ct, okS_exc, okE_oke, List.getElem?_cons_zero, List.getElem?_cons_succ, List.set_cons_zero, List.set_cons_succ, ofString_inj, decide_eq_true_eq, Bool.not_eq_true', decide_eq_false_iff_not, reduceIte, if_true, if_false, Int.reduceLT, Int.reduceLE, Int.reduceEq, Int.reduceNe, decide_true, decide_false, Bool.false_eq_true, String.reduceEq, Bool.not_true, Bool.not_false, idxO_dct, stIxO_dct, keyV_str, keyV_int, isKd_nil, isKd_cons, dLook_nil, dLook_cons, dct_eq, dctO_ok, prs_nil, prs_cons, get_new, set_new, dPut, dHas, List.any_cons, List.any_nil, List.all_cons, List.all_nil, List.foldl_cons, List.foldl_nil, List.map_cons, List.map_nil, List.cons_append, List.nil_append, Option.some.injEq, Sum.inr.injEq, Sum.inl.injEq, Option.isSome_some, Bool.or_false, Bool.false_or, Bool.or_true, Bool.true_or, Bool.and_true, Bool.true_and, Bool.and_self, List.length_cons, List.length_nil, sizeLine_eq, Nat.reduceAdd, Nat.reduceLeDiff, Nat.reduceLT, and_self, and_true, true_and, false_and, and_false, Bool.or_self, Bool.and_false, Bool.false_and, reduceCtorEq, in_tup, memFlat_nil, memFlat_cons, eqFlat_ss, eqFlat_ii, flatA_str, flatA_int, cpow2, comp_eq, gs_nil, gs_cons, oI_int, chain_eq, all_new, any_new, meth_eq, mApp_append, appK_lst, appendA_r, appO_lst, aug_eq, ipAdd_ii, ipSub_ii, ipAdd_ss, len_t, itOf_str, isi_non, isi_bl, isi_int, isi_str, isi_tup, isiB, String.reduceBEq, Nat.reducePow, Int.reduceToNat, Int.reducePow, Int.reduceSub, Int.reduceNeg, Int.reduceAdd, Int.reduceMul, ad]
  exact ⟨_, rfl, S.app.app, get_new, by rw [List.length_append]; show h.length + 1 ≠ _; omega, by rw [List.length_append]; show h.length + 1 ≠ _; omega⟩
theorem p56 (p : A4 ns s h) : okS (seqS (s_law_5 cf) (s_law_6 cf) s h) (DX (A6 ns)) := by
  obtain ⟨p, rfl, St, hp, p1, p2⟩ := p
  obtain ⟨v, h1, e1, S1, m1, a1, b1⟩ := draw_ok 4 (many := 14) St (by decide) (by decide)
  have hp1 : h1[p]? = some (.lst ps) := by rw [m1.2 _ p2]; exact hp
  have r1 : ∀ s h, rangeI1 (.int v) s h = .ok (.vals ((List.range v.toNat).map fun (k : Nat) => AV.int (0 + (k : Int)))) h := fun s h => rng1 a1 (by omega)
  unfold s_law_5 s_law_6 s_law_7 s_law_8 s_law_9 A6
  simp only [seqS_eq, bdS_eq, bd_eq, ifS_eq, thn_nx, thn_rt, thn_bk, thn_ct, thn_exc, thn_bad, thS_ok, thS_exc, thS_bad, thE_ok, thE_exc, thE_bad, thIf_ok, thIf_exc, thIf_bad, ret_eq, setS_eq, retS_eq, skipS_eq, alloc_eq, callM_eq, evs_nil, evs_cons, asBool_bl, tru_bl, tru_int, tru_non, tru_tup, runR_nx, runR_rt, runR_exc, runR_bad, runR_ite, thn_ite, thS_ite, thE_ite, ite_app2, ite_app2S, add_ii, sub_ii, mul_ii, fdiv_ii, mod_ii, pow_ii, shl_ii, shr_ii, band_ii, bor_ii, bxor_ii, neg_i, lt_ii, le_ii, gt_ii, ge_ii, eq_ii, eq_ss, eq_bb, ne_ii, ne_ss, ne_bb, isN_non, isN_int, isN_tup, isN_ref, isN_str, int_i, int_b, abs_i, max_ii, min_ii, slotM, idx_r, idx_t, idxO_lst, idxO_fro, atO_some, stIx_r, len_r, lenO_lst, lenO_fro, list_r, listO_lst, listO_fro, andT_one, andT_two, orT_one, orT_two, andV_one, andV_two, orV_one, orV_two, asg_eq, subG_eq, onlyNx_eq, nxo_nx, lst_eq, tup_eq, pat_nm, forS_eq, okS_nx, okS_rt, okS_bk, okS_ct, okS_exc, okE_oke, List.getElem?_cons_zero, List.getElem?_cons_succ, List.set_cons_zero, List.set_cons_succ, ofString_inj, decide_eq_true_eq, Bool.not_eq_true', decide_eq_false_iff_not, reduceIte, if_true, if_false, Int.reduceLT, Int.reduceLE, Int.reduceEq, Int.reduceNe, decide_true, decide_false, Bool.false_eq_true, String.reduceEq, Bool.not_true, Bool.not_false, idxO_dct, stIxO_dct, keyV_str, keyV_int, isKd_nil, isKd_cons, dLook_nil, dLook_cons, dct_eq, dctO_ok, prs_nil, prs_cons, get_new, set_new, dPut, dHas, List.any_cons, List.any_nil, List.all_cons, List.all_nil, List.foldl_cons, List.foldl_nil, List.map_cons, List.map_nil, List.cons_append, List.nil_append, Option.some.injEq, Sum.inr.injEq, Sum.inl.injEq, Option.isSome_some, Bool.or_false, Bool.false_or, Bool.or_true, Bool.true_or, Bool.and_true, Bool.true_and, Bool.and_self, List.length_cons, List.length_nil, sizeLine_eq, Nat.reduceAdd, Nat.reduceLeDiff, Nat.reduceLT, and_self, and_true, true_and, false_and, and_false, Bool.or_self, Bool.and_false, Bool.false_and, reduceCtorEq, in_tup, memFlat_nil, memFlat_cons, eqFlat_ss, eqFlat_ii, flatA_str, flatA_int, cpow2, comp_eq, gs_nil, gs_cons, oI_int, chain_eq, all_new, any_new, meth_eq, mApp_append, appK_lst, appendA_r, appO_lst, aug_eq, ipAdd_ii, ipSub_ii, ipAdd_ss, len_t, itOf_str, isi_non, isi_bl, isi_int, isi_str, isi_tup, isiB, String.reduceBEq, Nat.reducePow, Int.reduceToNat, Int.reducePow, Int.reduceSub, Int.reduceNeg, Int.reduceAdd, Int.reduceMul, e1, r1, l_e]
  refine okS_forV (fun i s h => ∃ (L : List Nat) (c4 : Option AV), L.length ≤ 14 * i ∧ s = [some (.ref 0), some (.ref 2), some (.ref p), some (.str (S L)), c4, none, none] ∧ StAt 2 1 ns h ∧ h[p]? = some (.lst ps)) ?_ ?_ _ _ _ _ ⟨[], none, Nat.zero_le _, rfl, S1, hp1⟩ (by simp) (by simp; unfold turnsMax; omega)
  · rintro i x s h ex ⟨L, c4, hL, rfl, St, hp⟩
    have hi : i < v.toNat := by
      have := (List.getElem?_eq_some_iff.mp ex).1
      simpa using this
    obtain ⟨z, h2, e2, hz, S2, m2⟩ := pick_ok 3 St hp p2 (by decide) (by decide)
    have hp2 : h2[p]? = some (.lst ps) := by rw [m2.2 _ p2]; exact hp
    obtain ⟨w, hw, rfl⟩ := List.mem_map.mp hz
    have wl := psS_len w hw
    have wz : AV.str (Str.ofString w) = .str (S (Str.ofString w).cps.toList) := by rw [← S_of]
    rw [wz] at e2
    have wl2 : (Str.ofString w).cps.toList.length ≤ 13 := by rw [Array.length_toList]; exact wl
    generalize (Str.ofString w).cps.toList = W at e2 wl2
    obtain ⟨v3, h3, e3, S3, m3, a3, b3⟩ := draw_ok 4 (many := 2) S2 (by decide) (by decide)
    have hp3 : h3[p]? = some (.lst ps) := by rw [m3.2 _ p2]; exact hp2
    have c1 : (S L).length + (S W).length ≤ 16777216 := by rw [S_len, S_len]; omega
    have l_s1 : Str.ofString " " = S [32] := by decide +kernel
    have c2 : (S (L ++ W)).length + (S [32]).length ≤ 16777216 := by rw [S_len, S_len, List.length_append]; simp; omega
    by_cases z : v3 = 0
    · simp only [seqS_eq, bdS_eq, bd_eq, ifS_eq, thn_nx, thn_rt, thn_bk, thn_ct, thn_exc, thn_bad, thS_ok, thS_exc, thS_bad, thE_ok, thE_exc, thE_bad, thIf_ok, thIf_exc, thIf_bad, ret_eq, setS_eq, retS_eq, skipS_eq, alloc_eq, callM_eq, evs_nil, evs_cons, asBool_bl, tru_bl, tru_int, tru_non, tru_tup, runR_nx, runR_rt, runR_exc, runR_bad, runR_ite, thn_ite, thS_ite, thE_ite, ite_app2, ite_app2S, add_ii, sub_ii, mul_ii, fdiv_ii, mod_ii, pow_ii, shl_ii, shr_ii, band_ii, bor_ii, bxor_ii, neg_i, lt_ii, le_ii, gt_ii, ge_ii, eq_ii, eq_ss, eq_bb, ne_ii, ne_ss, ne_bb, isN_non, isN_int, isN_tup, isN_ref, isN_str, int_i, int_b, abs_i, max_ii, min_ii, slotM, idx_r, idx_t, idxO_lst, idxO_fro, atO_some, stIx_r, len_r, lenO_lst, lenO_fro, list_r, listO_lst, listO_fro, andT_one, andT_two, orT_one, orT_two, andV_one, andV_two, orV_one, orV_two, asg_eq, subG_eq, onlyNx_eq, nxo_nx, lst_eq, tup_eq, pat_nm, forS_eq, okS_nx, okS_rt, okS_bk, okS_ct, okS_exc, okE_oke, List.getElem?_cons_zero, List.getElem?_cons_succ, List.set_cons_zero, List.set_cons_succ, ofString_inj, decide_eq_true_eq, Bool.not_eq_true', decide_eq_false_iff_not, reduceIte, if_true, if_false, Int.reduceLT, Int.reduceLE, Int.reduceEq, Int.reduceNe, decide_true, decide_false, Bool.false_eq_true, String.reduceEq, Bool.not_true, Bool.not_false, idxO_dct, stIxO_dct, keyV_str, keyV_int, isKd_nil, isKd_cons, dLook_nil, dLook_cons, dct_eq, dctO_ok, prs_nil, prs_cons, get_new, set_new, dPut, dHas, List.any_cons, List.any_nil, List.all_cons, List.all_nil, List.foldl_cons, List.foldl_nil, List.map_cons, List.map_nil, List.cons_append, List.nil_append, Option.some.injEq, Sum.inr.injEq, Sum.inl.injEq, Option.isSome_some, Bool.or_false, Bool.false_or, Bool.or_true, Bool.true_or, Bool.and_true, Bool.true_and, Bool.and_self, List.length_cons, List.length_nil, sizeLine_eq, Nat.reduceAdd, Nat.reduceLeDiff, Nat.reduceLT, and_self, and_true, true_and, false_and, and_false, Bool.or_self, Bool.and_false, Bool.false_and, reduceCtorEq, in_tup, memFlat_nil, memFlat_cons, eqFlat_ss, eqFlat_ii, flatA_str, flatA_int, cpow2, comp_eq, gs_nil, gs_cons, oI_int, chain_eq, all_new, any_new, meth_eq, mApp_append, appK_lst, appendA_r, appO_lst, aug_eq, ipAdd_ii, ipSub_ii, ipAdd_ss, len_t, itOf_str, isi_non, isi_bl, isi_int, isi_str, isi_tup, isiB, String.reduceBEq, Nat.reducePow, Int.reduceToNat, Int.reducePow, Int.reduceSub, Int.reduceNeg, Int.reduceAdd, Int.reduceMul, e2, add_ss, c1, S_app, e3, z, l_s1, c2]
      exact ⟨L ++ W ++ [32], _, by simp; omega, rfl, S3, hp3⟩
    · simp only [seqS_eq, bdS_eq, bd_eq, ifS_eq, thn_nx, thn_rt, thn_bk, thn_ct, thn_exc, thn_bad, thS_ok, thS_exc, thS_bad, thE_ok, thE_exc, thE_bad, thIf_ok, thIf_exc, thIf_bad, ret_eq, setS_eq, retS_eq, skipS_eq, alloc_eq, callM_eq, evs_nil, evs_cons, asBool_bl, tru_bl, tru_int, tru_non, tru_tup, runR_nx, runR_rt, runR_exc, runR_bad, runR_ite, thn_ite, thS_ite, thE_ite, ite_app2, ite_app2S, add_ii, sub_ii, mul_ii, fdiv_ii, mod_ii, pow_ii, shl_ii, shr_ii, band_ii, bor_ii, bxor_ii, neg_i, lt_ii, le_ii, gt_ii, ge_ii, eq_ii, eq_ss, eq_bb, ne_ii, ne_ss, ne_bb, isN_non, isN_int, isN_tup, isN_ref, isN_str, int_i, int_b, abs_i, max_ii, min_ii, slotM, idx_r, idx_t, idxO_lst, idxO_fro, atO_some, stIx_r, len_r, lenO_lst, lenO_fro, list_r, listO_lst, listO_fro, andT_one, andT_two, orT_one, orT_two, andV_one, andV_two, orV_one, orV_two, asg_eq, subG_eq, onlyNx_eq, nxo_nx, lst_eq, tup_eq, pat_nm, forS_eq, okS_nx, okS_rt, okS_bk, okS_ct, okS_exc, okE_oke, List.getElem?_cons_zero, List.getElem?_cons_succ, List.set_cons_zero, List.set_cons_succ, ofString_inj, decide_eq_true_eq, Bool.not_eq_true', decide_eq_false_iff_not, reduceIte, if_true, if_false, Int.reduceLT, Int.reduceLE, Int.reduceEq, Int.reduceNe, decide_true, decide_false, Bool.false_eq_true, String.reduceEq, Bool.not_true, Bool.not_false, idxO_dct, stIxO_dct, keyV_str, keyV_int, isKd_nil, isKd_cons, dLook_nil, dLook_cons, dct_eq, dctO_ok, prs_nil, prs_cons, get_new, set_new, dPut, dHas, List.any_cons, List.any_nil, List.all_cons, List.all_nil, List.foldl_cons, List.foldl_nil, List.map_cons, List.map_nil, List.cons_append, List.nil_append, Option.some.injEq, Sum.inr.injEq, Sum.inl.injEq, Option.isSome_some, Bool.or_false, Bool.false_or, Bool.or_true, Bool.true_or, Bool.and_true, Bool.true_and, Bool.and_self, List.length_cons, List.length_nil, sizeLine_eq, Nat.reduceAdd, Nat.reduceLeDiff, Nat.reduceLT, and_self, and_true, true_and, false_and, and_false, Bool.or_self, Bool.and_false, Bool.false_and, reduceCtorEq, in_tup, memFlat_nil, memFlat_cons, eqFlat_ss, eqFlat_ii, flatA_str, flatA_int, cpow2, comp_eq, gs_nil, gs_cons, oI_int, chain_eq, all_new, any_new, meth_eq, mApp_append, appK_lst, appendA_r, appO_lst, aug_eq, ipAdd_ii, ipSub_ii, ipAdd_ss, len_t, itOf_str, isi_non, isi_bl, isi_int, isi_str, isi_tup, isiB, String.reduceBEq, Nat.reducePow, Int.reduceToNat, Int.reducePow, Int.reduceSub, Int.reduceNeg, Int.reduceAdd, Int.reduceMul, e2, add_ss, c1, S_app, e3, z]
      exact ⟨L ++ W, _, by simp; omega, rfl, S3, hp3⟩
  · rintro s h ⟨L, c4, hL, rfl, St, hp⟩
    refine ⟨p, L, c4, rfl, ?_⟩
    simp at hL
    unfold big
    omega
theorem p10 (p : A6 ns s h) : okS (seqS (s_law_10 cf) (s_law_11 cf) s h) (DX A11) := by
  obtain ⟨p, L, c4, rfl, hz⟩ := p
  have e1 := tokens_ok 2 (L := L) (h := h) hz
  obtain ⟨l, e2⟩ := ltokens_ok 2 (L := L) (h := h ++ [.lst ((runT tokP L 0).map tokAV)]) hz
  unfold s_law_10 s_law_11 A11
  simp only [seqS_eq, bdS_eq, bd_eq, ifS_eq, thn_nx, thn_rt, thn_bk, thn_ct, thn_exc, thn_bad, thS_ok, thS_exc, thS_bad, thE_ok, thE_exc, thE_bad, thIf_ok, thIf_exc, thIf_bad, ret_eq, setS_eq, retS_eq, skipS_eq, alloc_eq, callM_eq, evs_nil, evs_cons, asBool_bl, tru_bl, tru_int, tru_non, tru_tup, runR_nx, runR_rt, runR_exc, runR_bad, runR_ite, thn_ite, thS_ite, thE_ite, ite_app2, ite_app2S, add_ii, sub_ii, mul_ii, fdiv_ii, mod_ii, pow_ii, shl_ii, shr_ii, band_ii, bor_ii, bxor_ii, neg_i, lt_ii, le_ii, gt_ii, ge_ii, eq_ii, eq_ss, eq_bb, ne_ii, ne_ss, ne_bb, isN_non, isN_int, isN_tup, isN_ref, isN_str, int_i, int_b, abs_i, max_ii, min_ii, slotM, idx_r, idx_t, idxO_lst, idxO_fro, atO_some, stIx_r, len_r, lenO_lst, lenO_fro, list_r, listO_lst, listO_fro, andT_one, andT_two, orT_one, orT_two, andV_one, andV_two, orV_one, orV_two, asg_eq, subG_eq, onlyNx_eq, nxo_nx, lst_eq, tup_eq, pat_nm, forS_eq, okS_nx, okS_rt, okS_bk, okS_ct, okS_exc, okE_oke, List.getElem?_cons_zero, List.getElem?_cons_succ, List.set_cons_zero, List.set_cons_succ, ofString_inj, decide_eq_true_eq, Bool.not_eq_true', decide_eq_false_iff_not, reduceIte, if_true, if_false, Int.reduceLT, Int.reduceLE, Int.reduceEq, Int.reduceNe, decide_true, decide_false, Bool.false_eq_true, String.reduceEq, Bool.not_true, Bool.not_false, idxO_dct, stIxO_dct, keyV_str, keyV_int, isKd_nil, isKd_cons, dLook_nil, dLook_cons, dct_eq, dctO_ok, prs_nil, prs_cons, get_new, set_new, dPut, dHas, List.any_cons, List.any_nil, List.all_cons, List.all_nil, List.foldl_cons, List.foldl_nil, List.map_cons, List.map_nil, List.cons_append, List.nil_append, Option.some.injEq, Sum.inr.injEq, Sum.inl.injEq, Option.isSome_some, Bool.or_false, Bool.false_or, Bool.or_true, Bool.true_or, Bool.and_true, Bool.true_and, Bool.and_self, List.length_cons, List.length_nil, sizeLine_eq, Nat.reduceAdd, Nat.reduceLeDiff, Nat.reduceLT, and_self, and_true, true_and, false_and, and_false, Bool.or_self, Bool.and_false, Bool.false_and, reduceCtorEq, in_tup, memFlat_nil, memFlat_cons, eqFlat_ss, eqFlat_ii, flatA_str, flatA_int, cpow2, comp_eq, gs_nil, gs_cons, oI_int, chain_eq, all_new, any_new, meth_eq, mApp_append, appK_lst, appendA_r, appO_lst, aug_eq, ipAdd_ii, ipSub_ii, ipAdd_ss, len_t, itOf_str, isi_non, isi_bl, isi_int, isi_str, isi_tup, isiB, String.reduceBEq, Nat.reducePow, Int.reduceToNat, Int.reducePow, Int.reduceSub, Int.reduceNeg, Int.reduceAdd, Int.reduceMul, e1, e2]
  exact ⟨p, L, c4, h.length, _, rfl, hz, get_app (get_app get_new), get_app get_new⟩
theorem p12 (p : A11 s h) : okS (s_law_12 cf s h) (DX A11) := by
  have p' := p
  obtain ⟨p, L, c4, a, b, rfl, hz, ga, gb⟩ := p
  have ll := (runs_alike L _ 0 (Nat.le_refl _)).len
  unfold s_law_12 s_law_13
  simp only [seqS_eq, bdS_eq, bd_eq, ifS_eq, thn_nx, thn_rt, thn_bk, thn_ct, thn_exc, thn_bad, thS_ok, thS_exc, thS_bad, thE_ok, thE_exc, thE_bad, thIf_ok, thIf_exc, thIf_bad, ret_eq, setS_eq, retS_eq, skipS_eq, alloc_eq, callM_eq, evs_nil, evs_cons, asBool_bl, tru_bl, tru_int, tru_non, tru_tup, runR_nx, runR_rt, runR_exc, runR_bad, runR_ite, thn_ite, thS_ite, thE_ite, ite_app2, ite_app2S, add_ii, sub_ii, mul_ii, fdiv_ii, mod_ii, pow_ii, shl_ii, shr_ii, band_ii, bor_ii, bxor_ii, neg_i, lt_ii, le_ii, gt_ii, ge_ii, eq_ii, eq_ss, eq_bb, ne_ii, ne_ss, ne_bb, isN_non, isN_int, isN_tup, isN_ref, isN_str, int_i, int_b, abs_i, max_ii, min_ii, slotM, idx_r, idx_t, idxO_lst, idxO_fro, atO_some, stIx_r, len_r, lenO_lst, lenO_fro, list_r, listO_lst, listO_fro, andT_one, andT_two, orT_one, orT_two, andV_one, andV_two, orV_one, orV_two, asg_eq, subG_eq, onlyNx_eq, nxo_nx, lst_eq, tup_eq, pat_nm, forS_eq, okS_nx, okS_rt, okS_bk, okS_ct, okS_exc, okE_oke, List.getElem?_cons_zero, List.getElem?_cons_succ, List.set_cons_zero, List.set_cons_succ, ofString_inj, decide_eq_true_eq, Bool.not_eq_true', decide_eq_false_iff_not, reduceIte, if_true, if_false, Int.reduceLT, Int.reduceLE, Int.reduceEq, Int.reduceNe, decide_true, decide_false, Bool.false_eq_true, String.reduceEq, Bool.not_true, Bool.not_false, idxO_dct, stIxO_dct, keyV_str, keyV_int, isKd_nil, isKd_cons, dLook_nil, dLook_cons, dct_eq, dctO_ok, prs_nil, prs_cons, get_new, set_new, dPut, dHas, List.any_cons, List.any_nil, List.all_cons, List.all_nil, List.foldl_cons, List.foldl_nil, List.map_cons, List.map_nil, List.cons_append, List.nil_append, Option.some.injEq, Sum.inr.injEq, Sum.inl.injEq, Option.isSome_some, Bool.or_false, Bool.false_or, Bool.or_true, Bool.true_or, Bool.and_true, Bool.true_and, Bool.and_self, List.length_cons, List.length_nil, sizeLine_eq, Nat.reduceAdd, Nat.reduceLeDiff, Nat.reduceLT, and_self, and_true, true_and, false_and, and_false, Bool.or_self, Bool.and_false, Bool.false_and, reduceCtorEq, in_tup, memFlat_nil, memFlat_cons, eqFlat_ss, eqFlat_ii, flatA_str, flatA_int, cpow2, comp_eq, gs_nil, gs_cons, oI_int, chain_eq, all_new, any_new, meth_eq, mApp_append, appK_lst, appendA_r, appO_lst, aug_eq, ipAdd_ii, ipSub_ii, ipAdd_ss, len_t, itOf_str, isi_non, isi_bl, isi_int, isi_str, isi_tup, isiB, String.reduceBEq, Nat.reducePow, Int.reduceToNat, Int.reducePow, Int.reduceSub, Int.reduceNeg, Int.reduceAdd, Int.reduceMul, isi_lst ga, ga, gb, List.length_map, ll]
  exact p'
theorem runT_len (tok : List Nat → String × List Nat) (L : List Nat) : ∀ (m at_ : Nat), L.length - at_ ≤ m → (runT tok L at_).length ≤ L.length - at_ := by
  intro m
  induction m with
  | zero =>
    intro at_ h
    rw [runT_eq, dif_neg (by omega)]
    exact Nat.zero_le _
  | succ m ih =>
    intro at_ h
    rw [runT_eq]
    by_cases hl : at_ < L.length
    · rw [dif_pos hl]
      split
      · have := ih (at_ + 1) (by omega)
        omega
      · split
        · show 1 ≤ _
          omega
        · rw [List.length_cons]
          have := ih (at_ + max 1 (tok (L.drop at_)).2.length) (by omega)
          omega
    · rw [dif_neg hl]
      exact Nat.zero_le _
theorem p14 (p : A11 s h) : okS (s_law_14 cf s h) (DX fun _ _ => True) := by
  obtain ⟨p, L, c4, a, b, rfl, hz, ga, gb⟩ := p
  have rel := runs_alike L _ 0 (Nat.le_refl _)
  have ll := rel.len
  have lz := runT_len tokL L _ 0 (Nat.le_refl _)
  generalize hrp : runT tokP L 0 = rp at *
  generalize hrl : runT tokL L 0 = rl at *
  have lb : rl.length ≤ 16000000 := by unfold big at hz; omega
  have gi : ∀ (r : List Tk) (i : Nat), (hi : i < r.length) → atI (r.map tokAV) (0 + (i : Int)) = some (tokAV r[i]) := fun r i hi => by
    have := atI_nat' (xs := r.map tokAV) (i := i) (by simpa using hi)
    rw [Int.zero_add, this, List.getElem_map]
  have a0 : ∀ x y z : AV, atI [x, y, z] 0 = some x := fun _ _ _ => rfl
  have a1 : ∀ x y z : AV, atI [x, y, z] 1 = some y := fun _ _ _ => rfl
  have a2 : ∀ x y z : AV, atI [x, y, z] 2 = some z := fun _ _ _ => rfl
  have r1 : ∀ s h, rangeI1 (.int ((rl.map tokAV).length : Nat)) s h = .ok (.vals ((List.range rl.length).map fun (k : Nat) => AV.int (0 + (k : Int)))) h := fun s h => by
    rw [rng1 (by omega) (by rw [List.length_map]; omega)]
    simp
  unfold s_law_14 s_law_15 s_law_16 s_law_17 s_law_18 s_law_19 s_law_20
  simp only [seqS_eq, bdS_eq, bd_eq, ifS_eq, thn_nx, thn_rt, thn_bk, thn_ct, thn_exc, thn_bad, thS_ok, thS_exc, thS_bad, thE_ok, thE_exc, thE_bad, thIf_ok, thIf_exc, thIf_bad, ret_eq, setS_eq, retS_eq, skipS_eq, alloc_eq, callM_eq, evs_nil, evs_cons, asBool_bl, tru_bl, tru_int, tru_non, tru_tup, runR_nx, runR_rt, runR_exc, runR_bad, runR_ite, thn_ite, thS_ite, thE_ite, ite_app2, ite_app2S, add_ii, sub_ii, mul_ii, fdiv_ii, mod_ii, pow_ii, shl_ii, shr_ii, band_ii, bor_ii, bxor_ii, neg_i, lt_ii, le_ii, gt_ii, ge_ii, eq_ii, eq_ss, eq_bb, ne_ii, ne_ss, ne_bb, isN_non, isN_int, isN_tup, isN_ref, isN_str, int_i, int_b, abs_i, max_ii, min_ii, slotM, idx_r, idx_t, idxO_lst, idxO_fro, atO_some, stIx_r, len_r, lenO_lst, lenO_fro, list_r, listO_lst, listO_fro, andT_one, andT_two, orT_one, orT_two, andV_one, andV_two, orV_one, orV_two, asg_eq, subG_eq, onlyNx_eq, nxo_nx, lst_eq, tup_eq, pat_nm, forS_eq, okS_nx, okS_rt, okS_bk, okS_ct, okS_exc, okE_oke, List.getElem?_cons_zero, List.getElem?_cons_succ, List.set_cons_zero, List.set_cons_succ, ofString_inj, decide_eq_true_eq, Bool.not_eq_true', decide_eq_false_iff_not, reduceIte, if_true, if_false, Int.reduceLT, Int.reduceLE, Int.reduceEq, Int.reduceNe, decide_true, decide_false, Bool.false_eq_true, String.reduceEq, Bool.not_true, Bool.not_false, idxO_dct, stIxO_dct, keyV_str, keyV_int, isKd_nil, isKd_cons, dLook_nil, dLook_cons, dct_eq, dctO_ok, prs_nil, prs_cons, get_new, set_new, dPut, dHas, List.any_cons, List.any_nil, List.all_cons, List.all_nil, List.foldl_cons, List.foldl_nil, List.map_cons, List.map_nil, List.cons_append, List.nil_append, Option.some.injEq, Sum.inr.injEq, Sum.inl.injEq, Option.isSome_some, Bool.or_false, Bool.false_or, Bool.or_true, Bool.true_or, Bool.and_true, Bool.true_and, Bool.and_self, List.length_cons, List.length_nil, sizeLine_eq, Nat.reduceAdd, Nat.reduceLeDiff, Nat.reduceLT, and_self, and_true, true_and, false_and, and_false, Bool.or_self, Bool.and_false, Bool.false_and, reduceCtorEq, in_tup, memFlat_nil, memFlat_cons, eqFlat_ss, eqFlat_ii, flatA_str, flatA_int, cpow2, comp_eq, gs_nil, gs_cons, oI_int, chain_eq, all_new, any_new, meth_eq, mApp_append, appK_lst, appendA_r, appO_lst, aug_eq, ipAdd_ii, ipSub_ii, ipAdd_ss, len_t, itOf_str, isi_non, isi_bl, isi_int, isi_str, isi_tup, isiB, String.reduceBEq, Nat.reducePow, Int.reduceToNat, Int.reducePow, Int.reduceSub, Int.reduceNeg, Int.reduceAdd, Int.reduceMul, gb, r1]
  refine okS_forV (fun i s h => ∃ c4, s = [some (.ref 0), some (.ref 2), some (.ref p), some (.str (S L)), c4, some (.ref a), some (.ref b)] ∧ h[a]? = some (.lst (rp.map tokAV)) ∧ h[b]? = some (.lst (rl.map tokAV))) ?_ (fun _ _ _ => trivial) _ _ _ _ ⟨c4, rfl, ga, gb⟩ (by simp) (by simp; unfold turnsMax; omega)
  rintro i x s h ex ⟨c4, rfl, ga, gb⟩
  have hi : i < rl.length := by
    have := (List.getElem?_eq_some_iff.mp ex).1
    simpa using this
  obtain rfl : AV.int (0 + (i : Int)) = x := by
    rw [List.getElem?_map, List.getElem?_range hi] at ex
    simpa using ex
  have hi2 : i < rp.length := by omega
  have g1 := gi rp i hi2
  have g2 := gi rl i hi
  obtain ⟨q1, q2, q3⟩ := rel.get hi2 hi
  generalize rp[i] = t1 at *
  generalize rl[i] = t2 at *
  obtain ⟨k1, x1, n1⟩ := t1
  obtain ⟨k2, x2, n2⟩ := t2
  dsimp only at q1 q2 q3
  subst q1 q2
  replace g1 : atI (rp.map tokAV) (0 + (i : Int)) = some (.tup [.str (Str.ofString k1), .str (S x1), .int n1]) := g1
  replace g2 : atI (rl.map tokAV) (0 + (i : Int)) = some (.tup [.str (Str.ofString k1), .str (S x2), .int n1]) := g2
  obtain ⟨l, es⟩ := same_pair 3 (Str.ofString k1) n1 h
  have ga' : (h ++ l)[a]? = some (.lst (rp.map tokAV)) := get_app ga
  have gb' : (h ++ l)[b]? = some (.lst (rl.map tokAV)) := get_app gb
  by_cases z : k1 = ""
  · subst z
    simp only [seqS_eq, bdS_eq, bd_eq, ifS_eq, thn_nx, thn_rt, thn_bk, thn_ct, thn_exc, thn_bad, thS_ok, thS_exc, thS_bad, thE_ok, thE_exc, thE_bad, thIf_ok, thIf_exc, thIf_bad, ret_eq, setS_eq, retS_eq, skipS_eq, alloc_eq, callM_eq, evs_nil, evs_cons, asBool_bl, tru_bl, tru_int, tru_non, tru_tup, runR_nx, runR_rt, runR_exc, runR_bad, runR_ite, thn_ite, thS_ite, thE_ite, ite_app2, ite_app2S, add_ii, sub_ii, mul_ii, fdiv_ii, mod_ii, pow_ii, shl_ii, shr_ii, band_ii, bor_ii, bxor_ii, neg_i, lt_ii, le_ii, gt_ii, ge_ii, eq_ii, eq_ss, eq_bb, ne_ii, ne_ss, ne_bb, isN_non, isN_int, isN_tup, isN_ref, isN_str, int_i, int_b, abs_i, max_ii, min_ii, slotM, idx_r, idx_t, idxO_lst, idxO_fro, atO_some, stIx_r, len_r, lenO_lst, lenO_fro, list_r, listO_lst, listO_fro, andT_one, andT_two, orT_one, orT_two, andV_one, andV_two, orV_one, orV_two, asg_eq, subG_eq, onlyNx_eq, nxo_nx, lst_eq, tup_eq, pat_nm, forS_eq, okS_nx, okS_rt, okS_bk, okS_ct, okS_exc, okE_oke, List.getElem?_cons_zero, List.getElem?_cons_succ, List.set_cons_zero, List.set_cons_succ, ofString_inj, decide_eq_true_eq, Bool.not_eq_true', decide_eq_false_iff_not, reduceIte, if_true, if_false, Int.reduceLT, Int.reduceLE, Int.reduceEq, Int.reduceNe, decide_true, decide_false, Bool.false_eq_true, String.reduceEq, Bool.not_true, Bool.not_false, idxO_dct, stIxO_dct, keyV_str, keyV_int, isKd_nil, isKd_cons, dLook_nil, dLook_cons, dct_eq, dctO_ok, prs_nil, prs_cons, get_new, set_new, dPut, dHas, List.any_cons, List.any_nil, List.all_cons, List.all_nil, List.foldl_cons, List.foldl_nil, List.map_cons, List.map_nil, List.cons_append, List.nil_append, Option.some.injEq, Sum.inr.injEq, Sum.inl.injEq, Option.isSome_some, Bool.or_false, Bool.false_or, Bool.or_true, Bool.true_or, Bool.and_true, Bool.true_and, Bool.and_self, List.length_cons, List.length_nil, sizeLine_eq, Nat.reduceAdd, Nat.reduceLeDiff, Nat.reduceLT, and_self, and_true, true_and, false_and, and_false, Bool.or_self, Bool.and_false, Bool.false_and, reduceCtorEq, in_tup, memFlat_nil, memFlat_cons, eqFlat_ss, eqFlat_ii, flatA_str, flatA_int, cpow2, comp_eq, gs_nil, gs_cons, oI_int, chain_eq, all_new, any_new, meth_eq, mApp_append, appK_lst, appendA_r, appO_lst, aug_eq, ipAdd_ii, ipSub_ii, ipAdd_ss, len_t, itOf_str, isi_non, isi_bl, isi_int, isi_str, isi_tup, isiB, String.reduceBEq, Nat.reducePow, Int.reduceToNat, Int.reducePow, Int.reduceSub, Int.reduceNeg, Int.reduceAdd, Int.reduceMul, ga, gb, g1, g2, a0, a1, a2, es, ga', gb']
    exact ⟨_, rfl, ga', gb'⟩
  · have q3 := q3 z
    subst q3
    simp only [seqS_eq, bdS_eq, bd_eq, ifS_eq, thn_nx, thn_rt, thn_bk, thn_ct, thn_exc, thn_bad, thS_ok, thS_exc, thS_bad, thE_ok, thE_exc, thE_bad, thIf_ok, thIf_exc, thIf_bad, ret_eq, setS_eq, retS_eq, skipS_eq, alloc_eq, callM_eq, evs_nil, evs_cons, asBool_bl, tru_bl, tru_int, tru_non, tru_tup, runR_nx, runR_rt, runR_exc, runR_bad, runR_ite, thn_ite, thS_ite, thE_ite, ite_app2, ite_app2S, add_ii, sub_ii, mul_ii, fdiv_ii, mod_ii, pow_ii, shl_ii, shr_ii, band_ii, bor_ii, bxor_ii, neg_i, lt_ii, le_ii, gt_ii, ge_ii, eq_ii, eq_ss, eq_bb, ne_ii, ne_ss, ne_bb, isN_non, isN_int, isN_tup, isN_ref, isN_str, int_i, int_b, abs_i, max_ii, min_ii, slotM, idx_r, idx_t, idxO_lst, idxO_fro, atO_some, stIx_r, len_r, lenO_lst, lenO_fro, list_r, listO_lst, listO_fro, andT_one, andT_two, orT_one, orT_two, andV_one, andV_two, orV_one, orV_two, asg_eq, subG_eq, onlyNx_eq, nxo_nx, lst_eq, tup_eq, pat_nm, forS_eq, okS_nx, okS_rt, okS_bk, okS_ct, okS_exc, okE_oke, List.getElem?_cons_zero, List.getElem?_cons_succ, List.set_cons_zero, List.set_cons_succ, ofString_inj, decide_eq_true_eq, Bool.not_eq_true', decide_eq_false_iff_not, reduceIte, if_true, if_false, Int.reduceLT, Int.reduceLE, Int.reduceEq, Int.reduceNe, decide_true, decide_false, Bool.false_eq_true, String.reduceEq, Bool.not_true, Bool.not_false, idxO_dct, stIxO_dct, keyV_str, keyV_int, isKd_nil, isKd_cons, dLook_nil, dLook_cons, dct_eq, dctO_ok, prs_nil, prs_cons, get_new, set_new, dPut, dHas, List.any_cons, List.any_nil, List.all_cons, List.all_nil, List.foldl_cons, List.foldl_nil, List.map_cons, List.map_nil, List.cons_append, List.nil_append, Option.some.injEq, Sum.inr.injEq, Sum.inl.injEq, Option.isSome_some, Bool.or_false, Bool.false_or, Bool.or_true, Bool.true_or, Bool.and_true, Bool.true_and, Bool.and_self, List.length_cons, List.length_nil, sizeLine_eq, Nat.reduceAdd, Nat.reduceLeDiff, Nat.reduceLT, and_self, and_true, true_and, false_and, and_false, Bool.or_self, Bool.and_false, Bool.false_and, reduceCtorEq, in_tup, memFlat_nil, memFlat_cons, eqFlat_ss, eqFlat_ii, flatA_str, flatA_int, cpow2, comp_eq, gs_nil, gs_cons, oI_int, chain_eq, all_new, any_new, meth_eq, mApp_append, appK_lst, appendA_r, appO_lst, aug_eq, ipAdd_ii, ipSub_ii, ipAdd_ss, len_t, itOf_str, isi_non, isi_bl, isi_int, isi_str, isi_tup, isiB, String.reduceBEq, Nat.reducePow, Int.reduceToNat, Int.reducePow, Int.reduceSub, Int.reduceNeg, Int.reduceAdd, Int.reduceMul, ga, gb, g1, g2, a0, a1, a2, es, ga', gb', z, same_str]
    exact ⟨_, rfl, ga', gb'⟩
theorem law_true : ∀ ns : List Int, ns.length ≤ 63 → (∀ z ∈ ns, Builtin.Int.intBits z ≤ 1048576) → ∃ h', callA T fs 6 d_law.key [.ref 0] [.fro (ns.map AV.int)] = .ok (.bl true) h' := by
  intro ns hl _
  have key : okE (callA T fs 6 "law" [.ref 0] [.fro (ns.map AV.int)]) fun v _ => v = .bl true := by
    rw [c_law]
    apply okE_runR
    refine okS.imp (D := DX fun _ _ => False) ?_ (fun _ _ x => x.elim) (fun _ _ x => x) (fun _ _ x => x) (fun _ _ x => x) (fun _ _ _ _ x => x)
    unfold s_law
    refine okS_seq _ (p1 hl) fun s h p => ?_
    refine okS_seq _ (p2 p) fun s h p => ?_
    refine okS_seq _ (p3 p) fun s h p => ?_
    refine okS_seq _ (p4 p) fun s h p => ?_
    refine okS_two (p56 p) fun s h p => ?_
    refine okS_two (p10 p) fun s h p => ?_
    refine okS_seq _ (p12 p) fun s h p => ?_
    refine okS_seq _ (p14 p) fun s h p => ?_
    unfold s_law_21
    simp only [seqS_eq, bdS_eq, bd_eq, ifS_eq, thn_nx, thn_rt, thn_bk, thn_ct, thn_exc, thn_bad, thS_ok, thS_exc, thS_bad, thE_ok, thE_exc, thE_bad, thIf_ok, thIf_exc, thIf_bad, ret_eq, setS_eq, retS_eq, skipS_eq, alloc_eq, callM_eq, evs_nil, evs_cons, asBool_bl, tru_bl, tru_int, tru_non, tru_tup, runR_nx, runR_rt, runR_exc, runR_bad, runR_ite, thn_ite, thS_ite, thE_ite, ite_app2, ite_app2S, add_ii, sub_ii, mul_ii, fdiv_ii, mod_ii, pow_ii, shl_ii, shr_ii, band_ii, bor_ii, bxor_ii, neg_i, lt_ii, le_ii, gt_ii, ge_ii, eq_ii, eq_ss, eq_bb, ne_ii, ne_ss, ne_bb, isN_non, isN_int, isN_tup, isN_ref, isN_str, int_i, int_b, abs_i, max_ii, min_ii, slotM, idx_r, idx_t, idxO_lst, idxO_fro, atO_some, stIx_r, len_r, lenO_lst, lenO_fro, list_r, listO_lst, listO_fro, andT_one, andT_two, orT_one, orT_two, andV_one, andV_two, orV_one, orV_two, asg_eq, subG_eq, onlyNx_eq, nxo_nx, lst_eq, tup_eq, pat_nm, forS_eq, okS_nx, okS_rt, okS_bk, okS_ct, okS_exc, okE_oke, List.getElem?_cons_zero, List.getElem?_cons_succ, List.set_cons_zero, List.set_cons_succ, ofString_inj, decide_eq_true_eq, Bool.not_eq_true', decide_eq_false_iff_not, reduceIte, if_true, if_false, Int.reduceLT, Int.reduceLE, Int.reduceEq, Int.reduceNe, decide_true, decide_false, Bool.false_eq_true, String.reduceEq, Bool.not_true, Bool.not_false, idxO_dct, stIxO_dct, keyV_str, keyV_int, isKd_nil, isKd_cons, dLook_nil, dLook_cons, dct_eq, dctO_ok, prs_nil, prs_cons, get_new, set_new, dPut, dHas, List.any_cons, List.any_nil, List.all_cons, List.all_nil, List.foldl_cons, List.foldl_nil, List.map_cons, List.map_nil, List.cons_append, List.nil_append, Option.some.injEq, Sum.inr.injEq, Sum.inl.injEq, Option.isSome_some, Bool.or_false, Bool.false_or, Bool.or_true, Bool.true_or, Bool.and_true, Bool.true_and, Bool.and_self, List.length_cons, List.length_nil, sizeLine_eq, Nat.reduceAdd, Nat.reduceLeDiff, Nat.reduceLT, and_self, and_true, true_and, false_and, and_false, Bool.or_self, Bool.and_false, Bool.false_and, reduceCtorEq, in_tup, memFlat_nil, memFlat_cons, eqFlat_ss, eqFlat_ii, flatA_str, flatA_int, cpow2, comp_eq, gs_nil, gs_cons, oI_int, chain_eq, all_new, any_new, meth_eq, mApp_append, appK_lst, appendA_r, appO_lst, aug_eq, ipAdd_ii, ipSub_ii, ipAdd_ss, len_t, itOf_str, isi_non, isi_bl, isi_int, isi_str, isi_tup, isiB, String.reduceBEq, Nat.reducePow, Int.reduceToNat, Int.reducePow, Int.reduceSub, Int.reduceNeg, Int.reduceAdd, Int.reduceMul]
  obtain ⟨v, h', e1, rfl⟩ := okE_iff.mp key
  exact ⟨h', e1⟩
end K14
namespace K14
open PySem PySem.Spec PyProof.Rows L2 Ev
theorem b_d_run_of : BindOk d_run_of := ⟨fun _ _ _ _ _ _ us hl => match us, hl with | [_, _, _], _ => rfl⟩
theorem b_d_symbol_at : BindOk d_symbol_at := ⟨fun _ _ _ _ _ _ us hl => match us, hl with | [_, _], _ => rfl⟩
theorem b_d_token_at : BindOk d_token_at := ⟨fun _ _ _ _ _ _ us hl => match us, hl with | [_, _], _ => rfl⟩
theorem b_d_tokens : BindOk d_tokens := ⟨fun _ _ _ _ _ _ us hl => match us, hl with | [_], _ => rfl⟩
theorem b_d_law_stream : BindOk d_law_stream := ⟨fun _ _ _ _ _ _ us hl => match us, hl with | [_], _ => rfl⟩
theorem b_d_law_draw : BindOk d_law_draw := ⟨fun _ _ _ _ _ _ us hl => match us, hl with | [_, _], _ => rfl⟩
theorem b_d_law_pick : BindOk d_law_pick := ⟨fun _ _ _ _ _ _ us hl => match us, hl with | [_, _], _ => rfl⟩
theorem b_d_law_same : BindOk d_law_same := ⟨fun _ _ _ _ _ _ us hl => match us, hl with | [_, _], _ => rfl⟩
theorem b_d_law_kind : BindOk d_law_kind := ⟨fun _ _ _ _ _ _ us hl => match us, hl with | [_], _ => rfl⟩
theorem b_d_law_run : BindOk d_law_run := ⟨fun _ _ _ _ _ _ us hl => match us, hl with | [_, _], _ => rfl⟩
theorem b_d_law_tokens : BindOk d_law_tokens := ⟨fun _ _ _ _ _ _ us hl => match us, hl with | [_], _ => rfl⟩
theorem b_d_law : BindOk d_law := ⟨fun _ _ _ _ _ _ us hl => match us, hl with | [_], _ => rfl⟩
theorem binds : ∀ d ∈ fs, BindOk d := by
  intro d hd
  simp only [fs, List.mem_cons, List.mem_nil_iff, or_false] at hd
  rcases hd with rfl | rfl | rfl | rfl | rfl | rfl | rfl | rfl | rfl | rfl | rfl | rfl
  · exact b_d_run_of
  · exact b_d_symbol_at
  · exact b_d_token_at
  · exact b_d_tokens
  · exact b_d_law_stream
  · exact b_d_law_draw
  · exact b_d_law_pick
  · exact b_d_law_same
  · exact b_d_law_kind
  · exact b_d_law_run
  · exact b_d_law_tokens
  · exact b_d_law
def loose : List PySem.Str := (["SMALL", "DIGITS", "MOST_NAME", "MOST_DIGITS", "CAPITALS", "KEYS", "SYMBOLS", "run_of", "symbol_at", "token_at", "tokens", "_law_stream", "_law_draw", "_law_pick", "_law_same", "_law_kind", "_law_run", "_law_tokens"] : List PySem.Str)
abbrev R : PySem.W.OpenRow := PySem.W.OpenLaw.row PySem.Challenge.rw_drawever_k14_tokens
abbrev hk : PySem.W.Hook := He.hookX 5 (fac T) (fs.map ddOf) [] [] (conB T)
def ob (s : PySem.W.SharedT) : He.AlX := He.obsX 5 (fac T) (fs.map ddOf) [] [] (conB T) (HandSHeadRun.getT s)
theorem ob_eq (s : PySem.W.SharedT) : ob s = hk.obs s.abs := He.obsX_eq (HandSHeadRun.getT_eq s)
theorem run (w : World) : HandSHeadRun.RunEq R (PySem.W.view R.prog [20]) hk ob 4000 loose w := by
  intro os
  kernel_rfl
end K14
open PySem PySem.W PySem.Calls PyProof.Rows
set_option maxRecDepth 100000 in
set_option maxHeartbeats 0 in
theorem PySem.Challenge.cw_drawever_k14_tokens_holds : PySem.Challenge.rw_drawever_k14_tokens.Holds := by
  w_on; o_law
  refine HandSHeadRun.head_any (r := OpenLaw.row PySem.Challenge.rw_drawever_k14_tokens) (q := view (OpenLaw.row PySem.Challenge.rw_drawever_k14_tokens).prog [20]) (H := K14.hk) (ob := K14.ob) (M := 4000) (loose := K14.loose) (d := HandSHeadRun.topDef (OpenLaw.row PySem.Challenge.rw_drawever_k14_tokens).prog 20) (kwd := []) K14.ob_eq
    (by kernel_rfl) (fun s => by kernel_rfl) K14.run (by kernel_rfl) (by kernel_rfl) (by kernel_rfl) (by rfl) (by first | assumption | decide +kernel) (by decide +kernel) ⟨rfl, rfl, rfl, rfl, rfl, by decide +kernel⟩ ?hw ?hc
  case hw => w_witness2
  case hc =>
    exact Ev.walk_ev (l := PySem.Challenge.rw_drawever_k14_tokens) (dl := K14.d_law) (k := 6) (x := "script") rfl (by kernel_rfl) ⟨rfl, by decide, by decide⟩ (by kernel_rfl) rfl (by rfl) (by rfl) (by decide +kernel) K14.binds K14.law_true
