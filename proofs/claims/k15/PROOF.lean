import PyProof.Rows.All
import Wide.All
import OpenK.AllK
import Wide.FinOn
import HandS.ForMost
import HandS.IsInst
import HandS.Deep
import HandS.TupAny
import HandS.TupMul
import HandS.Conv
import HandS.SortInts
import HandS.Strs
import HandS.SetFor
import HandS.Exc
import HandS.ExcOwn
import HandS.WordsExc
import HandS.Lambda
import HandS.EndTab
import HandS.TupLe
import HandS.SortOrd
import HandS.SortKw
import KE.KSortKeySt
import HandS.Zip
import PySem.Challenge.RW_oneair_k15_whole_without_idle_asks
set_option Elab.async false
set_option linter.all false
set_option maxRecDepth 100000
set_option maxHeartbeats 4000000
/-! Den0: values D, what they stand for in a heap (Rep), the state of the interpreter (S, Ok). -/
namespace Den
open PySem PySem.Spec L2
/-- a container's standing: unshared (may be written), shared for ever, read alone -/
inductive Ow where
  | own | fz | ro
  deriving DecidableEq
/-- a dict's keys, in order: ints and texts, or tuples of ints -/
inductive KS where
  | k (ks : List Key)
  | t (ks : List (List Int))
def kks (ks : List Int) : List Key := ks.map Sum.inl
def KS.len : KS → Nat
  | .k ks => ks.length
  | .t ks => ks.length
/-- the dict's object -/
def KS.ho : KS → List V → HO
  | .k ks, vs => .dK (ks.zip vs)
  | .t ks, vs => .dT ((ks.map kks).zip vs)
/-- a value as a tree; an instance by its number -/
inductive D where
  | non | bl (b : Bool) | int (i : Int) | str (s : List Nat)
  | tup (ds : List D)
  | lst (o : Ow) (ds : List D)
  | obj (n : Nat)
  | kt (ks : List Int)
  | dc (o : Ow) (ks : KS) (ds : List D)
structure Ob where
  cls : Nat
  fs : List (Str × D)
structure S where
  sl : List (Option D)
  os : List Ob
structure Gx where
  K : PySem.W.Frag
  cl : Nat → Addr
  T : List (Addr × Str)
/-- not shared, an object that is no table of code objects -/
def Owd (Φ H : Hp) (a : Addr) : Prop := Φ a = none ∧ ∃ u, H a = some u ∧ ∀ ps, u ≠ .tbl ps
def fzO : Ow → Ow
  | .ro => .ro
  | _ => .fz
mutual
def fz : D → D
  | .tup ds => .tup (fzL ds)
  | .lst o ds => .lst (fzO o) (fzL ds)
  | .non => .non
  | .bl b => .bl b
  | .int i => .int i
  | .str s => .str s
  | .obj n => .obj n
  | .kt ks => .kt ks
  | .dc o ks ds => .dc (fzO o) ks (fzL ds)
def fzL : List D → List D
  | [] => []
  | d :: ds => fz d :: fzL ds
end
theorem fzL_map : ∀ ds : List D, fzL ds = ds.map fz
  | [] => rfl
  | d :: ds => by rw [fzL, fzL_map ds]; rfl
mutual
theorem fz_fz : ∀ d : D, fz (fz d) = fz d
  | .tup ds => by simp only [fz, fzL_fzL ds]
  | .lst o ds => by simp only [fz, fzL_fzL ds]; cases o <;> rfl
  | .non => rfl
  | .bl _ => rfl
  | .int _ => rfl
  | .str _ => rfl
  | .obj _ => rfl
  | .kt _ => rfl
  | .dc o ks ds => by simp only [fz, fzL_fzL ds]; cases o <;> rfl
theorem fzL_fzL : ∀ ds : List D, fzL (fzL ds) = fzL ds
  | [] => rfl
  | d :: ds => by simp only [fzL, fz_fz d, fzL_fzL ds]
end
/-- a tuple of known make (it has no dict) -/
def TpK (K : PySem.W.Frag) (Φ : Hp) (a : Addr) (vs : List V) : Prop :=
  (∃ o : Obj, Φ a = some (.frz o (.tup vs)) ∧ o.dict = none) ∨
    ∃ (o : Obj) (its : Array Value) (n : Nat), K.lookup a = some o ∧ o.cls = .type "tuple" ∧ o.dict = none ∧ o.data = .seq its n ∧ its.size ≤ sizeLine ∧ Vals vs its.toList
theorem TpK.sq {K : PySem.W.Frag} {Φ : Hp} {a : Addr} {vs : List V} (h : TpK K Φ a vs) : SqT K Φ a vs := by
  rcases h with ⟨o, h, _⟩ | ⟨o, its, n, h1, h2, _, h3, h4, h5⟩
  · exact .inl (.inr ⟨o, h⟩)
  · exact .inr ⟨o, its, n, h1, h2, h3, h4, h5⟩
section
variable (g : Gx) (Φ H : Hp) (ρ : List Addr)
mutual
/-- v stands for d in H; Φ: what is shared for ever; f: the addresses that are d's own -/
def Rep : D → V → List Addr → Prop
  | .non, v, f => v = .non ∧ f = []
  | .bl b, v, f => v = .bl b ∧ f = []
  | .int i, v, f => v = .int i ∧ f = []
  | .str s, v, f => v = .str ⟨s.toArray⟩ ∧ f = []
  | .tup ds, v, f => ∃ a vs, v = .ref a ∧ TpK g.K Φ a vs ∧ RepL ds vs f
  | .lst .own ds, v, f => ∃ a vs f', v = .ref a ∧ H a = some (.lst vs) ∧ Φ a = none ∧ f = a :: f' ∧ RepL ds vs f'
  | .lst .fz ds, v, f => ∃ a vs, v = .ref a ∧ Φ a = some (.lst vs) ∧ f = [] ∧ RepL ds vs []
  | .lst .ro ds, v, f => ∃ a vs, v = .ref a ∧ SqL g.K Φ a vs ∧ f = [] ∧ RepL ds vs []
  | .obj n, v, f => ∃ a, ρ[n]? = some a ∧ v = .ref a ∧ f = []
  | .kt ks, v, f => ∃ a, v = .ref a ∧ Φ a = some (.tup ((kks ks).map kV)) ∧ f = []
  | .dc .own ks ds, v, f => ∃ a vs, v = .ref a ∧ H a = some (ks.ho vs) ∧ Φ a = none ∧ f = [a] ∧ ks.len = ds.length ∧ RepL ds vs []
  | .dc .fz ks ds, v, f => ∃ a vs, v = .ref a ∧ Φ a = some (ks.ho vs) ∧ f = [] ∧ ks.len = ds.length ∧ RepL ds vs []
  | .dc .ro ks ds, v, f => ∃ a vs, v = .ref a ∧ Φ a = some (ks.ho vs) ∧ f = [] ∧ ks.len = ds.length ∧ RepL ds vs []
def RepL : List D → List V → List Addr → Prop
  | [], vs, f => vs = [] ∧ f = []
  | d :: ds, vs, f => ∃ v vs' f1 f2, vs = v :: vs' ∧ f = f1 ++ f2 ∧ Rep d v f1 ∧ RepL ds vs' f2
end
end
/-- what is shared stands in the heap (a dict may be locked by a walk) -/
def Sub (Φ H : Hp) : Prop := ∀ a u, Φ a = some u → (∀ ps, u ≠ .tbl ps) ∧ (H a = some u ∨ ∃ o kvs, u = .dK kvs ∧ H a = some (.frz o u))
abbrev Ext (Φ Φ' : Hp) : Prop := ∀ a u, Φ a = some u → Φ' a = some u
section
variable {g : Gx} {Φ Φ' H H' : Hp} {ρ ρ' : List Addr}
theorem ext_rd (e : Ext Φ Φ') {a : Addr} {u : HO} (h : Rd Φ a u) : Rd Φ' a u := by
  rcases h with h | ⟨o, h⟩
  · exact .inl (e _ _ h)
  · exact .inr ⟨o, e _ _ h⟩
theorem ext_l (e : Ext Φ Φ') {a : Addr} {xs : List V} (h : SqL g.K Φ a xs) : SqL g.K Φ' a xs := by
  rcases h with h | h
  · exact .inl (ext_rd e h)
  · exact .inr h
theorem ext_t (e : Ext Φ Φ') {a : Addr} {xs : List V} (h : SqT g.K Φ a xs) : SqT g.K Φ' a xs := by
  rcases h with h | h
  · exact .inl (ext_rd e h)
  · exact .inr h
theorem ext_tp (e : Ext Φ Φ') {a : Addr} {xs : List V} (h : TpK g.K Φ a xs) : TpK g.K Φ' a xs := by
  rcases h with ⟨o, h, d⟩ | h
  · exact .inl ⟨o, e _ _ h, d⟩
  · exact .inr h
theorem sub_rd (e : Sub Φ H) {a : Addr} {u : HO} (h : Rd Φ a u) : Rd H a u := by
  rcases h with h | ⟨o, h⟩
  · rcases (e _ _ h).2 with q | ⟨o, kvs, q, r⟩
    · exact .inl q
    · exact .inr ⟨o, r⟩
  · rcases (e _ _ h).2 with q | ⟨o', kvs, q, r⟩
    · exact .inr ⟨o, q⟩
    · cases q
theorem sub_l (e : Sub Φ H) {a : Addr} {xs : List V} (h : SqL g.K Φ a xs) : SqL g.K H a xs := by
  rcases h with h | h
  · exact .inl (sub_rd e h)
  · exact .inr h
theorem sub_t (e : Sub Φ H) {a : Addr} {xs : List V} (h : SqT g.K Φ a xs) : SqT g.K H a xs := by
  rcases h with h | h
  · exact .inl (sub_rd e h)
  · exact .inr h
theorem sub_lst (e : Sub Φ H) {a : Addr} {xs : List V} (h : Φ a = some (.lst xs)) : H a = some (.lst xs) := by
  rcases (e _ _ h).2 with q | ⟨o, kvs, q, r⟩
  · exact q
  · cases q
theorem sub_tp (e : Sub Φ H) {a : Addr} {xs : List V} (h : TpK g.K Φ a xs) : TpK g.K H a xs := by
  rcases h with ⟨o, h, d⟩ | h
  · rcases (e _ _ h).2 with q | ⟨o', kvs, q, r⟩
    · exact .inl ⟨o, q, d⟩
    · cases q
  · exact .inr h
theorem sub_none (e : Sub Φ H) {a : Addr} (h : H a = none) : Φ a = none := by
  cases q : Φ a with
  | none => rfl
  | some u =>
    rcases (e _ _ q).2 with z | ⟨o, kvs, _, z⟩ <;> (rw [h] at z; cases z)
theorem pre_get {a : Addr} {n : Nat} (p : ρ <+: ρ') (h : ρ[n]? = some a) : ρ'[n]? = some a := by
  obtain ⟨t, rfl⟩ := p
  have hn : n < ρ.length := (List.getElem?_eq_some_iff.mp h).1
  rw [List.getElem?_append_left hn]; exact h
mutual
theorem Rep.mono (e : Ext Φ Φ') (p : ρ <+: ρ') : ∀ (d : D) (v : V) (f : List Addr), (∀ a ∈ f, H' a = H a ∧ Φ' a = none) → Rep g Φ H ρ d v f → Rep g Φ' H' ρ' d v f
  | .non, _, _, _, h => by simpa only [Rep] using h
  | .bl b, _, _, _, h => by simpa only [Rep] using h
  | .int i, _, _, _, h => by simpa only [Rep] using h
  | .str s, _, _, _, h => by simpa only [Rep] using h
  | .tup ds, _, f, k, h => by
    simp only [Rep] at h ⊢
    obtain ⟨a, vs, ev, t, r⟩ := h
    exact ⟨a, vs, ev, ext_tp e t, RepL.mono e p ds vs f k r⟩
  | .lst .own ds, _, f, k, h => by
    simp only [Rep] at h ⊢
    obtain ⟨a, vs, f', ev, t, n, rfl, r⟩ := h
    have ka := k a List.mem_cons_self
    exact ⟨a, vs, f', ev, ka.1.trans t, ka.2, rfl, RepL.mono e p ds vs f' (fun b hb => k b (List.mem_cons_of_mem _ hb)) r⟩
  | .lst .fz ds, _, f, k, h => by
    simp only [Rep] at h ⊢
    obtain ⟨a, vs, ev, t, n, r⟩ := h
    exact ⟨a, vs, ev, e _ _ t, n, RepL.mono e p ds vs [] (fun b hb => by cases hb) r⟩
  | .lst .ro ds, _, f, k, h => by
    simp only [Rep] at h ⊢
    obtain ⟨a, vs, ev, t, n, r⟩ := h
    exact ⟨a, vs, ev, ext_l e t, n, RepL.mono e p ds vs [] (fun b hb => by cases hb) r⟩
  | .obj n, _, _, _, h => by
    simp only [Rep] at h ⊢
    obtain ⟨a, q, r⟩ := h
    exact ⟨a, pre_get p q, r⟩
  | .kt ks, _, _, _, h => by
    simp only [Rep] at h ⊢
    obtain ⟨a, q, r, z⟩ := h
    exact ⟨a, q, e _ _ r, z⟩
  | .dc .own ks ds, _, f, k, h => by
    simp only [Rep] at h ⊢
    obtain ⟨a, vs, ev, t, n, rfl, l, r⟩ := h
    have ka := k a List.mem_cons_self
    exact ⟨a, vs, ev, ka.1.trans t, ka.2, rfl, l, RepL.mono e p ds vs [] (fun b hb => by cases hb) r⟩
  | .dc .fz ks ds, _, f, k, h => by
    simp only [Rep] at h ⊢
    obtain ⟨a, vs, ev, t, n, l, r⟩ := h
    exact ⟨a, vs, ev, e _ _ t, n, l, RepL.mono e p ds vs [] (fun b hb => by cases hb) r⟩
  | .dc .ro ks ds, _, f, k, h => by
    simp only [Rep] at h ⊢
    obtain ⟨a, vs, ev, t, n, l, r⟩ := h
    exact ⟨a, vs, ev, e _ _ t, n, l, RepL.mono e p ds vs [] (fun b hb => by cases hb) r⟩
theorem RepL.mono (e : Ext Φ Φ') (p : ρ <+: ρ') : ∀ (ds : List D) (vs : List V) (f : List Addr), (∀ a ∈ f, H' a = H a ∧ Φ' a = none) → RepL g Φ H ρ ds vs f → RepL g Φ' H' ρ' ds vs f
  | [], _, _, _, h => by simpa only [RepL] using h
  | d :: ds, _, f, k, h => by
    simp only [RepL] at h ⊢
    obtain ⟨v, vs', f1, f2, e1, rfl, r1, r2⟩ := h
    exact ⟨v, vs', f1, f2, e1, rfl, Rep.mono e p d v f1 (fun a ha => k a (List.mem_append_left _ ha)) r1, RepL.mono e p ds vs' f2 (fun a ha => k a (List.mem_append_right _ ha)) r2⟩
end
mutual
theorem Rep.at : ∀ (d : D) (v : V) (f : List Addr), Rep g Φ H ρ d v f → ∀ a ∈ f, Owd Φ H a
  | .non, _, _, h => by simp only [Rep] at h; rw [h.2]; exact fun a q => by cases q
  | .bl b, _, _, h => by simp only [Rep] at h; rw [h.2]; exact fun a q => by cases q
  | .int i, _, _, h => by simp only [Rep] at h; rw [h.2]; exact fun a q => by cases q
  | .str s, _, _, h => by simp only [Rep] at h; rw [h.2]; exact fun a q => by cases q
  | .tup ds, _, f, h => by
    simp only [Rep] at h
    obtain ⟨a, vs, ev, t, r⟩ := h
    exact RepL.at ds vs f r
  | .lst .own ds, _, f, h => by
    simp only [Rep] at h
    obtain ⟨a, vs, f', ev, t, n, rfl, r⟩ := h
    intro b hb
    rcases List.mem_cons.mp hb with rfl | hb
    · exact ⟨n, _, t, fun _ z => by cases z⟩
    · exact RepL.at ds vs f' r b hb
  | .lst .fz ds, _, f, h => by
    simp only [Rep] at h
    obtain ⟨a, vs, ev, t, rfl, r⟩ := h
    exact fun a q => by cases q
  | .lst .ro ds, _, f, h => by
    simp only [Rep] at h
    obtain ⟨a, vs, ev, t, rfl, r⟩ := h
    exact fun a q => by cases q
  | .obj n, _, _, h => by
    simp only [Rep] at h
    obtain ⟨a, q, _, rfl⟩ := h
    exact fun a q => by cases q
  | .kt ks, _, _, h => by
    simp only [Rep] at h
    obtain ⟨a, q, _, rfl⟩ := h
    exact fun a q => by cases q
  | .dc .own ks ds, _, f, h => by
    simp only [Rep] at h
    obtain ⟨a, vs, ev, t, n, rfl, l, r⟩ := h
    intro b hb
    rw [List.mem_singleton.mp hb]
    exact ⟨n, _, t, fun _ z => by cases ks <;> cases z⟩
  | .dc .fz ks ds, _, f, h => by
    simp only [Rep] at h
    obtain ⟨a, vs, ev, t, rfl, l, r⟩ := h
    exact fun a q => by cases q
  | .dc .ro ks ds, _, f, h => by
    simp only [Rep] at h
    obtain ⟨a, vs, ev, t, rfl, l, r⟩ := h
    exact fun a q => by cases q
theorem RepL.at : ∀ (ds : List D) (vs : List V) (f : List Addr), RepL g Φ H ρ ds vs f → ∀ a ∈ f, Owd Φ H a
  | [], _, _, h => by simp only [RepL] at h; rw [h.2]; exact fun a q => by cases q
  | d :: ds, _, f, h => by
    simp only [RepL] at h
    obtain ⟨v, vs', f1, f2, e1, rfl, r1, r2⟩ := h
    intro a ha
    rcases List.mem_append.mp ha with ha | ha
    · exact Rep.at d v f1 r1 a ha
    · exact RepL.at ds vs' f2 r2 a ha
end
open Classical in
/-- the addresses f are shared from now on -/
noncomputable def frzP (Φ H : Hp) (f : List Addr) : Hp := fun a => if a ∈ f then H a else Φ a
theorem frzP_in {f : List Addr} {a : Addr} (h : a ∈ f) : frzP Φ H f a = H a := if_pos h
theorem frzP_out {f : List Addr} {a : Addr} (h : a ∉ f) : frzP Φ H f a = Φ a := if_neg h
theorem frzP_sub {f : List Addr} (e : Sub Φ H) (nt : ∀ a ∈ f, ∀ ps, H a ≠ some (.tbl ps)) : Sub (frzP Φ H f) H := fun a u h => by
  by_cases q : a ∈ f
  · rw [frzP_in q] at h; exact ⟨fun ps z => nt a q ps (by rw [h, z]), .inl h⟩
  · rw [frzP_out q] at h; exact e a u h
theorem frzP_ext {f : List Addr} (n : ∀ a ∈ f, Φ a = none) : Ext Φ (frzP Φ H f) := fun a u h => by
  by_cases q : a ∈ f
  · rw [n a q] at h; cases h
  · rw [frzP_out q]; exact h
mutual
theorem Rep.fz (e : Ext Φ Φ') : ∀ (d : D) (v : V) (f : List Addr), (∀ a ∈ f, Φ' a = H a) → Rep g Φ H ρ d v f → Rep g Φ' H ρ (fz d) v []
  | .non, _, _, _, h => by simp only [Rep, Den.fz] at h ⊢; exact ⟨h.1, trivial⟩
  | .bl b, _, _, _, h => by simp only [Rep, Den.fz] at h ⊢; exact ⟨h.1, trivial⟩
  | .int i, _, _, _, h => by simp only [Rep, Den.fz] at h ⊢; exact ⟨h.1, trivial⟩
  | .str s, _, _, _, h => by simp only [Rep, Den.fz] at h ⊢; exact ⟨h.1, trivial⟩
  | .tup ds, _, f, k, h => by
    simp only [Rep, Den.fz] at h ⊢
    obtain ⟨a, vs, ev, t, r⟩ := h
    exact ⟨a, vs, ev, ext_tp e t, RepL.fz e ds vs f k r⟩
  | .lst .own ds, _, f, k, h => by
    simp only [Rep, Den.fz, fzO] at h ⊢
    obtain ⟨a, vs, f', ev, t, n, rfl, r⟩ := h
    exact ⟨a, vs, ev, (k a List.mem_cons_self).trans t, trivial, RepL.fz e ds vs f' (fun b hb => k b (List.mem_cons_of_mem _ hb)) r⟩
  | .lst .fz ds, _, f, k, h => by
    simp only [Rep, Den.fz, fzO] at h ⊢
    obtain ⟨a, vs, ev, t, n, r⟩ := h
    exact ⟨a, vs, ev, e _ _ t, trivial, RepL.fz e ds vs [] (fun b hb => by cases hb) r⟩
  | .lst .ro ds, _, f, k, h => by
    simp only [Rep, Den.fz, fzO] at h ⊢
    obtain ⟨a, vs, ev, t, n, r⟩ := h
    exact ⟨a, vs, ev, ext_l e t, trivial, RepL.fz e ds vs [] (fun b hb => by cases hb) r⟩
  | .obj n, _, _, _, h => by
    simp only [Rep, Den.fz] at h ⊢
    obtain ⟨a, q, r, _⟩ := h
    exact ⟨a, q, r, trivial⟩
  | .kt ks, _, _, _, h => by
    simp only [Rep, Den.fz] at h ⊢
    obtain ⟨a, q, r, _⟩ := h
    exact ⟨a, q, e _ _ r, trivial⟩
  | .dc .own ks ds, _, f, k, h => by
    simp only [Rep, Den.fz, fzO] at h ⊢
    obtain ⟨a, vs, ev, t, n, rfl, l, r⟩ := h
    exact ⟨a, vs, ev, (k a List.mem_cons_self).trans t, trivial, by rw [l, fzL_map, List.length_map], RepL.fz e ds vs [] (fun b hb => by cases hb) r⟩
  | .dc .fz ks ds, _, f, k, h => by
    simp only [Rep, Den.fz, fzO] at h ⊢
    obtain ⟨a, vs, ev, t, n, l, r⟩ := h
    exact ⟨a, vs, ev, e _ _ t, trivial, by rw [l, fzL_map, List.length_map], RepL.fz e ds vs [] (fun b hb => by cases hb) r⟩
  | .dc .ro ks ds, _, f, k, h => by
    simp only [Rep, Den.fz, fzO] at h ⊢
    obtain ⟨a, vs, ev, t, n, l, r⟩ := h
    exact ⟨a, vs, ev, e _ _ t, trivial, by rw [l, fzL_map, List.length_map], RepL.fz e ds vs [] (fun b hb => by cases hb) r⟩
theorem RepL.fz (e : Ext Φ Φ') : ∀ (ds : List D) (vs : List V) (f : List Addr), (∀ a ∈ f, Φ' a = H a) → RepL g Φ H ρ ds vs f → RepL g Φ' H ρ (fzL ds) vs []
  | [], _, _, _, h => by simp only [RepL, Den.fzL] at h ⊢; exact ⟨h.1, trivial⟩
  | d :: ds, _, f, k, h => by
    simp only [RepL, Den.fzL] at h ⊢
    obtain ⟨v, vs', f1, f2, e1, rfl, r1, r2⟩ := h
    exact ⟨v, vs', [], [], e1, rfl, Rep.fz e d v f1 (fun a ha => k a (List.mem_append_left _ ha)) r1, RepL.fz e ds vs' f2 (fun a ha => k a (List.mem_append_right _ ha)) r2⟩
end
theorem RepL.len : ∀ (ds : List D) (vs : List V) (f : List Addr), RepL g Φ H ρ ds vs f → vs.length = ds.length
  | [], _, _, h => by simp only [RepL] at h; rw [h.1]; rfl
  | d :: ds, _, _, h => by
    simp only [RepL] at h
    obtain ⟨v, vs', f1, f2, rfl, rfl, r1, r2⟩ := h
    rw [List.length_cons, List.length_cons, RepL.len ds vs' f2 r2]
/-- shared items, by place -/
theorem RepL.get : ∀ (ds : List D) (vs : List V), RepL g Φ H ρ ds vs [] → ∀ (i : Nat) (d : D), ds[i]? = some d → ∃ v, vs[i]? = some v ∧ Rep g Φ H ρ d v []
  | [], _, _, i, d, h => by simp at h
  | x :: ds, _, r, i, d, h => by
    simp only [RepL] at r
    obtain ⟨v, vs', f1, f2, rfl, e, r1, r2⟩ := r
    have e' := List.append_eq_nil_iff.mp e.symm
    obtain ⟨rfl, rfl⟩ := e'
    cases i with
    | zero => simp at h; subst h; exact ⟨v, rfl, r1⟩
    | succ i => exact RepL.get ds vs' r2 i d (by simpa using h)
theorem RepL.of_get : ∀ (ds : List D) (vs : List V), vs.length = ds.length → (∀ (i : Nat) (d : D) (v : V), ds[i]? = some d → vs[i]? = some v → Rep g Φ H ρ d v []) → RepL g Φ H ρ ds vs []
  | [], [], _, _ => by simp only [RepL]; exact ⟨trivial, trivial⟩
  | [], _ :: _, h, _ => by simp at h
  | _ :: _, [], h, _ => by simp at h
  | d :: ds, v :: vs, h, k => by
    simp only [RepL]
    exact ⟨v, vs, [], [], rfl, rfl, k 0 d v rfl rfl, RepL.of_get ds vs (by simpa using h) fun i d v h1 h2 => k (i + 1) d v (by simpa using h1) (by simpa using h2)⟩
theorem RepL.app : ∀ (ds es : List D) (vs ws : List V) (f f' : List Addr), RepL g Φ H ρ ds vs f → RepL g Φ H ρ es ws f' → RepL g Φ H ρ (ds ++ es) (vs ++ ws) (f ++ f')
  | [], _, _, _, _, _, h, k => by simp only [RepL] at h; obtain ⟨rfl, rfl⟩ := h; exact k
  | d :: ds, es, vs, ws, f, f', h, k => by
    simp only [RepL] at h
    obtain ⟨v, vs', f1, f2, rfl, rfl, r1, r2⟩ := h
    simp only [List.cons_append, RepL]
    exact ⟨v, vs' ++ ws, f1, f2 ++ f', rfl, List.append_assoc _ _ _, r1, RepL.app ds es vs' ws f2 f' r2 k⟩
end
end Den
/-! Den1: the state's standing (Ok, Stp, Grow). -/
namespace Den
open PySem PySem.Spec L2
abbrev Ix := Sum Nat Nat
/-- an instance stands at a -/
def RepO (g : Gx) (Φ H : Hp) (ρ : List Addr) (a : Addr) (o : Ob) (f : List Addr) : Prop :=
  ∃ dx vs f', H a = some (.ins (g.cl o.cls) dx ((o.fs.map (·.1)).zip vs)) ∧ H dx = some (.own a) ∧ Φ a = none ∧ Φ dx = none ∧ dx ≠ a ∧ f = a :: dx :: f' ∧ RepL g Φ H ρ (o.fs.map (·.2)) vs f'
/-- from (Φ, H, ρ) to (Φ', H', ρ'), the frame F untouched -/
structure Stp (Φ H : Hp) (ρ : List Addr) (F : Addr → Prop) (Φ' H' : Hp) (ρ' : List Addr) : Prop where
  ext : Ext Φ Φ'
  pre : ρ <+: ρ'
  frm : ∀ a, F a → H' a = H a ∧ Φ' a = none
structure Ok (g : Gx) (Φ H : Hp) (ρ : List Addr) (s : S) (σ : L2.St) (fs : Ix → List Addr) (F : Addr → Prop) : Prop where
  sub : Sub Φ H
  tab : LamX.Tabs g.T H
  fr : ∀ a, F a → Owd Φ H a
  len : s.sl.length = σ.length
  slot : ∀ (i : Nat) (d : D), s.sl[i]? = some (some d) → ∃ v, σ[i]? = some (some v) ∧ Rep g Φ H ρ d v (fs (.inl i))
  slot0 : ∀ i : Nat, (∀ d, s.sl[i]? ≠ some (some d)) → fs (.inl i) = []
  obl : ρ.length = s.os.length
  obj : ∀ (n : Nat) (o : Ob), s.os[n]? = some o → ∃ a, ρ[n]? = some a ∧ RepO g Φ H ρ a o (fs (.inr n))
  obj0 : ∀ n, s.os.length ≤ n → fs (.inr n) = []
  nd : ∀ x, (fs x).Nodup
  sep : ∀ x y a, a ∈ fs x → a ∈ fs y → x = y
  out : ∀ x a, a ∈ fs x → ¬ F a
def fadd (f : List Addr) (F : Addr → Prop) : Addr → Prop := fun a => a ∈ f ∨ F a
/-- a value in hand, its own addresses apart from the frame -/
structure Vl (g : Gx) (Φ H : Hp) (ρ : List Addr) (d : D) (v : V) (f : List Addr) (F : Addr → Prop) : Prop where
  rep : Rep g Φ H ρ d v f
  nd : f.Nodup
  out : ∀ a ∈ f, ¬ F a
/-- new objects alone -/
structure Grow (g : Gx) (Φ H Φ' H' : Hp) : Prop where
  keep : ∀ a u, H a = some u → (∀ ps, u ≠ .tbl ps) → H' a = some u
  tab : LamX.Tabs g.T H → LamX.Tabs g.T H'
  ext : Ext Φ Φ'
  sub : Sub Φ' H'
  new : ∀ a, Owd Φ H a → Φ' a = none
section
variable {g : Gx} {Φ Φ' Φ2 H H' H2 : Hp} {ρ ρ' ρ2 : List Addr} {F F' : Addr → Prop} {s : S} {σ : L2.St} {fs : Ix → List Addr}
theorem Stp.refl (h : ∀ a, F a → Φ a = none) : Stp Φ H ρ F Φ H ρ := ⟨fun _ _ h => h, List.prefix_refl ρ, fun a ha => ⟨rfl, h a ha⟩⟩
theorem Stp.trans (a : Stp Φ H ρ F Φ' H' ρ') (b : Stp Φ' H' ρ' F' Φ2 H2 ρ2) (h : ∀ a, F a → F' a) : Stp Φ H ρ F Φ2 H2 ρ2 :=
  ⟨fun x u q => b.ext x u (a.ext x u q), List.IsPrefix.trans a.pre b.pre, fun x hx => ⟨(b.frm x (h x hx)).1.trans (a.frm x hx).1, (b.frm x (h x hx)).2⟩⟩
theorem Stp.less (a : Stp Φ H ρ F' Φ' H' ρ') (h : ∀ a, F a → F' a) : Stp Φ H ρ F Φ' H' ρ' := ⟨a.ext, a.pre, fun x hx => a.frm x (h x hx)⟩
theorem Rep.stp {d : D} {v : V} {f : List Addr} (a : Stp Φ H ρ F Φ' H' ρ') (h : ∀ a ∈ f, F a) (r : Rep g Φ H ρ d v f) : Rep g Φ' H' ρ' d v f :=
  Rep.mono a.ext a.pre d v f (fun b hb => a.frm b (h b hb)) r
theorem RepL.stp {d : List D} {v : List V} {f : List Addr} (a : Stp Φ H ρ F Φ' H' ρ') (h : ∀ a ∈ f, F a) (r : RepL g Φ H ρ d v f) : RepL g Φ' H' ρ' d v f :=
  RepL.mono a.ext a.pre d v f (fun b hb => a.frm b (h b hb)) r
theorem Vl.stp {d : D} {v : V} {f : List Addr} (a : Stp Φ H ρ (fadd f F) Φ' H' ρ') (r : Vl g Φ H ρ d v f F) : Vl g Φ' H' ρ' d v f F :=
  ⟨r.rep.stp a fun b hb => .inl hb, r.nd, r.out⟩
theorem Grow.refl (h : Sub Φ H) : Grow g Φ H Φ H := ⟨fun _ _ h _ => h, fun h => h, fun _ _ h => h, h, fun _ h => h.1⟩
theorem Grow.trans (a : Grow g Φ H Φ' H') (b : Grow g Φ' H' Φ2 H2) : Grow g Φ H Φ2 H2 :=
  ⟨fun x u q n => b.keep x u (a.keep x u q n) n, fun h => b.tab (a.tab h), fun x u q => b.ext x u (a.ext x u q), b.sub, fun x o => by
    have n1 := a.new x o
    obtain ⟨n, u, q, nt⟩ := o
    exact b.new x ⟨n1, u, a.keep x u q nt, nt⟩⟩
/-- a new object, unshared -/
theorem Grow.own {p : Addr} {o : HO} (h : Sub Φ H) (n : H p = none) : Grow g Φ H Φ (upd H p o) :=
  ⟨fun a u q _ => by rw [upd_ne (ne_of_none q n)]; exact q, fun h => h.ext fun b u q => by rw [upd_ne (ne_of_none q n)]; exact q, fun _ _ h => h, fun a u q => by
    have hn : a ≠ p := ne_of_none q (sub_none h n)
    refine ⟨(h a u q).1, ?_⟩
    rcases (h a u q).2 with z | ⟨o', kvs, z, y⟩
    · exact .inl (by rw [upd_ne hn]; exact z)
    · exact .inr ⟨o', kvs, z, by rw [upd_ne hn]; exact y⟩, fun _ h => h.1⟩
/-- a new object, shared -/
theorem Grow.shared {p : Addr} {o : HO} (h : Sub Φ H) (n : H p = none) (nt : ∀ ps, o ≠ .tbl ps) : Grow g Φ H (upd Φ p o) (upd H p o) :=
  ⟨fun a u q _ => by rw [upd_ne (ne_of_none q n)]; exact q, fun h => h.ext fun b u q => by rw [upd_ne (ne_of_none q n)]; exact q, fun a u q => by rw [upd_ne (ne_of_none q (sub_none h n))]; exact q, fun a u q => by
    by_cases e : a = p
    · subst e; rw [upd_same] at q ⊢; exact ⟨fun ps z => nt ps (by cases q; exact z), .inl q⟩
    · rw [upd_ne e] at q
      refine ⟨(h a u q).1, ?_⟩
      rcases (h a u q).2 with z | ⟨o', kvs, z, y⟩
      · exact .inl (by rw [upd_ne e]; exact z)
      · exact .inr ⟨o', kvs, z, by rw [upd_ne e]; exact y⟩, fun a m => by
    obtain ⟨m1, u, q, _⟩ := m
    rw [upd_ne (ne_of_none q n)]; exact m1⟩
/-- addresses put under sharing -/
theorem frz_stp {f : List Addr} (n : ∀ a ∈ f, Φ a = none) (o : ∀ a ∈ f, ¬ F a) (h : ∀ a, F a → Φ a = none) : Stp Φ H ρ F (frzP Φ H f) H ρ :=
  ⟨frzP_ext n, List.prefix_refl ρ, fun a ha => ⟨rfl, by rw [frzP_out fun z => o a z ha]; exact h a ha⟩⟩
/-- the same slots and instances over another heap -/
theorem Ok.over (k : Ok g Φ H ρ s σ fs F) (e : Ext Φ Φ') (sb : Sub Φ' H') (tb : LamX.Tabs g.T H') (h : ∀ a, (F a ∨ ∃ x, a ∈ fs x) → H' a = H a ∧ Φ' a = none) : Ok g Φ' H' ρ s σ fs F where
  sub := sb
  tab := tb
  fr := fun a ha => ⟨(h a (.inl ha)).2, by rw [(h a (.inl ha)).1]; exact (k.fr a ha).2⟩
  len := k.len
  slot := fun i d q => by
    obtain ⟨v, e1, r⟩ := k.slot i d q
    exact ⟨v, e1, Rep.mono e (List.prefix_refl ρ) d v _ (fun a ha => h a (.inr ⟨_, ha⟩)) r⟩
  slot0 := k.slot0
  obl := k.obl
  obj := fun n o q => by
    obtain ⟨a, e1, dx, vs, f', h1, h2, p1, p2, ne, ef, r⟩ := k.obj n o q
    have m : ∀ b ∈ fs (.inr n), H' b = H b ∧ Φ' b = none := fun b hb => h b (.inr ⟨_, hb⟩)
    rw [ef] at m
    have ma := m a List.mem_cons_self
    have md := m dx (List.mem_cons_of_mem _ List.mem_cons_self)
    exact ⟨a, e1, dx, vs, f', ma.1.trans h1, md.1.trans h2, ma.2, md.2, ne, ef, RepL.mono e (List.prefix_refl ρ) _ _ _ (fun b hb => m b (List.mem_cons_of_mem _ (List.mem_cons_of_mem _ hb))) r⟩
  obj0 := k.obj0
  nd := k.nd
  sep := k.sep
  out := k.out
theorem Ok.at (k : Ok g Φ H ρ s σ fs F) (x : Ix) (a : Addr) (ha : a ∈ fs x) : Owd Φ H a := by
  cases x with
  | inl i =>
    by_cases q : ∃ d, s.sl[i]? = some (some d)
    · obtain ⟨d, q⟩ := q
      obtain ⟨v, _, r⟩ := k.slot i d q
      exact Rep.at d v _ r a ha
    · rw [k.slot0 i fun d e => q ⟨d, e⟩] at ha; cases ha
  | inr n =>
    by_cases q : n < s.os.length
    · obtain ⟨a', e1, dx, vs, f', h1, h2, p1, p2, ne, ef, r⟩ := k.obj n s.os[n] (List.getElem?_eq_getElem q)
      rw [ef] at ha
      rcases List.mem_cons.mp ha with rfl | ha
      · exact ⟨p1, _, h1, fun _ z => by cases z⟩
      rcases List.mem_cons.mp ha with rfl | ha
      · exact ⟨p2, _, h2, fun _ z => by cases z⟩
      · exact RepL.at _ _ _ r a ha
    · rw [k.obj0 n (by omega)] at ha; cases ha
theorem Ok.nF (k : Ok g Φ H ρ s σ fs F) : ∀ a, F a → Φ a = none := fun a ha => (k.fr a ha).1
theorem Ok.grow (k : Ok g Φ H ρ s σ fs F) (w : Grow g Φ H Φ' H') : Ok g Φ' H' ρ s σ fs F :=
  k.over w.ext w.sub (w.tab k.tab) fun a ha => by
    have h : Owd Φ H a := by
      rcases ha with ha | ⟨x, ha⟩
      · exact k.fr a ha
      · exact k.at x a ha
    have h1 := w.new a h
    obtain ⟨n, u, q, nt⟩ := h
    exact ⟨by rw [q]; exact w.keep a u q nt, h1⟩
theorem Ok.gstp (k : Ok g Φ H ρ s σ fs F) (w : Grow g Φ H Φ' H') : Stp Φ H ρ F Φ' H' ρ :=
  ⟨w.ext, List.prefix_refl ρ, fun a ha => by
    have h := k.fr a ha
    have h1 := w.new a h
    obtain ⟨n, u, q, nt⟩ := h
    exact ⟨by rw [q]; exact w.keep a u q nt, h1⟩⟩
/-- a greater frame -/
theorem Ok.wide (k : Ok g Φ H ρ s σ fs F) {f : List Addr} (h1 : ∀ a ∈ f, Owd Φ H a) (h2 : ∀ a ∈ f, ∀ x, a ∉ fs x) : Ok g Φ H ρ s σ fs (fadd f F) :=
  ⟨k.sub, k.tab, fun a ha => ha.elim (h1 a) (k.fr a), k.len, k.slot, k.slot0, k.obl, k.obj, k.obj0, k.nd, k.sep, fun x a ha hF => hF.elim (fun z => h2 a z x ha) (k.out x a ha)⟩
theorem Ok.less (k : Ok g Φ H ρ s σ fs F') (h : ∀ a, F a → F' a) : Ok g Φ H ρ s σ fs F :=
  ⟨k.sub, k.tab, fun a ha => k.fr a (h a ha), k.len, k.slot, k.slot0, k.obl, k.obj, k.obj0, k.nd, k.sep, fun x a ha hF => k.out x a ha (h a hF)⟩
theorem Ok.drop {f : List Addr} (k : Ok g Φ H ρ s σ fs (fadd f F)) : Ok g Φ H ρ s σ fs F := k.less fun _ h => .inr h
/-- the value in hand is shared from now on -/
theorem Ok.frz {d : D} {v : V} {f : List Addr} (k : Ok g Φ H ρ s σ fs (fadd f F)) (r : Vl g Φ H ρ d v f F) :
    Ok g (frzP Φ H f) H ρ s σ fs F ∧ Stp Φ H ρ F (frzP Φ H f) H ρ ∧ Rep g (frzP Φ H f) H ρ (Den.fz d) v [] := by
  have n : ∀ a ∈ f, Φ a = none := fun a ha => (k.fr a (.inl ha)).1
  refine ⟨?_, frz_stp n r.out k.drop.nF, Rep.fz (frzP_ext n) d v f (fun a ha => frzP_in ha) r.rep⟩
  refine k.drop.over (frzP_ext n) (frzP_sub k.sub fun a ha ps z => by
    obtain ⟨_, u, e, nt⟩ := k.fr a (.inl ha)
    rw [z] at e; cases e; exact nt ps rfl) k.tab fun a ha => ⟨rfl, ?_⟩
  rcases ha with ha | ⟨x, ha⟩
  · rw [frzP_out fun z => r.out a z ha]; exact (k.drop.fr a ha).1
  · rw [frzP_out fun z => k.out x a ha (.inl z)]; exact (k.at x a ha).1
theorem Owd.ex {a : Addr} (h : Owd Φ H a) : ∃ u, H a = some u := let ⟨_, u, e, _⟩ := h; ⟨u, e⟩
theorem Owd.nt {a : Addr} (h : Owd Φ H a) : ∀ ps, H a ≠ Option.some (HO.tbl ps) := fun ps z => by
  obtain ⟨_, u, e, nt⟩ := h
  rw [z] at e; cases e; exact nt ps rfl
/-- the slot i takes a value -/
def updI (fs : Ix → List Addr) (x : Ix) (f : List Addr) : Ix → List Addr := fun y => if y = x then f else fs y
theorem updI_same {x : Ix} {f : List Addr} : updI fs x f x = f := if_pos rfl
theorem updI_ne {x y : Ix} {f : List Addr} (h : y ≠ x) : updI fs x f y = fs y := if_neg h
theorem Ok.set {d : D} {v : V} {f : List Addr} {i : Nat} (k : Ok g Φ H ρ s σ fs (fadd f F)) (r : Vl g Φ H ρ d v f F) (hi : i < s.sl.length) :
    Ok g Φ H ρ { s with sl := s.sl.set i (some d) } (σ.set i (some v)) (updI fs (.inl i) f) F where
  sub := k.sub
  tab := k.tab
  fr := k.drop.fr
  len := by simp [k.len]
  slot := fun j e q => by
    by_cases h : j = i
    · subst h
      rw [List.getElem?_set_self hi] at q
      cases q
      exact ⟨v, by rw [List.getElem?_set_self (by rw [← k.len]; exact hi)], by rw [updI_same]; exact r.rep⟩
    · rw [List.getElem?_set_ne (Ne.symm h)] at q
      obtain ⟨w, e1, r1⟩ := k.slot j e q
      exact ⟨w, by rw [List.getElem?_set_ne (Ne.symm h)]; exact e1, by rw [updI_ne (fun z => h (Sum.inl.inj z))]; exact r1⟩
  slot0 := fun j q => by
    by_cases h : j = i
    · subst h
      exact absurd (List.getElem?_set_self hi) (q d)
    · rw [updI_ne (fun z => h (Sum.inl.inj z))]
      exact k.slot0 j fun e z => q e (by rw [List.getElem?_set_ne (Ne.symm h)]; exact z)
  obl := k.obl
  obj := fun n o q => by rw [updI_ne (fun z => by cases z)]; exact k.obj n o q
  obj0 := fun n q => by rw [updI_ne (fun z => by cases z)]; exact k.obj0 n q
  nd := fun x => by
    by_cases h : x = .inl i
    · subst h; rw [updI_same]; exact r.nd
    · rw [updI_ne h]; exact k.nd x
  sep := fun x y a hx hy => by
    by_cases h : x = .inl i
    · subst h
      rw [updI_same] at hx
      by_cases h' : y = .inl i
      · exact h'.symm
      · rw [updI_ne h'] at hy
        exact absurd (.inl hx) (k.out y a hy)
    · rw [updI_ne h] at hx
      by_cases h' : y = .inl i
      · subst h'
        rw [updI_same] at hy
        exact absurd (.inl hy) (k.out x a hx)
      · rw [updI_ne h'] at hy
        exact k.sep x y a hx hy
  out := fun x a hx => by
    by_cases h : x = .inl i
    · subst h; rw [updI_same] at hx; exact r.out a hx
    · rw [updI_ne h] at hx; exact fun z => k.out x a hx (.inr z)
/-- the slot i's value is taken out; σ as it is -/
theorem Ok.take {d : D} {i : Nat} (k : Ok g Φ H ρ s σ fs F) (q : s.sl[i]? = some (some d)) :
    ∃ v, σ[i]? = some (some v) ∧ Vl g Φ H ρ d v (fs (.inl i)) F ∧ Ok g Φ H ρ { s with sl := s.sl.set i none } σ (updI fs (.inl i) []) (fadd (fs (.inl i)) F) := by
  obtain ⟨v, e1, r⟩ := k.slot i d q
  have hi : i < s.sl.length := (List.getElem?_eq_some_iff.mp q).1
  refine ⟨v, e1, ⟨r, k.nd _, fun a ha => k.out _ a ha⟩, k.sub, k.tab, fun a ha => ha.elim (k.at _ a) (k.fr a), by simp [k.len], fun j e z => ?_, fun j z => ?_, k.obl, fun n o z => ?_, fun n z => ?_, fun x => ?_, fun x y a hx hy => ?_, fun x a hx => ?_⟩
  · by_cases h : j = i
    · subst h; rw [List.getElem?_set_self hi] at z; cases z
    · rw [List.getElem?_set_ne (Ne.symm h)] at z
      rw [updI_ne (fun z => h (Sum.inl.inj z))]
      exact k.slot j e z
  · by_cases h : j = i
    · subst h; rw [updI_same]
    · rw [updI_ne (fun z => h (Sum.inl.inj z))]
      exact k.slot0 j fun e y => z e (by rw [List.getElem?_set_ne (Ne.symm h)]; exact y)
  · rw [updI_ne (fun z => by cases z)]; exact k.obj n o z
  · rw [updI_ne (fun z => by cases z)]; exact k.obj0 n z
  · by_cases h : x = .inl i
    · subst h; rw [updI_same]; exact List.nodup_nil
    · rw [updI_ne h]; exact k.nd x
  · by_cases h : x = .inl i
    · subst h; rw [updI_same] at hx; cases hx
    · rw [updI_ne h] at hx
      by_cases h' : y = .inl i
      · subst h'; rw [updI_same] at hy; cases hy
      · rw [updI_ne h'] at hy; exact k.sep x y a hx hy
  · by_cases h : x = .inl i
    · subst h; rw [updI_same] at hx; cases hx
    · rw [updI_ne h] at hx
      intro z
      rcases z with z | z
      · exact h (k.sep _ _ a hx z)
      · exact k.out x a hx z
/-- .. and put back, or another for the same V -/
theorem Ok.put {d : D} {v : V} {f : List Addr} {i : Nat} (k : Ok g Φ H ρ s σ fs (fadd f F)) (r : Vl g Φ H ρ d v f F) (hi : i < s.sl.length) (hv : σ[i]? = some (some v)) :
    Ok g Φ H ρ { s with sl := s.sl.set i (some d) } σ (updI fs (.inl i) f) F := by
  have h := k.set (i := i) r hi
  have e : σ.set i (some v) = σ := by
    apply List.ext_getElem?
    intro j
    by_cases q : i = j
    · subst q
      rw [List.getElem?_set_self (by rw [← k.len]; exact hi), hv]
    · rw [List.getElem?_set_ne q]
  rw [e] at h
  exact h
theorem Vl.at {d : D} {v : V} {f : List Addr} (r : Vl g Φ H ρ d v f F) : ∀ a ∈ f, Owd Φ H a := Rep.at d v f r.rep
/-- the slot i's value is shared from now on -/
theorem Ok.share {d : D} {i : Nat} (k : Ok g Φ H ρ s σ fs F) (q : s.sl[i]? = some (some d)) :
    ∃ v Φ' fs', σ[i]? = some (some v) ∧ Stp Φ H ρ F Φ' H ρ ∧ Ok g Φ' H ρ { s with sl := s.sl.set i (some (Den.fz d)) } σ fs' F ∧ Rep g Φ' H ρ (Den.fz d) v [] := by
  obtain ⟨v, e1, r, k2⟩ := k.take q
  have hi : i < s.sl.length := (List.getElem?_eq_some_iff.mp q).1
  obtain ⟨k3, st, r3⟩ := k2.frz r
  have k4 : Ok g (frzP Φ H (fs (.inl i))) H ρ { s with sl := s.sl.set i none } σ (updI fs (.inl i) []) (fadd [] F) := k3.wide (fun a ha => by cases ha) (fun a ha => by cases ha)
  have k5 := k4.put (i := i) (d := Den.fz d) (v := v) ⟨r3, List.nodup_nil, fun a ha => by cases ha⟩ (by simpa using hi) e1
  simp only [List.set_set] at k5
  exact ⟨v, _, _, e1, st, k5, r3⟩
end
end Den
/-! Den2: core expressions and statements, and what they evaluate to. -/
namespace Den
open PySem PySem.Spec L2
structure Exn where
  cls : Nat
  pay : List (Str × D)
inductive Ex (α : Type) where
  | val (a : α) (s : S)
  | exc (x : Exn)
abbrev M (α : Type) := S → Option (Ex α)
section
variable {α β : Type}
def ret (a : α) : M α := fun s => some (.val a s)
def bnd (x : M α) (k : α → M β) : M β := fun s => match x s with
  | some (.val a s') => k a s'
  | some (.exc e) => some (.exc e)
  | none => none
def lift (o : Option α) : M α := fun s => match o with
  | some a => some (.val a s)
  | none => none
def stuck : M α := fun _ => none
end
inductive Md where
  | val | io
  deriving DecidableEq
inductive Ro where
  | ret (d : D) (outs : List D) (os : List Ob)
  | exc (x : Exn)
structure Fn where
  io : List Md
  run : List D → List Ob → Option Ro
structure Tb where
  fn : Str → Option Fn
  glo : Str → Option D
inductive Op2 where
  | add | sub | mul | fdiv | mod | pow | eq | ne | lt | le | gt | ge | isin | notin
  deriving DecidableEq
inductive Bi where
  | len | abs | max2 | min2 | maxL | int1 | tuple1 | list1 | sorted1 | all1 | sortedP | sum1
  deriving DecidableEq
inductive Mt where
  | lindex | tindex
  deriving DecidableEq
inductive Mu where
  | append | pop0 | pop1 | remove
  deriving DecidableEq
inductive Tg where
  | nm (i : Nat)
  | tp (ts : List Tg)
mutual
inductive C where
  | bad
  | cst (d : D)
  | glo (x : Str)
  | var (i : Nat)
  | mv (i : Nat)
  | neg (a : C) | not (a : C) | isN (a : C) | notN (a : C)
  | op2 (o : Op2) (a b : C)
  | and (a b : C) | or (a b : C)
  | chain (o o' : Op2) (a b c : C)
  | ite (t a b : C)
  | tup (as : Cs) | lst (as : Cs)
  | idx (a i : C)
  | slc (a : C) (lo hi : Co)
  | cal (f : Str) (as : Cs)
  | bi (b : Bi) (as : Cs)
  | isi (T : String) (a : C)
  | tupRg (a : C) | lstRg (a : C)
  | srtSet (a : C)
  | srtKey (a : C)
  | mth (m : Mt) (o a : C)
  | mut (m : Mu) (i : Nat) (as : Cs)
  | dnew (t : Bool)
  | ktup (as : Cs)
  | dget (i : Nat) (k e : C)
  | didx (i : Nat) (k : C)
  | dlEq (i : Nat) (r : List (List Int))
  | dlIn (i : Nat) (r : List (List (List Int)))
  | mutA (i : Nat) (ix a : C)
  | lc (own : List Nat) (tg : Tg) (it : It) (cond : Co) (elt : C)
inductive Cs where
  | nil
  | cons (a : C) (as : Cs)
inductive Co where
  | no
  | yes (a : C)
inductive It where
  | seq (a : C) | rng1 (a : C) | rng2 (a b : C) | rev (a : C) | zip (as : Cs)
end
mutual
inductive T where
  | bad
  | doc
  | set (tg : Tg) (e : C)
  | seti (i : Nat) (k e : C)
  | dset (i : Nat) (k e : C)
  | aug (i : Nat) (e : C)
  | expr (e : C)
  | ret (e : C)
  | retn
  | ife (c : C) (a b : Ts)
  | forr (tg : Tg) (it : It) (body : Ts)
  | whil (n : Nat) (c : C) (body : Ts)
inductive Ts where
  | nil
  | cons (t : T) (ts : Ts)
end
/-! ### values' operations -/
def lim : Nat := 1000000
mutual
def toP : D → PyData
  | .non => .none
  | .bl b => .bool b
  | .int i => .int i
  | .str s => .str ⟨s.toArray⟩
  | .tup ds => .tuple (toPs ds)
  | .lst _ ds => .list (toPs ds)
  | .obj _ => .dict []
  | .kt _ => .dict []
  | .dc _ _ _ => .dict []
def toPs : List D → List PyData
  | [] => []
  | d :: ds => toP d :: toPs ds
end
def eqD (a b : D) : Option Bool := if SeqAt.shaped (toP a) = true ∧ SeqAt.shaped (toP b) = true then some (PyData.eqv (toP a) (toP b)) else none
def addD : D → D → Option D
  | .int i, .int j => some (.int (i + j))
  | .str a, .str b => if a.length + b.length ≤ lim then some (.str (a ++ b)) else none
  | .lst .fz a, .lst .fz b => if a.length + b.length ≤ lim then some (.lst .own (a ++ b)) else none
  | .tup a, .tup b => if a.length + b.length ≤ lim then some (.tup (a ++ b)) else none
  | _, _ => none
def subD : D → D → Option D
  | .int i, .int j => some (.int (i - j))
  | _, _ => none
def small (i : Int) : Bool := decide (-(2 ^ 64) < i) && decide (i < 2 ^ 64)
def repL (n : Nat) (ds : List D) : List D := (List.replicate n ds).flatten
def mulD : D → D → Option D
  | .int i, .int j => if small i || small j then some (.int (i * j)) else none
  | .lst .fz a, .int k => if decide (-(2 ^ 62) < k) && decide (k < 2 ^ 62) && decide (a.length * k.toNat ≤ lim) then some (.lst .own (repL k.toNat a)) else none
  | .tup a, .int k => if decide (1 ≤ k) && decide (k ≤ 1000) && decide (a.length ≤ 1000) && !a.isEmpty then some (.tup (repL k.toNat a)) else none
  | _, _ => none
def fdivD : D → D → Option D
  | .int i, .int j => if decide (0 < j) && decide (j < 1073741824) then some (.int (i / j)) else none
  | _, _ => none
def modD : D → D → Option D
  | .int i, .int j => if decide (0 < j) then some (.int (i % j)) else none
  | _, _ => none
def powD : D → D → Option D
  | .int i, .int j => if decide (0 ≤ j) && decide (j ≤ 1000000) && small i then some (.int (i ^ j.toNat)) else none
  | _, _ => none
def cmpD (p : Int → Int → Bool) : D → D → Option D
  | .int i, .int j => some (.bl (p i j))
  | _, _ => none
def inL (x : D) (ds : List D) : Bool := (toPs ds).any fun y => PyData.eqv y (toP x)
def flatD : D → Bool
  | .non => true
  | .bl _ => true
  | .int _ => true
  | .str _ => true
  | _ => false
def inD (x : D) : D → Option Bool
  | .lst _ ds => if SeqAt.shaped (toP x) = true ∧ SeqAt.shaped (.list (toPs ds)) = true then some (inL x ds) else none
  | .tup ds => if flatD x = true ∧ ds.all flatD = true then some (inL x ds) else none
  | .str s => match x with
    | .str [c] => some (decide (c ∈ s))
    | _ => none
  | _ => none
def opF : Op2 → D → D → Option D
  | .add, a, b => addD a b
  | .sub, a, b => subD a b
  | .mul, a, b => mulD a b
  | .fdiv, a, b => fdivD a b
  | .mod, a, b => modD a b
  | .pow, a, b => powD a b
  | .eq, a, b => (eqD a b).map .bl
  | .ne, a, b => (eqD a b).map fun x => .bl (!x)
  | .lt, a, b => cmpD (fun i j => decide (i < j)) a b
  | .le, a, b => cmpD (fun i j => decide (i ≤ j)) a b
  | .gt, a, b => cmpD (fun i j => decide (j < i)) a b
  | .ge, a, b => cmpD (fun i j => decide (j ≤ i)) a b
  | .isin, a, b => (inD a b).map .bl
  | .notin, a, b => (inD a b).map fun x => .bl (!x)
def negD : D → Option D
  | .int i => some (.int (-i))
  | _ => none
def notD : D → Option D
  | .bl b => some (.bl (!b))
  | _ => none
def isNonD : D → Bool
  | .non => true
  | _ => false
def idxD : D → D → Option D
  | .lst _ ds, .int i => atI ds i
  | .tup ds, .int i => atI ds i
  | .str s, .int i => if s.length ≤ lim then (atI s i).map fun c => .str [c] else none
  | _, _ => none
def cutL {α : Type} (xs : List α) (lo hi : Option Int) : List α := (xs.drop (HT.sIx xs.length 0 lo)).take (HT.sIx xs.length xs.length hi - HT.sIx xs.length 0 lo)
def slcI (d : D) (l h : Option Int) : Option D := match d with
  | .lst _ ds => some (.lst .own (cutL ds l h))
  | .tup ds => some (.tup (cutL ds l h))
  | .str s => if s.length ≤ lim then some (.str (cutL s l h)) else none
  | _ => none
def intsOf : List D → Option (List Int)
  | [] => some []
  | .int i :: ds => (intsOf ds).map (i :: ·)
  | _ => none
def blsOf : List D → Option (List Bool)
  | [] => some []
  | .bl b :: ds => (blsOf ds).map (b :: ·)
  | _ => none
/-- a rising arrangement -/
def insI (x : Int) : List Int → List Int
  | [] => [x]
  | y :: ys => if x ≤ y then x :: y :: ys else y :: insI x ys
def srtI : List Int → List Int
  | [] => []
  | x :: xs => insI x (srtI xs)
def maxI : Int → List Int → Int
  | m, [] => m
  | m, x :: xs => maxI (if m < x then x else m) xs
/-- lists of ints by their order -/
def tyOf : D → Option String
  | .non => some "NoneType"
  | .bl _ => some "bool"
  | .int _ => some "int"
  | .str _ => some "str"
  | .tup _ => some "tuple"
  | .lst _ _ => some "list"
  | .obj _ => none
  | .kt _ => none
  | .dc _ _ _ => none
def isiD (T : String) (d : D) : Option Bool := match tyOf d with
  | some t => kitB t T
  | none => none
def lenF : List D → Option D
  | [.lst _ ds] => some (.int ds.length)
  | [.tup ds] => some (.int ds.length)
  | [.str s] => if s.length ≤ lim then some (.int s.length) else none
  | _ => none
def absF : List D → Option D
  | [.int i] => some (.int (if i < 0 then -i else i))
  | _ => none
def max2F : List D → Option D
  | [.int i, .int j] => some (.int (if j > i then j else i))
  | _ => none
def min2F : List D → Option D
  | [.int i, .int j] => some (.int (if j < i then j else i))
  | _ => none
def maxLF : List D → Option D
  | [.lst _ ds] => (match intsOf ds with
    | some (x :: xs) => some (.int (maxI x xs))
    | _ => none)
  | _ => none
def intF : List D → Option D
  | [.int i] => some (.int i)
  | [.bl b] => some (.int (if b then 1 else 0))
  | _ => none
def tupleF : List D → Option D
  | [.lst _ ds] => some (.tup ds)
  | [.tup ds] => some (.tup ds)
  | _ => none
def listF : List D → Option D
  | [.lst _ ds] => some (.lst .own ds)
  | [.tup ds] => some (.lst .own ds)
  | _ => none
def sortedF : List D → Option D
  | [.lst _ ds] => (match intsOf ds with
    | some is => some (.lst .own ((srtI is).map .int))
    | none => none)
  | _ => none
def allF : List D → Option D
  | [.lst _ ds] => (match blsOf ds with
    | some bs => some (.bl (bs.all id))
    | none => none)
  | _ => none
def isiF (T : String) : List D → Option D
  | [d] => (isiD T d).map .bl
  | _ => none
def rngL (a b : Int) : List D := (List.range (b - a).toNat).map fun i => .int (a + (i : Nat))
def smallR (a : Int) : Bool := decide (-(2 ^ 62) ≤ a) && decide (a ≤ 1000000)
/-- the strictly rising list of the same ints -/
def insS (x : Int) : List Int → List Int
  | [] => [x]
  | y :: ys => if x < y then x :: y :: ys else if x = y then y :: ys else y :: insS x ys
def setI : List Int → List Int
  | [] => []
  | x :: xs => insS x (setI xs)
/-- by the int first, then by the tuple -/
def ltK (p q : Int × List Int) : Bool := if p.1 = q.1 then HT.lexLt p.2 q.2 else decide (p.1 < q.1)
def insP (x : Int × List Int) : List (Int × List Int) → List (Int × List Int)
  | [] => [x]
  | y :: ys => if ltK y x then y :: insP x ys else x :: y :: ys
def srtP : List (Int × List Int) → List (Int × List Int)
  | [] => []
  | x :: xs => insP x (srtP xs)
def tupI (ns : List Int) : D := .tup (ns.map .int)
def tupsOf : List D → Option (List (List Int))
  | [] => some []
  | .tup ds :: r => match intsOf ds, tupsOf r with
    | some ns, some l => some (ns :: l)
    | _, _ => none
  | _ => none
def setSrt : D → Option D
  | .tup ds => match intsOf ds with
    | some is => if is.length ≤ 50 then some (.lst .own ((setI is).map .int)) else none
    | none => none
  | _ => none
def keySrt : D → Option D
  | .lst _ ds => match tupsOf ds with
    | some l => some (.lst .own ((srtP (l.map fun a => ((a.length : Int), a))).map fun p => tupI p.2))
    | none => none
  | _ => none
def pairD (p : Int × List Int) : D := .tup [.int p.1, tupI p.2]
def pairOf : List D → Option (List (Int × List Int))
  | [] => some []
  | .tup [.int n, .tup ns] :: r => match intsOf ns, pairOf r with
    | some is, some l => some ((n, is) :: l)
    | _, _ => none
  | _ => none
def sortPF : List D → Option D
  | [.lst _ ds] => (match pairOf ds with
    | some l => some (.lst .own ((srtP l).map pairD))
    | none => none)
  | _ => none
def sumF : List D → Option D
  | [.lst _ ds] => (match intsOf ds with
    | some is => some (.int is.sum)
    | none => none)
  | _ => none
def biF : Bi → List D → Option D
  | .sum1 => sumF
  | .len => lenF
  | .abs => absF
  | .max2 => max2F
  | .min2 => min2F
  | .maxL => maxLF
  | .int1 => intF
  | .tuple1 => tupleF
  | .list1 => listF
  | .sorted1 => sortedF
  | .all1 => allF
  | .sortedP => sortPF
def mtT : Mt → String
  | .lindex => "list"
  | .tindex => "tuple"
def findD (x : D) : List D → Nat → Option Nat
  | [], _ => none
  | d :: ds, k => if PyData.eqv (toP d) (toP x) then some k else findD x ds (k + 1)
def mtF : Mt → D → D → Option D
  | .lindex, .lst _ ds, x => if SeqAt.shaped (toP x) = true ∧ SeqAt.shaped (.list (toPs ds)) = true then (findD x ds 0).map fun k => .int (k : Nat) else none
  | .tindex, .tup ds, x => if flatD x = true ∧ ds.all flatD = true then (findD x ds 0).map fun k => .int (k : Nat) else none
  | _, _, _ => none
/-- a list in its slot is changed: the answer, the new items -/
def muF : Mu → List D → List D → Option (D × List D)
  | .append, es, [x] => if es.length < lim then some (.non, es ++ [x]) else none
  | .pop0, es, [] => match es[es.length - 1]? with
    | some y => some (y, es.dropLast)
    | none => none
  | .pop1, es, [.int i] => if smallR i then (match ixN es.length i with
      | some k => match es[k]? with
        | some y => some (y, es.eraseIdx k)
        | none => none
      | none => none) else none
  | .remove, es, [.int i] => match intsOf es with
    | some is => if i ∈ is then some (.non, (is.erase i).map .int) else none
    | none => none
  | _, _, _ => none
/-! ### dicts -/
section
variable {κ α : Type} [DecidableEq κ]
def valL : List κ → List α → κ → Option α
  | k' :: ks, d :: ds, k => if k' = k then some d else valL ks ds k
  | _, _, _ => none
def setL : List κ → List α → κ → α → List α
  | k' :: ks, d :: ds, k, x => (if k' = k then x else d) :: setL ks ds k x
  | _, ds, _, _ => ds
def putL (ks : List κ) (ds : List α) (k : κ) (x : α) : List κ × List α := if k ∈ ks then (ks, setL ks ds k x) else (ks ++ [k], ds ++ [x])
end
def keyT : D → Option (List Int)
  | .kt k => some k
  | _ => none
def keyK : D → Option Key
  | .int n => some (.inl n)
  | .str s => some (.inr ⟨s.toArray⟩)
  | _ => none
def dcGet : KS → List D → D → Option (Option D)
  | .t ks, ds, kd => (keyT kd).map fun k => valL ks ds k
  | .k ks, ds, kd => (keyK kd).map fun k => valL ks ds k
def dcPut : KS → List D → D → D → Option (KS × List D)
  | .t ks, ds, kd, d => (keyT kd).map fun k => (.t (putL ks ds k d).1, (putL ks ds k d).2)
  | .k ks, ds, kd, d => (keyK kd).map fun k => (.k (putL ks ds k d).1, (putL ks ds k d).2)
def keysP (ks : List (List Int)) : PyData := .list (ks.map fun k => .tuple (k.map .int))
def eqKeys (ks r : List (List Int)) : Option Bool := if SeqAt.shaped (keysP ks) = true ∧ SeqAt.shaped (keysP r) = true then some (PyData.eqv (keysP ks) (keysP r)) else none
def inKeys (ks : List (List Int)) (r : List (List (List Int))) : Option Bool := if SeqAt.shaped (keysP ks) = true ∧ SeqAt.shaped (.list (r.map keysP)) = true then some ((r.map keysP).any fun y => PyData.eqv y (keysP ks)) else none
/-! ### the state's operations -/
def shal : D → D
  | .lst .own ds => .lst .own (fzL ds)
  | d => fz d
def setS (s : S) (i : Nat) (o : Option D) : S := { s with sl := s.sl.set i o }
def view (i : Nat) : M D := fun s => match s.sl[i]? with
  | some (some d) => some (.val (fz d) (setS s i (some (shal d))))
  | _ => none
def rdV (i : Nat) : M D := fun s => match s.sl[i]? with
  | some (some d) => some (.val (fz d) (setS s i (some (fz d))))
  | _ => none
def mvV (i : Nat) : M D := fun s => match s.sl[i]? with
  | some (some d) => some (.val d (setS s i none))
  | _ => none
def isVar : C → Bool
  | .var _ => true
  | _ => false
/-- an operand: a name is looked at later -/
def hasV (c : C) : M (Option D) := fun s => match c with
  | .var i => (match s.sl[i]? with
    | some (some _) => some (.val none s)
    | _ => none)
  | _ => none
def opd (c : C) (m : M D) : M (Option D) := if isVar c then hasV c else bnd m fun d => ret (some (fz d))
def fill1 (c : C) (o : Option D) : M D := match o with
  | some d => ret d
  | none => match c with
    | .var i => view i
    | _ => stuck
/-- operands looked at -/
def fillP : Cs → List (Option D) → M (List D)
  | .nil, [] => ret []
  | .cons a as, o :: os => bnd (fill1 a o) fun d => bnd (fillP as os) fun ds => ret (d :: ds)
  | _, _ => stuck
/-- a def's arguments: shared ones, and those that are given over -/
def fillC : Cs → List (Option D) → M (List D)
  | .nil, [] => ret []
  | .cons a as, o :: os => bnd (match o with
      | some d => ret d
      | none => match a with
        | .var i => mvV i
        | _ => stuck) fun d => bnd (fillC as os) fun ds => ret (d :: ds)
  | _, _ => stuck
def ioSl : List Md → Cs → List Nat
  | .io :: ms, .cons a as => (match a with
    | .var i => i :: ioSl ms as
    | _ => ioSl ms as)
  | .val :: ms, .cons _ as => ioSl ms as
  | _, _ => []
def putB : List Nat → List D → List (Option D) → Option (List (Option D))
  | [], [], sl => some sl
  | i :: is, d :: ds, sl => if i < sl.length then putB is ds (sl.set i (some d)) else none
  | _, _, _ => none
mutual
def asg : Tg → D → M Unit
  | .nm i, d => fun s => if i < s.sl.length then some (.val () (setS s i (some d))) else none
  | .tp ts, d => match d with
    | .tup ds => asgs ts ds
    | _ => stuck
def asgs : List Tg → List D → M Unit
  | [], [] => ret ()
  | t :: ts, d :: ds => bnd (asg t d) fun _ => asgs ts ds
  | _, _ => stuck
end
def wipeD (sl : List (Option D)) : List Nat → List (Option D)
  | [] => sl
  | v :: vs => (wipeD sl vs).set v none
def restD (sl old : List (Option D)) : List Nat → List (Option D)
  | [] => sl
  | v :: vs => (restD sl old vs).set v ((old[v]?).getD none)
def lcGo (own : List Nat) (f : D → M (Option D)) : List D → List D → M (List D)
  | [], acc => ret acc
  | x :: xs, acc => fun s => match f x { s with sl := wipeD s.sl own } with
    | some (.val (some d) s') => if acc.length < lim then lcGo own f xs (acc ++ [d]) s' else none
    | some (.val none s') => lcGo own f xs acc s'
    | _ => none
def callF (F : Fn) (slots : List Nat) (ds : List D) : M D := fun s => match F.run ds s.os with
  | some (.ret d outs os') => (match putB slots outs s.sl with
    | some sl' => some (.val d ⟨sl', os'⟩)
    | none => none)
  | some (.exc x) => some (.exc x)
  | none => none
def mutL (m : Mu) (i : Nat) (ds : List D) : M D := fun s => match s.sl[i]? with
  | some (some (.lst .own es)) => (match muF m es ds with
    | some (d, es') => some (.val d (setS s i (some (.lst .own es'))))
    | none => none)
  | _ => none
def isLst (i : Nat) (s : S) : Bool := match s.sl[i]? with
  | some (some (.lst _ _)) => true
  | _ => false
def kindIs (c : C) (T : String) (o : Option D) (s : S) : Bool := match o with
  | some d => decide (tyOf d = some T)
  | none => match c with
    | .var i => (match s.sl[i]? with
      | some (some d) => decide (tyOf d = some T)
      | _ => false)
    | _ => false
def isDc (i : Nat) (s : S) : Bool := match s.sl[i]? with
  | some (some (.dc .own _ _)) => true
  | _ => false
def dgetM (i : Nat) (kd e : D) : M D := fun s => match s.sl[i]? with
  | some (some (.dc .own ks ds)) => (match dcGet ks ds kd with
    | some (some d) => some (.val d s)
    | some none => some (.val e s)
    | none => none)
  | _ => none
def didxM (i : Nat) (kd : D) : M D := fun s => match s.sl[i]? with
  | some (some (.dc .own ks ds)) => (match dcGet ks ds kd with
    | some (some d) => some (.val d s)
    | _ => none)
  | _ => none
def keysM (i : Nat) : M (List (List Int)) := fun s => match s.sl[i]? with
  | some (some (.dc .own (.t ks) _)) => some (.val ks s)
  | _ => none
/-- the list within the list in slot i: the items, the place, what stands there -/
def innL (i : Nat) (xd : D) (s : S) : Option (List D × Nat × List D) := match s.sl[i]?, xd with
  | some (some (.lst .own es)), .int z => (match ixN es.length z with
    | some j => (match es[j]? with
      | some (.lst .own fs) => if fs.length < lim then some (es, j, fs) else none
      | _ => none)
    | none => none)
  | _, _ => none
/-- the item is reckoned while the list is out of its slot -/
def mutAM (i : Nat) (xd : D) (m : M D) : M D := fun s => match innL i xd s with
  | some (es, j, fs) => (match m (setS s i none) with
    | some (.val d s') => some (.val .non (setS s' i (some (.lst .own (es.set j (.lst .own (fs ++ [fz d])))))))
    | some (.exc x) => some (.exc x)
    | none => none)
  | none => none
def zipD : List D → Option (List D)
  | [.tup ds, .tup es] => some ((ds.zip es).map fun p => .tup [p.1, p.2])
  | _ => none
def grd (p : S → Bool) : M Unit := fun s => if p s then some (.val () s) else none
section
variable (Γ : Tb)
mutual
def ev : C → M D
  | .bad => stuck
  | .cst d => ret d
  | .glo x => lift (Γ.glo x)
  | .var i => rdV i
  | .mv i => mvV i
  | .neg a => bnd (opd a (ev a)) fun x => bnd (fill1 a x) fun d => lift (negD d)
  | .not a => bnd (ev a) fun d => lift (notD d)
  | .isN a => bnd (opd a (ev a)) fun x => bnd (fill1 a x) fun d => ret (.bl (isNonD d))
  | .notN a => bnd (opd a (ev a)) fun x => bnd (fill1 a x) fun d => ret (.bl (!isNonD d))
  | .op2 o a b => bnd (opd a (ev a)) fun x => bnd (opd b (ev b)) fun y => bnd (fill1 a x) fun d => bnd (fill1 b y) fun e => lift (opF o d e)
  | .and a b => bnd (ev a) fun d => match d with
    | .bl true => ev b
    | .bl false => ret (.bl false)
    | _ => stuck
  | .or a b => bnd (ev a) fun d => match d with
    | .bl true => ret (.bl true)
    | .bl false => ev b
    | _ => stuck
  | .chain o o' a b c => bnd (opd a (ev a)) fun x => bnd (opd b (ev b)) fun y => bnd (fill1 a x) fun d => bnd (fill1 b y) fun e =>
      bnd (lift (opF o d e)) fun r => match r with
        | .bl true => bnd (opd c (ev c)) fun z => bnd (fill1 c z) fun f => if flatD e = true then lift (opF o' e f) else stuck
        | .bl false => ret (.bl false)
        | _ => stuck
  | .ite t a b => bnd (ev t) fun d => match d with
    | .bl true => ev a
    | .bl false => ev b
    | _ => stuck
  | .tup as => bnd (evs as) fun ds => if ds.length ≤ lim then ret (.tup ds) else stuck
  | .lst as => bnd (evs as) fun ds => if ds.length ≤ lim then ret (.lst .own ds) else stuck
  | .idx a i => bnd (opd a (ev a)) fun x => bnd (opd i (ev i)) fun y => bnd (fill1 a x) fun d => bnd (fill1 i y) fun e => lift (idxD d e)
  | .slc a lo hi => bnd (opd a (ev a)) fun x => bnd (evo lo) fun l => bnd (evo hi) fun h => bnd (fill1 a x) fun d => lift (slcI d l h)
  | .cal f as => match Γ.fn f with
    | some F => bnd (evOps F.io as) fun os => bnd (fillC as os) fun ds => callF F (ioSl F.io as) ds
    | none => stuck
  | .bi b as => bnd (evPk as) fun os => bnd (fillP as os) fun ds => lift (biF b ds)
  | .isi T a => bnd (opd a (ev a)) fun x => bnd (fill1 a x) fun d => lift (isiF T [d])
  | .tupRg a => bnd (opd a (ev a)) fun x => bnd (fill1 a x) fun d => match d with
    | .int n => if smallR n then ret (.tup (rngL 0 n)) else stuck
    | _ => stuck
  | .lstRg a => bnd (opd a (ev a)) fun x => bnd (fill1 a x) fun d => match d with
    | .int n => if smallR n then ret (.lst .own (rngL 0 n)) else stuck
    | _ => stuck
  | .srtSet a => bnd (opd a (ev a)) fun x => bnd (fill1 a x) fun d => lift (setSrt d)
  | .srtKey a => bnd (opd a (ev a)) fun x => bnd (fill1 a x) fun d => lift (keySrt d)
  | .mth m o a => bnd (opd o (ev o)) fun x => bnd (grd (kindIs o (mtT m) x)) fun _ => bnd (opd a (ev a)) fun y => bnd (fill1 o x) fun d => bnd (fill1 a y) fun e => lift (mtF m d e)
  | .mut m i as => bnd (grd (isLst i)) fun _ => bnd (evFz as) fun ds => mutL m i ds
  | .dnew t => ret (.dc .own (if t then .t [] else .k []) [])
  | .ktup as => bnd (evs as) fun ds => match intsOf ds with
    | some ks => if ks.length ≤ lim then ret (.kt ks) else stuck
    | none => stuck
  | .dget i k e => bnd (grd (isDc i)) fun _ => bnd (ev k) fun kd => bnd (ev e) fun d => dgetM i kd d
  | .didx i k => bnd (grd (isDc i)) fun _ => bnd (ev k) fun kd => didxM i kd
  | .dlEq i r => bnd (keysM i) fun ks => lift ((eqKeys ks r).map .bl)
  | .dlIn i r => bnd (keysM i) fun ks => lift ((inKeys ks r).map .bl)
  | .mutA i ix a => bnd (grd (isLst i)) fun _ => bnd (ev ix) fun xd => mutAM i xd (ev a)
  | .lc own tg it cond elt => bnd (evIt it) fun xs => fun s =>
      match lcGo own (fun x => bnd (asg tg x) fun _ => bnd (evc cond) fun b => if b then bnd (ev elt) fun d => ret (some d) else ret none) xs [] { s with sl := wipeD s.sl own } with
      | some (.val ds s1) => some (.val (.lst .own ds) { s1 with sl := restD s1.sl s.sl own })
      | _ => none
/-- the items, each with what is its own -/
def evs : Cs → M (List D)
  | .nil => ret []
  | .cons a as => bnd (ev a) fun d => bnd (evs as) fun ds => ret (d :: ds)
def evOps : List Md → Cs → M (List (Option D))
  | [], .nil => ret []
  | .val :: ms, .cons a as => bnd (bnd (ev a) fun d => ret (some (fz d))) fun o => bnd (evOps ms as) fun os => ret (o :: os)
  | .io :: ms, .cons a as => bnd (hasV a) fun o => bnd (evOps ms as) fun os => ret (o :: os)
  | _, _ => stuck
def evPk : Cs → M (List (Option D))
  | .nil => ret []
  | .cons a as => bnd (opd a (ev a)) fun o => bnd (evPk as) fun os => ret (o :: os)
def evFz : Cs → M (List D)
  | .nil => ret []
  | .cons a as => bnd (ev a) fun d => bnd (evFz as) fun ds => ret (fz d :: ds)
def evo : Co → M (Option Int)
  | .no => ret none
  | .yes a => bnd (ev a) fun d => match d with
    | .int i => ret (some i)
    | _ => stuck
def evc : Co → M Bool
  | .no => ret true
  | .yes a => bnd (ev a) fun d => match d with
    | .bl b => ret b
    | _ => stuck
def evIt : It → M (List D)
  | .seq a => bnd (ev a) fun d => match fz d with
    | .lst _ ds => ret ds
    | .tup ds => ret ds
    | _ => stuck
  | .rng1 a => bnd (ev a) fun d => match d with
    | .int n => if smallR n then ret (rngL 0 n) else stuck
    | _ => stuck
  | .rng2 a b => bnd (ev a) fun d => bnd (ev b) fun e => match d, e with
    | .int n, .int m => if smallR n && smallR m then ret (rngL n m) else stuck
    | _, _ => stuck
  | .rev a => bnd (ev a) fun d => match fz d with
    | .lst _ ds => ret ds.reverse
    | _ => stuck
  | .zip as => bnd (evFz as) fun ds => lift (zipD ds)
end
end
inductive Rs where
  | nx (s : S)
  | rt (d : D) (s : S)
  | ex (x : Exn)
def thn (x : Option (Ex α)) (k : α → S → Option Rs) : Option Rs := match x with
  | some (.val a s) => k a s
  | some (.exc e) => some (.ex e)
  | none => none
def sthn (x : Option Rs) (k : S → Option Rs) : Option Rs := match x with
  | some (.nx s) => k s
  | r => r
def forGo (f : D → S → Option Rs) : List D → S → Option Rs
  | [], s => some (.nx s)
  | x :: xs, s => sthn (f x s) (forGo f xs)
def whilGo (c : M D) (f : S → Option Rs) : Nat → S → Option Rs
  | 0, _ => none
  | n + 1, s => thn (c s) fun d s' => match d with
    | .bl true => sthn (f s') (whilGo c f n)
    | .bl false => some (.nx s')
    | _ => none
def setiM (i : Nat) (kd d : D) (s : S) : Option Rs := match s.sl[i]?, kd with
  | some (some (.lst .own es)), .int z => (match ixN es.length z with
    | some j => some (.nx (setS s i (some (.lst .own (es.set j d)))))
    | none => none)
  | _, _ => none
def dsetM (i : Nat) (kd d : D) (s : S) : Option Rs := match s.sl[i]? with
  | some (some (.dc .own ks ds)) => if ds.length < lim then (match dcPut ks ds kd d with
    | some (ks', ds') => some (.nx (setS s i (some (.dc .own ks' ds'))))
    | none => none) else none
  | _ => none
section
variable (Γ : Tb)
mutual
def exec : T → S → Option Rs
  | .bad => fun _ => none
  | .doc => fun s => some (.nx s)
  | .set tg e => fun s => thn (ev Γ e s) fun d s1 => thn (asg tg d s1) fun _ s2 => some (.nx s2)
  | .seti i k e => fun s => thn (bnd (ev Γ e) (fun d => bnd (grd (isLst i)) fun _ => bnd (ev Γ k) fun kd => ret (kd, fz d)) s) fun p s2 => setiM i p.1 p.2 s2
  | .dset i k e => fun s => thn (bnd (ev Γ e) (fun d => bnd (grd (isDc i)) fun _ => bnd (ev Γ k) fun kd => ret (kd, fz d)) s) fun p s2 => dsetM i p.1 p.2 s2
  | .aug i e => fun s => match s.sl[i]? with
    | some (some (.int x)) => thn (ev Γ e s) fun d s1 => match d with
      | .int y => if i < s1.sl.length then some (.nx (setS s1 i (some (.int (x + y))))) else none
      | _ => none
    | _ => none
  | .expr e => fun s => thn (ev Γ e s) fun _ s1 => some (.nx s1)
  | .ret e => fun s => thn (ev Γ e s) fun d s1 => some (.rt d s1)
  | .retn => fun s => some (.rt .non s)
  | .ife c a b => fun s => thn (ev Γ c s) fun d s1 => match d with
    | .bl true => execs a s1
    | .bl false => execs b s1
    | _ => none
  | .forr tg it body => fun s => thn (evIt Γ it s) fun xs s1 => forGo (fun x s2 => thn (asg tg x s2) fun _ s3 => execs body s3) xs s1
  | .whil n c body => whilGo (ev Γ c) (execs body) n
def execs : Ts → S → Option Rs
  | .nil => fun s => some (.nx s)
  | .cons t ts => fun s => sthn (exec t s) (execs ts)
end
end
def outsOf : List Md → List (Option D) → Option (List D)
  | [], _ => some []
  | .io :: ms, some d :: sl => (outsOf ms sl).map (d :: ·)
  | .io :: _, _ => none
  | _ :: ms, _ :: sl => outsOf ms sl
  | _ :: _, [] => none
def startS (n : Nat) (ds : List D) (os : List Ob) : S := ⟨ds.map some ++ List.replicate (n - ds.length) none, os⟩
def runB (Γ : Tb) (n : Nat) (io : List Md) (body : Ts) (ds : List D) (os : List Ob) : Option Ro := match execs Γ body (startS n ds os) with
  | some (.rt d s') => (match outsOf io s'.sl with
    | some outs => some (.ret d outs s'.os)
    | none => none)
  | some (.nx s') => (match outsOf io s'.sl with
    | some outs => some (.ret .non outs s'.os)
    | none => none)
  | some (.ex x) => some (.exc x)
  | none => none
end Den
/-! Den3: operations by values: what the machine does at what stands for D is what opF, idxD, biF .. say. -/
namespace Den
open PySem PySem.Spec L2
/-- v stands for d now (a list by what stands in the heap, its items shared) -/
def PkR (g : Gx) (Φ H : Hp) (ρ : List Addr) : D → V → Prop
  | .lst .fz ds, v => ∃ a vs, v = .ref a ∧ H a = some (.lst vs) ∧ RepL g Φ H ρ ds vs []
  | d, v => Rep g Φ H ρ d v []
section
variable {g : Gx} {Φ Φ' H H' : Hp} {ρ : List Addr}
theorem PkR.of (sb : Sub Φ H) : ∀ {d : D} {v : V}, Rep g Φ H ρ d v [] → PkR g Φ H ρ d v
  | .lst .fz ds, v, h => by
    simp only [Rep] at h
    obtain ⟨a, vs, ev, t, _, r⟩ := h
    exact ⟨a, vs, ev, sub_lst sb t, r⟩
  | .lst .own ds, v, h => h
  | .lst .ro ds, v, h => h
  | .non, _, h => h
  | .bl _, _, h => h
  | .int _, _, h => h
  | .str _, _, h => h
  | .tup _, _, h => h
  | .obj _, _, h => h
  | .kt _, _, h => h
  | .dc _ _ _, _, h => h
theorem Rep.nil_mono (e : Ext Φ Φ') {d : D} {v : V} (r : Rep g Φ H ρ d v []) : Rep g Φ' H' ρ d v [] := Rep.mono e (List.prefix_refl ρ) d v [] (fun a ha => by cases ha) r
theorem RepL.nil_mono (e : Ext Φ Φ') {d : List D} {v : List V} (r : RepL g Φ H ρ d v []) : RepL g Φ' H' ρ d v [] := RepL.mono e (List.prefix_refl ρ) d v [] (fun a ha => by cases ha) r
theorem PkR.mono (e : Ext Φ Φ') : ∀ {d : D} {v : V}, PkR g Φ H ρ d v → PkR g Φ' H ρ d v
  | .lst .fz ds, v, h => by
    obtain ⟨a, vs, ev, t, r⟩ := h
    exact ⟨a, vs, ev, t, r.nil_mono e⟩
  | .lst .own ds, v, h => Rep.nil_mono e (d := .lst .own ds) h
  | .lst .ro ds, v, h => Rep.nil_mono e (d := .lst .ro ds) h
  | .non, _, h => h
  | .bl _, _, h => h
  | .int _, _, h => h
  | .str _, _, h => h
  | .tup ds, v, h => Rep.nil_mono e (d := .tup ds) h
  | .obj n, v, h => Rep.nil_mono (g := g) (H := H) (H' := H) e (d := .obj n) h
  | .kt n, v, h => Rep.nil_mono (g := g) (H := H) (H' := H) (ρ := ρ) e (d := .kt n) h
  | .dc o n ds, v, h => Rep.nil_mono (g := g) (H := H) (H' := H) e (d := .dc o n ds) h
theorem PkR.lst {o : Ow} {ds : List D} {v : V} (sb : Sub Φ H) (h : PkR g Φ H ρ (.lst o ds) v) : ∃ a vs, v = .ref a ∧ SqL g.K H a vs ∧ RepL g Φ H ρ ds vs [] := by
  cases o with
  | own =>
    have h : Rep g Φ H ρ (.lst .own ds) v [] := h
    simp only [Rep] at h
    obtain ⟨a, vs, f', _, _, _, e, _⟩ := h
    cases e
  | fz =>
    obtain ⟨a, vs, ev, t, r⟩ := h
    exact ⟨a, vs, ev, SqL.of t, r⟩
  | ro =>
    have h : Rep g Φ H ρ (.lst .ro ds) v [] := h
    simp only [Rep] at h
    obtain ⟨a, vs, ev, t, _, r⟩ := h
    exact ⟨a, vs, ev, sub_l sb t, r⟩
theorem PkR.tup {ds : List D} {v : V} (sb : Sub Φ H) (h : PkR g Φ H ρ (.tup ds) v) : ∃ a vs, v = .ref a ∧ TpK g.K Φ a vs ∧ SqT g.K H a vs ∧ RepL g Φ H ρ ds vs [] := by
  have h : Rep g Φ H ρ (.tup ds) v [] := h
  simp only [Rep] at h
  obtain ⟨a, vs, ev, t, r⟩ := h
  exact ⟨a, vs, ev, t, sub_t sb t.sq, r⟩
theorem PkR.int {i : Int} {v : V} (h : PkR g Φ H ρ (.int i) v) : v = .int i := (show _ ∧ _ by simpa only [PkR, Rep] using h).1
theorem PkR.bl {b : Bool} {v : V} (h : PkR g Φ H ρ (.bl b) v) : v = .bl b := (show _ ∧ _ by simpa only [PkR, Rep] using h).1
theorem PkR.str {s : List Nat} {v : V} (h : PkR g Φ H ρ (.str s) v) : v = .str ⟨s.toArray⟩ := (show _ ∧ _ by simpa only [PkR, Rep] using h).1
theorem PkR.non {v : V} (h : PkR g Φ H ρ .non v) : v = .non := (show _ ∧ _ by simpa only [PkR, Rep] using h).1
theorem rep_int {i : Int} : Rep g Φ H ρ (.int i) (.int i) [] := by simp [Rep]
theorem rep_bl {b : Bool} : Rep g Φ H ρ (.bl b) (.bl b) [] := by simp [Rep]
theorem rep_str {s : List Nat} : Rep g Φ H ρ (.str s) (.str ⟨s.toArray⟩) [] := by simp [Rep]
theorem rep_non : Rep g Φ H ρ .non .non [] := by simp [Rep]
/-- a new list, a new tuple of shared items -/
theorem new_lst {p : Addr} {ds : List D} {vs : List V} (sb : Sub Φ H) (r : RepL g Φ H ρ ds vs []) (n : H p = none) : Grow g Φ H Φ (upd H p (.lst vs)) ∧ Rep g Φ (upd H p (.lst vs)) ρ (.lst .own ds) (.ref p) [p] := by
  refine ⟨Grow.own sb n, ?_⟩
  simp only [Rep]
  exact ⟨p, vs, [], rfl, upd_same, sub_none sb n, rfl, r.nil_mono fun _ _ h => h⟩
theorem new_tup {p : Addr} {o : Obj} {ds : List D} {vs : List V} (sb : Sub Φ H) (r : RepL g Φ H ρ ds vs []) (n : H p = none) (hd : o.dict = none) :
    Grow g Φ H (upd Φ p (.frz o (.tup vs))) (upd H p (.frz o (.tup vs))) ∧ Rep g (upd Φ p (.frz o (.tup vs))) (upd H p (.frz o (.tup vs))) ρ (.tup ds) (.ref p) [] := by
  have w : Grow g Φ H (upd Φ p (.frz o (.tup vs))) (upd H p (.frz o (.tup vs))) := Grow.shared sb n (fun _ => HO.noConfusion)
  refine ⟨w, ?_⟩
  simp only [Rep]
  exact ⟨p, vs, rfl, .inl ⟨o, upd_same, hd⟩, r.nil_mono w.ext⟩
theorem RepL.cut {ds : List D} {vs : List V} (r : RepL g Φ H ρ ds vs []) (lo hi : Option Int) : RepL g Φ H ρ (cutL ds lo hi) (cutV vs lo hi) [] := by
  have e := RepL.len _ _ _ r
  have e2 : cutV vs lo hi = cutL vs lo hi := rfl
  rw [e2]
  unfold cutL
  rw [e]
  refine RepL.of_get _ _ (by simp [e]) fun i d v h1 h2 => ?_
  rw [List.getElem?_take] at h1 h2
  split at h1
  · rename_i hlt
    rw [if_pos hlt, List.getElem?_drop] at h2
    rw [List.getElem?_drop] at h1
    obtain ⟨v', e1, r1⟩ := RepL.get _ _ r _ _ h1
    rw [h2] at e1; cases e1; exact r1
  · cases h1
theorem RepL.rep {ds : List D} {vs : List V} (r : RepL g Φ H ρ ds vs []) : ∀ n : Nat, RepL g Φ H ρ (repL n ds) (List.replicate n vs).flatten []
  | 0 => by simp only [repL, List.replicate, List.flatten, RepL]; exact ⟨trivial, trivial⟩
  | n + 1 => by
    have h := RepL.app _ _ _ _ _ _ r (RepL.rep r n)
    simp only [repL, List.replicate_succ, List.flatten_cons] at h ⊢
    exact h
mutual
theorem dp_of (sb : Sub Φ H) : ∀ (d : D) (v : V) (f : List Addr), Rep g Φ H ρ d v f → (toP d).canLay0 = true → Dp g.K H v (toP d)
  | .non, v, f, r, c => by simp only [Rep] at r; rw [r.1]; exact .non
  | .bl b, v, f, r, c => by simp only [Rep] at r; rw [r.1]; exact .bl b
  | .int i, v, f, r, c => by simp only [Rep] at r; rw [r.1]; exact .int i
  | .str s, v, f, r, c => by simp only [Rep] at r; rw [r.1]; exact .str _
  | .tup ds, v, f, r, c => by
    simp only [Rep] at r
    obtain ⟨a, vs, rfl, t, r⟩ := r
    simp only [toP, PyData.canLay0] at c ⊢
    exact .tup (sub_t sb t.sq) (dpA_of sb ds vs f r c)
  | .lst .own ds, v, f, r, c => by
    simp only [Rep] at r
    obtain ⟨a, vs, f', rfl, t, n, rfl, r⟩ := r
    simp only [toP, PyData.canLay0] at c ⊢
    exact .lst (SqL.of t) (dpA_of sb ds vs f' r c)
  | .lst .fz ds, v, f, r, c => by
    simp only [Rep] at r
    obtain ⟨a, vs, rfl, t, _, r⟩ := r
    simp only [toP, PyData.canLay0] at c ⊢
    exact .lst (SqL.of (sub_lst sb t)) (dpA_of sb ds vs [] r c)
  | .lst .ro ds, v, f, r, c => by
    simp only [Rep] at r
    obtain ⟨a, vs, rfl, t, _, r⟩ := r
    simp only [toP, PyData.canLay0] at c ⊢
    exact .lst (sub_l sb t) (dpA_of sb ds vs [] r c)
  | .obj n, v, f, r, c => by simp [toP, PyData.canLay0] at c
  | .kt n, v, f, r, c => by simp [toP, PyData.canLay0] at c
  | .dc _ _ _, v, f, r, c => by simp [toP, PyData.canLay0] at c
theorem dpA_of (sb : Sub Φ H) : ∀ (ds : List D) (vs : List V) (f : List Addr), RepL g Φ H ρ ds vs f → PyData.canLayAll0 (toPs ds) = true → DpAll g.K H vs (toPs ds)
  | [], vs, f, r, c => by simp only [RepL] at r; rw [r.1]; exact .nil
  | d :: ds, vs, f, r, c => by
    simp only [RepL] at r
    obtain ⟨v, vs', f1, f2, rfl, rfl, r1, r2⟩ := r
    simp only [toPs, PyData.canLayAll0, Bool.and_eq_true] at c ⊢
    exact .cons (dp_of sb d v f1 r1 c.1) (dpA_of sb ds vs' f2 r2 c.2)
end
theorem PkR.dp (sb : Sub Φ H) {d : D} {v : V} (r : PkR g Φ H ρ d v) (c : SeqAt.shaped (toP d) = true) : Dp g.K H v (toP d) := by
  have c' := SeqAt.canLay_of_shaped c
  cases d with
  | lst o ds =>
    obtain ⟨a, vs, rfl, t, r⟩ := r.lst sb
    simp only [toP, PyData.canLay0] at c' ⊢
    exact .lst t (dpA_of sb ds vs [] r c')
  | non => exact dp_of (ρ := ρ) sb _ _ _ r c'
  | bl b => exact dp_of (ρ := ρ) sb _ _ _ r c'
  | int i => exact dp_of (ρ := ρ) sb _ _ _ r c'
  | str s => exact dp_of (ρ := ρ) sb _ _ _ r c'
  | tup ds => exact dp_of (ρ := ρ) sb _ _ _ r c'
  | obj n => exact dp_of (ρ := ρ) sb _ _ _ r c'
  | kt n => simp [toP, PyData.canLay0] at c'
  | dc _ _ _ => simp [toP, PyData.canLay0] at c'
theorem PkR.dpL (sb : Sub Φ H) {o : Ow} {ds : List D} {v : V} (r : PkR g Φ H ρ (.lst o ds) v) (c : SeqAt.shaped (.list (toPs ds)) = true) : Dp g.K H v (.list (toPs ds)) := r.dp sb (d := .lst o ds) c
end
/-- nothing of ours is there -/
def NoO (H : Hp) (a : Addr) : Prop := ∀ u, H a = some u → ∃ ps, u = .tbl ps
theorem NoO.of {H : Hp} {a : Addr} (h : H a = none) : NoO H a := fun u e => by rw [h] at e; cases e
/-- what follows a value that an operation gives: it may be new -/
def Aft (g : Gx) (Φ H : Hp) (ρ : List Addr) (r : D) (Q : VK) : Prop := ∀ Φ' H' v f, Grow g Φ H Φ' H' → Rep g Φ' H' ρ r v f → f.Nodup → (∀ a ∈ f, NoO H a) → Q v H'
def OpV (g : Gx) (k : D → D → Option D) : R2 := fun x y H Q => ∃ (Φ : Hp) (ρ : List Addr) (d e r : D), Sub Φ H ∧ PkR g Φ H ρ d x ∧ PkR g Φ H ρ e y ∧ k d e = some r ∧ Aft g Φ H ρ r Q
inductive PkRs (g : Gx) (Φ H : Hp) (ρ : List Addr) : List D → List V → Prop
  | nil : PkRs g Φ H ρ [] []
  | cons {d : D} {ds : List D} {v : V} {vs : List V} : PkR g Φ H ρ d v → PkRs g Φ H ρ ds vs → PkRs g Φ H ρ (d :: ds) (v :: vs)
def CbV (g : Gx) (k : List D → Option D) : List V → Hp → VK → Prop := fun vs H Q => ∃ (Φ : Hp) (ρ : List Addr) (ds : List D) (r : D), Sub Φ H ∧ PkRs g Φ H ρ ds vs ∧ k ds = some r ∧ Aft g Φ H ρ r Q
section
variable {g : Gx} {Φ H : Hp} {ρ : List Addr} {Q : VK} {X : Cx}
theorem Aft.flat {r : D} {v : V} (h : Aft g Φ H ρ r Q) (sb : Sub Φ H) (k : Rep g Φ H ρ r v []) : Q v H := h Φ H v [] (Grow.refl sb) k List.nodup_nil fun a ha => by cases ha
theorem Aft.int {i : Int} (h : Aft g Φ H ρ (.int i) Q) (sb : Sub Φ H) : Q (.int i) H := h.flat sb rep_int
theorem Aft.bl {i : Bool} (h : Aft g Φ H ρ (.bl i) Q) (sb : Sub Φ H) : Q (.bl i) H := h.flat sb rep_bl
theorem Aft.str {i : List Nat} (h : Aft g Φ H ρ (.str i) Q) (sb : Sub Φ H) : Q (.str ⟨i.toArray⟩) H := h.flat sb rep_str
theorem Aft.non (h : Aft g Φ H ρ .non Q) (sb : Sub Φ H) : Q .non H := h.flat sb rep_non
theorem Aft.lst {ds : List D} {vs : List V} (h : Aft g Φ H ρ (.lst .own ds) Q) (sb : Sub Φ H) (r : RepL g Φ H ρ ds vs []) : ∀ p, H p = none → Q (.ref p) (upd H p (.lst vs)) := fun p n => by
  obtain ⟨w, r'⟩ := new_lst sb r n
  exact h _ _ _ [p] w r' (by simp) fun a ha => by simp at ha; rw [ha]; exact .of n
theorem Aft.tup {ds : List D} {vs : List V} (h : Aft g Φ H ρ (.tup ds) Q) (sb : Sub Φ H) (r : RepL g Φ H ρ ds vs []) : ∀ (p : Addr) (o : Obj), H p = none → o.dict = none → Q (.ref p) (upd H p (.frz o (.tup vs))) := fun p o n hd => by
  obtain ⟨w, r'⟩ := new_tup sb r n hd
  exact h _ _ _ [] w r' (by simp) fun a ha => by cases ha
theorem lim_le : lim ≤ sizeLine := by rw [sizeLine_eq]; decide
theorem S_len (a : List Nat) : (⟨a.toArray⟩ : Str).length = a.length := by simp [Str.length]
theorem S_app (a b : List Nat) : (⟨a.toArray⟩ : Str) ++ ⟨b.toArray⟩ = ⟨(a ++ b).toArray⟩ := by
  show (⟨a.toArray ++ b.toArray⟩ : Str) = _
  simp
/-- a new tuple is laid and its object kept in mind -/
theorem laidT {pins : List (Addr × Obj)} {σ : L2.St} {H : Hp} {s : Shared} {h' : Heap} {t' : Nat} {a : Addr} {us : List Value} {xs : List V} (I : Inv X pins σ H s) (k : ∀ b u, s.heap.get? b = some u → h'.get? b = some u) (hp : s.heap.objs.size ≤ a)
    (ho : h'.get? a = some { cls := .type "tuple", data := .seq us.toArray }) (r : Vals xs us) (z : xs.length ≤ sizeLine) :
    Inv X pins σ (upd H a (.frz { cls := .type "tuple", data := .seq us.toArray } (.tup xs))) { s with heap := h', toks := t' } :=
  I.laid k hp ⟨ho, z, us, r, ⟨_, ho, rfl, _, rfl⟩⟩
/-- t + u, the new one's object known -/
def rCatF (K : PySem.W.Frag) : R2 := fun x y H Q => ∃ a b xs ys, x = .ref a ∧ y = .ref b ∧ SqT K H a xs ∧ SqT K H b ys ∧ xs.length + ys.length ≤ sizeLine ∧
  (xs = [] → Q (.ref b) H) ∧ (xs ≠ [] → ys = [] → Q (.ref a) H) ∧ (xs ≠ [] → ys ≠ [] → ∀ (p : Addr) (o : Obj), H p = none → o.dict = none → Q (.ref p) (upd H p (.frz o (.tup (xs ++ ys)))))
theorem op_catF : OpR X (binaryOp .Add) (rCatF X.K) := by
  intro pins s σ H x y v u Q I rx ry h
  obtain ⟨a, b, xs, ys, rfl, rfl, ha, hb, hz, q0, q1, q2⟩ := h
  cases rx; cases ry
  obtain ⟨its, r1, p1, _⟩ := I.tuple ha
  obtain ⟨its2, r2, p2, _⟩ := I.tuple hb
  by_cases hx : xs = []
  · subst hx
    cases r1
    exact cat_tup0 p1 p2 ⟨.ref b, H, I, rfl, q0 rfl⟩
  · have hn : its ≠ [] := fun e => hx (by
      have := r1.length
      rw [e] at this
      exact List.eq_nil_of_length_eq_zero this)
    have hl : its.length + its2.length ≤ sizeLine := by rw [← r1.length, ← r2.length]; exact hz
    refine HT.cat_tup p1 p2 hn (fun e => ?_) (fun e => ?_) hl
    · refine ⟨.ref a, H, I, rfl, q1 hx ?_⟩
      exact r2.nil_iff.mp e
    · have hy : ys ≠ [] := fun z => e (r2.nil_iff.mpr z)
      refine ⟨.ref s.heap.objs.size, _, laidT (t' := s.toks) I (fun b u e => Heap.get?_push_of_some _ e) (Nat.le_refl _) (Heap.get?_push_size _ rfl) (r1.append r2) (by rw [List.length_append]; exact hz), rfl, ?_⟩
      exact q2 hx hy _ _ (I.hok.fresh (Nat.le_refl _)) rfl
theorem opv_add (hK : X.K = g.K) : OpR X (binaryOp .Add) (OpV g addD) := by
  intro pins s σ H x y v u Q I rx ry h
  obtain ⟨Φ, ρ, d, e, r, sb, rd, re, hk, q⟩ := h
  unfold addD at hk
  split at hk
  · cases hk
    cases rd.int; cases re.int
    exact op_add pins s σ H _ _ v u Q I rx ry ⟨_, _, rfl, rfl, q.int sb⟩
  · split at hk
    · cases hk
      cases rd.str; cases re.str
      refine op_add_str pins s σ H _ _ v u Q I rx ry ⟨_, _, rfl, rfl, ?_, ?_⟩
      · rw [S_len, S_len]; exact Nat.le_trans (by assumption) lim_le
      · rw [S_app]; exact q.str sb
    · cases hk
  · split at hk
    · cases hk
      obtain ⟨a, vs, rfl, t, r⟩ := rd
      obtain ⟨b, ws, rfl, t', r'⟩ := re
      refine op_cat pins s σ H _ _ v u Q I rx ry ⟨a, b, vs, ws, rfl, rfl, t, t', ?_, q.lst sb (RepL.app _ _ _ _ _ _ r r')⟩
      rw [RepL.len _ _ _ r, RepL.len _ _ _ r']; exact Nat.le_trans (by assumption) lim_le
    · cases hk
  · rename_i ds es
    split at hk
    · cases hk
      obtain ⟨a, vs, rfl, tf, t, r⟩ := rd.tup sb
      obtain ⟨b, ws, rfl, tf', t', r'⟩ := re.tup sb
      have e := RepL.len _ _ _ r
      have e' := RepL.len _ _ _ r'
      refine op_catF pins s σ H _ _ v u Q I rx ry ⟨a, b, vs, ws, rfl, rfl, by rw [hK]; exact t, by rw [hK]; exact t', ?_, fun z => ?_, fun z z' => ?_, fun _ _ => q.tup sb (RepL.app _ _ _ _ _ _ r r')⟩
      · rw [e, e']; exact Nat.le_trans (by assumption) lim_le
      · subst z
        cases ds with
        | nil => exact q.flat sb (by simp only [Rep]; exact ⟨b, ws, rfl, tf', r'⟩)
        | cons _ _ => simp at e
      · subst z'
        cases es with
        | nil => exact q.flat sb (by simp only [Rep]; exact ⟨a, vs, rfl, tf, by simpa using r⟩)
        | cons _ _ => simp at e'
    · cases hk
  · cases hk
theorem opv_sub : OpR X (binaryOp .Sub) (OpV g subD) := by
  intro pins s σ H x y v u Q I rx ry h
  obtain ⟨Φ, ρ, d, e, r, sb, rd, re, hk, q⟩ := h
  unfold subD at hk
  split at hk
  · cases hk
    cases rd.int; cases re.int
    exact op_sub pins s σ H _ _ v u Q I rx ry ⟨_, _, rfl, rfl, q.int sb⟩
  · cases hk
/-! tuple * int, the answer's make known -/
theorem tmul_one (l : Addr) (its : Array Value) (n : Nat) (dd : Option Addr) (sl : Array (Option Value)) (u : Tok) :
    Meets (Builtin.«tuple.__mul__» ⟨[.ref l, .int 1 u], []⟩) (fun _ R s => s.heap.get? l = some { cls := .type "tuple", dict := dd, data := .seq its n, slots := sl } ∧ R (.ok (.ret (Value.ref l))) s) :=
  .of_wp fun prog w A R s h => by
    obtain ⟨hp, g, d, tk, os⟩ := s
    obtain ⟨hl, h⟩ := h
    have f1 := AutoSeq1.idx_int
    have e0 : (decide ((1 : Int) < -(2 ^ 63)) || decide ((1 : Int) ≥ 2 ^ 63)) = false := by decide
    have e1 : (its.isEmpty || (1 : Int) == 1) = true := by simp
    wp_walk using AutoSeq1.wpAny_loadPart' hl
    repeat (first
      | (refine wpAny_ite_false (decide_eq_false (by rw [e0]; decide)) ?_; wp_walk using AutoSeq1.wpAny_loadPart' hl)
      | (refine wpAny_ite_true (decide_eq_true (by rw [e1])) ?_; wp_walk using AutoSeq1.wpAny_loadPart' hl))
    all_goals exact ⟨_, rfl, h⟩
def rRepF (K : PySem.W.Frag) : R2 := fun x y H Q => ∃ l k xs, x = .ref l ∧ y = .int k ∧ SqT K H l xs ∧ xs ≠ [] ∧ 1 ≤ k ∧ k ≤ 1000 ∧ xs.length ≤ 1000 ∧ (k = 1 → Q (.ref l) H) ∧
  (2 ≤ k → ∀ (p : Addr) (o : Obj), H p = none → o.dict = none → Q (.ref p) (upd H p (.frz o (.tup (List.replicate k.toNat xs).flatten))))
theorem op_repF : OpR X (binaryOp .Mult) (rRepF X.K) := by
  intro pins s σ H x y v u Q I rx ry h
  obtain ⟨l, k, xs, rfl, rfl, hT, hne, k1, k2, hz, q1, q2⟩ := h
  cases rx
  obtain ⟨t, rfl⟩ := ry
  obtain ⟨its, r, ⟨⟨cls, dd, data, sl⟩, ho, hc, n, hd⟩, hs⟩ := I.tuple hT
  simp only at hc hd
  subst hc hd
  have hlen := r.length
  have go : ∀ {R : Value → Shared → Prop}, wpAny (model X.prog X.w) X.A (call (.builtin "tuple.__mul__") [.ref l, .int k t]) R X.xe s → wpAny (model X.prog X.w) X.A (binaryOp .Mult (.ref l) (.int k t)) R X.xe s := fun {R} z =>
    wpAny_binaryOp_repeat_ref (T := "tuple") (U := "int") (by decide) ⟨_, ho, rfl⟩ (fun s' => typeIs_int s' k t) noFill_tuple_mul F.fills_int_mul F.slot_int_rmul repeat_tuple F.slot_int_index.lookup
      (call_meets F.slot_int_rmul (typeIs_int s k t) F.entry_int_rmul (F.args_int_rmul_2 _ _) (int_rmul_tuple k t l its.toArray n dd sl) ⟨ho, rfl, ⟨_, ho, rfl⟩, z⟩)
  by_cases e1 : k = 1
  · subst e1
    exact go (call_meets F.slot_tuple_mul ⟨_, ho, rfl⟩ F.entry_tuple_mul (F.args_tuple_mul_2 _ _) (tmul_one l its.toArray n dd sl t) ⟨ho, .ref l, H, I, rfl, q1 rfl⟩)
  · have e2 : 2 ≤ k := by omega
    have n0 : its ≠ [] := fun e => hne (List.eq_nil_of_length_eq_zero (by rw [hlen, e]; rfl))
    have i0 : its.toArray.isEmpty = false := by
      cases its with
      | nil => exact absurd rfl n0
      | cons _ _ => rfl
    have z0 : its.toArray.size = xs.length := by rw [List.size_toArray]; omega
    have b0 : ((its.toArray.size : Nat) : Int) * k ≤ 1000000 := by
      rw [z0]
      exact Int.le_trans (Int.mul_le_mul_of_nonneg_right (show ((xs.length : Nat) : Int) ≤ 1000 by omega) (by omega)) (by omega)
    have b1 : k.toNat * xs.length ≤ 1000000 := Nat.le_trans (Nat.mul_le_mul (show k.toNat ≤ 1000 by omega) hz) (by decide)
    have d0 : (decide (k < -(2 ^ 63)) || decide (k ≥ 2 ^ 63)) = false := by rw [decide_eq_false (by omega), decide_eq_false (by omega)]; rfl
    have d1 : (its.toArray.isEmpty || k == 1) = false := by rw [i0, beq_eq_false_iff_ne.mpr e1]; rfl
    have d2 : (decide (k ≤ 0) || its.toArray.isEmpty) = false := by rw [i0, decide_eq_false (by omega)]; rfl
    have d4 : Builtin.Tuple.tupleTooMany (((its.toArray.size : Nat) : Int) * k) = false := by
      unfold Builtin.Tuple.tupleTooMany
      exact decide_eq_false (by rw [sizeLine_eq]; omega)
    have d5 : (List.foldl (fun x1 x2 => x1 ++ x2) #[] (List.replicate k.toNat its.toArray)).size ≤ sizeLine := by
      rw [size_rep, List.size_toArray, PyProof.Rows.lm_len_rep_flat, ← hlen, sizeLine_eq]
      omega
    refine go (call_meets F.slot_tuple_mul ⟨_, ho, rfl⟩ F.entry_tuple_mul (F.args_tuple_mul_2 _ _) (tuple_mulW l its.toArray n dd sl k t d0 d1 d2 (by omega) d4 d5) ⟨ho, ?_⟩)
    rw [size_rep]
    refine ⟨.ref s.heap.objs.size, _, laidT (t' := s.toks) I (fun b ob z => Heap.get?_push_of_some _ z) (Nat.le_refl _) (Heap.get?_push_size _ rfl) (r.rep k.toNat) (by rw [PyProof.Rows.lm_len_rep_flat, sizeLine_eq]; omega), rfl, ?_⟩
    exact q2 e2 _ _ (I.hok.fresh (Nat.le_refl _)) rfl
theorem opv_mul (hK : X.K = g.K) : OpR X (binaryOp .Mult) (OpV g mulD) := by
  intro pins s σ H x y v u Q I rx ry h
  obtain ⟨Φ, ρ, d, e, r, sb, rd, re, hk, q⟩ := h
  unfold mulD at hk
  split at hk
  · split at hk
    · rename_i hs
      cases hk
      cases rd.int; cases re.int
      simp only [small, Bool.or_eq_true, Bool.and_eq_true, decide_eq_true_eq] at hs
      exact op_mul pins s σ H _ _ v u Q I rx ry ⟨_, _, rfl, rfl, hs, q.int sb⟩
    · cases hk
  · split at hk
    · rename_i hs
      cases hk
      simp only [Bool.and_eq_true, decide_eq_true_eq] at hs
      obtain ⟨a, vs, rfl, t, r⟩ := rd
      cases re.int
      have e := RepL.len _ _ _ r
      exact op_rep pins s σ H _ _ v u Q I rx ry ⟨a, _, vs, rfl, rfl, t, by omega, by omega, by rw [e]; exact Nat.le_trans hs.2 lim_le, q.lst sb (r.rep _)⟩
    · cases hk
  · rename_i ds k
    split at hk
    · rename_i hs
      cases hk
      simp only [Bool.and_eq_true, decide_eq_true_eq, Bool.not_eq_true'] at hs
      obtain ⟨⟨⟨h1, h2⟩, h3⟩, h4⟩ := hs
      obtain ⟨a, vs, rfl, tf, t, r⟩ := rd.tup sb
      cases re.int
      have e := RepL.len _ _ _ r
      have hne : vs ≠ [] := fun z => by
        rw [z] at e
        cases ds with
        | nil => cases h4
        | cons _ _ => cases e
      refine op_repF pins s σ H _ _ v u Q I rx ry ⟨a, k, vs, rfl, rfl, by rw [hK]; exact t, hne, h1, h2, by omega, fun z => ?_, fun z => ?_⟩
      · subst z
        have : repL (Int.toNat 1) ds = ds := by simp [repL]
        rw [this] at q
        exact q.flat sb (by simp only [Rep]; exact ⟨a, vs, rfl, tf, r⟩)
      · exact q.tup sb (r.rep _)
    · cases hk
  · cases hk
theorem opv_fdiv : OpR X (binaryOp .FloorDiv) (OpV g fdivD) := by
  intro pins s σ H x y v u Q I rx ry h
  obtain ⟨Φ, ρ, d, e, r, sb, rd, re, hk, q⟩ := h
  unfold fdivD at hk
  split at hk
  · split at hk
    · rename_i hs
      cases hk
      cases rd.int; cases re.int
      simp only [Bool.and_eq_true, decide_eq_true_eq] at hs
      exact op_fdiv pins s σ H _ _ v u Q I rx ry ⟨_, _, rfl, rfl, hs, q.int sb⟩
    · cases hk
  · cases hk
theorem opv_mod : OpR X (binaryOp .Mod) (OpV g modD) := by
  intro pins s σ H x y v u Q I rx ry h
  obtain ⟨Φ, ρ, d, e, r, sb, rd, re, hk, q⟩ := h
  unfold modD at hk
  split at hk
  · split at hk
    · rename_i hs
      cases hk
      cases rd.int; cases re.int
      simp only [decide_eq_true_eq] at hs
      exact op_mod pins s σ H _ _ v u Q I rx ry ⟨_, _, rfl, rfl, hs, q.int sb⟩
    · cases hk
  · cases hk
theorem opv_pow : OpR X (binaryOp .Pow) (OpV g powD) := by
  intro pins s σ H x y v u Q I rx ry h
  obtain ⟨Φ, ρ, d, e, r, sb, rd, re, hk, q⟩ := h
  unfold powD at hk
  split at hk
  · split at hk
    · rename_i hs
      cases hk
      cases rd.int; cases re.int
      simp only [small, Bool.and_eq_true, decide_eq_true_eq] at hs
      exact op_pow pins s σ H _ _ v u Q I rx ry ⟨_, _, rfl, rfl, ⟨hs.1.1, hs.1.2, by omega⟩, q.int sb⟩
    · cases hk
  · cases hk
theorem opv_cmp {op : CmpOp} {p : Int → Int → Bool} (ho : OpR X (compareOp op) (rI0 fun i j => .bl (p i j))) : OpR X (compareOp op) (OpV g (cmpD p)) := by
  intro pins s σ H x y v u Q I rx ry h
  obtain ⟨Φ, ρ, d, e, r, sb, rd, re, hk, q⟩ := h
  unfold cmpD at hk
  split at hk
  · cases hk
    cases rd.int; cases re.int
    exact ho pins s σ H _ _ v u Q I rx ry ⟨_, _, rfl, rfl, q.bl sb⟩
  · cases hk
theorem opv_eq (hK : X.K = g.K) (hu : X.A.units + 64 < cLine) : OpR X (compareOp .Eq) (OpV g fun a b => (eqD a b).map .bl) := by
  intro pins s σ H x y v u Q I rx ry h
  obtain ⟨Φ, ρ, d, e, r, sb, rd, re, hk, q⟩ := h
  dsimp only at hk
  unfold eqD at hk
  split at hk
  · rename_i hs
    cases hk
    exact op_eqD hu pins s σ H _ _ v u Q I rx ry ⟨_, _, by rw [hK]; exact rd.dp sb hs.1, by rw [hK]; exact re.dp sb hs.2, hs.1, hs.2, q.bl sb⟩
  · cases hk
theorem opv_ne (hK : X.K = g.K) (hu : X.A.units + 64 < cLine) : OpR X (compareOp .NotEq) (OpV g fun a b => (eqD a b).map fun x => .bl (!x)) := by
  intro pins s σ H x y v u Q I rx ry h
  obtain ⟨Φ, ρ, d, e, r, sb, rd, re, hk, q⟩ := h
  dsimp only at hk
  unfold eqD at hk
  split at hk
  · rename_i hs
    cases hk
    exact op_neD hu pins s σ H _ _ v u Q I rx ry ⟨_, _, by rw [hK]; exact rd.dp sb hs.1, by rw [hK]; exact re.dp sb hs.2, hs.1, hs.2, q.bl sb⟩
  · cases hk
theorem flat_rep {d : D} {v : V} (h : flatD d = true) (r : Rep g Φ H ρ d v []) : flatV v = true ∧ ∀ {e : D} {w : V}, flatD e = true → Rep g Φ H ρ e w [] → eqV w v = PyData.eqv (toP e) (toP d) := by
  cases d with
  | non => simp only [Rep] at r; rw [r.1]; refine ⟨rfl, fun {e w} he re => ?_⟩; cases e <;> simp [flatD] at he <;> (simp only [Rep] at re; rw [re.1]; rfl)
  | bl b => simp only [Rep] at r; rw [r.1]; refine ⟨rfl, fun {e w} he re => ?_⟩; cases e <;> simp [flatD] at he <;> (simp only [Rep] at re; rw [re.1]; rfl)
  | int i => simp only [Rep] at r; rw [r.1]; refine ⟨rfl, fun {e w} he re => ?_⟩; cases e <;> simp [flatD] at he <;> (simp only [Rep] at re; rw [re.1]; rfl)
  | str i => simp only [Rep] at r; rw [r.1]; refine ⟨rfl, fun {e w} he re => ?_⟩; cases e <;> simp [flatD] at he <;> (simp only [Rep] at re; rw [re.1]; rfl)
  | tup _ => simp [flatD] at h
  | lst _ _ => simp [flatD] at h
  | obj _ => simp [flatD] at h
  | kt _ => simp [flatD] at h
  | dc _ _ _ => simp [flatD] at h
theorem flat_all {d : D} {v : V} (h : flatD d = true) (r : Rep g Φ H ρ d v []) : ∀ (ds : List D) (vs : List V), ds.all flatD = true → RepL g Φ H ρ ds vs [] → vs.all flatV = true ∧ inV v vs = inL d ds
  | [], vs, _, k => by simp only [RepL] at k; rw [k.1]; exact ⟨rfl, rfl⟩
  | e :: ds, vs, a, k => by
    simp only [RepL] at k
    obtain ⟨w, vs', f1, f2, rfl, ef, r1, r2⟩ := k
    obtain ⟨rfl, rfl⟩ := List.append_eq_nil_iff.mp ef.symm
    simp only [List.all_cons, Bool.and_eq_true] at a
    obtain ⟨h1, h2⟩ := flat_all h r ds vs' a.2 r2
    refine ⟨by simp only [List.all_cons, Bool.and_eq_true]; exact ⟨(flat_rep a.1 r1).1, h1⟩, ?_⟩
    have e1 := (flat_rep h r).2 a.1 r1
    simp only [inV, inL, toPs, List.any_cons] at h2 ⊢
    rw [e1, h2]
theorem opv_in (hK : X.K = g.K) (hu : X.A.units + 65 < cLine) : OpR X (compareOp .In) (OpV g fun a b => (inD a b).map .bl) := by
  intro pins s σ H x y v u Q I rx ry h
  obtain ⟨Φ, ρ, d, e, r, sb, rd, re, hk, q⟩ := h
  dsimp only at hk
  unfold inD at hk
  split at hk
  · split at hk
    · rename_i hs
      cases hk
      exact op_inD hu pins s σ H _ _ v u Q I rx ry ⟨_, _, by rw [hK]; exact rd.dp sb hs.1, by rw [hK]; exact re.dpL sb hs.2, hs.1, hs.2, q.bl sb⟩
    · cases hk
  · split at hk
    · rename_i hs
      cases hk
      obtain ⟨a, vs, rfl, tf, t, r⟩ := re.tup sb
      have rd' : Rep g Φ H ρ d x [] := by cases d <;> first | exact rd | simp [flatD] at hs
      obtain ⟨h1, h2⟩ := flat_all hs.1 rd' _ _ hs.2 r
      exact op_in_seq pins s σ H _ _ v u Q I rx ry ⟨a, vs, rfl, .inr (by rw [hK]; exact t), (flat_rep hs.1 rd').1, h1, by rw [h2]; exact q.bl sb⟩
    · cases hk
  · split at hk
    · cases hk
      cases rd.str; cases re.str
      exact op_in_sign pins s σ H _ _ v u Q I rx ry ⟨_, _, rfl, rfl, q.bl sb⟩
    · cases hk
  · cases hk
theorem opv_notin (hK : X.K = g.K) (hu : X.A.units + 65 < cLine) : OpR X (compareOp .NotIn) (OpV g fun a b => (inD a b).map fun x => .bl (!x)) := by
  intro pins s σ H x y v u Q I rx ry h
  obtain ⟨Φ, ρ, d, e, r, sb, rd, re, hk, q⟩ := h
  dsimp only at hk
  unfold inD at hk
  split at hk
  · split at hk
    · rename_i hs
      cases hk
      exact op_notInD hu pins s σ H _ _ v u Q I rx ry ⟨_, _, by rw [hK]; exact rd.dp sb hs.1, by rw [hK]; exact re.dpL sb hs.2, hs.1, hs.2, q.bl sb⟩
    · cases hk
  · split at hk
    · rename_i hs
      cases hk
      obtain ⟨a, vs, rfl, tf, t, r⟩ := re.tup sb
      have rd' : Rep g Φ H ρ d x [] := by cases d <;> first | exact rd | simp [flatD] at hs
      obtain ⟨h1, h2⟩ := flat_all hs.1 rd' _ _ hs.2 r
      exact op_notIn_seq pins s σ H _ _ v u Q I rx ry ⟨a, vs, rfl, .inr (by rw [hK]; exact t), (flat_rep hs.1 rd').1, h1, by rw [h2]; exact q.bl sb⟩
    · cases hk
  · split at hk
    · cases hk
      cases rd.str; cases re.str
      exact op_notIn_sign pins s σ H _ _ v u Q I rx ry ⟨_, _, rfl, rfl, q.bl sb⟩
    · cases hk
  · cases hk
end
end Den
/-! Den4: subscripts, slices, built-ins, methods by values. -/
namespace Den
open PySem PySem.Spec L2
section
variable {g : Gx} {Φ H : Hp} {ρ : List Addr} {Q : VK} {X : Cx}
theorem atI_rep {ds : List D} {vs : List V} {i : Int} {r : D} (h : RepL g Φ H ρ ds vs []) (e : atI ds i = some r) : ∃ v, atI vs i = some v ∧ Rep g Φ H ρ r v [] := by
  unfold atI at e ⊢
  rw [RepL.len _ _ _ h]
  cases q : ixN ds.length i with
  | none => rw [q] at e; cases e
  | some j =>
    rw [q] at e
    exact RepL.get _ _ h j r e
theorem ixv (hK : X.K = g.K) : IxR X (OpV g idxD) := by
  intro value slice pins s σ H x y v u Q I rx ry h hp
  obtain ⟨Φ, ρ, d, e, r, sb, rd, re, hk, q⟩ := h
  unfold idxD at hk
  split at hk
  · obtain ⟨a, vs, rfl, t, rr⟩ := rd.lst sb
    cases re.int
    obtain ⟨z, e1, rz⟩ := atI_rep rr hk
    exact ix_list value slice pins s σ H _ _ v u Q I rx ry ⟨a, vs, _, z, rfl, rfl, by rw [hK]; exact t, e1, q.flat sb rz⟩ hp
  · obtain ⟨a, vs, rfl, _, t, rr⟩ := rd.tup sb
    cases re.int
    obtain ⟨z, e1, rz⟩ := atI_rep rr hk
    exact ix_tup value slice pins s σ H _ _ v u Q I rx ry ⟨a, vs, _, z, rfl, rfl, by rw [hK]; exact t, e1, q.flat sb rz⟩ hp
  · split at hk
    · rename_i hl
      cases rd.str; cases re.int
      cases ec : atI ‹List Nat› ‹Int› with
      | none => rw [ec] at hk; cases hk
      | some c =>
        rw [ec] at hk
        cases hk
        refine ix_str value slice pins s σ H _ _ v u Q I rx ry ⟨_, _, c, rfl, rfl, by rw [S_len]; exact Nat.le_trans hl lim_le, ec, q.str sb⟩ hp
    · cases hk
  · cases hk
/-- a slice, by values -/
def SlV (g : Gx) : V → Option Int → Option Int → Hp → VK → Prop := fun x lo hi H Q => ∃ (Φ : Hp) (ρ : List Addr) (d r : D), Sub Φ H ∧ PkR g Φ H ρ d x ∧ slcI d lo hi = some r ∧ Aft g Φ H ρ r Q
theorem slv (hK : X.K = g.K) : SlR X (SlV g) := by
  intro pins s σ H x v vl vu lo hi sl Q I rx hs pl pu h
  obtain ⟨Φ, ρ, d, r, sb, rd, hk, q⟩ := h
  unfold slcI at hk
  split at hk
  · cases hk
    obtain ⟨a, vs, rfl, t, rr⟩ := rd.lst sb
    exact sl_list pins s σ H _ v vl vu lo hi sl Q I rx hs pl pu ⟨a, vs, rfl, by rw [hK]; exact t, q.lst sb (rr.cut lo hi)⟩
  · cases hk
    obtain ⟨a, vs, rfl, tf, t, rr⟩ := rd.tup sb
    have rc := rr.cut lo hi
    cases rx
    rw [← hK] at t
    obtain ⟨its, r, ht, hz⟩ := I.tuple t
    have hlen : its.toArray.size = vs.length := by rw [List.size_toArray]; exact r.length.symm
    refine ⟨"tuple", _, PyProof.Rows.slot_tuple_getitem.lookup, ht.typeIs, ?_⟩
    by_cases hw : HT.sIx vs.length 0 lo = 0 ∧ HT.sIx vs.length vs.length hi = vs.length
    · refine getItem_tuple_whole ht hs pl pu (by rw [hlen]; exact hw) ⟨.ref a, H, I, rfl, q.flat sb ?_⟩
      have e : cutV vs lo hi = vs := by
        unfold cutV
        rw [hw.1, hw.2]
        simp
      rw [e] at rc
      simp only [Rep]
      exact ⟨a, vs, rfl, tf, rc⟩
    · refine HT.getItem_tuple_cut ht hs pl pu (by rw [hlen]; exact hw) ?_ (by rw [hlen]; exact hz)
      rw [hlen]
      refine ⟨.ref s.heap.objs.size, _, laidT (t' := s.toks) I (fun b ob q => Heap.get?_push_of_some _ q) (Nat.le_refl _) (Heap.get?_push_size _ rfl) ((r.drop (HT.sIx vs.length 0 lo)).take (HT.sIx vs.length vs.length hi - HT.sIx vs.length 0 lo)) (Nat.le_trans (cutV_length vs lo hi) hz), rfl, ?_⟩
      exact q.tup sb rc _ _ (I.hok.fresh (Nat.le_refl _)) rfl
  · split at hk
    · rename_i hl
      cases hk
      cases rd.str
      refine sl_str pins s σ H _ v vl vu lo hi sl Q I rx hs pl pu ⟨_, rfl, by rw [S_len]; exact Nat.le_trans hl lim_le, ?_⟩
      have e : ∀ z : List Nat, cutS ⟨z.toArray⟩ lo hi = ⟨(cutL z lo hi).toArray⟩ := fun z => by unfold cutS cutL; rw [S_len]
      rw [e]
      exact q.str sb
    · cases hk
  · cases hk
/-! ### lists of ints -/
theorem ints_rep : ∀ {ds : List D} {vs : List V} {is : List Int}, RepL g Φ H ρ ds vs [] → intsOf ds = some is → vs = is.map V.int ∧ ds = is.map D.int
  | [], vs, is, r, e => by
    simp only [intsOf] at e; cases e
    simp only [RepL] at r
    exact ⟨r.1, rfl⟩
  | d :: ds, vs, is, r, e => by
    simp only [RepL] at r
    obtain ⟨v, vs', f1, f2, rfl, ef, r1, r2⟩ := r
    obtain ⟨rfl, rfl⟩ := List.append_eq_nil_iff.mp ef.symm
    cases d <;> simp only [intsOf] at e <;> try (cases e; done)
    rename_i i
    cases q : intsOf ds with
    | none => rw [q] at e; cases e
    | some js =>
      rw [q] at e
      cases e
      obtain ⟨h1, h2⟩ := ints_rep r2 q
      simp only [Rep] at r1
      exact ⟨by rw [r1.1, h1]; rfl, by rw [h2]; rfl⟩
theorem intsOf_map : ∀ is : List Int, intsOf (is.map D.int) = some is
  | [] => rfl
  | i :: is => by show (intsOf (is.map D.int)).map (i :: ·) = _; rw [intsOf_map is]; rfl
theorem rep_ints : ∀ is : List Int, RepL g Φ H ρ (is.map D.int) (is.map V.int) []
  | [] => by simp [RepL]
  | i :: is => by
    simp only [List.map_cons, RepL]
    exact ⟨_, _, [], [], rfl, rfl, rep_int, rep_ints is⟩
theorem bls_rep : ∀ {ds : List D} {vs : List V} {is : List Bool}, RepL g Φ H ρ ds vs [] → blsOf ds = some is → vs = is.map V.bl
  | [], vs, is, r, e => by
    simp only [blsOf] at e; cases e
    simp only [RepL] at r
    exact r.1
  | d :: ds, vs, is, r, e => by
    simp only [RepL] at r
    obtain ⟨v, vs', f1, f2, rfl, ef, r1, r2⟩ := r
    obtain ⟨rfl, rfl⟩ := List.append_eq_nil_iff.mp ef.symm
    cases d <;> simp only [blsOf] at e <;> try (cases e; done)
    cases q : blsOf ds with
    | none => rw [q] at e; cases e
    | some js =>
      rw [q] at e
      cases e
      simp only [Rep] at r1
      rw [r1.1, bls_rep r2 q]; rfl
theorem insI_perm (x : Int) : ∀ l : List Int, (insI x l).Perm (x :: l)
  | [] => List.Perm.refl _
  | y :: ys => by
    unfold insI
    split
    · exact List.Perm.refl _
    · exact ((insI_perm x ys).cons y).trans (List.Perm.swap x y ys)
theorem srtI_perm : ∀ l : List Int, (srtI l).Perm l
  | [] => List.Perm.refl _
  | x :: xs => (insI_perm x (srtI xs)).trans ((srtI_perm xs).cons x)
theorem insI_rise (x : Int) : ∀ l : List Int, l.Pairwise (· ≤ ·) → (insI x l).Pairwise (· ≤ ·)
  | [], _ => List.pairwise_singleton _ _
  | y :: ys, h => by
    have h' := List.pairwise_cons.mp h
    unfold insI
    split
    · rename_i hx
      exact List.pairwise_cons.mpr ⟨fun z hz => by
        rcases List.mem_cons.mp hz with rfl | hz
        · exact hx
        · exact Int.le_trans hx (h'.1 z hz), h⟩
    · rename_i hx
      exact List.pairwise_cons.mpr ⟨fun z hz => by
        rcases List.mem_cons.mp ((insI_perm x ys).mem_iff.mp hz) with rfl | hz
        · omega
        · exact h'.1 z hz, insI_rise x ys h'.2⟩
theorem srtI_rise : ∀ l : List Int, (srtI l).Pairwise (· ≤ ·)
  | [] => List.Pairwise.nil
  | x :: xs => insI_rise x _ (srtI_rise xs)
theorem rise_uniq : ∀ {l m : List Int}, l.Pairwise (· ≤ ·) → m.Pairwise (· ≤ ·) → l.Perm m → l = m
  | [], m, _, _, p => (List.Perm.eq_nil p.symm).symm
  | x :: l, [], _, _, p => absurd p.length_eq (by simp)
  | x :: l, y :: m, hl, hm, p => by
    have a := List.pairwise_cons.mp hl
    have b := List.pairwise_cons.mp hm
    have h1 : x ≤ y := by
      rcases List.mem_cons.mp (p.mem_iff.mpr List.mem_cons_self : y ∈ x :: l) with e | e
      · omega
      · exact a.1 y e
    have h2 : y ≤ x := by
      rcases List.mem_cons.mp (p.mem_iff.mp List.mem_cons_self : x ∈ y :: m) with e | e
      · omega
      · exact b.1 x e
    have e : x = y := by omega
    subst e
    rw [rise_uniq a.2 b.2 (List.Perm.cons_inv p)]
theorem maxI_ge : ∀ (l : List Int) (m : Int), m ≤ maxI m l ∧ ∀ y ∈ l, y ≤ maxI m l
  | [], m => ⟨Int.le_refl _, fun y h => by cases h⟩
  | x :: xs, m => by
    unfold maxI
    by_cases hx : m < x
    · rw [if_pos hx]
      obtain ⟨h1, h2⟩ := maxI_ge xs x
      refine ⟨by omega, fun y hy => ?_⟩
      rcases List.mem_cons.mp hy with rfl | hy
      · exact h1
      · exact h2 y hy
    · rw [if_neg hx]
      obtain ⟨h1, h2⟩ := maxI_ge xs m
      refine ⟨h1, fun y hy => ?_⟩
      rcases List.mem_cons.mp hy with rfl | hy
      · omega
      · exact h2 y hy
theorem maxI_mem : ∀ (l : List Int) (m : Int), maxI m l = m ∨ maxI m l ∈ l
  | [], m => .inl rfl
  | x :: xs, m => by
    unfold maxI
    rcases maxI_mem xs (if m < x then x else m) with h | h
    · rw [h]
      split
      · exact .inr List.mem_cons_self
      · exact .inl rfl
    · exact .inr (List.mem_cons_of_mem _ h)
theorem rngV_rep (a b : Int) : RepL g Φ H ρ (rngL a b) (rgV a b) [] := by
  have e : rngL a b = ((List.range (b - a).toNat).map fun i => a + ((i : Nat) : Int)).map D.int := by unfold rngL; rw [List.map_map]; rfl
  have e2 : rgV a b = ((List.range (b - a).toNat).map fun i => a + ((i : Nat) : Int)).map V.int := by unfold rgV; rw [List.map_map]; rfl
  rw [e, e2]
  exact rep_ints _
/-! ### built-ins -/
theorem PkRs.one {d : D} {vs : List V} (h : PkRs g Φ H ρ [d] vs) : ∃ v, vs = [v] ∧ PkR g Φ H ρ d v := by
  cases h with
  | cons r t => cases t; exact ⟨_, rfl, r⟩
theorem PkRs.two {d e : D} {vs : List V} (h : PkRs g Φ H ρ [d, e] vs) : ∃ v w, vs = [v, w] ∧ PkR g Φ H ρ d v ∧ PkR g Φ H ρ e w := by
  cases h with
  | cons r t => obtain ⟨w, rfl, q⟩ := t.one; exact ⟨_, _, rfl, r, q⟩
theorem bi_len (hK : X.K = g.K) : CallR X (.builtin "len") (CbV g lenF) := by
  intro pins s σ H vs us Q I r h
  obtain ⟨Φ, ρ, ds, z, sb, rs, hk, q⟩ := h
  refine call_len pins s σ H vs us Q I r ?_
  unfold lenF at hk
  split at hk
  · cases hk
    obtain ⟨v, rfl, rd⟩ := rs.one
    obtain ⟨a, ws, rfl, t, rr⟩ := rd.lst sb
    exact ⟨_, _, rfl, .inl ⟨ws, by rw [hK]; exact t, rfl⟩, by rw [RepL.len _ _ _ rr]; exact q.int sb⟩
  · cases hk
    obtain ⟨v, rfl, rd⟩ := rs.one
    obtain ⟨a, ws, rfl, _, t, rr⟩ := rd.tup sb
    exact ⟨_, _, rfl, .inr ⟨ws, by rw [hK]; exact t, rfl⟩, by rw [RepL.len _ _ _ rr]; exact q.int sb⟩
  · split at hk
    · rename_i hl
      cases hk
      obtain ⟨v, rfl, rd⟩ := rs.one
      cases rd.str
      exact ⟨_, _, rfl, ⟨by rw [S_len]; exact Nat.le_trans hl lim_le, rfl⟩, by rw [S_len]; exact q.int sb⟩
    · cases hk
  · cases hk
theorem bi_abs : CallR X (.builtin "abs") (CbV g absF) := by
  intro pins s σ H vs us Q I r h
  obtain ⟨Φ, ρ, ds, z, sb, rs, hk, q⟩ := h
  unfold absF at hk
  split at hk
  · cases hk
    obtain ⟨v, rfl, rd⟩ := rs.one
    cases rd.int
    exact call_abs pins s σ H _ us Q I r ⟨_, rfl, q.int sb⟩
  · cases hk
theorem bi_max2 (hc : X.calm = true) : CallR X (.builtin "max") (CbV g max2F) := by
  intro pins s σ H vs us Q I r h
  obtain ⟨Φ, ρ, ds, z, sb, rs, hk, q⟩ := h
  unfold max2F at hk
  split at hk
  · cases hk
    obtain ⟨v, w, rfl, rd, re⟩ := rs.two
    cases rd.int; cases re.int
    exact call_max2 hc pins s σ H _ us Q I r ⟨_, _, rfl, q.int sb⟩
  · cases hk
theorem bi_min2 (hc : X.calm = true) : CallR X (.builtin "min") (CbV g min2F) := by
  intro pins s σ H vs us Q I r h
  obtain ⟨Φ, ρ, ds, z, sb, rs, hk, q⟩ := h
  unfold min2F at hk
  split at hk
  · cases hk
    obtain ⟨v, w, rfl, rd, re⟩ := rs.two
    cases rd.int; cases re.int
    exact call_min2 hc pins s σ H _ us Q I r ⟨_, _, rfl, q.int sb⟩
  · cases hk
theorem bi_maxL (hK : X.K = g.K) (hc : X.calm = true) : CallR X (.builtin "max") (CbV g maxLF) := by
  intro pins s σ H vs us Q I r h
  obtain ⟨Φ, ρ, ds, z, sb, rs, hk, q⟩ := h
  unfold maxLF at hk
  split at hk
  · split at hk
    · rename_i x xs e
      cases hk
      obtain ⟨v, rfl, rd⟩ := rs.one
      obtain ⟨a, ws, rfl, t, rr⟩ := rd.lst sb
      obtain ⟨e1, e2⟩ := ints_rep rr e
      subst e1
      refine cr_max hc pins s σ H _ us Q I r ⟨a, _, rfl, by rw [hK]; exact t, by simp, fun m hm hle => ?_⟩
      have e3 : m = maxI x xs := by
        obtain ⟨h1, h2⟩ := maxI_ge xs x
        have h3 := maxI_mem xs x
        have h4 : maxI x xs ≤ m := hle _ (by rcases h3 with h3 | h3 <;> simp [h3])
        have h5 : m ≤ maxI x xs := by
          rcases List.mem_cons.mp hm with rfl | hm
          · exact h1
          · exact h2 m hm
        omega
      rw [e3]
      exact q.int sb
    · cases hk
  · cases hk
theorem bi_int : CallR X (.type "int") (CbV g intF) := by
  intro pins s σ H vs us Q I r h
  obtain ⟨Φ, ρ, ds, z, sb, rs, hk, q⟩ := h
  unfold intF at hk
  split at hk
  · cases hk
    obtain ⟨v, rfl, rd⟩ := rs.one
    cases rd.int
    exact call_int1 pins s σ H _ us Q I r (.inl ⟨_, rfl, q.int sb⟩)
  · cases hk
    obtain ⟨v, rfl, rd⟩ := rs.one
    cases rd.bl
    exact call_int1 pins s σ H _ us Q I r (.inr ⟨_, rfl, q.int sb⟩)
  · cases hk
theorem bi_list (hK : X.K = g.K) : CallR X (.type "list") (CbV g listF) := by
  intro pins s σ H vs us Q I r h
  obtain ⟨Φ, ρ, ds, z, sb, rs, hk, q⟩ := h
  unfold listF at hk
  split at hk
  · cases hk
    obtain ⟨v, rfl, rd⟩ := rs.one
    obtain ⟨a, ws, rfl, t, rr⟩ := rd.lst sb
    exact call_list_of pins s σ H _ us Q I r ⟨_, _, rfl, .inl (by rw [hK]; exact t), q.lst sb rr⟩
  · cases hk
    obtain ⟨v, rfl, rd⟩ := rs.one
    obtain ⟨a, ws, rfl, _, t, rr⟩ := rd.tup sb
    exact call_list_of pins s σ H _ us Q I r ⟨_, _, rfl, .inr (by rw [hK]; exact t), q.lst sb rr⟩
  · cases hk
theorem bi_tuple (hK : X.K = g.K) : CallR X (.type "tuple") (CbV g tupleF) := by
  intro pins s σ H vs us Q I r h
  obtain ⟨Φ, ρ, ds, z, sb, rs, hk, q⟩ := h
  unfold tupleF at hk
  split at hk
  · cases hk
    obtain ⟨v, rfl, rd⟩ := rs.one
    obtain ⟨a, ws, rfl, t, rr⟩ := rd.lst sb
    obtain ⟨u, rfl, rx⟩ := vals1 r
    cases rx
    rw [← hK] at t
    obtain ⟨its, r', pl, hz⟩ := I.list t
    refine call_tuple_list pl.isList (fun h' kp => ?_) (by simp only [List.size_toArray]; rw [← r'.length]; exact hz)
    have I1 : Inv X pins σ H { s with heap := h' } := I.kept (t' := s.toks) kp
    refine ⟨.ref h'.objs.size, _, laidT (s := { s with heap := h' }) (t' := s.toks) I1 (fun b o e => Heap.get?_push_of_some _ e) (Nat.le_refl _) (Heap.get?_push_size _ rfl) r' hz, rfl, ?_⟩
    exact q.tup sb rr _ _ (I1.hok.fresh (Nat.le_refl _)) rfl
  · cases hk
    obtain ⟨v, rfl, rd⟩ := rs.one
    obtain ⟨a, ws, rfl, tf, t, rr⟩ := rd.tup sb
    exact call_tupleT pins s σ H _ us Q I r ⟨_, _, rfl, by rw [hK]; exact t, q.flat sb (by simp only [Rep]; exact ⟨a, ws, rfl, tf, rr⟩)⟩
  · cases hk
theorem bi_sorted (hK : X.K = g.K) : CallR X (.builtin "sorted") (CbV g sortedF) := by
  intro pins s σ H vs us Q I r h
  obtain ⟨Φ, ρ, ds, z, sb, rs, hk, q⟩ := h
  unfold sortedF at hk
  split at hk
  · split at hk
    · rename_i e
      cases hk
      obtain ⟨v, rfl, rd⟩ := rs.one
      obtain ⟨a, ws, rfl, t, rr⟩ := rd.lst sb
      obtain ⟨e1, e2⟩ := ints_rep rr e
      subst e1
      refine cr_sortedI pins s σ H _ us Q I r ⟨a, _, rfl, by rw [hK]; exact t, fun ns' p hp hs hn => ?_⟩
      rw [rise_uniq hs (srtI_rise _) (hp.trans (srtI_perm _).symm)]
      exact q.lst sb (rep_ints _) p hn
    · cases hk
  · cases hk
theorem bi_sum (hK : X.K = g.K) (hc : X.calm = true) : CallR X (.builtin "sum") (CbV g sumF) := by
  intro pins s σ H vs us Q I r h
  obtain ⟨Φ, ρ, ds, z, sb, rs, hk, q⟩ := h
  unfold sumF at hk
  split at hk
  · split at hk
    · rename_i is e
      cases hk
      obtain ⟨v, rfl, rd⟩ := rs.one
      obtain ⟨a, ws, rfl, t, rr⟩ := rd.lst sb
      obtain ⟨e1, e2⟩ := ints_rep rr e
      subst e1
      exact cr_sum hc pins s σ H _ us Q I r ⟨a, _, rfl, by rw [hK]; exact t, q.int sb⟩
    · cases hk
  · cases hk
theorem bi_all (hK : X.K = g.K) (hc : X.calm = true) : CallR X (.builtin "all") (CbV g allF) := by
  intro pins s σ H vs us Q I r h
  obtain ⟨Φ, ρ, ds, z, sb, rs, hk, q⟩ := h
  unfold allF at hk
  split at hk
  · split at hk
    · rename_i e
      cases hk
      obtain ⟨v, rfl, rd⟩ := rs.one
      obtain ⟨a, ws, rfl, t, rr⟩ := rd.lst sb
      have e1 := bls_rep rr e
      subst e1
      exact cr_all hc pins s σ H _ us Q I r ⟨a, _, rfl, by rw [hK]; exact t, q.bl sb⟩
    · cases hk
  · cases hk
/-! ### isinstance -/
theorem ty_rep {d : D} {v : V} {ty : String} (sb : Sub Φ H) (h : PkR g Φ H ρ d v) (e : tyOf d = some ty) : TyX g.K H v (.type ty) := by
  cases d <;> simp only [tyOf] at e
  · cases e; rw [h.non]; exact .base .non
  · cases e; rw [h.bl]; exact .base (.bl _)
  · cases e; rw [h.int]; exact .base (.int _)
  · cases e; rw [h.str]; exact .base (.str _)
  · cases e
    have h : Rep g Φ H ρ (.tup _) v [] := h
    simp only [Rep] at h
    obtain ⟨a, vs, rfl, t, _⟩ := h
    rcases sub_tp sb t with ⟨o, q, _⟩ | ⟨o, its, n, h1, h2, _⟩
    · exact .fTuple q
    · exact .kTuple h1 h2
  · cases e
    obtain ⟨a, vs, rfl, t, _⟩ := h.lst sb
    rcases t with (q | ⟨o, q⟩) | ⟨o, its, n, h1, h2, _⟩
    · exact .base (.lst q)
    · exact .base (.frz q)
    · exact .kList h1 h2
  · cases e
  · cases e
  · cases e
theorem bi_isi (hK : X.K = g.K) {T : String} {d r : D} {v : V} {Q : VK} {pins : List (Addr × Obj)} {s : Shared} {σ : L2.St} {us : List Value} (sb : Sub Φ H) (rd : PkR g Φ H ρ d v) (hk : isiF T [d] = some r) (q : Aft g Φ H ρ r Q)
    (I : Inv X pins σ H s) (rs : Vals [v, .ty T] us) : wpAny (model X.prog X.w) X.A (call (.builtin "isinstance") us) (EP X pins σ Q) X.xe s := by
  simp only [isiF, isiD] at hk
  cases e : tyOf d with
  | none => rw [e] at hk; cases hk
  | some t =>
    rw [e] at hk
    dsimp only at hk
    cases eb : kitB t T with
    | none => rw [eb] at hk; cases hk
    | some b =>
      rw [eb] at hk
      cases hk
      exact call_isi pins s σ H _ us Q I rs ⟨v, .ty T, _, _, b, rfl, .ty T, by rw [hK]; exact ty_rep sb rd e, kit_ty eb, q.bl sb⟩
/-! ### sorted(set(t)) -/
theorem insS_mem (x : Int) : ∀ (l : List Int) (y : Int), y ∈ insS x l ↔ y = x ∨ y ∈ l
  | [], y => by simp [insS]
  | z :: zs, y => by
    unfold insS
    split
    · simp
    · split
      · rename_i e
        subst e
        simp
      · simp only [List.mem_cons, insS_mem x zs y]
        constructor <;> (intro h; rcases h with h | h | h <;> simp [h])
theorem setI_mem : ∀ (l : List Int) (y : Int), y ∈ setI l ↔ y ∈ l
  | [], y => by simp [setI]
  | x :: xs, y => by simp only [setI, insS_mem, List.mem_cons, setI_mem xs y]
theorem insS_rise (x : Int) : ∀ l : List Int, l.Pairwise (· < ·) → (insS x l).Pairwise (· < ·)
  | [], _ => List.pairwise_singleton _ _
  | y :: ys, h => by
    have h' := List.pairwise_cons.mp h
    unfold insS
    split
    · rename_i hx
      exact List.pairwise_cons.mpr ⟨fun z hz => by
        rcases List.mem_cons.mp hz with rfl | hz
        · exact hx
        · exact Int.lt_trans hx (h'.1 z hz), h⟩
    · split
      · exact h
      · exact List.pairwise_cons.mpr ⟨fun z hz => by
          rcases (insS_mem x ys z).mp hz with rfl | hz
          · omega
          · exact h'.1 z hz, insS_rise x ys h'.2⟩
theorem setI_rise : ∀ l : List Int, (setI l).Pairwise (· < ·)
  | [] => List.Pairwise.nil
  | x :: xs => insS_rise x _ (setI_rise xs)
theorem strict_uniq : ∀ {l m : List Int}, l.Pairwise (· < ·) → m.Pairwise (· < ·) → (∀ x, x ∈ l ↔ x ∈ m) → l = m
  | [], [], _, _, _ => rfl
  | [], y :: m, _, _, h => absurd ((h y).mpr List.mem_cons_self) (by simp)
  | x :: l, [], _, _, h => absurd ((h x).mp List.mem_cons_self) (by simp)
  | x :: l, y :: m, hl, hm, h => by
    have a := List.pairwise_cons.mp hl
    have b := List.pairwise_cons.mp hm
    have e : x = y := by
      rcases List.mem_cons.mp ((h x).mp List.mem_cons_self) with e | e
      · exact e
      · rcases List.mem_cons.mp ((h y).mpr List.mem_cons_self) with e' | e'
        · exact e'.symm
        · have := a.1 y e'
          have := b.1 x e
          omega
    subst e
    rw [strict_uniq a.2 b.2 fun z => ?_]
    constructor
    · intro hz
      rcases List.mem_cons.mp ((h z).mp (List.mem_cons_of_mem _ hz)) with e | e
      · subst e
        have := a.1 z hz
        omega
      · exact e
    · intro hz
      rcases List.mem_cons.mp ((h z).mpr (List.mem_cons_of_mem _ hz)) with e | e
      · subst e
        have := b.1 z hz
        omega
      · exact e
def rSetI (K : PySem.W.Frag) (w : World) : List V → Hp → VK → Prop := fun xs H Q => ∃ (p : Addr) (ns : List Int), xs = [.ref p] ∧ SqT K H p (ns.map V.int) ∧ ns.length ≤ 50 ∧
  ∀ a c, H a = none → c ≤ ns.length → Q (.ref a) (upd H a (SetO w a (fun j => decide (j ∈ ns)) c))
theorem cr_setI (hc : X.calm = true) : CallR X (.type "set") (rSetI X.K X.w) := by
  intro pins s σ H vs us Q I r h
  obtain ⟨p, ns, rfl, hq, hl, q⟩ := h
  obtain ⟨u, rfl, rx⟩ := vals1 r
  cases rx
  obtain ⟨its, rv, pt, hz⟩ := I.tuple hq
  refine call_set_tupI ns (I.ok.hd hc) (show s.heap.IsTuple p its.toArray from pt) (by simpa using rv.ints) (by unfold scanBound; omega) fun h' tk c R1 hcn k => ?_
  have I1 : Inv X pins σ (upd H s.heap.objs.size (SetO X.w s.heap.objs.size (fun j => decide (j ∈ ns)) c)) { s with heap := h', toks := tk } :=
    I.laid k (Nat.le_refl _) (setO_new R1)
  exact ⟨.ref s.heap.objs.size, _, I1, rfl, q _ _ (I.hok.fresh (Nat.le_refl _)) hcn⟩
/-- the two calls, one behind the other -/
def rSrtSet (g : Gx) : V → Hp → VK → Prop := fun v H Q => ∃ (Φ : Hp) (ρ : List Addr) (d r : D), Sub Φ H ∧ PkR g Φ H ρ d v ∧ setSrt d = some r ∧ Aft g Φ H ρ r Q
theorem srtSet_to (hK : X.K = g.K) {v : V} {H : Hp} {Q : VK} (h : rSrtSet g v H Q) : rSetI X.K X.w [v] H fun y H1 => rSortedSet X.w [y] H1 Q := by
  obtain ⟨Φ, ρ, d, r, sb, rd, hk, q⟩ := h
  unfold setSrt at hk
  split at hk
  · split at hk
    · split at hk
      · rename_i is e hl
        cases hk
        obtain ⟨a, vs, rfl, _, t, rr⟩ := rd.tup sb
        obtain ⟨e1, e2⟩ := ints_rep rr e
        subst e1
        refine ⟨a, is, rfl, by rw [hK]; exact t, hl, fun b c hb hcn => ⟨b, _, c, rfl, upd_same, by omega, fun ns p hr hm hln hn => ?_⟩⟩
        have e3 : ns = setI is := strict_uniq hr (setI_rise _) fun x => by rw [hm, setI_mem]; simp
        subst e3
        have w1 : Grow g Φ H Φ (upd H b (SetO X.w b (fun j => decide (j ∈ is)) c)) := Grow.own sb hb
        obtain ⟨w2, r2⟩ := new_lst (g := g) (ρ := ρ) w1.sub (rep_ints (setI is)) hn
        refine q _ _ _ [p] (w1.trans w2) r2 (by simp) fun x hx => ?_
        simp only [List.mem_singleton] at hx
        subst hx
        refine .of ?_
        by_cases e : x = b
        · subst e; rw [upd_same] at hn; cases hn
        · rw [upd_ne e] at hn; exact hn
      · cases hk
    · cases hk
  · cases hk
/-! ### places -/
theorem findD_at (x : D) : ∀ (ds : List D) (k j : Nat), findD x ds k = some j → k ≤ j ∧ (∃ d, ds[j - k]? = some d ∧ PyData.eqv (toP d) (toP x) = true) ∧ ∀ m d, m < j - k → ds[m]? = some d → PyData.eqv (toP d) (toP x) = false
  | [], k, j, h => by simp [findD] at h
  | d :: ds, k, j, h => by
    unfold findD at h
    split at h
    · rename_i hd
      cases h
      exact ⟨Nat.le_refl _, ⟨d, by simp, hd⟩, fun m _ hm => by omega⟩
    · rename_i hd
      obtain ⟨h1, ⟨e, h2, h3⟩, h4⟩ := findD_at x ds (k + 1) j h
      refine ⟨by omega, ⟨e, ?_, h3⟩, fun m e' hm he => ?_⟩
      · rw [show j - k = (j - (k + 1)) + 1 by omega]; exact h2
      · cases m with
        | zero => simp at he; subst he; simpa using hd
        | succ m => exact h4 m e' (by omega) (by simpa using he)
theorem toPs_get : ∀ (ds : List D) (m : Nat), (toPs ds)[m]? = (ds[m]?).map toP
  | [], m => by simp [toPs]
  | d :: ds, 0 => by simp [toPs]
  | d :: ds, m + 1 => by simp only [toPs, List.getElem?_cons_succ]; exact toPs_get ds m
theorem mt_lindex (hK : X.K = g.K) (hu : X.A.units + 65 < cLine) : MtR X "list.index" (fun x xs H Q => ∃ (Φ : Hp) (ρ : List Addr) (o : Ow) (ds : List D) (e r : D) (y : V), xs = [y] ∧ Sub Φ H ∧ PkR g Φ H ρ (.lst o ds) x ∧ PkR g Φ H ρ e y ∧ mtF .lindex (.lst o ds) e = some r ∧ Aft g Φ H ρ r Q) := by
  intro pins s σ H x xs v us Q I rx rs h
  obtain ⟨Φ, ρ, o, ds, e, r, y, rfl, sb, rd, re, hk, q⟩ := h
  simp only [mtF] at hk
  split at hk
  · rename_i hs
    cases ef : findD e ds 0 with
    | none => rw [ef] at hk; cases hk
    | some j =>
      rw [ef] at hk
      cases hk
      obtain ⟨_, ⟨d, h2, h3⟩, h4⟩ := findD_at e ds 0 j ef
      have rl := rd.dpL sb hs.2
      obtain ⟨a, vs, rfl, t, rr⟩ := rd.lst sb
      refine mt_indexD hu pins s σ H _ _ v us Q I rx rs ⟨a, y, _, _, j, toP d, rfl, rfl, by rw [hK]; exact rl, by rw [hK]; exact re.dp sb hs.1, hs.2, hs.1, ?_, h3, fun m z hm hz => ?_, q.int sb⟩
      · rw [toPs_get]; simp at h2; rw [h2]; rfl
      · rw [toPs_get] at hz
        cases em : ds[m]? with
        | none => rw [em] at hz; cases hz
        | some d' => rw [em] at hz; cases hz; exact h4 m d' (by omega) em
  · cases hk
theorem mt_tindex (hK : X.K = g.K) : MtR X "tuple.index" (fun x xs H Q => ∃ (Φ : Hp) (ρ : List Addr) (ds : List D) (e r : D) (y : V), xs = [y] ∧ Sub Φ H ∧ PkR g Φ H ρ (.tup ds) x ∧ PkR g Φ H ρ e y ∧ mtF .tindex (.tup ds) e = some r ∧ Aft g Φ H ρ r Q) := by
  intro pins s σ H x xs v us Q I rx rs h
  obtain ⟨Φ, ρ, ds, e, r, y, rfl, sb, rd, re, hk, q⟩ := h
  simp only [mtF] at hk
  split at hk
  · rename_i hs
    cases ef : findD e ds 0 with
    | none => rw [ef] at hk; cases hk
    | some j =>
      rw [ef] at hk
      cases hk
      obtain ⟨_, ⟨d, h2, h3⟩, h4⟩ := findD_at e ds 0 j ef
      obtain ⟨a, vs, rfl, _, t, rr⟩ := rd.tup sb
      have re' : Rep g Φ H ρ e y [] := by cases e <;> first | exact re | simp [flatD] at hs
      have fa := flat_all hs.1 re' _ _ hs.2 rr
      have fy := (flat_rep hs.1 re').1
      cases rx
      obtain ⟨u, rfl, ru⟩ := vals1 rs
      rw [← hK] at t
      obtain ⟨its, rv, pl, hz⟩ := I.tuple t
      obtain ⟨⟨cls, dd, dt, sl⟩, ho, hc, n, hd⟩ := pl
      simp only at hc hd
      subst hc
      subst hd
      have hlen : its.length = ds.length := by rw [← rv.length, RepL.len _ _ _ rr]
      have key : ∀ (m : Nat) (hm : m < its.toArray.size), ∃ d', ds[m]? = some d' ∧ eqU y (its.toArray[m]) = PyData.eqv (toP d') (toP e) := fun m hm => by
        have hm' : m < ds.length := by simpa [hlen] using hm
        obtain ⟨w, hw, rw'⟩ := RepL.get _ _ rr m ds[m] (List.getElem?_eq_getElem hm')
        obtain ⟨u', hu', ru'⟩ := rv.get hw
        have fd : flatD ds[m] = true := List.all_eq_true.mp hs.2 _ (List.getElem_mem hm')
        have eu : its.toArray[m] = u' := by
          have := (List.getElem?_eq_some_iff.mp hu').2
          simpa using this
        refine ⟨ds[m], List.getElem?_eq_getElem hm', ?_⟩
        rw [eu, eqU_of ru' (flat_rep fd rw').1]
        exact (flat_rep hs.1 re').2 fd rw'
      have hj : j < its.toArray.size := by
        have := (List.getElem?_eq_some_iff.mp h2).1
        simp; omega
      refine call_meets PySem.F.slot_tuple_index ⟨_, ho, rfl⟩ PySem.F.entry_tuple_index (PySem.F.args_tuple_index_2 _ _) (TI.tuple_indexAt a its.toArray n dd sl u (eqU y) j hj ?_ ?_)
        ⟨ho, fun w hw => mem_eqAt ru fy rv fa.1 w (by simpa using hw), ⟨.int (j : Nat), H, I.tok _, ⟨_, rfl⟩, q.int sb⟩⟩
      · obtain ⟨d', h5, h6⟩ := key j hj
        simp at h2
        rw [h2] at h5
        cases h5
        rw [h6]; exact h3
      · intro m hm hmj
        obtain ⟨d', h5, h6⟩ := key m hm
        rw [h6]
        exact h4 m d' (by omega) h5
  · cases hk
end
end Den
/-! Den5: readings of evaluations. -/
namespace Den
open PySem PySem.Spec L2
/-- an exception as it lies behind the raise -/
def XAt (g : Gx) (Φ H : Hp) (ρ : List Addr) (x : Exn) (cls : Value) (dd : Option Addr) : Prop :=
  cls = .ref (g.cl x.cls) ∧ (x.pay ≠ [] → ∃ a vs, dd = some a ∧ H a = some (.xd ((x.pay.map (·.1)).zip vs)) ∧ RepL g Φ H ρ (x.pay.map (·.2)) vs [])
def PX (g : Gx) (E : XK) (Φ H : Hp) (ρ : List Addr) (F : Addr → Prop) (x : Exn) : Prop :=
  ∀ Φ' H' ρ' cls dd, Stp Φ H ρ F Φ' H' ρ' → Sub Φ' H' → XAt g Φ' H' ρ' x cls dd → E cls dd H'
/-- what is to follow an evaluation's end -/
def PV (g : Gx) (E : XK) (Φ H : Hp) (ρ : List Addr) (F : Addr → Prop) (σ : L2.St) (r : Ex D) (Q : VK) : Prop := match r with
  | .val d s' => ∀ Φ' H' ρ' v f fs', Stp Φ H ρ F Φ' H' ρ' → Ok g Φ' H' ρ' s' σ fs' (fadd f F) → Vl g Φ' H' ρ' d v f F → Q v H'
  | .exc x => PX g E Φ H ρ F x
def EvR (g : Gx) (E : XK) (m : M D) : TE := fun σ H Q => ∃ Φ ρ s fs F r, Ok g Φ H ρ s σ fs F ∧ m s = some r ∧ PV g E Φ H ρ F σ r Q
/-- an operand in hand: shared, or a name to be looked at -/
def Pend (g : Gx) (Φ : Hp) (ρ : List Addr) (σ : L2.St) (c : C) (o : Option D) (v : V) : Prop := match o with
  | some d => (∃ d', d = fz d') ∧ Rep g Φ (fun _ => none) ρ d v []
  | none => ∃ i, c = .var i ∧ σ[i]? = some (some v)
def PO' (g : Gx) (E : XK) (Φ H : Hp) (ρ : List Addr) (F : Addr → Prop) (σ : L2.St) (c : C) (r : Ex (Option D)) (Q : VK) : Prop := match r with
  | .val o s' => ∀ Φ' H' ρ' v fs', Stp Φ H ρ F Φ' H' ρ' → Ok g Φ' H' ρ' s' σ fs' F → Pend g Φ' ρ' σ c o v → Q v H'
  | .exc x => PX g E Φ H ρ F x
def OpdR (g : Gx) (E : XK) (c : C) (m : M (Option D)) : TE := fun σ H Q => ∃ Φ ρ s fs F r, Ok g Φ H ρ s σ fs F ∧ m s = some r ∧ PO' g E Φ H ρ F σ c r Q
/-- a test -/
def PT' (g : Gx) (E : XK) (Φ H : Hp) (ρ : List Addr) (F : Addr → Prop) (σ : L2.St) (r : Ex D) (Q : Bool → Hp → Prop) : Prop := match r with
  | .val d s' => ∃ b, d = .bl b ∧ ∀ Φ' H' ρ' fs', Stp Φ H ρ F Φ' H' ρ' → Ok g Φ' H' ρ' s' σ fs' F → Q b H'
  | .exc x => PX g E Φ H ρ F x
def TtR (g : Gx) (E : XK) (m : M D) : TT := fun σ H Q => ∃ Φ ρ s fs F r, Ok g Φ H ρ s σ fs F ∧ m s = some r ∧ PT' g E Φ H ρ F σ r Q
section
variable {g : Gx} {E : XK} {Φ Φ1 Φ' H H1 H' : Hp} {ρ ρ1 ρ' : List Addr} {F F1 : Addr → Prop} {σ : L2.St} {s : S} {fs : Ix → List Addr} {Q : VK}
theorem bnd_some {α β : Type} {m : M α} {k : α → M β} {s : S} {r : Ex β} (h : bnd m k s = some r) : (∃ a s1, m s = some (.val a s1) ∧ k a s1 = some r) ∨ ∃ x, m s = some (.exc x) ∧ r = .exc x := by
  unfold bnd at h
  split at h
  · exact .inl ⟨_, _, by assumption, h⟩
  · cases h; exact .inr ⟨_, by assumption, rfl⟩
  · cases h
theorem ret_some {α : Type} {a : α} {s : S} {r : Ex α} (h : ret a s = some r) : r = .val a s := by cases h; rfl
theorem lift_some {α : Type} {o : Option α} {s : S} {r : Ex α} (h : lift o s = some r) : ∃ a, o = some a ∧ r = .val a s := by
  unfold lift at h
  split at h
  · cases h; exact ⟨_, rfl, rfl⟩
  · cases h
theorem PX.shift {x : Exn} (h : PX g E Φ H ρ F x) (st : Stp Φ H ρ F Φ1 H1 ρ1) (hF : ∀ a, F a → F1 a) : PX g E Φ1 H1 ρ1 F1 x :=
  fun Φ' H' ρ' cls dd st' sb xa => h Φ' H' ρ' cls dd (st.trans st' hF) sb xa
theorem fadd_less {f : List Addr} (hF : ∀ a, F a → F1 a) : ∀ a, fadd f F a → fadd f F1 a := fun a h => h.imp_right (hF a)
theorem Vl.less {d : D} {v : V} {f : List Addr} (h : Vl g Φ H ρ d v f F1) (hF : ∀ a, F a → F1 a) : Vl g Φ H ρ d v f F := ⟨h.rep, h.nd, fun a ha z => h.out a ha (hF a z)⟩
theorem PV.shift {r : Ex D} (h : PV g E Φ H ρ F σ r Q) (st : Stp Φ H ρ F Φ1 H1 ρ1) (hF : ∀ a, F a → F1 a) : PV g E Φ1 H1 ρ1 F1 σ r Q := by
  cases r with
  | val d s' => exact fun Φ' H' ρ' v f fs' st' ok vl => h Φ' H' ρ' v f fs' (st.trans st' hF) (ok.less (fadd_less hF)) (vl.less hF)
  | exc x => exact PX.shift h st hF
theorem EvR.val {m : M D} {d : D} {s1 : S} (k : Ok g Φ H ρ s σ fs F) (h : m s = some (.val d s1))
    (hv : ∀ Φ' H' ρ' v f fs', Stp Φ H ρ F Φ' H' ρ' → Ok g Φ' H' ρ' s1 σ fs' (fadd f F) → Vl g Φ' H' ρ' d v f F → Q v H') : EvR g E m σ H Q := ⟨Φ, ρ, s, fs, F, _, k, h, hv⟩
theorem EvR.exc {m : M D} {x : Exn} (k : Ok g Φ H ρ s σ fs F) (h : m s = some (.exc x)) (hx : PX g E Φ H ρ F x) : EvR g E m σ H Q := ⟨Φ, ρ, s, fs, F, _, k, h, hx⟩
theorem OpdR.val {c : C} {m : M (Option D)} {o : Option D} {s1 : S} (k : Ok g Φ H ρ s σ fs F) (h : m s = some (.val o s1))
    (hv : ∀ Φ' H' ρ' v fs', Stp Φ H ρ F Φ' H' ρ' → Ok g Φ' H' ρ' s1 σ fs' F → Pend g Φ' ρ' σ c o v → Q v H') : OpdR g E c m σ H Q := ⟨Φ, ρ, s, fs, F, _, k, h, hv⟩
theorem OpdR.exc {c : C} {m : M (Option D)} {x : Exn} (k : Ok g Φ H ρ s σ fs F) (h : m s = some (.exc x)) (hx : PX g E Φ H ρ F x) : OpdR g E c m σ H Q := ⟨Φ, ρ, s, fs, F, _, k, h, hx⟩
theorem TtR.val {m : M D} {b : Bool} {s1 : S} {Q : Bool → Hp → Prop} (k : Ok g Φ H ρ s σ fs F) (h : m s = some (.val (.bl b) s1))
    (hv : ∀ Φ' H' ρ' fs', Stp Φ H ρ F Φ' H' ρ' → Ok g Φ' H' ρ' s1 σ fs' F → Q b H') : TtR g E m σ H Q := ⟨Φ, ρ, s, fs, F, _, k, h, b, rfl, hv⟩
theorem TtR.exc {m : M D} {x : Exn} {Q : Bool → Hp → Prop} (k : Ok g Φ H ρ s σ fs F) (h : m s = some (.exc x)) (hx : PX g E Φ H ρ F x) : TtR g E m σ H Q := ⟨Φ, ρ, s, fs, F, _, k, h, hx⟩
theorem Pend.stp {c : C} {o : Option D} {v : V} (p : Pend g Φ ρ σ c o v) (st : Stp Φ H ρ F Φ1 H1 ρ1) : Pend g Φ1 ρ1 σ c o v := by
  cases o with
  | some d => exact ⟨p.1, Rep.mono st.ext st.pre d v [] (fun a ha => by cases ha) p.2⟩
  | none => exact p
/-- a value that was just made, nothing else touched -/
theorem Ok.aft {d : D} (k : Ok g Φ H ρ s σ fs F) (h : PV g E Φ H ρ F σ (.val d s) Q) : Aft g Φ H ρ d Q := fun Φ' H' v f w r nd nf => by
  have h' : ∀ a ∈ f, ∀ b, Owd Φ H b → a ≠ b := fun a ha b hb e => by
    subst e
    obtain ⟨_, u, hu, nt⟩ := hb
    obtain ⟨ps, z⟩ := nf a ha u hu
    exact nt ps z
  refine h Φ' H' ρ v f fs (k.gstp w) ((k.grow w).wide (Rep.at d v f r) fun a ha x hx => h' a ha a (k.at x a hx) rfl) ⟨r, nd, fun a ha hF => h' a ha a (k.fr a hF) rfl⟩
theorem Ok.view {d : D} {i : Nat} (k : Ok g Φ H ρ s σ fs F) (q : s.sl[i]? = some (some d)) :
    ∃ v Φ' fs', σ[i]? = some (some v) ∧ Stp Φ H ρ F Φ' H ρ ∧ Ok g Φ' H ρ (setS s i (some (shal d))) σ fs' F ∧ PkR g Φ' H ρ (fz d) v := by
  have other : (∀ ds, d ≠ .lst .own ds) → ∃ v Φ' fs', σ[i]? = some (some v) ∧ Stp Φ H ρ F Φ' H ρ ∧ Ok g Φ' H ρ (setS s i (some (shal d))) σ fs' F ∧ PkR g Φ' H ρ (fz d) v := fun hn => by
    obtain ⟨v, Φ', fs', e1, st, ok, r⟩ := k.share q
    have e : shal d = fz d := by unfold shal; split <;> first | rfl | exact absurd rfl (hn _)
    exact ⟨v, Φ', fs', e1, st, by rw [e]; exact ok, PkR.of ok.sub r⟩
  cases d with
  | lst o ds =>
    cases o with
    | own =>
      obtain ⟨v, e1, r, k2⟩ := k.take q
      have hi : i < s.sl.length := (List.getElem?_eq_some_iff.mp q).1
      obtain ⟨rr, nd, out⟩ := r
      simp only [Rep] at rr
      obtain ⟨a, vs, f', rfl, ha, na, ef, rl⟩ := rr
      rw [ef] at nd out k2
      have nd' := List.nodup_cons.mp nd
      have nf : ∀ b ∈ f', Φ b = none := fun b hb => (RepL.at _ _ _ rl b hb).1
      have k3 : Ok g (frzP Φ H f') H ρ { s with sl := s.sl.set i none } σ (updI fs (.inl i) []) (fadd [a] F) := by
        refine (k2.less (F := fadd [a] F) fun b hb => ?_).over (frzP_ext nf) (frzP_sub k.sub fun b hb => (RepL.at _ _ _ rl b hb).nt) k.tab fun b hb => ⟨rfl, ?_⟩
        · rcases hb with hb | hb
          · simp only [List.mem_singleton] at hb
            subst hb
            exact .inl List.mem_cons_self
          · exact .inr hb
        · rcases hb with hb | ⟨x, hb⟩
          · rcases hb with hb | hb
            · simp only [List.mem_singleton] at hb
              subst hb
              rw [frzP_out nd'.1]; exact na
            · rw [frzP_out fun z => out b (List.mem_cons_of_mem _ z) hb]; exact (k.fr b hb).1
          · rw [frzP_out fun z => k2.out x b hb (.inl (List.mem_cons_of_mem _ z))]; exact (k2.at x b hb).1
      have rl' := RepL.fz (frzP_ext nf) ds vs f' (fun b hb => frzP_in hb) rl
      have vl : Vl g (frzP Φ H f') H ρ (.lst .own (fzL ds)) (.ref a) [a] F := by
        refine ⟨?_, by simp, fun b hb => by simp only [List.mem_singleton] at hb; subst hb; exact out b List.mem_cons_self⟩
        simp only [Rep]
        exact ⟨a, vs, [], rfl, ha, by rw [frzP_out nd'.1]; exact na, rfl, rl'⟩
      have k4 := k3.put (i := i) vl (by simpa using hi) e1
      simp only [List.set_set] at k4
      refine ⟨.ref a, _, _, e1, frz_stp nf (fun b hb => out b (List.mem_cons_of_mem _ hb)) k.nF, k4, ?_⟩
      show PkR g (frzP Φ H f') H ρ (.lst .fz (fzL ds)) (.ref a)
      exact ⟨a, vs, rfl, ha, rl'⟩
    | fz => exact other fun ds e => by cases e
    | ro => exact other fun ds e => by cases e
  | non => exact other fun ds e => by cases e
  | bl _ => exact other fun ds e => by cases e
  | int _ => exact other fun ds e => by cases e
  | str _ => exact other fun ds e => by cases e
  | tup _ => exact other fun ds e => by cases e
  | obj _ => exact other fun ds e => by cases e
  | kt _ => exact other fun ds e => by cases e
  | dc _ _ _ => exact other fun ds e => by cases e
theorem fill1_ok {c : C} {o : Option D} {v : V} {r : Ex D} (k : Ok g Φ H ρ s σ fs F) (p : Pend g Φ ρ σ c o v) (h : fill1 c o s = some r) :
    ∃ d s' Φ' fs', r = .val d s' ∧ Stp Φ H ρ F Φ' H ρ ∧ Ok g Φ' H ρ s' σ fs' F ∧ PkR g Φ' H ρ d v := by
  cases o with
  | some d =>
    cases ret_some h
    obtain ⟨⟨d', rfl⟩, rp⟩ := p
    exact ⟨_, s, Φ, fs, rfl, Stp.refl k.nF, k, PkR.of k.sub (Rep.mono (fun _ _ h => h) (List.prefix_refl ρ) _ _ _ (fun a ha => by cases ha) rp)⟩
  | none =>
    obtain ⟨i, rfl, hv⟩ := p
    simp only [fill1, Den.view] at h
    split at h
    · rename_i d q
      cases h
      obtain ⟨v', Φ', fs', e1, st, ok, pk⟩ := k.view q
      rw [hv] at e1
      cases e1
      exact ⟨_, _, Φ', fs', rfl, st, ok, pk⟩
    · cases h
theorem PkR.stp {d : D} {v : V} (p : PkR g Φ H ρ d v) (st : Stp Φ H ρ F Φ' H ρ) : PkR g Φ' H ρ d v := p.mono st.ext
end
/-- weaker readings -/
theorem pe_imp {X : Cx} {e : Expr} {t t' : TE} (h : PE X e t) (k : ∀ σ H Q, t' σ H Q → t σ H Q) : PE X e t' := ⟨fun pins s σ H Q I q => h.run pins s σ H Q I (k σ H Q q)⟩
theorem pt_imp {X : Cx} {e : Expr} {t t' : TT} (h : PT X e t) (k : ∀ σ H Q, t' σ H Q → t σ H Q) : PT X e t' := ⟨fun pins s σ H Q I q => h.run pins s σ H Q I (k σ H Q q)⟩
theorem pw_imp {X : Cx} {e : Expr} {t t' : TT} (h : PW X e t) (k : ∀ σ H Q, t' σ H Q → t σ H Q) : PW X e t' := ⟨fun w pins s σ H Q I q => h.run w pins s σ H Q I (k σ H Q q)⟩
theorem pa_imp {X : Cx} {e : List Expr} {t t' : TA} (h : PA X e t) (k : ∀ σ H Q, t' σ H Q → t σ H Q) : PA X e t' := ⟨fun p pins s σ H Q I q => h.run p pins s σ H Q I (k σ H Q q)⟩
theorem ps_imp {X : Cx} {e : Stmt} {t t' : TS} (h : PS X e t) (k : ∀ D σ H, t' D σ H → t D σ H) : PS X e t' := ⟨fun pins s σ H D I q => h.run pins s σ H D I (k D σ H q)⟩
theorem pss_imp {X : Cx} {e : List Stmt} {t t' : TS} (h : PSs X e t) (k : ∀ D σ H, t' D σ H → t D σ H) : PSs X e t' := ⟨fun pins s σ H D I q => h.run pins s σ H D I (k D σ H q)⟩
theorem pi_imp {X : Cx} {tg e : Expr} {t t' : TI} (h : PI X tg e t) (k : ∀ σ H Q, t' σ H Q → t σ H Q) : PI X tg e t' := ⟨fun pins s σ H Q I q => h.run pins s σ H Q I (k σ H Q q)⟩
section
variable {g : Gx} {E : XK} {X : Cx}
/-- an expression as an operand -/
theorem opd_ev {c : C} {e : Expr} {m : M D} (hc : isVar c = false) (h : PE X e (EvR g E m)) : PE X e (OpdR g E c (opd c m)) := pe_imp h fun σ H Q h => by
  obtain ⟨Φ, ρ, s, fs, F, r, k, hm, p⟩ := h
  simp only [opd, hc, Bool.false_eq_true, if_false] at hm
  rcases bnd_some hm with ⟨d, s1, h1, h2⟩ | ⟨x, h1, rfl⟩
  · cases ret_some h2
    refine EvR.val k h1 fun Φ' H' ρ' v f fs' st ok vl => ?_
    obtain ⟨ok2, st2, rp⟩ := ok.frz vl
    exact p _ _ _ v fs' (st.trans st2 fun _ h => h) ok2 ⟨⟨d, rfl⟩, Rep.mono (fun _ _ h => h) (List.prefix_refl _) _ _ _ (fun a ha => by cases ha) rp⟩
  · exact EvR.exc k h1 p
theorem opd_var {i : Nat} {e : Expr} {m : M D} (h : PE X e (tVar i)) : PE X e (OpdR g E (.var i) (opd (.var i) m)) := pe_imp h fun σ H Q h => by
  obtain ⟨Φ, ρ, s, fs, F, r, k, hm, p⟩ := h
  have hm : hasV (.var i) s = some r := hm
  simp only [hasV] at hm
  split at hm
  · rename_i d q
    cases hm
    obtain ⟨v, e1, _⟩ := k.slot i d q
    exact ⟨v, e1, p Φ H ρ v fs (Stp.refl k.nF) k ⟨i, rfl, e1⟩⟩
  · cases hm
theorem ev_var {i : Nat} {e : Expr} (h : PE X e (tVar i)) : PE X e (EvR g E (rdV i)) := pe_imp h fun σ H Q h => by
  obtain ⟨Φ, ρ, s, fs, F, r, k, hm, p⟩ := h
  simp only [rdV] at hm
  split at hm
  · rename_i d q
    cases hm
    obtain ⟨v, Φ', fs', e1, st, ok, rp⟩ := k.share q
    exact ⟨v, e1, p Φ' H ρ v [] fs' st (ok.wide (fun a ha => by cases ha) fun a ha => by cases ha) ⟨rp, List.nodup_nil, fun a ha => by cases ha⟩⟩
  · cases hm
theorem ev_mv {i : Nat} {e : Expr} (h : PE X e (tVar i)) : PE X e (EvR g E (mvV i)) := pe_imp h fun σ H Q h => by
  obtain ⟨Φ, ρ, s, fs, F, r, k, hm, p⟩ := h
  simp only [mvV] at hm
  split at hm
  · rename_i d q
    cases hm
    obtain ⟨v, e1, vl, ok⟩ := k.take q
    exact ⟨v, e1, p Φ H ρ v _ _ (Stp.refl k.nF) ok vl⟩
  · cases hm
theorem ev_cst {d : D} {v : V} {e : Expr} (h : PE X e (tC v)) (hr : ∀ Φ H ρ, Rep g Φ H ρ d v []) : PE X e (EvR g E (ret d)) := pe_imp h fun σ H Q h => by
  obtain ⟨Φ, ρ, s, fs, F, r, k, hm, p⟩ := h
  cases ret_some hm
  exact p Φ H ρ v [] fs (Stp.refl k.nF) (k.wide (fun a ha => by cases ha) fun a ha => by cases ha) ⟨hr _ _ _, List.nodup_nil, fun a ha => by cases ha⟩
theorem ev_stuck {e : Expr} : PE X e (EvR g E stuck) := ⟨fun pins s σ H Q I h => by obtain ⟨Φ, ρ, s, fs, F, r, k, hm, p⟩ := h; cases hm⟩
theorem tt_stuck {e : Expr} : PT X e (TtR g E stuck) := ⟨fun pins s σ H Q I h => by obtain ⟨Φ, ρ, s, fs, F, r, k, hm, p⟩ := h; cases hm⟩
/-- one operand, then an operation by value -/
theorem un_to {c : C} {m : M (Option D)} {n : D → Option D} {σ : L2.St} {H : Hp} {Q : VK} (h : EvR g E (bnd m fun x => bnd (fill1 c x) fun d => lift (n d)) σ H Q) {K : V → Hp → VK → Prop}
    (hK : ∀ Φ ρ H d r v, Sub Φ H → PkR g Φ H ρ d v → n d = some r → Aft g Φ H ρ r Q → K v H Q) : OpdR g E c m σ H fun v H1 => K v H1 Q := by
  obtain ⟨Φ, ρ, s, fs, F, r, k, hm, p⟩ := h
  rcases bnd_some hm with ⟨o, s1, h1, h2⟩ | ⟨x, h1, rfl⟩
  · refine OpdR.val k h1 fun Φ1 H1 ρ1 v fs1 st1 k1 pd => ?_
    rcases bnd_some h2 with ⟨d, s2, h3, h4⟩ | ⟨x, h3, rfl⟩
    · obtain ⟨d', s', Φ2, fs2, e, st2, k2, pk⟩ := fill1_ok k1 pd h3
      cases e
      obtain ⟨z, e1, rfl⟩ := lift_some h4
      exact hK _ _ _ _ _ _ k2.sub pk e1 (k2.aft (p.shift (st1.trans st2 fun _ h => h) fun _ h => h))
    · obtain ⟨_, _, _, _, e, _⟩ := fill1_ok k1 pd h3
      cases e
  · exact OpdR.exc k h1 p
/-- two operands, then an operation by values -/
theorem bin_to {a b : C} {m m' : M (Option D)} {n : D → D → Option D} {σ : L2.St} {H : Hp} {Q : VK} (h : EvR g E (bnd m fun x => bnd m' fun y => bnd (fill1 a x) fun d => bnd (fill1 b y) fun e => lift (n d e)) σ H Q) :
    tOp (OpV g n) (OpdR g E a m) (OpdR g E b m') σ H Q := by
  obtain ⟨Φ, ρ, s, fs, F, r, k, hm, p⟩ := h
  rcases bnd_some hm with ⟨o, s1, h1, h2⟩ | ⟨x, h1, rfl⟩
  · refine OpdR.val k h1 fun Φ1 H1 ρ1 v fs1 st1 k1 pd => ?_
    rcases bnd_some h2 with ⟨o', s2, h3, h4⟩ | ⟨x, h3, rfl⟩
    · refine OpdR.val k1 h3 fun Φ2 H2 ρ2 w fs2 st2 k2 pd' => ?_
      rcases bnd_some h4 with ⟨d, s3, h5, h6⟩ | ⟨x, h5, rfl⟩
      · obtain ⟨_, _, Φ3, fs3, e, st3, k3, pk⟩ := fill1_ok k2 (pd.stp st2) h5
        cases e
        rcases bnd_some h6 with ⟨d', s4, h7, h8⟩ | ⟨x, h7, rfl⟩
        · obtain ⟨_, _, Φ4, fs4, e, st4, k4, pk'⟩ := fill1_ok k3 (pd'.stp st3) h7
          cases e
          obtain ⟨z, e1, rfl⟩ := lift_some h8
          exact ⟨Φ4, ρ2, d, d', z, k4.sub, pk.stp st4, pk', e1, k4.aft (p.shift (((st1.trans st2 fun _ h => h).trans st3 fun _ h => h).trans st4 fun _ h => h) fun _ h => h)⟩
        · obtain ⟨_, _, _, _, e, _⟩ := fill1_ok k3 (pd'.stp st3) h7
          cases e
      · obtain ⟨_, _, _, _, e, _⟩ := fill1_ok k2 (pd.stp st2) h5
        cases e
    · exact OpdR.exc k1 h3 (PX.shift p st1 fun _ h => h)
  · exact OpdR.exc k h1 p
/-- a value as a test -/
theorem tt_of {m : M D} {σ : L2.St} {H : Hp} {Q : Bool → Hp → Prop} (h : TtR g E m σ H Q) : EvR g E m σ H fun x H1 => ∃ c, x = .bl c ∧ Q c H1 := by
  obtain ⟨Φ, ρ, s, fs, F, r, k, hm, p⟩ := h
  cases r with
  | exc x => exact EvR.exc k hm p
  | val d s' =>
    obtain ⟨b, rfl, q⟩ := p
    refine EvR.val k hm fun Φ' H' ρ' v f fs' st ok vl => ?_
    have e := vl.rep
    simp only [Rep] at e
    obtain ⟨rfl, rfl⟩ := e
    exact ⟨b, rfl, q Φ' H' ρ' fs' st ok.drop⟩
theorem pt_of {e : Expr} {m : M D} (h : PE X e (EvR g E m)) (he : ∀ whole, isTrue e X.env whole = (do let v ← whole; standAt e.pos; holding [v] (truthy v))) : PT X e (TtR g E m) := pt_imp (pt_val h he) fun σ H Q q => tt_of q
/-- and, or, not -/
theorem tt_and {m m' : M D} {σ : L2.St} {H : Hp} {Q : Bool → Hp → Prop} (h : TtR g E (bnd m fun d => match d with | .bl true => m' | .bl false => ret (.bl false) | _ => stuck) σ H Q) : tAnd (TtR g E m) (TtR g E m') σ H Q := by
  obtain ⟨Φ, ρ, s, fs, F, r, k, hm, p⟩ := h
  rcases bnd_some hm with ⟨d, s1, h1, h2⟩ | ⟨x, h1, rfl⟩
  · split at h2
    · refine TtR.val k h1 fun Φ1 H1 ρ1 fs1 st1 k1 => ?_
      refine iteT ⟨Φ1, ρ1, s1, fs1, F, r, k1, h2, ?_⟩
      cases r with
      | exc x => exact PX.shift p st1 fun _ h => h
      | val d' s' =>
        obtain ⟨b, rfl, q⟩ := p
        exact ⟨b, rfl, fun Φ' H' ρ' fs' st ok => q Φ' H' ρ' fs' (st1.trans st fun _ h => h) ok⟩
    · cases ret_some h2
      refine TtR.val k h1 fun Φ1 H1 ρ1 fs1 st1 k1 => ?_
      obtain ⟨b, e, q⟩ := p
      cases e
      exact iteF (q Φ1 H1 ρ1 fs1 st1 k1)
    · cases h2
  · exact TtR.exc k h1 p
theorem tt_or {m m' : M D} {σ : L2.St} {H : Hp} {Q : Bool → Hp → Prop} (h : TtR g E (bnd m fun d => match d with | .bl true => ret (.bl true) | .bl false => m' | _ => stuck) σ H Q) : tOr (TtR g E m) (TtR g E m') σ H Q := by
  obtain ⟨Φ, ρ, s, fs, F, r, k, hm, p⟩ := h
  rcases bnd_some hm with ⟨d, s1, h1, h2⟩ | ⟨x, h1, rfl⟩
  · split at h2
    · cases ret_some h2
      refine TtR.val k h1 fun Φ1 H1 ρ1 fs1 st1 k1 => ?_
      obtain ⟨b, e, q⟩ := p
      cases e
      exact iteT (q Φ1 H1 ρ1 fs1 st1 k1)
    · refine TtR.val k h1 fun Φ1 H1 ρ1 fs1 st1 k1 => ?_
      refine iteF ⟨Φ1, ρ1, s1, fs1, F, r, k1, h2, ?_⟩
      cases r with
      | exc x => exact PX.shift p st1 fun _ h => h
      | val d' s' =>
        obtain ⟨b, rfl, q⟩ := p
        exact ⟨b, rfl, fun Φ' H' ρ' fs' st ok => q Φ' H' ρ' fs' (st1.trans st fun _ h => h) ok⟩
    · cases h2
  · exact TtR.exc k h1 p
theorem tt_not {m : M D} {σ : L2.St} {H : Hp} {Q : Bool → Hp → Prop} (h : TtR g E (bnd m fun d => lift (notD d)) σ H Q) : tNot (TtR g E m) σ H Q := by
  obtain ⟨Φ, ρ, s, fs, F, r, k, hm, p⟩ := h
  rcases bnd_some hm with ⟨d, s1, h1, h2⟩ | ⟨x, h1, rfl⟩
  · obtain ⟨z, e1, rfl⟩ := lift_some h2
    unfold notD at e1
    split at e1
    · cases e1
      refine TtR.val k h1 fun Φ1 H1 ρ1 fs1 st1 k1 => ?_
      obtain ⟨b, e, q⟩ := p
      cases e
      exact q Φ1 H1 ρ1 fs1 st1 k1
    · cases e1
  · exact TtR.exc k h1 p
/-- a bool in hand -/
theorem Vl.isBl {Φ H : Hp} {ρ : List Addr} {b : Bool} {v : V} {f : List Addr} {F : Addr → Prop} (h : Vl g Φ H ρ (.bl b) v f F) : v = .bl b ∧ f = [] := by
  have e := h.rep
  simpa only [Rep] using e
theorem ev_and {m m' : M D} {σ : L2.St} {H : Hp} {Q : VK} (h : EvR g E (bnd m fun d => match d with | .bl true => m' | .bl false => ret (.bl false) | _ => stuck) σ H Q) : tAndV (EvR g E m) (EvR g E m') σ H Q := by
  obtain ⟨Φ, ρ, s, fs, F, r, k, hm, p⟩ := h
  rcases bnd_some hm with ⟨d, s1, h1, h2⟩ | ⟨x, h1, rfl⟩
  · split at h2
    · refine EvR.val k h1 fun Φ1 H1 ρ1 v f fs1 st1 k1 vl => ?_
      obtain ⟨rfl, rfl⟩ := vl.isBl
      exact ⟨true, rfl, iteT ⟨Φ1, ρ1, s1, fs1, F, r, k1.drop, h2, p.shift st1 fun _ h => h⟩⟩
    · cases ret_some h2
      refine EvR.val k h1 fun Φ1 H1 ρ1 v f fs1 st1 k1 vl => ?_
      obtain ⟨rfl, rfl⟩ := vl.isBl
      exact ⟨false, rfl, iteF (p Φ1 H1 ρ1 _ _ fs1 st1 k1 vl)⟩
    · cases h2
  · exact EvR.exc k h1 p
theorem ev_or {m m' : M D} {σ : L2.St} {H : Hp} {Q : VK} (h : EvR g E (bnd m fun d => match d with | .bl true => ret (.bl true) | .bl false => m' | _ => stuck) σ H Q) : tOrV (EvR g E m) (EvR g E m') σ H Q := by
  obtain ⟨Φ, ρ, s, fs, F, r, k, hm, p⟩ := h
  rcases bnd_some hm with ⟨d, s1, h1, h2⟩ | ⟨x, h1, rfl⟩
  · split at h2
    · cases ret_some h2
      refine EvR.val k h1 fun Φ1 H1 ρ1 v f fs1 st1 k1 vl => ?_
      obtain ⟨rfl, rfl⟩ := vl.isBl
      exact ⟨true, rfl, iteT (p Φ1 H1 ρ1 _ _ fs1 st1 k1 vl)⟩
    · refine EvR.val k h1 fun Φ1 H1 ρ1 v f fs1 st1 k1 vl => ?_
      obtain ⟨rfl, rfl⟩ := vl.isBl
      exact ⟨false, rfl, iteF ⟨Φ1, ρ1, s1, fs1, F, r, k1.drop, h2, p.shift st1 fun _ h => h⟩⟩
    · cases h2
  · exact EvR.exc k h1 p
theorem ev_not {m : M D} {σ : L2.St} {H : Hp} {Q : VK} (h : EvR g E (bnd m fun d => lift (notD d)) σ H Q) : tNotV (EvR g E m) σ H Q := by
  obtain ⟨Φ, ρ, s, fs, F, r, k, hm, p⟩ := h
  rcases bnd_some hm with ⟨d, s1, h1, h2⟩ | ⟨x, h1, rfl⟩
  · obtain ⟨z, e1, rfl⟩ := lift_some h2
    unfold notD at e1
    split at e1
    · cases e1
      refine EvR.val k h1 fun Φ1 H1 ρ1 v f fs1 st1 k1 vl => ?_
      obtain ⟨rfl, rfl⟩ := vl.isBl
      exact ⟨_, rfl, p Φ1 H1 ρ1 _ [] fs1 st1 k1 ⟨rep_bl, List.nodup_nil, fun a ha => by cases ha⟩⟩
    · cases e1
  · exact EvR.exc k h1 p
theorem ev_ite {m m1 m2 : M D} {σ : L2.St} {H : Hp} {Q : VK} (h : EvR g E (bnd m fun d => match d with | .bl true => m1 | .bl false => m2 | _ => stuck) σ H Q) : tIf (TtR g E m) (EvR g E m1) (EvR g E m2) σ H Q := by
  obtain ⟨Φ, ρ, s, fs, F, r, k, hm, p⟩ := h
  rcases bnd_some hm with ⟨d, s1, h1, h2⟩ | ⟨x, h1, rfl⟩
  · split at h2
    · exact TtR.val k h1 fun Φ1 H1 ρ1 fs1 st1 k1 => iteT ⟨Φ1, ρ1, s1, fs1, F, r, k1, h2, p.shift st1 fun _ h => h⟩
    · exact TtR.val k h1 fun Φ1 H1 ρ1 fs1 st1 k1 => iteF ⟨Φ1, ρ1, s1, fs1, F, r, k1, h2, p.shift st1 fun _ h => h⟩
    · cases h2
  · exact TtR.exc k h1 p
end
end Den
/-! Den6: argument lists, displays, built-ins called, methods, lists changed. -/
namespace Den
open PySem PySem.Spec L2
structure VlL (g : Gx) (Φ H : Hp) (ρ : List Addr) (ds : List D) (vs : List V) (f : List Addr) (F : Addr → Prop) : Prop where
  rep : RepL g Φ H ρ ds vs f
  nd : f.Nodup
  out : ∀ a ∈ f, ¬ F a
inductive Pends (g : Gx) (Φ : Hp) (ρ : List Addr) (σ : L2.St) : Cs → List (Option D) → List V → Prop
  | nil : Pends g Φ ρ σ .nil [] []
  | cons {a : C} {as : Cs} {o : Option D} {os : List (Option D)} {v : V} {vs : List V} : Pend g Φ ρ σ a o v → Pends g Φ ρ σ as os vs → Pends g Φ ρ σ (.cons a as) (o :: os) (v :: vs)
def EvsR (g : Gx) (E : XK) (m : M (List D)) : TA := fun σ H Q => ∃ Φ ρ s fs F r, Ok g Φ H ρ s σ fs F ∧ m s = some r ∧ match r with
  | .val ds s' => ∀ Φ' H' ρ' vs f fs', Stp Φ H ρ F Φ' H' ρ' → Ok g Φ' H' ρ' s' σ fs' (fadd f F) → VlL g Φ' H' ρ' ds vs f F → Q vs H'
  | .exc x => PX g E Φ H ρ F x
def PksR (g : Gx) (E : XK) (cs : Cs) (m : M (List (Option D))) : TA := fun σ H Q => ∃ Φ ρ s fs F r, Ok g Φ H ρ s σ fs F ∧ m s = some r ∧ match r with
  | .val os s' => ∀ Φ' H' ρ' vs fs', Stp Φ H ρ F Φ' H' ρ' → Ok g Φ' H' ρ' s' σ fs' F → Pends g Φ' ρ' σ cs os vs → Q vs H'
  | .exc x => PX g E Φ H ρ F x
def FzR (g : Gx) (E : XK) (m : M (List D)) : TA := fun σ H Q => ∃ Φ ρ s fs F r, Ok g Φ H ρ s σ fs F ∧ m s = some r ∧ match r with
  | .val ds s' => ∀ Φ' H' ρ' vs fs', Stp Φ H ρ F Φ' H' ρ' → Ok g Φ' H' ρ' s' σ fs' F → RepL g Φ' (fun _ => none) ρ' ds vs [] → Q vs H'
  | .exc x => PX g E Φ H ρ F x
section
variable {g : Gx} {E : XK} {X : Cx} {Φ Φ1 Φ' H H1 H' : Hp} {ρ ρ1 ρ' : List Addr} {F F1 : Addr → Prop} {σ : L2.St} {s : S} {fs : Ix → List Addr} {Q : VK}
theorem RepL.any {ds : List D} {vs : List V} (r : RepL g Φ H ρ ds vs []) : RepL g Φ H' ρ ds vs [] := r.nil_mono fun _ _ h => h
theorem Rep.any {d : D} {v : V} (r : Rep g Φ H ρ d v []) : Rep g Φ H' ρ d v [] := r.nil_mono fun _ _ h => h
theorem RepL.sh {ds : List D} {vs : List V} (r : RepL g Φ H ρ ds vs []) (st : Stp Φ H1 ρ F Φ' H' ρ') : RepL g Φ' H ρ' ds vs [] := RepL.mono st.ext st.pre ds vs [] (fun a ha => by cases ha) r
theorem Rep.sh {d : D} {v : V} (r : Rep g Φ H ρ d v []) (st : Stp Φ H1 ρ F Φ' H' ρ') : Rep g Φ' H ρ' d v [] := Rep.mono st.ext st.pre d v [] (fun a ha => by cases ha) r
theorem Pends.stp {cs : Cs} {os : List (Option D)} {vs : List V} (p : Pends g Φ ρ σ cs os vs) (st : Stp Φ H ρ F Φ' H' ρ') : Pends g Φ' ρ' σ cs os vs := by
  induction p with
  | nil => exact .nil
  | cons p _ ih => exact .cons (p.stp st) ih
theorem Ok.nof (k : Ok g Φ H ρ s σ fs F) : Ok g Φ H ρ s σ fs (fadd [] F) := k.wide (fun a ha => by cases ha) fun a ha => by cases ha
theorem evs_nil {σ : L2.St} {H : Hp} {Q : List V → Hp → Prop} (h : EvsR g E (ret []) σ H Q) : tNil σ H Q := by
  obtain ⟨Φ, ρ, s, fs, F, r, k, hm, p⟩ := h
  cases ret_some hm
  exact p Φ H ρ [] [] fs (Stp.refl k.nF) k.nof ⟨by simp only [RepL]; exact ⟨trivial, trivial⟩, List.nodup_nil, fun a ha => by cases ha⟩
theorem evs_cons {m : M D} {m' : M (List D)} {σ : L2.St} {H : Hp} {Q : List V → Hp → Prop} (h : EvsR g E (bnd m fun d => bnd m' fun ds => ret (d :: ds)) σ H Q) : tCons (EvR g E m) (EvsR g E m') σ H Q := by
  obtain ⟨Φ, ρ, s, fs, F, r, k, hm, p⟩ := h
  rcases bnd_some hm with ⟨d, s1, h1, h2⟩ | ⟨x, h1, rfl⟩
  · refine EvR.val k h1 fun Φ1 H1 ρ1 v f fs1 st1 k1 vl => ?_
    rcases bnd_some h2 with ⟨ds, s2, h3, h4⟩ | ⟨x, h3, rfl⟩
    · cases ret_some h4
      refine ⟨Φ1, ρ1, s1, fs1, fadd f F, _, k1, h3, fun Φ2 H2 ρ2 vs f' fs2 st2 k2 vs2 => ?_⟩
      have m1 : ∀ a, fadd (f ++ f') F a → fadd f' (fadd f F) a := fun a ha => by
        rcases ha with ha | ha
        · rcases List.mem_append.mp ha with ha | ha
          · exact .inr (.inl ha)
          · exact .inl ha
        · exact .inr (.inr ha)
      refine p Φ2 H2 ρ2 (v :: vs) (f ++ f') fs2 (st1.trans st2 fun _ h => .inr h) (k2.less m1) ⟨?_, ?_, fun a ha => ?_⟩
      · simp only [RepL]
        exact ⟨v, vs, f, f', rfl, rfl, vl.rep.stp st2 fun a ha => .inl ha, vs2.rep⟩
      · exact List.nodup_append.mpr ⟨vl.nd, vs2.nd, fun a ha b hb e => vs2.out b hb (.inl (e ▸ ha))⟩
      · rcases List.mem_append.mp ha with ha | ha
        · exact vl.out a ha
        · exact fun z => vs2.out a ha (.inr z)
    · exact ⟨Φ1, ρ1, s1, fs1, fadd f F, _, k1, h3, PX.shift p st1 fun _ h => .inr h⟩
  · exact EvR.exc k h1 p
theorem fz_nil {σ : L2.St} {H : Hp} {Q : List V → Hp → Prop} (h : FzR g E (ret []) σ H Q) : tNil σ H Q := by
  obtain ⟨Φ, ρ, s, fs, F, r, k, hm, p⟩ := h
  cases ret_some hm
  exact p Φ H ρ [] fs (Stp.refl k.nF) k (by simp only [RepL]; exact ⟨trivial, trivial⟩)
theorem fz_cons {m : M D} {m' : M (List D)} {σ : L2.St} {H : Hp} {Q : List V → Hp → Prop} (h : FzR g E (bnd m fun d => bnd m' fun ds => ret (fz d :: ds)) σ H Q) : tCons (EvR g E m) (FzR g E m') σ H Q := by
  obtain ⟨Φ, ρ, s, fs, F, r, k, hm, p⟩ := h
  rcases bnd_some hm with ⟨d, s1, h1, h2⟩ | ⟨x, h1, rfl⟩
  · refine EvR.val k h1 fun Φ1 H1 ρ1 v f fs1 st1 k1 vl => ?_
    obtain ⟨k1', st1', rv⟩ := k1.frz vl
    have st := st1.trans st1' fun _ h => h
    rcases bnd_some h2 with ⟨ds, s2, h3, h4⟩ | ⟨x, h3, rfl⟩
    · cases ret_some h4
      refine ⟨_, ρ1, s1, fs1, F, _, k1', h3, fun Φ2 H2 ρ2 vs fs2 st2 k2 vs2 => ?_⟩
      refine p Φ2 H2 ρ2 (v :: vs) fs2 (st.trans st2 fun _ h => h) k2 ?_
      simp only [RepL]
      exact ⟨v, vs, [], [], rfl, rfl, (rv.sh st2).any, vs2⟩
    · exact ⟨_, ρ1, s1, fs1, F, _, k1', h3, PX.shift p st fun _ h => h⟩
  · exact EvR.exc k h1 p
theorem pks_nil {σ : L2.St} {H : Hp} {Q : List V → Hp → Prop} (h : PksR g E .nil (ret []) σ H Q) : tNil σ H Q := by
  obtain ⟨Φ, ρ, s, fs, F, r, k, hm, p⟩ := h
  cases ret_some hm
  exact p Φ H ρ [] fs (Stp.refl k.nF) k .nil
theorem pks_cons {a : C} {as : Cs} {m : M (Option D)} {m' : M (List (Option D))} {σ : L2.St} {H : Hp} {Q : List V → Hp → Prop} (h : PksR g E (.cons a as) (bnd m fun o => bnd m' fun os => ret (o :: os)) σ H Q) :
    tCons (OpdR g E a m) (PksR g E as m') σ H Q := by
  obtain ⟨Φ, ρ, s, fs, F, r, k, hm, p⟩ := h
  rcases bnd_some hm with ⟨d, s1, h1, h2⟩ | ⟨x, h1, rfl⟩
  · refine OpdR.val k h1 fun Φ1 H1 ρ1 v fs1 st1 k1 pd => ?_
    rcases bnd_some h2 with ⟨ds, s2, h3, h4⟩ | ⟨x, h3, rfl⟩
    · cases ret_some h4
      exact ⟨Φ1, ρ1, s1, fs1, F, _, k1, h3, fun Φ2 H2 ρ2 vs fs2 st2 k2 vs2 => p Φ2 H2 ρ2 (v :: vs) fs2 (st1.trans st2 fun _ h => h) k2 (.cons (pd.stp st2) vs2)⟩
    · exact ⟨Φ1, ρ1, s1, fs1, F, _, k1, h3, PX.shift p st1 fun _ h => h⟩
  · exact OpdR.exc k h1 p
theorem opd_fz {c : C} {e : Expr} {m : M D} (h : PE X e (EvR g E m)) : PE X e (OpdR g E c (bnd m fun d => ret (some (fz d)))) := pe_imp h fun σ H Q h => by
  obtain ⟨Φ, ρ, s, fs, F, r, k, hm, p⟩ := h
  rcases bnd_some hm with ⟨d, s1, h1, h2⟩ | ⟨x, h1, rfl⟩
  · cases ret_some h2
    refine EvR.val k h1 fun Φ' H' ρ' v f fs' st ok vl => ?_
    obtain ⟨ok2, st2, rp⟩ := ok.frz vl
    exact p _ _ _ v fs' (st.trans st2 fun _ h => h) ok2 ⟨⟨d, rfl⟩, rp.any⟩
  · exact EvR.exc k h1 p
theorem opd_has {i : Nat} {e : Expr} (h : PE X e (tVar i)) : PE X e (OpdR g E (.var i) (hasV (.var i))) := opd_var (m := stuck) h
theorem fillP_ok : ∀ {as : Cs} {os : List (Option D)} {vs : List V} {Φ H : Hp} {s : S} {fs : Ix → List Addr} {r : Ex (List D)}, Ok g Φ H ρ s σ fs F → Pends g Φ ρ σ as os vs → fillP as os s = some r →
    ∃ ds s' Φ' fs', r = .val ds s' ∧ Stp Φ H ρ F Φ' H ρ ∧ Ok g Φ' H ρ s' σ fs' F ∧ PkRs g Φ' H ρ ds vs
  | _, _, _, Φ, H, s, fs, r, k, .nil, h => by
    cases ret_some h
    exact ⟨[], s, Φ, fs, rfl, Stp.refl k.nF, k, .nil⟩
  | _, _, _, Φ, H, s, fs, r, k, .cons pd ps, h => by
    unfold fillP at h
    rcases bnd_some h with ⟨d, s1, h1, h2⟩ | ⟨x, h1, rfl⟩
    · obtain ⟨_, _, Φ1, fs1, e, st1, k1, pk⟩ := fill1_ok k pd h1
      cases e
      rcases bnd_some h2 with ⟨ds, s2, h3, h4⟩ | ⟨x, h3, rfl⟩
      · cases ret_some h4
        obtain ⟨_, _, Φ2, fs2, e, st2, k2, pks⟩ := fillP_ok k1 (ps.stp st1) h3
        cases e
        exact ⟨_, _, Φ2, fs2, rfl, st1.trans st2 fun _ h => h, k2, .cons (pk.stp st2) pks⟩
      · obtain ⟨_, _, _, _, e, _⟩ := fillP_ok k1 (ps.stp st1) h3
        cases e
    · obtain ⟨_, _, _, _, e, _⟩ := fill1_ok k pd h1
      cases e
theorem bi_to {as : Cs} {m : M (List (Option D))} {n : List D → Option D} {σ : L2.St} {H : Hp} {Q : VK} (h : EvR g E (bnd m fun os => bnd (fillP as os) fun ds => lift (n ds)) σ H Q) : tCB (CbV g n) (PksR g E as m) σ H Q := by
  obtain ⟨Φ, ρ, s, fs, F, r, k, hm, p⟩ := h
  rcases bnd_some hm with ⟨os, s1, h1, h2⟩ | ⟨x, h1, rfl⟩
  · refine ⟨Φ, ρ, s, fs, F, _, k, h1, fun Φ1 H1 ρ1 vs fs1 st1 k1 ps => ?_⟩
    rcases bnd_some h2 with ⟨ds, s2, h3, h4⟩ | ⟨x, h3, rfl⟩
    · obtain ⟨_, _, Φ2, fs2, e, st2, k2, pks⟩ := fillP_ok k1 ps h3
      cases e
      obtain ⟨z, e1, rfl⟩ := lift_some h4
      exact ⟨Φ2, ρ1, ds, z, k2.sub, pks, e1, k2.aft (p.shift (st1.trans st2 fun _ h => h) fun _ h => h)⟩
    · obtain ⟨_, _, _, _, e, _⟩ := fillP_ok k1 ps h3
      cases e
  · exact ⟨Φ, ρ, s, fs, F, _, k, h1, p⟩
/-! ### displays -/
def tTupF (t : TA) : TE := fun σ H Q => t σ H fun xs H1 => xs.length ≤ sizeLine ∧ ∀ (p : Addr) (o : Obj), H1 p = none → o.dict = none → Q (.ref p) (upd H1 p (.frz o (.tup xs)))
theorem pe_tupF {es : List Expr} {pos : Pos} {t : TA} {x1 : Nat} (h : PA X es t) : PE X (.Tuple es x1 pos) (tTupF t) :=
  ⟨fun pins s σ H Q I hq => wpAny_Tuple_spliced (L2.thn (h.run pos pins s σ H _ I hq) fun us s1 z => by
    obtain ⟨xs, H1, I1, r, hz, q⟩ := z
    refine ⟨by rw [← r.length]; exact hz, .ref s1.heap.objs.size, _, laidT (t' := s1.toks) I1 (fun b u e => Heap.get?_push_of_some _ e) (Nat.le_refl _) (Heap.get?_push_size _ rfl) r hz, rfl, ?_⟩
    exact q _ _ (I1.hok.fresh (Nat.le_refl _)) rfl)⟩
def PlnO (u : HO) : Prop := (∀ ps, u ≠ .tbl ps) ∧ ∀ φ, u ≠ .ext φ
theorem pln_lst {vs : List V} : PlnO (.lst vs) := ⟨fun _ => HO.noConfusion, fun _ => HO.noConfusion⟩
theorem tabs_wr {T : List (Addr × Str)} {a : Addr} {u o : HO} (t : LamX.Tabs T H) (hu : H a = some u) (hp : PlnO u) : LamX.Tabs T (upd H a o) := fun p hpT => by
  obtain ⟨ps, h1, h2, h3⟩ := t p hpT
  have n1 : p.1 ≠ a := fun z => by rw [z, hu] at h1; cases h1; exact hp.1 ps rfl
  refine ⟨ps, by rw [upd_ne n1]; exact h1, h2, fun pos cv hc => ?_⟩
  obtain ⟨c, e1, e2⟩ := h3 pos cv hc
  have n2 : c ≠ a := fun z => by
    rw [z, hu] at e2
    unfold LamX.CodeO at e2
    exact hp.2 _ (Option.some.inj e2)
  exact ⟨c, e1, by rw [upd_ne n2]; exact e2⟩
/-- a new object that holds values in hand -/
theorem Ok.lay {p : Addr} {o : HO} (k : Ok g Φ H ρ s σ fs F) (n : H p = none) (nt : ∀ ps, o ≠ .tbl ps) : Ok g Φ (upd H p o) ρ s σ fs (fadd [p] F) ∧ Stp Φ H ρ F Φ (upd H p o) ρ ∧ ¬ F p ∧ Φ p = none := by
  have w : Grow g Φ H Φ (upd H p o) := Grow.own k.sub n
  have nf : ¬ F p := fun z => by obtain ⟨u, e⟩ := (k.fr p z).ex; rw [n] at e; cases e
  refine ⟨(k.grow w).wide (fun a ha => ?_) fun a ha x hx => ?_, k.gstp w, nf, sub_none k.sub n⟩
  · simp only [List.mem_singleton] at ha
    subst ha
    exact ⟨sub_none k.sub n, _, upd_same, nt⟩
  · simp only [List.mem_singleton] at ha
    subst ha
    obtain ⟨u, e⟩ := (k.at x a hx).ex
    rw [n] at e; cases e
theorem Ok.layS {p : Addr} {o : HO} (k : Ok g Φ H ρ s σ fs F) (n : H p = none) (nt : ∀ ps, o ≠ .tbl ps) : Ok g (upd Φ p o) (upd H p o) ρ s σ fs F ∧ Stp Φ H ρ F (upd Φ p o) (upd H p o) ρ :=
  ⟨k.grow (Grow.shared k.sub n nt), k.gstp (Grow.shared k.sub n nt)⟩
theorem tup_to {m : M (List D)} {σ : L2.St} {H : Hp} {Q : VK} (h : EvR g E (bnd m fun ds => if ds.length ≤ lim then ret (.tup ds) else stuck) σ H Q) : tTupF (EvsR g E m) σ H Q := by
  obtain ⟨Φ, ρ, s, fs, F, r, k, hm, p⟩ := h
  rcases bnd_some hm with ⟨ds, s1, h1, h2⟩ | ⟨x, h1, rfl⟩
  · refine ⟨Φ, ρ, s, fs, F, _, k, h1, fun Φ1 H1 ρ1 vs f fs1 st1 k1 vl => ?_⟩
    have hl := RepL.len _ _ _ vl.rep
    split at h2
    · rename_i hz
      cases ret_some h2
      refine ⟨by rw [hl]; exact Nat.le_trans hz lim_le, fun q o hq hd => ?_⟩
      obtain ⟨k2, st2⟩ := k1.layS (o := .frz o (.tup vs)) hq fun _ => HO.noConfusion
      refine p _ _ ρ1 (.ref q) f fs1 (st1.trans st2 fun _ h => .inr h) k2 ⟨?_, vl.nd, vl.out⟩
      simp only [Rep]
      exact ⟨q, vs, rfl, .inl ⟨o, upd_same, hd⟩, vl.rep.stp st2 fun a ha => .inl ha⟩
    · cases h2
  · exact ⟨Φ, ρ, s, fs, F, _, k, h1, p⟩
theorem lst_to {m : M (List D)} {σ : L2.St} {H : Hp} {Q : VK} (h : EvR g E (bnd m fun ds => if ds.length ≤ lim then ret (.lst .own ds) else stuck) σ H Q) : tLst (EvsR g E m) σ H Q := by
  obtain ⟨Φ, ρ, s, fs, F, r, k, hm, p⟩ := h
  rcases bnd_some hm with ⟨ds, s1, h1, h2⟩ | ⟨x, h1, rfl⟩
  · refine ⟨Φ, ρ, s, fs, F, _, k, h1, fun Φ1 H1 ρ1 vs f fs1 st1 k1 vl => ?_⟩
    have hl := RepL.len _ _ _ vl.rep
    split at h2
    · rename_i hz
      cases ret_some h2
      refine ⟨by rw [hl]; exact Nat.le_trans hz lim_le, fun q hq => ?_⟩
      obtain ⟨k2, st2, nf, np⟩ := k1.lay (o := .lst vs) hq fun _ => HO.noConfusion
      refine p _ _ ρ1 (.ref q) (q :: f) fs1 (st1.trans st2 fun _ h => .inr h) (k2.less fun a ha => ?_) ⟨?_, ?_, fun a ha => ?_⟩
      · rcases ha with ha | ha
        · rcases List.mem_cons.mp ha with rfl | ha
          · exact .inl List.mem_cons_self
          · exact .inr (.inl ha)
        · exact .inr (.inr ha)
      · simp only [Rep]
        exact ⟨q, vs, f, rfl, upd_same, np, rfl, vl.rep.stp st2 fun a ha => .inl ha⟩
      · exact List.nodup_cons.mpr ⟨fun z => nf (.inl z), vl.nd⟩
      · rcases List.mem_cons.mp ha with rfl | ha
        · exact fun z => nf (.inr z)
        · exact vl.out a ha
    · cases h2
  · exact ⟨Φ, ρ, s, fs, F, _, k, h1, p⟩
/-! ### a list in its slot is changed -/
theorem RepL.pick : ∀ (ds : List D) (vs : List V) (f : List Addr) (i : Nat) (d : D), RepL g Φ H ρ ds vs f → ds[i]? = some d →
    ∃ v f1 f2, vs[i]? = some v ∧ Rep g Φ H ρ d v f1 ∧ RepL g Φ H ρ (ds.eraseIdx i) (vs.eraseIdx i) f2 ∧ f.Perm (f1 ++ f2)
  | [], _, _, i, d, _, h => by simp at h
  | x :: ds, _, _, 0, d, r, h => by
    simp only [RepL] at r
    obtain ⟨v, vs', f1, f2, rfl, rfl, r1, r2⟩ := r
    simp at h
    subst h
    exact ⟨v, f1, f2, rfl, r1, r2, List.Perm.refl _⟩
  | x :: ds, _, _, i + 1, d, r, h => by
    simp only [RepL] at r
    obtain ⟨v, vs', f1, f2, rfl, rfl, r1, r2⟩ := r
    obtain ⟨w, g1, g2, e1, q1, q2, q3⟩ := RepL.pick ds vs' f2 i d r2 (by simpa using h)
    refine ⟨w, g1, f1 ++ g2, by simpa using e1, q1, ?_, ?_⟩
    · simp only [List.eraseIdx_cons_succ, RepL]
      exact ⟨v, _, f1, g2, rfl, rfl, r1, q2⟩
    · refine (List.Perm.append_left f1 q3).trans ?_
      rw [← List.append_assoc, ← List.append_assoc]
      exact List.Perm.append_right g2 List.perm_append_comm
theorem Ok.wr {a : Addr} {o : HO} {f : List Addr} (k : Ok g Φ H ρ s σ fs (fadd f F)) (ha : a ∈ f) {u : HO} (hu : H a = some u) (hp : PlnO u) (ho : PlnO o) : Ok g Φ (upd H a o) ρ s σ fs (fadd f F) := by
  have n : Φ a = none := (k.fr a (.inl ha)).1
  refine ⟨fun b u e => ⟨(k.sub b u e).1, ?_⟩, tabs_wr k.tab hu hp, fun b hb => ⟨(k.fr b hb).1, ?_⟩, k.len, fun i d q => ?_, k.slot0, k.obl, fun m x q => ?_, k.obj0, k.nd, k.sep, k.out⟩
  · have hne : b ≠ a := fun z => by rw [z, n] at e; cases e
    rw [upd_ne hne]; exact (k.sub b u e).2
  · by_cases e : b = a
    · subst e; exact ⟨_, upd_same, ho.1⟩
    · rw [upd_ne e]; exact (k.fr b hb).2
  · obtain ⟨v, e1, r⟩ := k.slot i d q
    exact ⟨v, e1, Rep.mono (fun _ _ h => h) (List.prefix_refl ρ) d v _ (fun b hb => ⟨upd_ne fun z => k.out _ b hb (.inl (z ▸ ha)), (k.at _ b hb).1⟩) r⟩
  · obtain ⟨b, e1, dx, vs, f', h1, h2, p1, p2, ne, ef, r⟩ := k.obj m x q
    have hx : ∀ c ∈ fs (.inr m), c ≠ a := fun c hc z => k.out _ c hc (.inl (z ▸ ha))
    rw [ef] at hx
    exact ⟨b, e1, dx, vs, f', by rw [upd_ne (hx b List.mem_cons_self)]; exact h1, by rw [upd_ne (hx dx (List.mem_cons_of_mem _ List.mem_cons_self))]; exact h2, p1, p2, ne, ef,
      RepL.mono (fun _ _ h => h) (List.prefix_refl ρ) _ _ _ (fun c hc => ⟨upd_ne (hx c (List.mem_cons_of_mem _ (List.mem_cons_of_mem _ hc))), (RepL.at _ _ _ r c hc).1⟩) r⟩
theorem wr_stp {a : Addr} {o : HO} (k : ∀ b, F b → Φ b = none) (ha : ¬ F a) : Stp Φ H ρ F Φ (upd H a o) ρ := ⟨fun _ _ h => h, List.prefix_refl ρ, fun b hb => ⟨upd_ne fun z => ha (z ▸ hb), k b hb⟩⟩
/-- the list in slot i: written, an item handed out -/
theorem Ok.chg {i : Nat} {es es' : List D} (k : Ok g Φ H ρ s σ fs F) (q : s.sl[i]? = some (some (.lst .own es))) :
    ∃ a vs fl, σ[i]? = some (some (.ref a)) ∧ H a = some (.lst vs) ∧ RepL g Φ H ρ es vs fl ∧
      ∀ (vs' : List V) (y : D) (w : V) (fy fr : List Addr), (∀ H', (∀ b ∈ fl, H' b = H b) → Rep g Φ H' ρ y w fy ∧ RepL g Φ H' ρ es' vs' fr) → fl.Perm (fy ++ fr) →
        PV g E Φ H ρ F σ (.val y (setS s i (some (.lst .own es')))) Q → Q w (upd H a (.lst vs')) := by
  obtain ⟨v, e1, r, k2⟩ := k.take q
  have hi : i < s.sl.length := (List.getElem?_eq_some_iff.mp q).1
  obtain ⟨rr, nd, out⟩ := r
  simp only [Rep] at rr
  obtain ⟨a, vs, f', rfl, ha, na, ef, rl⟩ := rr
  rw [ef] at nd out k2
  refine ⟨a, vs, f', e1, ha, rl, fun vs' y w fy fr hr hp p => ?_⟩
  have nd' := List.nodup_cons.mp nd
  have k3 := k2.wr (o := .lst vs') List.mem_cons_self ha pln_lst pln_lst
  have mf : ∀ b, b ∈ f' ↔ b ∈ fy ∨ b ∈ fr := fun b => by rw [hp.mem_iff]; exact List.mem_append
  have ndp : (fy ++ fr).Nodup := hp.nodup_iff.mp nd'.2
  obtain ⟨n1, n2, n3⟩ := List.nodup_append.mp ndp
  obtain ⟨ry, rr⟩ := hr (upd H a (.lst vs')) fun b hb => upd_ne fun z => nd'.1 (z ▸ hb)
  have k4 : Ok g Φ (upd H a (.lst vs')) ρ { s with sl := s.sl.set i none } σ (updI fs (.inl i) []) (fadd (a :: fr) (fadd fy F)) := k3.less fun b hb => by
    rcases hb with hb | hb | hb
    · rcases List.mem_cons.mp hb with rfl | hb
      · exact .inl List.mem_cons_self
      · exact .inl (List.mem_cons_of_mem _ ((mf b).mpr (.inr hb)))
    · exact .inl (List.mem_cons_of_mem _ ((mf b).mpr (.inl hb)))
    · exact .inr hb
  have vl : Vl g Φ (upd H a (.lst vs')) ρ (.lst .own es') (.ref a) (a :: fr) (fadd fy F) := by
    refine ⟨?_, List.nodup_cons.mpr ⟨fun z => nd'.1 ((mf a).mpr (.inr z)), n2⟩, fun b hb z => ?_⟩
    · simp only [Rep]
      exact ⟨a, vs', fr, rfl, upd_same, na, rfl, rr⟩
    · rcases z with z | z
      · rcases List.mem_cons.mp hb with rfl | hb
        · exact nd'.1 ((mf b).mpr (.inl z))
        · exact n3 b z b hb rfl
      · rcases List.mem_cons.mp hb with rfl | hb
        · exact out b List.mem_cons_self z
        · exact out b (List.mem_cons_of_mem _ ((mf b).mpr (.inr hb))) z
  have k5 := k4.put (i := i) vl (by simpa using hi) e1
  simp only [List.set_set] at k5
  exact p _ _ ρ w fy _ (wr_stp k.nF (out a List.mem_cons_self)) k5 ⟨ry, n1, fun b hb => out b (List.mem_cons_of_mem _ ((mf b).mpr (.inl hb)))⟩
end
end Den
/-! DenS: sorting by (length, tuple of ints). -/
namespace Den
open PySem PySem.Spec
theorem lexAt_eq : ∀ (ns ms : List Int) (i : Nat) (e r : Nat → Bool), (∀ j, j < min ns.length ms.length → e (i + j) = decide (ns.getD j 0 = ms.getD j 0)) → (∀ j, j < min ns.length ms.length → r (i + j) = decide (ns.getD j 0 < ms.getD j 0)) →
    _root_.Ob.lexAt e r (decide (ns.length < ms.length)) i (min ns.length ms.length) = HT.lexLt ns ms
  | [], [], i, e, r, _, _ => rfl
  | [], _ :: _, i, e, r, _, _ => by simp [_root_.Ob.lexAt, HT.lexLt]
  | _ :: _, [], i, e, r, _, _ => by simp [_root_.Ob.lexAt, HT.lexLt]
  | x :: xs, y :: ys, i, e, r, he, hr => by
    have hm : min (x :: xs).length (y :: ys).length = min xs.length ys.length + 1 := by simp only [List.length_cons]; omega
    have e0 := he 0 (by rw [hm]; omega)
    have r0 := hr 0 (by rw [hm]; omega)
    simp only [Nat.add_zero, List.getD_cons_zero] at e0 r0
    rw [hm, _root_.Ob.lexAt_succ, e0, r0, HT.lexLt_cons]
    have ih := lexAt_eq xs ys (i + 1) e r (fun j hj => by
      have := he (j + 1) (by rw [hm]; omega)
      simpa [Nat.add_assoc, Nat.add_comm 1 j] using this) (fun j hj => by
      have := hr (j + 1) (by rw [hm]; omega)
      simpa [Nat.add_assoc, Nat.add_comm 1 j] using this)
    have hz : decide ((x :: xs).length < (y :: ys).length) = decide (xs.length < ys.length) := decide_eq_decide.mpr (by simp)
    rw [hz, ih]
    by_cases q : x = y
    · rw [if_pos q, if_pos (decide_eq_true q)]
    · rw [if_neg q, if_neg (by rw [decide_eq_false q]; simp)]
theorem lexLt_irr : ∀ a : List Int, HT.lexLt a a = false
  | [] => rfl
  | x :: xs => by rw [HT.lexLt_cons, if_pos rfl]; exact lexLt_irr xs
theorem lexLt_asym : ∀ a b : List Int, HT.lexLt a b = true → HT.lexLt b a = false
  | [], [], h => by cases h
  | [], _ :: _, _ => rfl
  | _ :: _, [], h => by cases h
  | x :: xs, y :: ys, h => by
    rw [HT.lexLt_cons] at h ⊢
    by_cases q : x = y
    · rw [if_pos q] at h
      rw [if_pos q.symm]
      exact lexLt_asym xs ys h
    · rw [if_neg q] at h
      rw [if_neg (Ne.symm q)]
      have := of_decide_eq_true h
      exact decide_eq_false (by omega)
theorem lexLt_tr : ∀ a b c : List Int, HT.lexLt b a = false → HT.lexLt c b = false → HT.lexLt c a = false
  | [], [], c, h1, h2 => h2
  | [], y :: ys, [], h1, h2 => rfl
  | [], y :: ys, z :: zs, h1, h2 => rfl
  | x :: xs, [], c, h1, h2 => by cases h1
  | x :: xs, y :: ys, [], h1, h2 => by cases h2
  | x :: xs, y :: ys, z :: zs, h1, h2 => by
    rw [HT.lexLt_cons] at h1 h2 ⊢
    by_cases q : y = x
    · rw [if_pos q] at h1
      by_cases q2 : z = y
      · rw [if_pos q2] at h2
        rw [if_pos (q2.trans q)]
        exact lexLt_tr xs ys zs h1 h2
      · rw [if_neg q2] at h2
        rw [if_neg (fun e => q2 (e.trans q.symm)), ← q]
        exact h2
    · rw [if_neg q] at h1
      have h1' := of_decide_eq_false h1
      by_cases q2 : z = y
      · rw [if_neg (fun e => q (q2.symm.trans e)), q2]
        exact h1
      · rw [if_neg q2] at h2
        have h2' := of_decide_eq_false h2
        rw [if_neg (by omega)]
        exact decide_eq_false (by omega)
theorem lexLt_eq : ∀ a b : List Int, HT.lexLt a b = false → HT.lexLt b a = false → a = b
  | [], [], _, _ => rfl
  | [], _ :: _, h, _ => by cases h
  | _ :: _, [], _, h => by cases h
  | x :: xs, y :: ys, h1, h2 => by
    rw [HT.lexLt_cons] at h1 h2
    by_cases q : x = y
    · rw [if_pos q] at h1
      rw [if_pos q.symm] at h2
      rw [q, lexLt_eq xs ys h1 h2]
    · rw [if_neg q] at h1
      rw [if_neg (Ne.symm q)] at h2
      have := of_decide_eq_false h1
      have := of_decide_eq_false h2
      omega
theorem swo_ltK : SrtO.Swo ltK := by
  refine ⟨fun p q h => ?_, fun p q r h1 h2 => ?_⟩
  · unfold ltK at h ⊢
    by_cases e : p.1 = q.1
    · rw [if_pos e] at h
      rw [if_pos e.symm]
      exact lexLt_asym _ _ h
    · rw [if_neg e] at h
      rw [if_neg (Ne.symm e)]
      have := of_decide_eq_true h
      exact decide_eq_false (by omega)
  · unfold ltK at h1 h2 ⊢
    by_cases e : q.1 = p.1
    · rw [if_pos e] at h1
      by_cases e2 : r.1 = q.1
      · rw [if_pos e2] at h2
        rw [if_pos (e2.trans e)]
        exact lexLt_tr _ _ _ h1 h2
      · rw [if_neg e2] at h2
        rw [if_neg (fun z => e2 (z.trans e.symm)), ← e]
        exact h2
    · rw [if_neg e] at h1
      have h1' := of_decide_eq_false h1
      by_cases e2 : r.1 = q.1
      · rw [if_neg (fun z => e (e2.symm.trans z)), e2]
        exact h1
      · rw [if_neg e2] at h2
        have h2' := of_decide_eq_false h2
        rw [if_neg (by omega)]
        exact decide_eq_false (by omega)
theorem swo_by {α β : Type} {lt : β → β → Bool} (O : SrtO.Swo lt) (f : α → β) : SrtO.Swo fun x y => lt (f x) (f y) := ⟨fun x y => O.asym _ _, fun x y z => O.tr _ _ _⟩
theorem ltK_eq {p q : Int × List Int} (h1 : ltK p q = false) (h2 : ltK q p = false) : p = q := by
  unfold ltK at h1 h2
  by_cases e : p.1 = q.1
  · rw [if_pos e] at h1
    rw [if_pos e.symm] at h2
    exact Prod.ext e (lexLt_eq _ _ h1 h2)
  · rw [if_neg e] at h1
    rw [if_neg (Ne.symm e)] at h2
    have := of_decide_eq_false h1
    have := of_decide_eq_false h2
    omega
theorem insP_perm (x : Int × List Int) : ∀ l, (insP x l).Perm (x :: l)
  | [] => List.Perm.refl _
  | y :: ys => by
    unfold insP
    split
    · exact ((insP_perm x ys).cons y).trans (List.Perm.swap x y ys)
    · exact List.Perm.refl _
theorem srtP_perm : ∀ l, (srtP l).Perm l
  | [] => List.Perm.refl _
  | x :: xs => (insP_perm x _).trans ((srtP_perm xs).cons x)
theorem insP_srt (x : Int × List Int) : ∀ l, SrtO.Srtd ltK l → SrtO.Srtd ltK (insP x l)
  | [], _ => List.pairwise_singleton _ _
  | y :: ys, h => by
    have h' := List.pairwise_cons.mp h
    unfold insP
    split
    · rename_i hx
      refine List.pairwise_cons.mpr ⟨fun z hz => ?_, insP_srt x ys h'.2⟩
      rcases List.mem_cons.mp ((insP_perm x ys).mem_iff.mp hz) with rfl | hz
      · exact swo_ltK.asym _ _ hx
      · exact h'.1 z hz
    · rename_i hx
      have hx : ltK y x = false := by simpa using hx
      refine List.pairwise_cons.mpr ⟨fun z hz => ?_, h⟩
      rcases List.mem_cons.mp hz with rfl | hz
      · exact hx
      · exact swo_ltK.tr x y z hx (h'.1 z hz)
theorem srtP_srt : ∀ l, SrtO.Srtd ltK (srtP l)
  | [] => List.Pairwise.nil
  | x :: xs => insP_srt x _ (srtP_srt xs)
theorem srtd_uniq : ∀ {l m : List (Int × List Int)}, SrtO.Srtd ltK l → SrtO.Srtd ltK m → l.Perm m → l = m
  | [], m, _, _, p => (List.nil_perm.mp p).symm
  | x :: l, [], _, _, p => absurd p.length_eq (by simp)
  | x :: l, y :: m, hl, hm, p => by
    have a := List.pairwise_cons.mp hl
    have b := List.pairwise_cons.mp hm
    have e : x = y := by
      rcases List.mem_cons.mp (p.mem_iff.mp List.mem_cons_self) with e | e
      · exact e
      · rcases List.mem_cons.mp (p.mem_iff.mpr List.mem_cons_self) with e' | e'
        · exact e'.symm
        · exact ltK_eq (b.1 x e) (a.1 y e')
    subst e
    rw [srtd_uniq a.2 b.2 (List.Perm.cons_inv p)]
/-! ### the machine's comparison -/
/-- a key: (int, tuple of ints) -/
def KT (h : Heap) (v : Value) (p : Int × List Int) : Prop := ∃ a o t b k its, v = .ref a ∧ h.get? a = some o ∧ o.cls = .type "tuple" ∧ o.data = .seq #[.int p.1 t, .ref b] k ∧ h.IsTuple b its ∧ PyProof.Rows.IntsAre its.toList p.2
theorem KT.keeps {h h' : Heap} {v : Value} {p : Int × List Int} (x : KT h v p) (k : ∀ b o, h.get? b = some o → o.cls = .type "tuple" → h'.get? b = some o) : KT h' v p := by
  obtain ⟨a, o, t, b, n, its, e, ho, hc, hd, ⟨ob, hb, hbc, hbd⟩, hi⟩ := x
  exact ⟨a, o, t, b, n, its, e, k _ _ ho hc, hc, hd, ⟨ob, k _ _ hb hbc, hbc, hbd⟩, hi⟩
section
variable {prog : Program} {w : World} {A : Around} {E : Value → Shared → Prop} {s : Shared}
theorem getD_at {its : Array Value} {ns : List Int} (h : PyProof.Rows.IntsAre its.toList ns) (j : Nat) (hj : j < its.size) : ∃ t, its[j] = .int (ns.getD j 0) t := by
  have := PyProof.Rows.IntsAre.int_at h j (its[j]) (by simp [hj])
  exact this
theorem eq_ref {b b' : Addr} {its its' : Array Value} {ns ms : List Int} (hb : s.heap.IsTuple b its) (hb' : s.heap.IsTuple b' its') (hi : PyProof.Rows.IntsAre its.toList ns) (hi' : PyProof.Rows.IntsAre its'.toList ms) (hu : A.units < cLine) : SeqAt.EqAt A s (.ref b) (.ref b') (decide (ns = ms)) := by
  by_cases e : b = b'
  · subst e
    obtain ⟨o, ho, _, n, hd⟩ := hb
    obtain ⟨o', ho', _, n', hd'⟩ := hb'
    rw [ho] at ho'
    cases ho'
    rw [hd] at hd'
    cases hd'
    have e2 : ns = ms := by rw [← hi.nums, ← hi'.nums]
    rw [decide_eq_true e2]
    exact SeqAt.EqAt.same _
  · have l1 := hi.length
    have l2 := hi'.length
    simp only [Array.length_toList] at l1 l2
    have R := SeqAt.RcAt.tuples (A := A) (s := s) (e := fun j => decide (ns.getD j 0 = ms.getD j 0)) hb hb' hu (fun j h1 h2 => by
      obtain ⟨t, et⟩ := getD_at hi j h1
      obtain ⟨t', et'⟩ := getD_at hi' j h2
      rw [et, et']
      have z : (ns.getD j 0 == ms.getD j 0) = decide (ns.getD j 0 = ms.getD j 0) := by
        by_cases q : ns.getD j 0 = ms.getD j 0
        · rw [decide_eq_true q]; exact beq_iff_eq.mpr q
        · rw [decide_eq_false q]; exact beq_eq_false_iff_ne.mpr q
      rw [← z]
      exact SeqAt.EqAt.int_int _ _ _ _)
    have ev : ((List.range (min its.size its'.size)).all (fun j => decide (ns.getD j 0 = ms.getD j 0)) && its.size == its'.size) = decide (ns = ms) := by
      rw [l1, l2]
      by_cases q : ns = ms
      · subst q
        simp
      · rw [decide_eq_false q]
        by_cases ql : ns.length = ms.length
        · have : ∃ j, j < ns.length ∧ ns.getD j 0 ≠ ms.getD j 0 := by
            apply Classical.byContradiction
            intro hn
            apply q
            apply List.ext_getElem ql
            intro j h1 h2
            apply Classical.byContradiction
            intro hne
            exact hn ⟨j, h1, by simpa [List.getD_eq_getElem?_getD, h1, h2] using hne⟩
          obtain ⟨j, hj, hne⟩ := this
          have : (List.range (min ns.length ms.length)).all (fun j => decide (ns.getD j 0 = ms.getD j 0)) = false := by
            rw [List.all_eq_false]
            exact ⟨j, List.mem_range.mpr (by omega), by simpa using hne⟩
          rw [this]; rfl
        · have : (ns.length == ms.length) = false := beq_eq_false_iff_ne.mpr ql
          rw [this, Bool.and_false]
    rw [ev] at R
    exact SeqAt.EqAt.of_refs e R
open PyProof.Rows in
theorem kt_lt {v u : Value} {p q : Int × List Int} {Q : Bool → Shared → Prop} (hv : KT s.heap v p) (hu' : KT s.heap u q) (hu : A.units < cLine) (h : Q (ltK p q) s) : wpAny (model prog w) A (keyLt' (tuples' true) v u) Q E s := by
  obtain ⟨a, o, t, b, k, its, rfl, ho, hc, hd, hb, hi⟩ := hv
  obtain ⟨a', o', t', b', k', its', rfl, ho', hc', hd', hb', hi'⟩ := hu'
  refine PySem.W.kat_lt ho hd ho' hd' ?_
  show PySem.W.KatLex prog w A true (decide (2 < 2)) _ [(.int p.1 t, .int q.1 t'), (.ref b, .ref b')] 0 s
  refine PySem.W.kat_cons (SeqAt.EqAt.int_int p.1 t q.1 t' prog w _ _ ?_)
  unfold ltK at h
  refine PySem.W.kat_go (fun e1 => ?_) (fun e1 => ?_)
  · have ex : p.1 = q.1 := by simpa using e1
    rw [if_pos ex] at h
    refine PySem.W.kat_yes (PySem.W.kat_cons (eq_ref hb hb' hi hi' hu prog w _ _ ?_))
    refine PySem.W.kat_go (fun e2 => ?_) (fun e2 => ?_)
    · have ey : p.2 = q.2 := of_decide_eq_true e2
      rw [ey, lexLt_irr] at h
      exact PySem.W.kat_yes (PySem.W.kat_nil h)
    · have l1 := hi.length
      have l2 := hi'.length
      simp only [Array.length_toList] at l1 l2
      refine PySem.W.kat_no (PySem.W.kat_one _ _ ?_)
      have R := _root_.Ob.RcOp.tuples_lt (A := A) (s := s) (e := fun j => decide (p.2.getD j 0 = q.2.getD j 0)) (r := fun j => decide (p.2.getD j 0 < q.2.getD j 0)) hb hb' hu (fun j h1 h2 => by
        obtain ⟨t, et⟩ := getD_at hi j h1
        obtain ⟨t', et'⟩ := getD_at hi' j h2
        rw [et, et']
        have z : (p.2.getD j 0 == q.2.getD j 0) = decide (p.2.getD j 0 = q.2.getD j 0) := by
          by_cases q' : p.2.getD j 0 = q.2.getD j 0
          · rw [decide_eq_true q']; exact beq_iff_eq.mpr q'
          · rw [decide_eq_false q']; exact beq_eq_false_iff_ne.mpr q'
        rw [← z]
        exact SeqAt.EqAt.int_int _ _ _ _) (fun j h1 h2 _ => by
        obtain ⟨t, et⟩ := getD_at hi j h1
        obtain ⟨t', et'⟩ := getD_at hi' j h2
        rw [et, et']
        exact _root_.Ob.RcOp.lt_int _ _ _ _)
      rw [l1, l2] at R
      have ez : _root_.Ob.lexAt (fun j => decide (p.2.getD j 0 = q.2.getD j 0)) (fun j => decide (p.2.getD j 0 < q.2.getD j 0)) (decide (p.2.length < q.2.length)) 0 (min p.2.length q.2.length) = HT.lexLt p.2 q.2 :=
        lexAt_eq _ _ 0 _ _ (fun j _ => by simp) (fun j _ => by simp)
      rw [ez] at R
      exact R prog w _ _ h
  · have ex : ¬ p.1 = q.1 := by simpa using e1
    rw [if_neg ex] at h
    exact PySem.W.kat_no (oneLt_int h)
theorem KT.inj {h : Heap} {v : Value} {p q : Int × List Int} (hv : KT h v p) (hu : KT h v q) : p = q := by
  obtain ⟨a, o, t, b, k, its, rfl, ho, hc, hd, ⟨ob, hb, _, n, hbd⟩, hi⟩ := hv
  obtain ⟨a', o', t', b', k', its', e, ho', hc', hd', ⟨ob', hb', _, n', hbd'⟩, hi'⟩ := hu
  cases e
  rw [ho] at ho'; cases ho'
  rw [hd] at hd'
  injection hd' with e1 e2
  have e3 := congrArg Array.toList e1
  simp only [List.cons.injEq, Value.int.injEq, Value.ref.injEq, and_true] at e3
  obtain ⟨⟨e4, _⟩, e5⟩ := e3
  subst e5
  rw [hb] at hb'; cases hb'
  rw [hbd] at hbd'
  injection hbd' with e6 e7
  subst e6
  exact Prod.ext e4 (by rw [← hi.nums, ← hi'.nums])
theorem kt_firsts {h : Heap} {kf : Value → Int × List Int} : ∀ {vs : List Value}, (∀ v ∈ vs, KT h v (kf v)) → ∃ fs : List Value, PySem.W.KatTups h vs fs ∧ fs.length = vs.length ∧ ∀ f ∈ fs, ∃ x t, f = Value.int x t
  | [], _ => ⟨[], PySem.W.KatTups.nil, rfl, fun _ hm => by simp at hm⟩
  | v :: vs, hp => by
    obtain ⟨fs, h1, h2, h3⟩ := kt_firsts (vs := vs) fun v' hm => hp v' (List.mem_cons_of_mem _ hm)
    obtain ⟨a, o, t, b, k, its, e, ho, hc, hd, _⟩ := hp v List.mem_cons_self
    subst e
    refine ⟨.int (kf (.ref a)).1 t :: fs, PySem.W.KatTups.cons ho hc hd rfl h1, by rw [List.length_cons, List.length_cons, h2], fun f hm => ?_⟩
    rcases List.mem_cons.mp hm with rfl | hm
    · exact ⟨_, t, rfl⟩
    · exact h3 f hm
open PyProof.Rows in
theorem kt_kind {vs : List Value} {kf : Value → Int × List Int} {Q : SortKind → Shared → Prop} (h0 : 0 < vs.length) (hp : ∀ v ∈ vs, KT s.heap v (kf v)) (h : Q (tuples' true) s) : wpAny (model prog w) A (keyKind' vs.toArray) Q E s := by
  obtain ⟨fs, h1, h2, h3⟩ := kt_firsts hp
  refine PySem.W.kat_kind (T := .type "int") h1 (by omega) (fun f hm => ?_) (by rfl) ?_
  · obtain ⟨x, t, rfl⟩ := h3 f hm
    exact PySem.W.Looks.now
  · have e : (Value.type "int" != Value.type "tuple") = true := by first | decide +kernel | rfl | decide
    rw [e]
    exact h
theorem kt_sortable {a : Addr} {vs : List Value} {kf : Value → Int × List Int} (h0 : 0 < vs.length) (hu : A.units < cLine) (hp : ∀ v ∈ vs, KT s.heap v (kf v)) (ha : ∀ o, s.heap.get? a = some o → o.cls ≠ .type "tuple") : SrtO.SortableO prog w A s a vs fun v u => ltK (kf v) (kf u) := by
  intro h' keep
  have hp' : ∀ v ∈ vs, KT h' v (kf v) := fun v hm => (hp v hm).keeps fun b o e c => keep b o (fun z => by subst z; exact ha o e c) e
  refine ⟨PyProof.Rows.tuples' true, fun Q E hq => kt_kind h0 hp' hq, fun p q hm hm' => ?_⟩
  exact kt_lt (hp' _ hm) (hp' _ hm') hu ⟨rfl, rfl⟩
end
section
variable {g : Gx} {X : L2.Cx} {Φ H : L2.Hp} {ρ : List Addr}
theorem pairOf_get : ∀ {ds : List D} {l : List (Int × List Int)}, pairOf ds = some l → ds = l.map pairD
  | [], l, h => by simp only [pairOf, Option.some.injEq] at h; subst h; rfl
  | .tup [.int n, .tup ns] :: r, l, h => by
    simp only [pairOf] at h
    split at h
    · rename_i is l' e1 e2
      cases h
      have e3 : ns = is.map D.int := by
        induction ns generalizing is with
        | nil => simp only [intsOf, Option.some.injEq] at e1; subst e1; rfl
        | cons d ds ih =>
          cases d with
          | int i =>
            simp only [intsOf] at e1
            cases q : intsOf ds with
            | none => rw [q] at e1; cases e1
            | some l => rw [q] at e1; cases e1; rw [ih _ q]; rfl
          | _ => simp [intsOf] at e1
      rw [List.map_cons, ← pairOf_get e2, e3]
      rfl
    · cases h
  | .tup [] :: r, l, h => by simp [pairOf] at h
  | .tup [_] :: r, l, h => by simp [pairOf] at h
  | .tup (_ :: _ :: _ :: _) :: r, l, h => by simp [pairOf] at h
  | .tup [.int _, .int _] :: r, l, h => by simp [pairOf] at h
  | .tup [.int _, .non] :: r, l, h => by simp [pairOf] at h
  | .tup [.int _, .bl _] :: r, l, h => by simp [pairOf] at h
  | .tup [.int _, .str _] :: r, l, h => by simp [pairOf] at h
  | .tup [.int _, .lst _ _] :: r, l, h => by simp [pairOf] at h
  | .tup [.int _, .obj _] :: r, l, h => by simp [pairOf] at h
  | .tup [.int _, .kt _] :: r, l, h => by simp [pairOf] at h
  | .tup [.int _, .dc _ _ _] :: r, l, h => by simp [pairOf] at h
  | .tup [.non, _] :: r, l, h => by simp [pairOf] at h
  | .tup [.bl _, _] :: r, l, h => by simp [pairOf] at h
  | .tup [.str _, _] :: r, l, h => by simp [pairOf] at h
  | .tup [.tup _, _] :: r, l, h => by simp [pairOf] at h
  | .tup [.lst _ _, _] :: r, l, h => by simp [pairOf] at h
  | .tup [.obj _, _] :: r, l, h => by simp [pairOf] at h
  | .tup [.kt _, _] :: r, l, h => by simp [pairOf] at h
  | .tup [.dc _ _ _, _] :: r, l, h => by simp [pairOf] at h
  | .non :: r, l, h => by simp [pairOf] at h
  | .bl _ :: r, l, h => by simp [pairOf] at h
  | .int _ :: r, l, h => by simp [pairOf] at h
  | .str _ :: r, l, h => by simp [pairOf] at h
  | .lst _ _ :: r, l, h => by simp [pairOf] at h
  | .obj _ :: r, l, h => by simp [pairOf] at h
  | .kt _ :: r, l, h => by simp [pairOf] at h
  | .dc _ _ _ :: r, l, h => by simp [pairOf] at h
/-- a tuple that stands for ints, in the machine -/
theorem tup_ints {pins : List (Addr × Obj)} {σ : L2.St} {s : Shared} {v : L2.V} {is : List Int} (hK : X.K = g.K) (I : L2.Inv X pins σ H s) (sb : Sub Φ H) (r : Rep g Φ H ρ (tupI is) v []) : ∃ b its, v = .ref b ∧ s.heap.IsTuple b its ∧ PyProof.Rows.IntsAre its.toList is := by
  simp only [tupI, Rep] at r
  obtain ⟨b, vs, rfl, t, rr⟩ := r
  have e := (ints_rep rr (intsOf_map is)).1
  subst e
  have t' := sub_t sb t.sq
  rw [← hK] at t'
  obtain ⟨its, rv, pt, hz⟩ := I.tuple t'
  exact ⟨b, its.toArray, rfl, pt, by simpa using rv.ints⟩
theorem kt_of {pins : List (Addr × Obj)} {σ : L2.St} {s : Shared} {v : L2.V} {p : Int × List Int} (hK : X.K = g.K) (I : L2.Inv X pins σ H s) (sb : Sub Φ H) (r : Rep g Φ H ρ (pairD p) v []) : ∃ a, v = .ref a ∧ KT s.heap (.ref a) p := by
  simp only [pairD, Rep] at r
  obtain ⟨a, vs, rfl, t, rr⟩ := r
  simp only [RepL] at rr
  obtain ⟨v1, w1, f1, f2, rfl, e1, r1, v2, w2, f3, f4, rfl, e2, r2, rfl, rfl⟩ := rr
  simp only [Rep] at r1
  obtain ⟨rfl, rfl⟩ := r1
  simp only [List.nil_append, List.append_nil] at e1 e2
  subst e1
  subst e2
  obtain ⟨b, its, rfl, hb, hi⟩ := tup_ints hK I sb r2
  have t' := sub_t sb t.sq
  rw [← hK] at t'
  obtain ⟨us, rv, ⟨o, ho, hc, n, hd⟩, hz⟩ := I.tuple t'
  obtain ⟨u1, u2, rfl, q1, q2⟩ := L2.vals2 rv
  obtain ⟨tk, rfl⟩ := q1
  cases q2
  exact ⟨a, rfl, a, o, tk, b, n, its, rfl, ho, hc, hd, hb, hi⟩
theorem bi_sortedP (hK : X.K = g.K) (hu : X.A.units + 16 < cLine) : L2.CallR X (.builtin "sorted") (CbV g sortPF) := by
  intro pins s σ H vs us Q I r h
  obtain ⟨Φ, ρ, ds, z, sb, rs, hk, q⟩ := h
  unfold sortPF at hk
  split at hk
  · split at hk
    · rename_i l e
      cases hk
      obtain ⟨v, rfl, rd⟩ := rs.one
      obtain ⟨a, ws, rfl, t, rr⟩ := rd.lst sb
      have e1 := pairOf_get e
      subst e1
      obtain ⟨u, rfl, ru⟩ := L2.vals1 r
      cases ru
      rw [← hK] at t
      obtain ⟨its, rv, pl, hz⟩ := I.list t
      have hlen := RepL.len _ _ _ rr
      have hits := rv.length
      have at_ : ∀ (i : Nat) (u : Value), its[i]? = some u → ∃ p w, l[i]? = some p ∧ ws[i]? = some w ∧ Rep g Φ H ρ (pairD p) w [] ∧ (∃ b, w = .ref b ∧ u = .ref b) ∧ KT s.heap u p := fun i u hi => by
        have hl : i < its.length := (List.getElem?_eq_some_iff.mp hi).1
        have hl2 : i < l.length := by rw [List.length_map] at hlen; omega
        have hd : (l.map pairD)[i]? = some (pairD l[i]) := by rw [List.getElem?_map, List.getElem?_eq_getElem hl2]; rfl
        obtain ⟨w, hw, rw'⟩ := RepL.get _ _ rr i _ hd
        obtain ⟨b, rfl, kt⟩ := kt_of hK I sb rw'
        obtain ⟨u', hu', ru'⟩ := rv.get hw
        rw [hi] at hu'
        cases hu'
        cases ru'
        exact ⟨l[i], .ref b, List.getElem?_eq_getElem hl2, hw, rw', ⟨b, rfl, rfl⟩, kt⟩
      obtain ⟨kf, hkf⟩ : ∃ kf : Value → Int × List Int, ∀ u ∈ its, KT s.heap u (kf u) := by
        classical
        refine ⟨fun u => if h : ∃ p, KT s.heap u p then h.choose else (0, []), fun u hm => ?_⟩
        obtain ⟨i, hi⟩ := List.getElem?_of_mem hm
        obtain ⟨p, w, _, _, _, _, kt⟩ := at_ i u hi
        have hx : ∃ p, KT s.heap u p := ⟨p, kt⟩
        dsimp only
        rw [dif_pos hx]
        exact hx.choose_spec
      have hkl : its.map kf = l := by
        apply List.ext_getElem?
        intro i
        rw [List.getElem?_map]
        cases hi : its[i]? with
        | none =>
          have h1 : its.length ≤ i := List.getElem?_eq_none_iff.mp hi
          rw [List.length_map] at hlen
          rw [List.getElem?_eq_none_iff.mpr (by omega)]; rfl
        | some u =>
          obtain ⟨p, w, hp, _, _, _, kt⟩ := at_ i u hi
          rw [hp]
          show some (kf u) = some p
          rw [(hkf u (List.mem_of_getElem? hi)).inj kt]
      have refs : ∀ u ∈ its, ∃ b, u = Value.ref b := fun u hm => by
        obtain ⟨i, hi⟩ := List.getElem?_of_mem hm
        obtain ⟨p, w, _, _, _, ⟨b, _, e⟩, _⟩ := at_ i u hi
        exact ⟨b, e⟩
      refine SrtO.sorted_ord (swo_by swo_ltK kf) pl.isList (by rw [← hits]; exact hz) (fun h2 h₁ a' ha kk => ?_) fun out h1 h2 => ?_
      · refine kt_sortable (s := { s with heap := h₁ }) (by omega) (by show X.A.units + 1 + 1 < cLine; omega) (fun v hm => (hkf v hm).keeps fun b o e _ => (kk b o e).2) fun o e => ?_
        have e' : some o = some (PyProof.Rows.seqObj "list" its.toArray 0) := e.symm.trans ha
        cases e'
        intro c
        exact absurd (Value.type.inj c) (by decide)
      · have hp : out.Perm its := h2.perm
        have h3 : ∀ u ∈ out, ∃ a, u = Value.ref a := fun u hu => refs u (hp.mem_iff.mp hu)
        have es : out.map kf = srtP l := by
          refine srtd_uniq (List.pairwise_map.mpr h1) (srtP_srt l) ?_
          rw [← hkl]
          exact (hp.map kf).trans (srtP_perm _).symm
        obtain ⟨ep, he'⟩ := PyProof.Rows.sortedAll_at s.heap its out.toArray
        have hlen2 : (out.map L2.backV).length ≤ sizeLine := by rw [List.length_map, hp.length_eq, ← hits]; exact hz
        refine ⟨.ref _, L2.upd H (s.heap.objs.size + 1) (.lst (out.map L2.backV)), I.laid (t' := s.toks) (fun _ _ => PyProof.Rows.sortedAll_old) (Nat.le_succ _) ⟨hlen2, _, ep, L2.vals_back h3, he'⟩, rfl, ?_⟩
        refine q.lst sb (RepL.of_get _ _ (by rw [List.length_map, List.length_map, ← es, List.length_map]) fun i d v hd hv => ?_) _ (I.hok.fresh (Nat.le_succ _))
        rw [List.getElem?_map] at hd hv
        rw [← es, List.getElem?_map] at hd
        cases ho : out[i]? with
        | none => rw [ho] at hv; cases hv
        | some u =>
          rw [ho] at hv hd
          cases hv
          cases hd
          have hm : u ∈ its := hp.mem_iff.mp (List.mem_of_getElem? ho)
          obtain ⟨j, hj⟩ := List.getElem?_of_mem hm
          obtain ⟨p, w, _, _, rw', ⟨b, rfl, rfl⟩, kt⟩ := at_ j u hj
          rw [(hkf _ hm).inj kt]
          exact rw'
    · cases hk
  · cases hk
end
end Den
/-! DenK: sorted(l, key=lambda x: (len(x), x)). -/
namespace Den
open PySem PySem.Spec PyProof.Rows L2
def star : Expr → Bool
  | .Starred _ _ => true
  | _ => false
section
variable {X : Cx} {pins : List (Addr × Obj)} {σ : L2.St} {H : Hp} {s : Shared}
/-- a record of ours is tracked from now on -/
theorem inv_adopt {a : Addr} {u : HO} (I : Inv X pins σ H s) (fp : FpOk X pins H a) (new : ObjOk X.prog X.w (upd H a u) s.heap a u) : Inv X pins σ (upd H a u) s := by
  obtain ⟨f0, f1, f2, f3, f4, f5⟩ := fp
  have ne : ∀ b v, H b = some v → b ≠ a := fun b v e z => by rw [z, f0] at e; cases e
  have J := I.step (h' := s.heap) (g' := s.gens) (d' := s.drawn) (t' := s.toks) (H' := upd H a u) (ch := [a]) (fun b hb => by
      have e : b = a := by simpa using hb
      subst e
      exact ⟨f3, f1, f4, f5⟩) (fun b o _ _ _ e _ => e) (fun b o _ _ _ e _ => ⟨o.slots, e⟩) (fun b o hc e n => by rw [upd_ne (fun z => hc (by simp [z]))]; exact n) (fun b o _ e => ⟨o, e⟩)
    (fun b xs e => by rw [upd_ne (ne b _ e)]; exact e) (fun b o w e => by rw [upd_ne (ne b _ e)]; exact e) (fun b ps e => ⟨#[], by rw [upd_ne (ne b _ e), e]; simp⟩) (fun m hm => hm) (fun b w e => ?_) I.bare
  · exact J
  · by_cases hb : b = a
    · subst hb
      rw [upd_same] at e
      cases e
      exact new
    · rw [upd_ne hb] at e
      exact (I.hok b w e).stay (fun c v _ q => q) (fun c q => by rw [upd_ne (ne c _ q)]; exact q) fun c xs q => by rw [upd_ne (ne c _ q)]; exact q
theorem stk_young {b : Addr} (I : Inv X pins σ H s) (h : s.heap.objs.size ≤ b) : b ∉ frs X.stack := fun z => by
  rcases List.mem_cons.mp (I.stkSub _ z) with e | e
  · have h1 := I.lt
    rw [← e] at h1
    exact Nat.lt_irrefl _ (Nat.lt_of_lt_of_le h1 h)
  · exact I.nofs h e
abbrev lamO (qual : Str) (params : Arguments) (body : Expr) (sc : Scope) (pm : Value) (c' : Addr) (ctv : Value) : Obj := PySem.W.kla_obj "<lambda>" qual params body sc [] pm c' ctv
/-- a lambda with one parameter, nothing captured, is called -/
theorem lam_call1 {k : Nat} {A : Around} {f c' : Addr} {qual y : Str} {params : Arguments} {body : Expr} {sc : Scope} {pm ctv u : Value} {w : V} {t : TE} {Q : VK} (I : Inv X pins σ H s) (hA : A = X.A.in1.in1) (hr : Room (k + 1) A) (hc0 : X.calm = true) (S : FnScope [y] [y] sc)
    (hcl : cellsFrom (s.heap.objs.size + 1) sc.names [] = [])
    (hf : s.heap.get? f = some (lamO qual params body sc pm c' ctv)) (hc : H c' = some (LamX.CodeO c' qual))
    (hb : ∀ (cl : List (Str × Addr)) (pm cv ctv v : Value), bindArgs (PySem.W.kla_fn "<lambda>" qual params body sc cl pm cv ctv) ⟨[v], []⟩ = pure [(y, v)])
    (r : RelV w u)
    (hbody : ∀ A', Room k A' → PE { cxOf (L2.CX X.prog X.w) X.prog X.w X.K X.mg X.base [y] qual sc f (.ref c') A X.stack s H E0 with A := A' } body t) (ht : t [some w] H Q) :
    wpAny (model X.prog X.w) A (call (.ref f) [u]) (fun v s2 => ∃ x H', Inv X pins σ H' s2 ∧ Un (frs X.stack) [] H H' s.heap s2.heap ∧ RelV x v ∧ Q x H') (fun _ _ => False) s := by
  subst hA
  obtain ⟨⟨oc, vs, tt, hoc, hdc, hvc⟩, _, _⟩ := I.hok c' _ hc
  have e0 : Env0 X.prog X.w X.K X.mg X.base X.A.in1.in1 X.stack s H := I.env0.in1.in1
  have rc : codeAny (model X.prog X.w) X.A.in1.in1 (.call (.ref f) ⟨[u], []⟩) (CR (L2.CX X.prog X.w) X.stack X.prog X.w H s Q E0) s := by
    refine PySem.W.kla_callFunE hr.depth hf rfl S.co S.gen rfl ⟨c', oc, vs, tt, rfl, hoc, hdc, hvc⟩ ?_
    rw [hb]
    refine wpAny_pure (wpAny_newFunctionEnv_cells S.kind (fun x hx => ?_) fun env he s1 x => ?_)
    · have e : x = (y, u) := by simpa using hx
      subst e
      rcases S.par y (by simp) with q | q
      · exact .inl q
      · exact .inr ⟨q, PySem.W.cellsFrom_some _ _ _ (.inl q)⟩
    subst he
    refine ⟨I.nolimit.keeps x.toInCall.keep, ?_⟩
    have J : Inv (cxOf (L2.CX X.prog X.w) X.prog X.w X.K X.mg X.base [y] qual sc f (.ref c') X.A.in1.in1 X.stack s H E0) [] (L2.start [y] [w]) H s1 := inv_start (ps := [y]) (us := [u]) S hr.hd e0 rfl (.cons r .nil) x
    refine PySem.W.kla_codeExpr (wpAny_mono ((hbody _ (hr.deeper _)).run [] s1 (L2.start [y] [w]) H Q J ht) (fun v s' hq => ?_) fun e s' hq => hq)
    obtain ⟨w', H', J', rv, q⟩ := hq
    exact ⟨w', H', J'.os, J'.bare, J'.base, J'.hok, rv, q⟩
  refine wpAny_call (codeAny_mono rc fun r s' hq => ?_)
  cases r with
  | error e =>
    obtain ⟨_, _, _, _, _, _, _, _, _, _, _, _, z⟩ := hq
    exact z.elim
  | ok fl =>
    cases fl with
    | ret v =>
      obtain ⟨x, H', os, bare, un, hok, rv, q⟩ := hq
      obtain ⟨hh, g', d', t', os'⟩ := s'
      obtain rfl : os' = s.os := os
      exact ⟨x, H', I.call (h' := hh) (g' := g') (d' := d') (t' := t') (ch := []) un hok bare (fun b z => absurd z (by simp)), un, rv, q⟩
    | next => exact False.elim hq
    | brk => exact False.elim hq
    | cont => exact False.elim hq
/-- a key in hand: (n, w) -/
def KeyAt (Hc : Hp) (u : Value) (n : Int) (w : V) : Prop := ∃ t o, u = .ref t ∧ Hc t = some (.frz o (.tup [.int n, w]))
/-- where the keys have been made -/
structure Keyed0 (X : Cx) (pins : List (Addr × Obj)) (σ : L2.St) (H : Hp) (f a kS : Addr) (fo : Obj) (e1 : Nat) (ws : List V) (nf : Nat → Int) (j : Nat) (kA : Array Value) (Hc : Hp) (s' : Shared) : Prop where
  inv : Inv X pins σ Hc s'
  ext : ∀ b o, H b = some o → Hc b = some o
  hf : Hc f = none ∧ s'.heap.get? f = some fo
  hk : Hc kS = none ∧ ∃ e, s'.heap.get? kS = some (seqObj "list" kA e)
  ha : Hc a = none ∧ s'.heap.get? a = some (seqObj "list" #[] e1)
  sz : kA.size = j
  keys : ∀ i, i < j → ∃ u w, kA[i]? = some u ∧ ws[i]? = some w ∧ KeyAt Hc u (nf i) w
theorem key_tree {a f : Addr} {fo : Obj} {vs : List Value} {ws : List V} {n : Nat} {nf : Nat → Int} {R : PySem.Fin → Shared → Prop} {E : Value → Shared → Prop} (I : Inv X pins σ H s) (fa : FpOk X pins H a) (nfa : a ∉ frs X.stack) (hof : s.heap.get? f = some fo) (hfn : H f = none) (hff : f ∉ frs X.stack) (haf : a ≠ f)
    (ho : s.heap.get? a = some (seqObj "list" vs.toArray n)) (hz : vs.length ≤ sizeLine) (rv : Vals ws vs)
    (hcall : ∀ (i : Nat) (v : Value) (w : V), vs[i]? = some v → ws[i]? = some w → ∀ (s1 : Shared) (H1 : Hp), Inv X pins σ H1 s1 → (∀ b o, H b = some o → H1 b = some o) → s1.heap.get? f = some fo →
      wpAny (model X.prog X.w) X.A.in1.in1 (call (.ref f) [v]) (fun u s2 => ∃ H2, Inv X pins σ H2 s2 ∧ Un (frs X.stack) [] H1 H2 s1.heap s2.heap ∧ (∀ b o, H1 b = some o → H2 b = some o) ∧ KeyAt H2 u (nf i) w) (fun _ _ => False) s1)
    (h : ∀ (kS : Addr) (e1 : Nat) (kA : Array Value) (Hc : Hp) (s' : Shared), Keyed0 X pins σ H f a kS fo e1 ws nf vs.length kA Hc s' → kS ≠ a → (∀ Hc, Hc kS = none → FpOk X pins Hc kS) → wpAny (model X.prog X.w) X.A.in1.in1 (ksk_end a false vs.toArray e1 (.ref kS) kA) R E s') :
    wpAny (model X.prog X.w) X.A.in1.in1 (ksk_tree a (.ref f) false) R E s := by
  have hla : a < s.heap.objs.size := Heap.lt_size ho
  have s1 := Heap.SameBut.update s.heap a (Obj.mapSeq fun _ => (#[] : Array Value))
  obtain ⟨e1, ho1⟩ : ∃ e1, (s.heap.update a (Obj.mapSeq fun _ => (#[] : Array Value))).get? a = some (seqObj "list" #[] e1) := ⟨_, get?_update_seq ho fun _ => #[]⟩
  have hkS : ((s.heap.update a (Obj.mapSeq fun _ => (#[] : Array Value))).push (seqObj "tuple" vs.toArray 0)).objs.size = s.heap.objs.size + 1 := by rw [size_push', Heap.size_update]
  obtain ⟨f0, f1, f2, f3, f4, f5⟩ := id fa
  have I1 : Inv X pins σ H { s with heap := s.heap.update a (Obj.mapSeq fun _ => (#[] : Array Value)) } := I.turned (t' := s.toks) (fun b o hb e => (s1.2 b hb).trans e) f0 f1 f3 f4 f5
  have I2 : Inv X pins σ H { s with heap := ((s.heap.update a (Obj.mapSeq fun _ => (#[] : Array Value))).push (seqObj "tuple" vs.toArray 0)).push (seqObj "list" #[] 0) } := I1.kept (t' := s.toks) fun b o e => Heap.get?_push_of_some _ (Heap.get?_push_of_some _ e)
  unfold ksk_tree
  refine wpAny_bind (listItems_at ho rfl ?_)
  refine wpAny_bind (listUpdate_at ho rfl ?_ (by rw [List.size_toArray]; exact hz) (Nat.zero_le _))
  refine wpAny_bind (seqEpoch_at ho1 rfl ?_)
  refine wpAny_bind (wpAny_newTuple ?_ (by show vs.length ≤ _; exact hz))
  refine wpAny_bind (wpAny_newList ?_ (Nat.zero_le _))
  refine wpAny_holding ?_
  generalize hks : ((s.heap.update a (Obj.mapSeq fun _ => (#[] : Array Value))).push (seqObj "tuple" vs.toArray 0)).objs.size = kS at hkS
  have kge : s.heap.objs.size ≤ kS := by rw [hkS]; exact Nat.le_succ _
  have nka : kS ≠ a := Nat.ne_of_gt (Nat.lt_of_lt_of_le hla kge)
  have nkf : kS ≠ f := Nat.ne_of_gt (Nat.lt_of_lt_of_le (Heap.lt_size hof) kge)
  have fkS : ∀ Hc : Hp, Hc kS = none → FpOk X pins Hc kS := fun Hc hc => ⟨hc, (I.fpOk kge (I.hok.fresh kge)).2⟩
  have nfk : kS ∉ frs X.stack := stk_young I kge
  have fk0 : ∀ Hc : Hp, Hc a = none → FpOk X pins Hc a := fun Hc hc => ⟨hc, fa.2⟩
  show wpAny (model X.prog X.w) X.A.in1.in1 (ksk_rest a (.ref f) false vs.toArray e1 (.ref kS)) R E { s with heap := ((s.heap.update a (Obj.mapSeq fun _ => (#[] : Array Value))).push (seqObj "tuple" vs.toArray 0)).push (seqObj "list" #[] 0) }
  unfold ksk_rest
  refine wpAny_bind (wpAny_rule ?_)
  first
    | rw [List.forIn_toArray]
    | (rw [← Array.forIn_toList]; simp only [List.toList_toArray])
    | rw [← Array.forIn_toList]
  refine wpAny_bind (ksk_fold (fun i s' => ∃ kA Hc, Keyed0 X pins σ H f a kS fo e1 ws nf i kA Hc s') vs 0 _ ⟨#[], H, I2, fun _ _ e => e, ⟨hfn, ?_⟩, ⟨I.hok.fresh kge, 0, ?_⟩, ⟨f0, ?_⟩, rfl, fun i hi => by omega⟩ ?step ?done)
  · exact Heap.get?_push_of_some _ (Heap.get?_push_of_some _ ((s1.2 f (Ne.symm haf)).trans hof))
  · rw [← hks]; exact Heap.get?_push_size _ rfl
  · exact Heap.get?_push_of_some _ (Heap.get?_push_of_some _ ho1)
  case step =>
    rintro j x s' hx ⟨kA, Hc, K⟩
    simp only [Nat.zero_add] at K ⊢
    have hj : j < vs.length := (List.getElem?_eq_some_iff.mp hx).1
    have hlen := rv.length
    have hw : ws[j]? = some ws[j] := List.getElem?_eq_getElem (by omega)
    refine wpAny_bind (wpAny_attempt (wpAny_mono (hcall j x _ hx hw s' Hc K.inv K.ext K.hf.2) (fun v s'' he => ?_) fun _ _ hF => hF.elim))
    obtain ⟨H2, J2, un, ex2, hkey⟩ := he
    try dsimp only
    obtain ⟨k1, e, k2⟩ := K.hk
    have kk : s''.heap.get? kS = some (seqObj "list" kA e) := un.keep kS _ k2 k1 nfk (by simp)
    have kn : H2 kS = none := un.free kS _ k2 k1 (by simp)
    have aa : s''.heap.get? a = some (seqObj "list" #[] e1) := un.keep a _ K.ha.2 K.ha.1 nfa (by simp)
    have an : H2 a = none := un.free a _ K.ha.2 K.ha.1 (by simp)
    have ff : s''.heap.get? f = some fo := un.keep f _ K.hf.2 K.hf.1 hff (by simp)
    have fn : H2 f = none := un.free f _ K.hf.2 K.hf.1 (by simp)
    have s2 := Heap.SameBut.update s''.heap kS (Obj.mapSeq (·.push v))
    obtain ⟨c2, hc2⟩ : ∃ c2, (s''.heap.update kS (Obj.mapSeq (·.push v))).get? kS = some (seqObj "list" (kA.push v) c2) := ⟨_, get?_update_seq kk (·.push v)⟩
    obtain ⟨g0, g1, g2, g3, g4, g5⟩ := fkS H2 kn
    have ksz := K.sz
    have hz2 := hz
    rw [sizeLine_eq] at hz2
    refine wpAny_bind (listUpdate_at kk rfl ?_ (by rw [sizeLine_eq]; omega) (Nat.le_trans (Nat.le_of_eq (Array.size_push ..)) (by rw [sizeLine_eq]; omega)))
    refine wpAny_pure ⟨rfl, kA.push v, H2, J2.turned (t' := s''.toks) (fun b o hb e => (s2.2 b hb).trans e) g0 g1 g3 g4 g5, fun b o e => ex2 b o (K.ext b o e), ⟨fn, (s2.2 f (Ne.symm nkf)).trans ff⟩, ⟨kn, c2, hc2⟩, ⟨an, (s2.2 a (Ne.symm nka)).trans aa⟩, by rw [Array.size_push, ksz], fun i hi => ?_⟩
    by_cases hij : i = j
    · subst hij
      exact ⟨v, ws[i], by rw [Array.getElem?_push]; simp [ksz], hw, hkey⟩
    · obtain ⟨u, w, h1, h2, t, o, h3, h4⟩ := K.keys i (by omega)
      refine ⟨u, w, ?_, h2, t, o, h3, ex2 _ _ h4⟩
      rw [Array.getElem?_push, if_neg (by omega)]; exact h1
  case done =>
    rintro s' ⟨kA, Hc, K⟩
    simp only [Nat.zero_add] at K
    obtain ⟨k1, e, k2⟩ := K.hk
    try dsimp only
    refine wpAny_bind (listItems_at k2 rfl ?_)
    exact h kS e1 kA Hc s' K nka fkS
def keyOf (ns : List Int) : Int × List Int := ((ns.length : Int), ns)
theorem key_end {a f kS : Addr} {fo : Obj} {e1 : Nat} {vs : List Value} {ws : List V} {nf : Nat → Int} {kA : Array Value} {Hc : Hp} {s' : Shared} {R : PySem.Fin → Shared → Prop} {E : Value → Shared → Prop} {itf : Value → List Int} (K : Keyed0 X pins σ H f a kS fo e1 ws nf vs.length kA Hc s')
    (fa : ∀ Hc : Hp, Hc a = none → FpOk X pins Hc a) (nka : kS ≠ a) (fk : ∀ Hc : Hp, Hc kS = none → FpOk X pins Hc kS) (hu : X.A.units + 16 < cLine) (hz : vs.length ≤ sizeLine) (rv : Vals ws vs) (refs : ∀ v ∈ vs, ∃ b, v = Value.ref b)
    (hk : ∀ (i : Nat) (u v : Value), kA[i]? = some u → vs[i]? = some v → KT s'.heap u (keyOf (itf v)))
    (h : ∀ (out : List Value) (s2 : Shared) (c : Nat), out.Perm vs → out.map (fun v => keyOf (itf v)) = srtP (vs.map fun v => keyOf (itf v)) → Inv X pins σ Hc s2 → s2.heap.get? a = some (seqObj "list" out.toArray c) → Inv X pins σ (upd Hc a (.lst (out.map backV))) s2 → R (.done (.ret .none)) s2) :
    wpAny (model X.prog X.w) X.A.in1.in1 (ksk_end a false vs.toArray e1 (.ref kS) kA) R E s' := by
  obtain ⟨k1, e, k2⟩ := K.hk
  obtain ⟨an, a2⟩ := K.ha
  have ksz := K.sz
  have I := K.inv
  have ptl : (kA.zip vs.toArray).toList = kA.toList.zip vs := ksk_zip kA vs
  have memP : ∀ p : Keyed, p ∈ (kA.zip vs.toArray).toList → ∃ i : Nat, kA[i]? = some p.1 ∧ vs[i]? = some p.2 := fun p hp => by
    rw [ptl] at hp
    obtain ⟨i, hi⟩ := List.getElem?_of_mem hp
    rw [List.getElem?_zip_eq_some] at hi
    exact ⟨i, by simpa using hi.1, hi.2⟩
  obtain ⟨kf, hkf⟩ : ∃ kf : Value → Int × List Int, ∀ u p, KT s'.heap u p → kf u = p := by
    classical
    refine ⟨fun u => if h : ∃ p, KT s'.heap u p then h.choose else (0, []), fun u p kt => ?_⟩
    have hx : ∃ p, KT s'.heap u p := ⟨p, kt⟩
    dsimp only
    rw [dif_pos hx]
    exact hx.choose_spec.inj kt
  have kfP : ∀ p : Keyed, p ∈ (kA.zip vs.toArray).toList → KT s'.heap p.1 (kf p.1) ∧ kf p.1 = keyOf (itf p.2) := fun p hp => by
    obtain ⟨i, h1, h2⟩ := memP p hp
    have kt := hk i _ _ h1 h2
    rw [hkf _ _ kt]
    exact ⟨kt, rfl⟩
  -- the end, from any arrangement that is sorted
  have tail : ∀ st : SortSt, SrtO.Srtd (fun p q : Keyed => ltK (kf p.1) (kf q.1)) (arrOf st).toList → (arrOf st).toList.Perm (kA.zip vs.toArray).toList → failedOf st = none → wpAny (model X.prog X.w) X.A.in1.in1 (ksk_tail a false e1 (.ref kS) st) R E s' := fun st hs hp hf => by
    have hlen : (arrOf st).size = vs.length := by
      have := hp.length_eq
      rw [Array.length_toList, ptl, List.length_zip, Array.length_toList, ksz, Nat.min_self] at this
      exact this
    have s1 := Heap.SameBut.update s'.heap kS (Obj.mapSeq fun _ => (#[] : Array Value))
    have a3 : (s'.heap.update kS (Obj.mapSeq fun _ => (#[] : Array Value))).get? a = some (seqObj "list" #[] e1) := (s1.2 a (Ne.symm nka)).trans a2
    have s2 := Heap.SameBut.update (s'.heap.update kS (Obj.mapSeq fun _ => (#[] : Array Value))) a (Obj.mapSeq fun _ => (arrOf st).map (·.2))
    obtain ⟨c2, hc2⟩ : ∃ c2, ((s'.heap.update kS (Obj.mapSeq fun _ => (#[] : Array Value))).update a (Obj.mapSeq fun _ => (arrOf st).map (·.2))).get? a = some (seqObj "list" ((arrOf st).map (·.2)) c2) := ⟨_, get?_update_seq a3 fun _ => (arrOf st).map (·.2)⟩
    obtain ⟨g0, g1, g2, g3, g4, g5⟩ := fk Hc k1
    obtain ⟨f0, f1, f2, f3, f4, f5⟩ := fa Hc an
    have J1 : Inv X pins σ Hc { s' with heap := s'.heap.update kS (Obj.mapSeq fun _ => (#[] : Array Value)) } := I.turned (t' := s'.toks) (fun b o hb e => (s1.2 b hb).trans e) g0 g1 g3 g4 g5
    have J2 : Inv X pins σ Hc { s' with heap := (s'.heap.update kS (Obj.mapSeq fun _ => (#[] : Array Value))).update a (Obj.mapSeq fun _ => (arrOf st).map (·.2)) } := J1.turned (t' := s'.toks) (fun b o hb e => (s2.2 b hb).trans e) f0 f1 f3 f4 f5
    have eo : ((arrOf st).map (·.2)).toList = (arrOf st).toList.map (·.2) := Array.toList_map
    have zs : (kA.toList.zip vs).map (·.2) = vs := by
      have hl0 : kA.toList.length = vs.length := (Array.length_toList).trans ksz
      rw [List.map_snd_zip (Nat.le_of_eq hl0.symm)]
    have po : ((arrOf st).toList.map (·.2)).Perm vs := by
      have := hp.map (fun p : Keyed => p.2)
      rw [ptl, zs] at this
      exact this
    have ek : ((arrOf st).toList.map (·.2)).map (fun v => keyOf (itf v)) = (arrOf st).toList.map (fun p => kf p.1) := by
      rw [List.map_map]
      exact List.map_congr_left fun p hm => ((kfP p (hp.mem_iff.mp hm)).2).symm
    have es : ((arrOf st).toList.map (·.2)).map (fun v => keyOf (itf v)) = srtP (vs.map fun v => keyOf (itf v)) := by
      rw [ek]
      refine srtd_uniq (List.pairwise_map.mpr hs) (srtP_srt _) ?_
      rw [← ek]
      exact (po.map _).trans (srtP_perm _).symm
    have vb : Vals (((arrOf st).toList.map (·.2)).map backV) ((arrOf st).toList.map (·.2)) := vals_back fun u hu => refs u (po.mem_iff.mp hu)
    unfold ksk_tail
    try dsimp only
    refine wpAny_bind (listUpdate_at k2 rfl ?_ (by rw [ksz]; exact hz) (Nat.zero_le _))
    refine wpAny_bind (wpAny_letGo ?_)
    refine wpAny_bind (seqEpoch_at a3 rfl ?_)
    refine wpAny_bind (listUpdate_at a3 rfl ?_ (Nat.zero_le _) (by
      show ((arrOf st).map (·.2)).size ≤ sizeLine + 1
      rw [Array.size_map, hlen]; omega))
    rw [hf]
    simp only [bne_self_eq_false, Bool.false_eq_true, if_false]
    refine wpAny_pure ?_
    have hl3 : (((arrOf st).toList.map (·.2)).map backV).length ≤ sizeLine := by rw [List.length_map, List.length_map, Array.length_toList, hlen]; exact hz
    have ar : ((arrOf st).map (·.2)) = ((arrOf st).toList.map (·.2)).toArray := by rw [← eo, Array.toArray_toList]
    have hc3 : ((s'.heap.update kS (Obj.mapSeq fun _ => (#[] : Array Value))).update a (Obj.mapSeq fun _ => (arrOf st).map (·.2))).get? a = some (seqObj "list" ((arrOf st).toList.map (·.2)).toArray c2) := by rw [← ar]; exact hc2
    exact h ((arrOf st).toList.map (·.2)) _ c2 po es J2 hc3 (inv_adopt J2 (fa Hc an) ⟨hl3, _, c2, vb, hc3⟩)
  unfold ksk_end
  try dsimp only
  simp only [Bool.false_eq_true, if_false]
  by_cases h2 : vs.toArray.size < 2
  · rw [if_pos h2, if_pos h2]
    refine wpAny_bind (wpAny_pure ?_)
    rw [StateT.run_pure]
    refine wpAny_bind (wpAny_pure ?_)
    try dsimp only
    refine tail (SortSt.mk' general' (kA.zip vs.toArray) #[] 7 none) ?_ (List.Perm.refl _) rfl
    show SrtO.Srtd _ (kA.zip vs.toArray).toList
    rw [ptl]
    rw [List.size_toArray] at h2
    have hl : (kA.toList.zip vs).length < 2 := by rw [List.length_zip, Array.length_toList, ksz, Nat.min_self]; exact h2
    match kA.toList.zip vs, hl with
    | [], _ => exact List.Pairwise.nil
    | [v], _ => exact List.pairwise_singleton _ _
    | _ :: _ :: l, h => exact absurd h (by rw [List.length_cons, List.length_cons]; omega)
  · rw [if_neg h2, if_neg h2]
    rw [List.size_toArray] at h2
    have kt : ∀ u ∈ kA.toList, KT s'.heap u (kf u) := fun u hm => by
      obtain ⟨i, hi⟩ := List.getElem?_of_mem hm
      have hi2 : i < vs.length := by
        have := (List.getElem?_eq_some_iff.mp hi).1
        rw [Array.length_toList, ksz] at this
        exact this
      have := hk i u vs[i] (by simpa using hi) (List.getElem?_eq_getElem hi2)
      rw [hkf _ _ this]; exact this
    have ka : kA = kA.toList.toArray := by rw [Array.toArray_toList]
    refine wpAny_bind ?_
    rw [ka]
    refine kt_kind (kf := kf) (by rw [Array.length_toList, ksz]; omega) kt ?_
    rw [← ka]
    refine wpAny_bind (wpAny_mono (SrtO.wpS_sortO (lt := fun p q : Keyed => ltK (kf p.1) (kf q.1)) (P := fun p => p ∈ (kA.zip vs.toArray).toList) (st0 := SortSt.mk' (tuples' true) (kA.zip vs.toArray) #[] 7 none)
      (Q := fun _ st' => SrtO.Srtd (fun p q : Keyed => ltK (kf p.1) (kf q.1)) (arrOf st').toList ∧ SrtO.Stb (fun p q : Keyed => ltK (kf p.1) (kf q.1)) (arrOf st').toList (kA.zip vs.toArray).toList ∧ failedOf st' = none)
      (swo_by swo_ltK fun p : Keyed => kf p.1) (fun p q hp hq => kt_lt (kfP p hp).1 (kfP q hq).1 (by show X.A.units + 1 + 1 < cLine; omega) ⟨rfl, rfl⟩) rfl (fun p hp => hp) rfl rfl fun st' a1 a2 a3 => ⟨a1, a2, a3⟩) ?_ fun _ _ e => e)
    rintro ⟨⟨⟩, st'⟩ s2 ⟨rfl, hp1, hp2, hf⟩
    try dsimp only
    exact tail st' hp1 hp2.perm hf
theorem sorted_key {l f : Addr} {fo : Obj} {vs : List Value} {ws : List V} {nf : Nat → Int} {itf : Value → List Int} {Q : VK} {E : Value → Shared → Prop} (I : Inv X pins σ H s) (hl : s.heap.IsList l vs.toArray) (hz : vs.length ≤ sizeLine) (rv : Vals ws vs) (refs : ∀ v ∈ vs, ∃ b, v = Value.ref b)
    (hof : s.heap.get? f = some fo) (hfn : H f = none) (hff : f ∉ frs X.stack) (hu : X.A.units + 16 < cLine)
    (hcall : ∀ (i : Nat) (v : Value) (w : V), vs[i]? = some v → ws[i]? = some w → ∀ (s1 : Shared) (H1 : Hp), Inv X pins σ H1 s1 → (∀ b o, H b = some o → H1 b = some o) → s1.heap.get? f = some fo →
      wpAny (model X.prog X.w) X.A.in1.in1 (call (.ref f) [v]) (fun u s2 => ∃ H2, Inv X pins σ H2 s2 ∧ Un (frs X.stack) [] H1 H2 s1.heap s2.heap ∧ (∀ b o, H1 b = some o → H2 b = some o) ∧ KeyAt H2 u (nf i) w) (fun _ _ => False) s1)
    (hkt : ∀ (s' : Shared) (Hc : Hp), Inv X pins σ Hc s' → (∀ b o, H b = some o → Hc b = some o) → ∀ (i : Nat) (u v : Value) (w : V), vs[i]? = some v → ws[i]? = some w → KeyAt Hc u (nf i) w → KT s'.heap u (keyOf (itf v)))
    (q : ∀ (out : List Value) (a : Addr) (Hc : Hp), out.Perm vs → out.map (fun v => keyOf (itf v)) = srtP (vs.map fun v => keyOf (itf v)) → (∀ b o, H b = some o → Hc b = some o) → Hc a = none → s.heap.objs.size ≤ a → Q (.ref a) (upd Hc a (.lst (out.map backV)))) :
    wpAny (model X.prog X.w) X.A (call (.builtin "sorted") [.ref l] [(Str.ofString "key", .ref f)]) (EP X pins σ Q) E s := by
  refine call_function_entry_kw kind_sorted plain_sorted entry_sorted (ksk_s1 _ _) ?_
  unfold Builtin.«sorted»
  refine wpAny_bind (m := checkCount "sorted" 1 1 _) (wpAny_pure ?_)
  refine wpAny_bind (collect_list hl ?_ hz)
  refine wpAny_bind (wpAny_newList ?_ hz)
  have hsz : ((s.heap.push (seqObj "list" #[] 0)).update s.heap.objs.size (Obj.mapSeq (· ++ vs.toArray))).objs.size = s.heap.objs.size + 1 := by
    rw [Heap.size_update, size_push']
  have hoL : (((s.heap.push (seqObj "list" #[] 0)).update s.heap.objs.size (Obj.mapSeq (· ++ vs.toArray))).push (seqObj "list" vs.toArray 0)).get? (s.heap.objs.size + 1) = some (seqObj "list" vs.toArray 0) := by
    rw [← hsz]; exact Heap.get?_push_size _ rfl
  have keep : ∀ b o, s.heap.get? b = some o → (((s.heap.push (seqObj "list" #[] 0)).update s.heap.objs.size (Obj.mapSeq (· ++ vs.toArray))).push (seqObj "list" vs.toArray 0)).get? b = some o := fun b o e => by
    have hlt : b < s.heap.objs.size := Heap.lt_size e
    refine Heap.get?_push_of_some _ ?_
    rw [Heap.get?_update_ne _ _ _ _ (Nat.ne_of_lt hlt)]
    exact Heap.get?_push_of_some _ e
  have hge : s.heap.objs.size ≤ s.heap.objs.size + 1 := Nat.le_succ _
  have fpa : ∀ Hc : Hp, Hc (s.heap.objs.size + 1) = none → FpOk X pins Hc (s.heap.objs.size + 1) := fun Hc hc => ⟨hc, (I.fpOk hge (I.hok.fresh hge)).2⟩
  have I1 : Inv X pins σ H { s with heap := ((s.heap.push (seqObj "list" #[] 0)).update s.heap.objs.size (Obj.mapSeq (· ++ vs.toArray))).push (seqObj "list" vs.toArray 0) } := I.kept (t' := s.toks) keep
  show wpAny _ _ _ _ _ { s with heap := ((s.heap.push (seqObj "list" #[] 0)).update s.heap.objs.size (Obj.mapSeq (· ++ vs.toArray))).push (seqObj "list" vs.toArray 0) }
  rw [hsz]
  refine wpAny_bind (wpAny_holding (wpAny_call_entry_kw slot_list_sort ⟨_, hoL, rfl⟩ entry_list_sort ?body (ksk_l1 _ _)))
  case body =>
    show wpAny (model X.prog X.w) X.A.in1.in1 (Builtin.«list.sort» ⟨[.ref (s.heap.objs.size + 1)], [(Str.ofString "key", .ref f)]⟩) _ _ _
    rw [ksk_t1]
    refine key_tree (s := { s with heap := ((s.heap.push (seqObj "list" #[] 0)).update s.heap.objs.size (Obj.mapSeq (· ++ vs.toArray))).push (seqObj "list" vs.toArray 0) }) I1 (fpa H (I.hok.fresh hge)) (stk_young I hge) (keep _ _ hof) hfn hff (Nat.ne_of_gt (Nat.lt_succ_of_lt (Heap.lt_size hof))) hoL hz rv hcall fun kS e1 kA Hc s' K nka fk => ?_
    refine key_end (itf := itf) K fpa nka fk hu hz rv refs (fun i u v h1 h2 => ?_) fun out s2 c hp hm I2 hg2 J => ⟨_, rfl, ?_⟩
    · have hi : i < vs.length := (List.getElem?_eq_some_iff.mp h2).1
      obtain ⟨u', w, h3, h4, h5⟩ := K.keys i hi
      rw [h1] at h3
      cases h3
      exact hkt s' Hc K.inv K.ext i u v w h2 h4 h5
    · exact wpAny_pure ⟨_, rfl, .ref _, _, J, rfl, q out _ Hc hp hm K.ext K.ha.1 hge⟩
end
theorem star_no' {e : Expr} {es : List Expr} {env : Env} (h : star e = false) : starEach (e :: es) env = (false, eval e env) :: starEach es env := by
  cases e <;> first | rfl | simp [star] at h
/-- no captured name, no cell -/
def noCF (sc : Scope) : Bool := sc.names.all fun y => match y.2 with
  | .cell => false
  | .free => false
  | _ => true
theorem cloFrom_no {cells : List (Str × Addr)} : ∀ {names : List (Str × NameKind)} {acc : List (Str × Addr)}, (∀ y ∈ names, y.2 ≠ .free) → cloFrom cells names acc = acc
  | [], _, _ => rfl
  | (n, k) :: r, acc, h => by
    unfold cloFrom
    have hk : (k == NameKind.free) = false := by
      have := h (n, k) List.mem_cons_self
      cases k <;> first | rfl | exact absurd rfl this
    rw [hk]
    exact cloFrom_no fun y hy => h y (List.mem_cons_of_mem _ hy)
theorem cellsFrom_no : ∀ {names : List (Str × NameKind)} {n : Nat} {acc : List (Str × Addr)}, (∀ y ∈ names, y.2 ≠ .cell) → cellsFrom n names acc = acc
  | [], _, _, _ => rfl
  | (x, k) :: r, n, acc, h => by
    unfold cellsFrom
    have hk : (k == NameKind.cell) = false := by
      have := h (x, k) List.mem_cons_self
      cases k <;> first | rfl | exact absurd rfl this
    rw [hk]
    exact cellsFrom_no fun y hy => h y (List.mem_cons_of_mem _ hy)
theorem noCF_of {sc : Scope} (h : noCF sc = true) : (∀ y ∈ sc.names, y.2 ≠ .free) ∧ ∀ y ∈ sc.names, y.2 ≠ .cell := by
  refine ⟨fun y hy e => ?_, fun y hy e => ?_⟩
  all_goals
    have q := List.all_eq_true.mp h y hy
    rw [e] at q
    cases q
/-- the def's code object is known, and its table -/
def LamF (g : Gx) (X : Cx) : Prop := ∃ c P, LamX.TabB X.base X.mg c P ∧ X.env.code = .ref c ∧ (P, X.env.qual ++ "<lambda>") ∈ g.T ∧ ∀ p ∈ g.T, p.1 = P → p.2 = X.env.qual ++ "<lambda>"
section
variable {g : Gx} {E : XK} {X : Cx}
theorem sub_extN {Φ H H' : Hp} (sb : Sub Φ H) (e : LamX.ExtN H H') : Sub Φ H' := fun a u h => by
  obtain ⟨n, z⟩ := sb a u h
  refine ⟨n, ?_⟩
  rcases z with z | ⟨o, kvs, z, y⟩
  · exact .inl (e _ _ z n)
  · exact .inr ⟨o, kvs, z, e _ _ y fun _ => HO.noConfusion⟩
theorem seq_extN {H H' : Hp} {a : Addr} {xs : List V} (h : SqL g.K H a xs) (e : LamX.ExtN H H') : SqL g.K H' a xs := by
  rcases h with (h | ⟨o, h⟩) | h
  · exact .inl (.inl (e _ _ h fun _ => HO.noConfusion))
  · exact .inl (.inr ⟨o, e _ _ h fun _ => HO.noConfusion⟩)
  · exact .inr h
theorem tupsOf_get : ∀ {ds : List D} {l : List (List Int)}, tupsOf ds = some l → ds = l.map tupI
  | [], l, h => by simp only [tupsOf, Option.some.injEq] at h; subst h; rfl
  | .tup ns :: r, l, h => by
    simp only [tupsOf] at h
    split at h
    · rename_i is l' e1 e2
      cases h
      have e3 : ∀ {ns : List D} {is : List Int}, intsOf ns = some is → ns = is.map D.int := by
        intro ns
        induction ns with
        | nil => intro is e; simp only [intsOf, Option.some.injEq] at e; subst e; rfl
        | cons d ds ih =>
          intro is e
          cases d with
          | int i =>
            simp only [intsOf] at e
            cases q : intsOf ds with
            | none => rw [q] at e; cases e
            | some l => rw [q] at e; cases e; rw [ih q]; rfl
          | _ => simp [intsOf] at e
      rw [List.map_cons, ← tupsOf_get e2, e3 e1]
      rfl
    · cases h
  | .non :: r, l, h => by simp [tupsOf] at h
  | .bl _ :: r, l, h => by simp [tupsOf] at h
  | .int _ :: r, l, h => by simp [tupsOf] at h
  | .str _ :: r, l, h => by simp [tupsOf] at h
  | .lst _ _ :: r, l, h => by simp [tupsOf] at h
  | .obj _ :: r, l, h => by simp [tupsOf] at h
  | .kt _ :: r, l, h => by simp [tupsOf] at h
  | .dc _ _ _ :: r, l, h => by simp [tupsOf] at h
/-- what is asked of the list -/
def rKey (g : Gx) : V → Hp → VK → Prop := fun v H Q => ∃ (Φ : Hp) (ρ : List Addr) (d r : D), Sub Φ H ∧ LamX.Tabs g.T H ∧ PkR g Φ H ρ d v ∧ keySrt d = some r ∧ Aft g Φ H ρ r Q
theorem key_to {c : C} {m : M (Option D)} {σ : L2.St} {H : Hp} {Q : VK} (h : EvR g E (bnd m fun x => bnd (fill1 c x) fun d => lift (keySrt d)) σ H Q) : OpdR g E c m σ H fun v H1 => rKey g v H1 Q := by
  obtain ⟨Φ, ρ, s, fs, F, r, k, hm, p⟩ := h
  rcases bnd_some hm with ⟨o, s1, h1, h2⟩ | ⟨x, h1, rfl⟩
  · refine OpdR.val k h1 fun Φ1 H1 ρ1 v fs1 st1 k1 pd => ?_
    rcases bnd_some h2 with ⟨d, s2, h3, h4⟩ | ⟨x, h3, rfl⟩
    · obtain ⟨d', s', Φ2, fs2, e, st2, k2, pk⟩ := fill1_ok k1 pd h3
      cases e
      obtain ⟨z, e1, rfl⟩ := lift_some h4
      exact ⟨Φ2, ρ1, d, z, k2.sub, k2.tab, pk, e1, k2.aft (p.shift (st1.trans st2 fun _ h => h) fun _ h => h)⟩
    · obtain ⟨_, _, _, _, e, _⟩ := fill1_ok k1 pd h3
      cases e
  · exact OpdR.exc k h1 p
theorem pe_srtKey {e : Expr} {a : C} {m : M (Option D)} {y : Str} {params : Arguments} {sc : Scope} {kk : Nat} {p p1 p2 p3 p4 p5 kpos lpos pos : Pos} (hK : X.K = g.K) (hcalm : X.calm = true) (hu : X.A.units + 65 < cLine) (hr : Room 2 X.A) (hL : LamF g X)
    (hg : Gl X "sorted") (hm : X.mg "sorted" = none) (hml : X.mg "len" = none) (he : PE X e (OpdR g E a m)) (hs : star e = false) (S : FnScope [y] [y] sc) (hn : noCF sc = true) (hlen : sc.names.lookup ("len" : Str) = some .globalImplicit)
    (hyd : (y == ("__debug__" : Str)) = false) (hyc : (y == ("__classdict__" : Str)) = false) (hdef : defaultsOf params X.env = ([], []))
    (hb : ∀ (qual : Str) (cl : List (Str × Addr)) (pm cv ctv v : Value), bindArgs (PySem.W.kla_fn "<lambda>" qual params (.Tuple [.Call (.Name "len" p1) [.Name y p2] [] p3, .Name y p4] kk p5) sc cl pm cv ctv) ⟨[v], []⟩ = pure [(y, v)]) :
    PE X (.Call (.Name "sorted" p) [e] [⟨some "key", .Lambda params (.Tuple [.Call (.Name "len" p1) [.Name y p2] [] p3, .Name y p4] kk p5) sc lpos, kpos⟩] pos) (EvR g E (bnd m fun x => bnd (fill1 a x) fun d => lift (keySrt d))) := by
  refine pe_imp (t := fun σ H Q => tCons (OpdR g E a m) tNil σ H fun vs H1 => ∃ v, vs = [v] ∧ rKey g v H1 Q) ⟨fun pins s σ H Q I h => ?_⟩ fun σ H Q h => ?_
  case refine_2 =>
    have z := key_to h
    obtain ⟨Φ, ρ, s, fs, F, r, k, hm, p⟩ := z
    refine ⟨Φ, ρ, s, fs, F, r, k, hm, ?_⟩
    cases r with
    | val o s' => exact fun Φ' H' ρ' v fs' st ok pd => ⟨v, rfl, p Φ' H' ρ' v fs' st ok pd⟩
    | exc x => exact p
  obtain ⟨hnf, hnc⟩ := noCF_of hn
  have hst : starEach [e] X.env = (false, eval e X.env) :: starEach [] X.env := star_no' hs
  refine wpAny_Call_Name_kw (ld_blt I hg hm (show bootBuiltins "sorted" = some (.builtin "sorted") by decide +kernel) ?_)
  refine callWith_kw (L2.thn ((pa_cons he pa_nil hst).run pos pins s σ H _ I h) fun us s1 z => ?_) (by rw [hst]; rfl) (by rw [hst]; rfl)
  obtain ⟨vs, H1, I1, r1, v, rfl, Φ, ρ, d, r, sb, tb, pk, hk, af⟩ := z
  obtain ⟨u, rfl, ru⟩ := vals1 r1
  obtain ⟨c, P, TB, hcode, hT, huq⟩ := hL
  show wpAny _ _ (evalAll [(do let v ← eval (.Lambda params (.Tuple [.Call (.Name "len" p1) [.Name y p2] [] p3, .Name y p4] kk p5) sc lpos) X.env; standAt pos; pure v)]) _ _ s1
  refine wpAny_evalAll_cons (wpAny_bind (LamX.lam_make2 I1 TB hcode hT huq tb hdef (fun y hy e => absurd e (hnf y hy)) fun f c' pm ctv H2 s2 I2 eN T2 hof hfn hff hco => wpAny_bind (wpAny_standAt (wpAny_pure (wpAny_evalAll_nil ?_)))))
  rw [cloFrom_no hnf] at hof
  show wpAny _ _ (call (.builtin "sorted") [u] [(Str.ofString "key", .ref f)]) _ _ s2
  -- the list
  cases d with
  | lst o ds =>
    simp only [keySrt] at hk
    cases q : tupsOf ds with
    | none => rw [q] at hk; cases hk
    | some l =>
      rw [q] at hk
      cases hk
      have e1 := tupsOf_get q
      subst e1
      obtain ⟨la, ws, rfl, t, rr⟩ := pk.lst sb
      cases ru
      have t2 : SqL X.K H2 la ws := by rw [hK]; exact seq_extN t eN
      have sb2 : Sub Φ H2 := sub_extN sb eN
      obtain ⟨its, rv, pl, hz⟩ := I2.list t2
      have hlenW := RepL.len _ _ _ rr
      rw [List.length_map] at hlenW
      have hits := rv.length
      have subE : ∀ {H3 : Hp}, (∀ b o, H2 b = some o → H3 b = some o) → Sub Φ H3 := fun {H3} ex a u h => by
        obtain ⟨n, z⟩ := sb2 a u h
        refine ⟨n, ?_⟩
        rcases z with z | ⟨o, kvs, z, y⟩
        · exact .inl (ex _ _ z)
        · exact .inr ⟨o, kvs, z, ex _ _ y⟩
      have at_ : ∀ (i : Nat) (u : Value) (w : V), its[i]? = some u → ws[i]? = some w → ∃ ns, l[i]? = some ns ∧ Rep g Φ (fun _ => none) ρ (tupI ns) w [] ∧ ∃ b, w = .ref b ∧ u = .ref b := fun i u w hi hw => by
        have hl : i < its.length := (List.getElem?_eq_some_iff.mp hi).1
        have hl2 : i < l.length := by omega
        have hd : (l.map tupI)[i]? = some (tupI l[i]) := by rw [List.getElem?_map, List.getElem?_eq_getElem hl2]; rfl
        obtain ⟨w', hw', rw'⟩ := RepL.get _ _ rr i _ hd
        rw [hw] at hw'
        cases hw'
        obtain ⟨u', hu', ru'⟩ := rv.get hw
        rw [hi] at hu'
        cases hu'
        have rw2 := rw'
        simp only [tupI, Rep] at rw2
        obtain ⟨b, _, rfl, _⟩ := rw2
        cases ru'
        exact ⟨l[i], List.getElem?_eq_getElem hl2, rw'.any, b, rfl, rfl⟩
      obtain ⟨itf, hitf⟩ : ∃ itf : Value → List Int, ∀ (i : Nat) (u : Value), its[i]? = some u → l[i]? = some (itf u) := by
        classical
        refine ⟨fun u => if h : ∃ ns b its, u = Value.ref b ∧ s2.heap.IsTuple b its ∧ IntsAre its.toList ns then h.choose else [], fun i u hi => ?_⟩
        have hl : i < its.length := (List.getElem?_eq_some_iff.mp hi).1
        have hw : ws[i]? = some ws[i] := List.getElem?_eq_getElem (by omega)
        obtain ⟨ns, h1, h2, b, h3, h4⟩ := at_ i u _ hi hw
        obtain ⟨b', its', e', ht, hia⟩ := tup_ints hK I2 sb2 (h2.any (H' := H2))
        rw [h3] at e'
        cases e'
        have hx : ∃ ns b its, u = Value.ref b ∧ s2.heap.IsTuple b its ∧ IntsAre its.toList ns := ⟨ns, b, its', h4, ht, hia⟩
        dsimp only
        rw [dif_pos hx, h1]
        obtain ⟨b2, its2, e2, ht2, hia2⟩ := hx.choose_spec
        rw [h4] at e2
        cases e2
        obtain ⟨o1, ho1, _, n1, hd1⟩ := ht
        obtain ⟨o2, ho2, _, n2, hd2⟩ := ht2
        rw [ho1] at ho2; cases ho2
        rw [hd1] at hd2
        injection hd2 with e6 e7
        subst e6
        exact congrArg some (by rw [← hia.nums, ← hia2.nums])
      have refs : ∀ v ∈ its, ∃ b, v = Value.ref b := fun v hv => by
        obtain ⟨i, hi⟩ := List.getElem?_of_mem hv
        have hl : i < its.length := (List.getElem?_eq_some_iff.mp hi).1
        obtain ⟨_, _, _, b, _, h4⟩ := at_ i v _ hi (List.getElem?_eq_getElem (show i < ws.length by omega))
        exact ⟨b, h4⟩
      have hpar : Vis sc y := by rcases S.par y (by simp) with k | k; exact .inl k; exact .inr (.inl k)
      refine sorted_key (nf := fun i => (((l[i]?).getD []).length : Nat)) (itf := itf) I2 pl.isList (by rw [← hits]; exact hz) rv refs hof hfn hff (by omega) (fun i v w hv hw s3 H3 I3 ex hof3 => ?_) (fun s3 Hc I3 ex i u v w hv hw hkey => ?_) fun out pa Hc hp hm ex hna hge => ?_
      · obtain ⟨ns, h1, h2, b, rfl, rfl⟩ := at_ i v w hv hw
        have sb3 := subE ex
        refine L2.thn (lam_call1 (k := 0) (w := .ref b) (y := y) (Q := fun x H' => (∀ b o, H3 b = some o → H' b = some o) ∧ ∃ t o, x = .ref t ∧ H' t = some (.frz o (.tup [.int (ns.length : Nat), .ref b]))) (t := tTupF (tCons (tCB (rLen X.K) (tCons (tVar 0) tNil)) (tCons (tVar 0) tNil))) I3 rfl ⟨hr.hd, ?_, ?_⟩ hcalm S (cellsFrom_no hnc) hof3 (ex _ _ hco) (fun cl pm cv ctv v => hb _ cl pm cv ctv v) rfl (fun A' hr' => ?_) ?_) fun x s4 z => ?_
        · have := hr.dp; show X.A.depth + 3 * 1 + 5 < _; omega
        · have := hr.un; show X.A.units + 1 + 1 + 16 * 1 + 200 < _; omega
        · exact pe_tupF (pa_cons (pe_callB call_len (by exact hlen) (by exact hml) (by decide +kernel) (pa_cons (pe_var (i := 0) rfl hpar hyd hyc) pa_nil rfl) (by decide) (by decide) rfl rfl) (pa_cons (pe_var (i := 0) rfl hpar hyd hyc) pa_nil rfl) rfl)
        · have rb := h2
          simp only [tupI, Rep] at rb
          obtain ⟨b2, wv, e2, tt, rrb⟩ := rb
          cases e2
          have hwl : wv.length = ns.length := by rw [RepL.len _ _ _ rrb, List.length_map]
          refine ⟨.ref b, rfl, .ref b, ns.length, rfl, .inr ⟨wv, by rw [hK]; exact sub_t sb3 tt.sq, hwl.symm⟩, .ref b, rfl, (show 2 ≤ sizeLine by decide), fun q o hq hd => ?_⟩
          exact ⟨fun b' o' e => by rw [upd_ne (ne_of_none e hq)]; exact e, q, o, rfl, upd_same⟩
        · obtain ⟨x', H', J, un, rx, ex4, t, o, rfl, ht⟩ := z
          cases rx
          refine ⟨H', J, un, ex4, t, o, rfl, ?_⟩
          have : ((l[i]?).getD []) = ns := by rw [h1]; rfl
          rw [this]; exact ht
      · obtain ⟨ns, h1, h2, b, rfl, rfl⟩ := at_ i v w hv hw
        have e2 := hitf i _ hv
        rw [h1] at e2
        cases e2
        obtain ⟨b', its', e', ht, hia⟩ := tup_ints hK I3 (subE ex) (h2.any (H' := Hc))
        cases e'
        obtain ⟨t, o, rfl, hh⟩ := hkey
        obtain ⟨e3, hz3, its3, rv3, ob, e4, hc4, n4, hd4⟩ := I3.hok t _ hh
        rw [e3] at e4
        cases e4
        obtain ⟨u1, u2, rfl, q1, q2⟩ := vals2 rv3
        obtain ⟨tk, rfl⟩ := q1
        cases q2
        have : ((l[i]?).getD []) = itf (.ref b) := by rw [h1]; rfl
        rw [this] at hd4
        exact ⟨t, o, tk, b, n4, its', rfl, e3, hc4, hd4, ht, hia⟩
      · have hml2 : its.map (fun v => keyOf (itf v)) = l.map fun a => ((a.length : Int), a) := by
          apply List.ext_getElem?
          intro i
          rw [List.getElem?_map, List.getElem?_map]
          cases hi : its[i]? with
          | none =>
            have h1 : its.length ≤ i := List.getElem?_eq_none_iff.mp hi
            rw [List.getElem?_eq_none_iff.mpr (by omega)]; rfl
          | some u => rw [hitf i u hi]; rfl
        have eds : (srtP (l.map fun a => ((a.length : Int), a))).map (fun p => tupI p.2) = out.map fun v => tupI (itf v) := by
          rw [← hml2, ← hm, List.map_map]; rfl
        rw [eds] at af
        have w1 : Grow g Φ H1 Φ Hc := ⟨fun b o e n => ex _ _ (eN _ _ e n), fun _ => T2.ext ex, fun _ _ h => h, subE ex, fun _ h => h.1⟩
        have rl : RepL g Φ Hc ρ (out.map fun v => tupI (itf v)) (out.map backV) [] := by
          refine RepL.of_get _ _ (by rw [List.length_map, List.length_map]) fun i d v hd hv => ?_
          rw [List.getElem?_map] at hd hv
          cases ho : out[i]? with
          | none => rw [ho] at hv; cases hv
          | some u =>
            rw [ho] at hv hd
            cases hv
            cases hd
            have hmem : u ∈ its := hp.mem_iff.mp (List.mem_of_getElem? ho)
            obtain ⟨j, hj⟩ := List.getElem?_of_mem hmem
            have hjl : j < its.length := (List.getElem?_eq_some_iff.mp hj).1
            obtain ⟨ns, h1, h2, b, h3, h4⟩ := at_ j u _ hj (List.getElem?_eq_getElem (show j < ws.length by omega))
            have e2 := hitf j _ hj
            rw [h1] at e2
            cases e2
            subst h4
            rw [h3] at h2
            exact h2.any
        obtain ⟨w2, r2⟩ := new_lst (subE ex) rl hna
        refine af _ _ _ [pa] (w1.trans w2) r2 (by simp) fun x hx u hu => ?_
        simp only [List.mem_singleton] at hx
        subst hx
        apply Classical.byContradiction
        intro hnt
        have := ex _ _ (eN _ _ hu fun ps z => hnt ⟨ps, z⟩)
        rw [hna] at this
        cases this
  | _ => simp [keySrt] at hk
end
end Den
/-! Den7: defs called, methods of built-ins. -/
namespace Den
open PySem PySem.Spec L2
def outsSl : List Md → List D → List (Option D)
  | [], _ => []
  | .val :: ms, ds => none :: outsSl ms ds
  | .io :: ms, [] => none :: outsSl ms []
  | .io :: ms, d :: ds => some d :: outsSl ms ds
/-- a def's promise: it does what run says -/
def spD (g : Gx) (F : Fn) : Sp := fun vs H Q E => ∃ Φ ρ ds os fs Fr r, Ok g Φ H ρ ⟨ds.map some, os⟩ (vs.map some) fs Fr ∧ ds.length = F.io.length ∧ F.run ds os = some r ∧ match r with
  | .ret d outs os' => ∀ Φ' H' ρ' v f fs', Stp Φ H ρ Fr Φ' H' ρ' → Ok g Φ' H' ρ' ⟨outsSl F.io outs, os'⟩ (vs.map some) fs' (fadd f Fr) → Vl g Φ' H' ρ' d v f Fr → Q v H'
  | .exc x => PX g E Φ H ρ Fr x
def LateOk : List Md → List (Option D) → Prop
  | [], [] => True
  | .val :: ms, o :: os => (∃ d, o = some d) ∧ LateOk ms os
  | .io :: ms, o :: os => o = none ∧ LateOk ms os
  | _, _ => False
section
variable {g : Gx} {E : XK} {X : Cx} {Φ Φ1 Φ' H H1 H' : Hp} {ρ ρ1 ρ' : List Addr} {F F1 : Addr → Prop} {σ : L2.St} {s : S} {fs : Ix → List Addr} {Q : VK}
theorem evOps_late {Γ : Tb} : ∀ (ms : List Md) (as : Cs) (s : S) (os : List (Option D)) (s' : S), evOps Γ ms as s = some (.val os s') → LateOk ms os
  | [], .nil, s, os, s', h => by simp only [evOps] at h; cases ret_some h; exact trivial
  | [], .cons _ _, s, os, s', h => by simp [evOps, stuck] at h
  | _ :: _, .nil, s, os, s', h => by simp [evOps, stuck] at h
  | .val :: ms, .cons a as, s, os, s', h => by
    simp only [evOps] at h
    rcases bnd_some h with ⟨o, s1, h1, h2⟩ | ⟨x, h1, e⟩
    · rcases bnd_some h2 with ⟨os', s2, h3, h4⟩ | ⟨x, h3, e⟩
      · cases ret_some h4
        refine ⟨?_, evOps_late ms as _ _ _ h3⟩
        rcases bnd_some h1 with ⟨d, s3, h5, h6⟩ | ⟨x, h5, e⟩
        · cases ret_some h6; exact ⟨_, rfl⟩
        · cases e
      · cases e
    · cases e
  | .io :: ms, .cons a as, s, os, s', h => by
    simp only [evOps] at h
    rcases bnd_some h with ⟨o, s1, h1, h2⟩ | ⟨x, h1, e⟩
    · rcases bnd_some h2 with ⟨os', s2, h3, h4⟩ | ⟨x, h3, e⟩
      · cases ret_some h4
        refine ⟨?_, evOps_late ms as _ _ _ h3⟩
        unfold hasV at h1
        split at h1
        · split at h1
          · cases h1; rfl
          · cases h1
        · cases h1
      · cases e
    · cases e
/-- arguments in hand: each with its own addresses -/
structure Args (g : Gx) (Φ H : Hp) (ρ : List Addr) (ds : List D) (vs : List V) (fa : Nat → List Addr) (F : Addr → Prop) : Prop where
  len : ds.length = vs.length
  rep : ∀ (j : Nat) (d : D), ds[j]? = some d → ∃ v, vs[j]? = some v ∧ Rep g Φ H ρ d v (fa j)
  nil : ∀ j, ds.length ≤ j → fa j = []
  nd : ∀ j, (fa j).Nodup
  sep : ∀ j k a, a ∈ fa j → a ∈ fa k → j = k
  out : ∀ j a, a ∈ fa j → ¬ F a
def gof (fa : Nat → List Addr) (F : Addr → Prop) : Addr → Prop := fun a => (∃ j, a ∈ fa j) ∨ F a
def consF (f : List Addr) (fa : Nat → List Addr) : Nat → List Addr
  | 0 => f
  | j + 1 => fa j
theorem fillC_ok : ∀ {as : Cs} {os : List (Option D)} {vs : List V} {s : S} {fs : Ix → List Addr} {F : Addr → Prop} {r : Ex (List D)}, Ok g Φ H ρ s σ fs F → Pends g Φ ρ σ as os vs → fillC as os s = some r →
    ∃ ds s' fa fs', r = .val ds s' ∧ Ok g Φ H ρ s' σ fs' (gof fa F) ∧ Args g Φ H ρ ds vs fa F ∧ s'.os = s.os
  | _, _, _, s, fs, F, r, k, .nil, h => by
    cases ret_some h
    exact ⟨[], s, fun _ => [], fs, rfl, k.less fun a ha => ha.elim (fun ⟨j, z⟩ => by cases z) fun z => z, ⟨rfl, fun j d e => by simp at e, fun _ _ => rfl, fun _ => List.nodup_nil, fun _ _ _ z => (by cases z), fun _ _ z => (by cases z)⟩, rfl⟩
  | _, _, _, s, fs, F, r, k, .cons (a := a) (o := o) (v := v) (vs := vs) pd ps, h => by
    have fin : ∀ (d : D) (s1 : S) (f : List Addr) (fs1 : Ix → List Addr), Ok g Φ H ρ s1 σ fs1 (fadd f F) → Vl g Φ H ρ d v f F → s1.os = s.os → ∀ (as : Cs) (os : List (Option D)), Pends g Φ ρ σ as os vs → bnd (fillC as os) (fun ds => ret (d :: ds)) s1 = some r →
        ∃ ds s' fa fs', r = .val ds s' ∧ Ok g Φ H ρ s' σ fs' (gof fa F) ∧ Args g Φ H ρ ds (v :: vs) fa F ∧ s'.os = s.os := fun d s1 f fs1 k1 vl eo as os ps h2 => by
      rcases bnd_some h2 with ⟨ds, s2, h3, h4⟩ | ⟨x, h3, rfl⟩
      · cases ret_some h4
        obtain ⟨_, _, fa, fs2, e, k2, A, eo2⟩ := fillC_ok k1 ps h3
        cases e
        refine ⟨d :: ds, s2, consF f fa, fs2, rfl, k2.less fun b hb => ?_, ⟨by simp [A.len], fun j d' e => ?_, fun j hj => ?_, fun j => ?_, fun j l b hj hl => ?_, fun j b hj => ?_⟩, eo2.trans eo⟩
        · rcases hb with ⟨j, hj⟩ | hb
          · cases j with
            | zero => exact .inr (.inl hj)
            | succ j => exact .inl ⟨j, hj⟩
          · exact .inr (.inr hb)
        · cases j with
          | zero => simp at e; subst e; exact ⟨v, rfl, vl.rep⟩
          | succ j => exact A.rep j d' (by simpa using e)
        · cases j with
          | zero => simp at hj
          | succ j => exact A.nil j (by simpa using hj)
        · cases j with
          | zero => exact vl.nd
          | succ j => exact A.nd j
        · cases j with
          | zero =>
            cases l with
            | zero => rfl
            | succ l => exact absurd (.inl hj) (A.out l b hl)
          | succ j =>
            cases l with
            | zero => exact absurd (.inl hl) (A.out j b hj)
            | succ l => rw [A.sep j l b hj hl]
        · cases j with
          | zero => exact vl.out b hj
          | succ j => exact fun z => A.out j b hj (.inr z)
      · obtain ⟨_, _, _, _, e, _⟩ := fillC_ok k1 ps h3
        cases e
    unfold fillC at h
    rcases bnd_some h with ⟨d, s1, h1, h2⟩ | ⟨x, h1, rfl⟩
    · cases o with
      | some d0 =>
        cases ret_some h1
        exact fin d s [] fs k.nof ⟨pd.2.any, List.nodup_nil, fun a ha => by cases ha⟩ rfl _ _ ps h2
      | none =>
        obtain ⟨i, rfl, hv⟩ := pd
        simp only [mvV] at h1
        split at h1
        · rename_i q
          cases h1
          obtain ⟨v', e1, vl, ok⟩ := k.take q
          rw [hv] at e1
          cases e1
          exact fin _ _ _ _ ok vl rfl _ _ ps h2
        · cases h1
    · cases o with
      | some d0 => cases ret_some h1
      | none =>
        obtain ⟨i, rfl, hv⟩ := pd
        simp only [mvV] at h1
        split at h1 <;> cases h1
theorem putB_ok {os' : List Ob} : ∀ {as : Cs} {os : List (Option D)} {vs : List V} {ms : List Md} {outs : List D} {sl sl' : List (Option D)} {fo : Nat → List Addr} {fs : Ix → List Addr}, Pends g Φ ρ1 σ as os vs → LateOk ms os → putB (ioSl ms as) outs sl = some sl' →
    Ok g Φ' H' ρ' ⟨sl, os'⟩ σ fs (gof fo F) → (∀ (j : Nat) (d : D), (outsSl ms outs)[j]? = some (some d) → ∃ v, vs[j]? = some v ∧ Rep g Φ' H' ρ' d v (fo j)) → (∀ j, (fo j).Nodup) → (∀ j k a, a ∈ fo j → a ∈ fo k → j = k) → (∀ j a, a ∈ fo j → ¬ F a) →
    ∃ fs', Ok g Φ' H' ρ' ⟨sl', os'⟩ σ fs' F
  | _, _, _, [], outs, sl, sl', fo, fs, .nil, l, h, k, hr, hn, hs, ho => by
    cases outs with
    | nil => simp only [ioSl, putB] at h; cases h; exact ⟨fs, k.less fun a ha => .inr ha⟩
    | cons _ _ => simp [ioSl, putB] at h
  | _, _, _, .val :: _, outs, sl, sl', fo, fs, .nil, l, h, k, hr, hn, hs, ho => l.elim
  | _, _, _, .io :: _, outs, sl, sl', fo, fs, .nil, l, h, k, hr, hn, hs, ho => l.elim
  | _, _, _, [], outs, sl, sl', fo, fs, .cons pd ps, l, h, k, hr, hn, hs, ho => l.elim
  | _, _, _, .val :: ms, outs, sl, sl', fo, fs, .cons pd ps, l, h, k, hr, hn, hs, ho => by
    refine putB_ok (ms := ms) (fo := fun j => fo (j + 1)) ps l.2 h (k.less fun a ha => ?_) (fun j d e => ?_) (fun j => hn _) (fun j l a h1 h2 => by have := hs _ _ a h1 h2; omega) fun j a h1 => ho _ a h1
    · exact ha.imp_left fun ⟨j, z⟩ => ⟨j + 1, z⟩
    · simpa using hr (j + 1) d (by simpa [outsSl] using e)
  | _, _, _, .io :: ms, outs, sl, sl', fo, fs, .cons (vs := vs) pd ps, l, h, k, hr, hn, hs, ho => by
    obtain ⟨rfl, l2⟩ := l
    obtain ⟨i, rfl, hv⟩ := pd
    simp only [ioSl] at h
    cases outs with
    | nil => simp [putB] at h
    | cons d outs =>
      simp only [putB] at h
      split at h
      · rename_i hi
        obtain ⟨v, e1, r⟩ := hr 0 d rfl
        simp at e1
        subst e1
        have k2 : Ok g Φ' H' ρ' ⟨sl, os'⟩ σ fs (fadd (fo 0) (gof (fun j => fo (j + 1)) F)) := k.less fun a ha => by
          rcases ha with ha | ⟨j, ha⟩ | ha
          · exact .inl ⟨0, ha⟩
          · exact .inl ⟨j + 1, ha⟩
          · exact .inr ha
        have k3 := k2.put (i := i) ⟨r, hn 0, fun a ha z => by
          rcases z with ⟨j, z⟩ | z
          · exact absurd (hs _ _ a ha z) (by omega)
          · exact ho 0 a ha z⟩ hi hv
        exact putB_ok (ms := ms) (fo := fun j => fo (j + 1)) ps l2 h k3 (fun j d' e => by simpa using hr (j + 1) d' (by simpa [outsSl] using e)) (fun j => hn _) (fun j l a h1 h2 => by have := hs _ _ a h1 h2; omega) fun j a h1 => ho _ a h1
      · cases h
theorem call_sp {F0 : Fn} {as : Cs} {os : List (Option D)} {vs : List V} {r : Ex D} (k : Ok g Φ H ρ s σ fs F) (ps : Pends g Φ ρ σ as os vs) (hl : LateOk F0.io os)
    (h : bnd (fillC as os) (fun ds => callF F0 (ioSl F0.io as) ds) s = some r) (p : PV g E Φ H ρ F σ r Q) (hlen : vs.length = F0.io.length) : spD g F0 vs H Q E := by
  rcases bnd_some h with ⟨ds, s1, h1, h2⟩ | ⟨x, h1, rfl⟩
  · obtain ⟨_, _, fa, fs1, e, k1, A, eo⟩ := fillC_ok k ps h1
    cases e
    let fsA : Ix → List Addr := fun x => match x with
      | .inl j => fa j
      | .inr n => fs1 (.inr n)
    let Fr : Addr → Prop := fun a => F a ∨ ∃ i, a ∈ fs1 (.inl i)
    have kA : Ok g Φ H ρ ⟨ds.map some, s1.os⟩ (vs.map some) fsA Fr := by
      refine ⟨k1.sub, k1.tab, fun a ha => ?_, by simp [A.len], fun i d q => ?_, fun i q => ?_, k1.obl, k1.obj, k1.obj0, fun x => ?_, fun x y a hx hy => ?_, fun x a hx => ?_⟩
      · rcases ha with ha | ⟨i, ha⟩
        · exact k1.fr a (.inr ha)
        · exact k1.at _ a ha
      · rw [List.getElem?_map] at q
        cases e : ds[i]? with
        | none => rw [e] at q; cases q
        | some d' =>
          rw [e] at q
          cases q
          obtain ⟨v, e1, r1⟩ := A.rep i _ e
          exact ⟨v, by rw [List.getElem?_map, e1]; rfl, r1⟩
      · refine A.nil i ?_
        cases e : ds[i]? with
        | none => exact List.getElem?_eq_none_iff.mp e
        | some d' => exact absurd (by rw [List.getElem?_map, e]; rfl) (q d')
      · cases x with
        | inl j => exact A.nd j
        | inr n => exact k1.nd _
      · cases x with
        | inl j =>
          cases y with
          | inl l => rw [A.sep j l a hx hy]
          | inr n => exact absurd (.inl ⟨j, hx⟩) (k1.out _ a hy)
        | inr n =>
          cases y with
          | inl l => exact absurd (.inl ⟨l, hy⟩) (k1.out _ a hx)
          | inr m => exact k1.sep _ _ a hx hy
      · cases x with
        | inl j =>
          intro z
          rcases z with z | ⟨i, z⟩
          · exact A.out j a hx z
          · exact k1.out _ a z (.inl ⟨j, hx⟩)
        | inr n =>
          intro z
          rcases z with z | ⟨i, z⟩
          · exact k1.out _ a hx (.inr z)
          · exact absurd (k1.sep _ _ a hx z) (by simp)
    unfold callF at h2
    refine ⟨Φ, ρ, ds, s1.os, fsA, Fr, ?_⟩
    cases er : F0.run ds s1.os with
    | none => rw [er] at h2; cases h2
    | some ro =>
      rw [er] at h2
      refine ⟨ro, kA, by rw [A.len, hlen], rfl, ?_⟩
      cases ro with
      | exc x =>
        cases h2
        exact PX.shift p (Stp.refl k.nF) fun a ha => .inl ha
      | ret d outs os' =>
        dsimp only at h2
        split at h2
        · rename_i sl' hp
          cases h2
          intro Φ' H' ρ' v f fsA' st kA' vl
          let fsB : Ix → List Addr := fun x => match x with
            | .inl i => fs1 (.inl i)
            | .inr n => fsA' (.inr n)
          have kB : Ok g Φ' H' ρ' ⟨s1.sl, os'⟩ σ fsB (gof (fun j => fsA' (.inl j)) (fadd f F)) := by
            refine ⟨kA'.sub, kA'.tab, fun a ha => ?_, k1.len, fun i d' q => ?_, k1.slot0, kA'.obl, kA'.obj, kA'.obj0, fun x => ?_, fun x y a hx hy => ?_, fun x a hx => ?_⟩
            · rcases ha with ⟨j, ha⟩ | ha | ha
              · exact kA'.at _ a ha
              · exact kA'.fr a (.inl ha)
              · exact kA'.fr a (.inr (.inl ha))
            · obtain ⟨w, e1, r1⟩ := k1.slot i d' q
              exact ⟨w, e1, r1.stp st fun a ha => .inr ⟨i, ha⟩⟩
            · cases x with
              | inl i => exact k1.nd _
              | inr n => exact kA'.nd _
            · cases x with
              | inl i =>
                cases y with
                | inl l => exact k1.sep _ _ a hx hy
                | inr n => exact absurd (.inr (.inr ⟨i, hx⟩)) (kA'.out _ a hy)
              | inr n =>
                cases y with
                | inl l => exact absurd (.inr (.inr ⟨l, hy⟩)) (kA'.out _ a hx)
                | inr m => exact kA'.sep _ _ a hx hy
            · cases x with
              | inl i =>
                intro z
                rcases z with ⟨j, z⟩ | z | z
                · exact kA'.out _ a z (.inr (.inr ⟨i, hx⟩))
                · exact vl.out a z (.inr ⟨i, hx⟩)
                · exact k1.out _ a hx (.inr z)
              | inr n =>
                intro z
                rcases z with ⟨j, z⟩ | z | z
                · exact absurd (kA'.sep _ _ a hx z) (by simp)
                · exact kA'.out _ a hx (.inl z)
                · exact kA'.out _ a hx (.inr (.inl z))
          obtain ⟨fs', k'⟩ := putB_ok ps hl hp kB (fun j d' e => by
              obtain ⟨w, e1, r1⟩ := kA'.slot j d' e
              rw [List.getElem?_map] at e1
              cases ev : vs[j]? with
              | none => rw [ev] at e1; cases e1
              | some w' => rw [ev] at e1; cases e1; exact ⟨_, rfl, r1⟩) (fun j => kA'.nd _) (fun j l a h1 h2 => Sum.inl.inj (kA'.sep _ _ a h1 h2)) fun j a h1 z => by
            rcases z with z | z
            · exact kA'.out _ a h1 (.inl z)
            · exact kA'.out _ a h1 (.inr (.inl z))
          exact p Φ' H' ρ' v f fs' (st.less fun a ha => .inl ha) k' (vl.less fun a ha => .inl ha)
        · cases h2
  · obtain ⟨_, _, _, _, e, _⟩ := fillC_ok k ps h1
    cases e
theorem call_to {F0 : Fn} {as : Cs} {m : M (List (Option D))} {σ : L2.St} {H : Hp} {Q : VK} (hl : ∀ s os s', m s = some (.val os s') → LateOk F0.io os) (h : EvR g E (bnd m fun os => bnd (fillC as os) fun ds => callF F0 (ioSl F0.io as) ds) σ H Q) :
    tCall (spD g F0) [] E (PksR g E as m) σ H Q := by
  obtain ⟨Φ, ρ, s, fs, F, r, k, hm, p⟩ := h
  rcases bnd_some hm with ⟨os, s1, h1, h2⟩ | ⟨x, h1, rfl⟩
  · refine ⟨Φ, ρ, s, fs, F, _, k, h1, fun Φ1 H1 ρ1 vs fs1 st1 k1 ps => ?_⟩
    have l := hl _ _ _ h1
    have lens : ∀ {as : Cs} {os : List (Option D)} {vs : List V} {ms : List Md}, Pends g Φ1 ρ1 σ as os vs → LateOk ms os → vs.length = ms.length := by
      intro as os vs ms ps
      induction ps generalizing ms with
      | nil => intro l; cases ms with | nil => rfl | cons m ms => cases m <;> exact l.elim
      | cons _ _ ih => intro l; cases ms with | nil => exact l.elim | cons m ms => cases m <;> simp [ih l.2]
    show spD g F0 (vs ++ []) H1 Q E
    rw [List.append_nil]
    exact call_sp k1 ps l h2 (p.shift st1 fun _ h => h) (lens ps l)
  · exact ⟨Φ, ρ, s, fs, F, _, k, h1, p⟩
/-! ### methods -/
/-- o.name(e, ..): the receiver is of the built-in type T -/
theorem pe_bmG {X : Cx} {o e : Expr} {es : List Expr} {to : TE} {t : TA} {name : Str} {apos cpos : Pos} {T id : String} {ty : V → Hp → Prop} {r : V → List V → Hp → VK → Prop} (pa : PlainAttrs T) (slot : Slot T name id) (hty : typeOf (.builtin id) = pure (.type "method_descriptor")) (hm : MtR X id r)
    (hT : ∀ (pins : List (Addr × Obj)) (σ : L2.St) (H : Hp) (s : Shared) (x : V) (v : Value), Inv X pins σ H s → RelV x v → ty x H → s.TypeIs v T ∧ ∀ a, v = .ref a → ∃ ob, s.heap.get? a = some ob ∧ ob.dict = none)
    (ho : PE X o to) (ha : PA X (e :: es) t) (hbase : attributeBase o name X.env (eval o X.env) = eval o X.env)
    (hfew : ((backTo cpos (starEach (e :: es) X.env)).all (fun x => !x.1) && (backToKw cpos (keywordEach [] X.env)).all (fun x => x.1.isSome)
      && decide ((e :: es).length + ([] : List Keyword).length + (if ([] : List Keyword).isEmpty then 0 else 1) < 30)) = true)
    (hline : (apos.endLine == cpos.line) = true) (hs : starEach (e :: es) X.env = (false, eval e X.env) :: starEach es X.env) (hpl : (backTo cpos (starEach es X.env)).any (·.1) = false) :
    PE X (.Call (.Attribute o name apos) (e :: es) [] cpos) (fun σ H Q => to σ H fun x H1 => ty x H1 ∧ t σ H1 fun xs H2 => r x xs H2 Q) :=
  ⟨fun pins s σ H Q I h => wpAny_Call_method_late hbase hfew hline rfl (L2.thn (ho.run pins s σ H _ I h) fun v s1 z => by
    obtain ⟨x, H1, I1, r1, tx, q1⟩ := z
    obtain ⟨h1, h2⟩ := hT _ _ _ _ _ _ I1 r1 tx
    refine ⟨T, id, pa, slot, hty, h1, h2, ?_⟩
    have hA := ha.run cpos pins s1 σ H1 _ I1 q1
    rw [hs] at hA ⊢
    refine Calls.callWith_builtin (by show (false || (backTo cpos (starEach es X.env)).any (·.1)) = false; rw [hpl]; rfl) (Calls.evalArgs_plain (L2.thn hA fun us s2 z2 => ?_))
    obtain ⟨vs, H2, I2, r2, q2⟩ := z2
    exact hm pins s2 σ H2 x vs v us Q I2 r1 r2 q2)⟩
theorem Pend.kind {c : C} {o : Option D} {v : V} (k : Ok g Φ H ρ s σ fs F) (p : Pend g Φ ρ σ c o v) {T : String} (h : kindIs c T o s = true) : ∃ d f, tyOf d = some T ∧ Rep g Φ H ρ d v f := by
  cases o with
  | some d =>
    simp only [kindIs, decide_eq_true_eq] at h
    exact ⟨d, [], h, p.2.any⟩
  | none =>
    obtain ⟨i, rfl, hv⟩ := p
    simp only [kindIs] at h
    split at h
    · rename_i d q
      simp only [decide_eq_true_eq] at h
      obtain ⟨v', e1, r⟩ := k.slot i d q
      rw [hv] at e1
      cases e1
      exact ⟨d, _, h, r⟩
    · cases h
theorem rep_list (sb : Sub Φ H) {d : D} {v : V} {f : List Addr} (h : tyOf d = some "list") (r : Rep g Φ H ρ d v f) : ∃ a vs, v = .ref a ∧ SqL g.K H a vs := by
  cases d with
  | lst o ds =>
    cases o with
    | own => simp only [Rep] at r; obtain ⟨a, vs, f', rfl, t, _⟩ := r; exact ⟨a, vs, rfl, SqL.of t⟩
    | fz => simp only [Rep] at r; obtain ⟨a, vs, rfl, t, _⟩ := r; exact ⟨a, vs, rfl, SqL.of (sub_lst sb t)⟩
    | ro => simp only [Rep] at r; obtain ⟨a, vs, rfl, t, _⟩ := r; exact ⟨a, vs, rfl, sub_l sb t⟩
  | _ => exact absurd h (by simp [tyOf])
theorem rep_tuple (sb : Sub Φ H) {d : D} {v : V} {f : List Addr} (h : tyOf d = some "tuple") (r : Rep g Φ H ρ d v f) : ∃ a vs, v = .ref a ∧ TpK g.K H a vs := by
  cases d with
  | tup ds => simp only [Rep] at r; obtain ⟨a, vs, rfl, t, _⟩ := r; exact ⟨a, vs, rfl, sub_tp sb t⟩
  | _ => exact absurd h (by simp [tyOf])
theorem tuple_is {pins : List (Addr × Obj)} {s : Shared} {v : Value} {x : V} (hK : X.K = g.K) (I : Inv X pins σ H s) (rx : RelV x v) (h : ∃ a vs, x = .ref a ∧ TpK g.K H a vs) : s.TypeIs v "tuple" ∧ ∀ a, v = .ref a → ∃ ob, s.heap.get? a = some ob ∧ ob.dict = none := by
  obtain ⟨a, vs, rfl, t⟩ := h
  cases rx
  rcases t with ⟨o, h1, hd⟩ | ⟨o, its, n, h1, h2, hd, _⟩
  · obtain ⟨e, _, _, _, ob, e2, hc, _⟩ := I.hok a _ h1
    rw [e] at e2
    cases e2
    exact ⟨⟨o, e, hc⟩, fun b hb => by cases hb; exact ⟨o, e, hd⟩⟩
  · rw [← hK] at h1
    have e := I.kIn a o h1
    exact ⟨⟨o, e, h2⟩, fun b hb => by cases hb; exact ⟨o, e, hd⟩⟩
/-- a method's reading: receiver, its kind, one argument -/
theorem mth_to {o a : C} {mo ma : M (Option D)} {T : String} {n : D → D → Option D} {σ : L2.St} {H : Hp} {Q : VK}
    (h : EvR g E (bnd mo fun x => bnd (grd (kindIs o T x)) fun _ => bnd ma fun y => bnd (fill1 o x) fun d => bnd (fill1 a y) fun e => lift (n d e)) σ H Q) {ty : V → Hp → Prop}
    (hT : ∀ Φ H ρ d v f, Sub Φ H → tyOf d = some T → Rep g Φ H ρ d v f → ty v H) {rr : V → List V → Hp → VK → Prop}
    (hr : ∀ Φ ρ H d e z x y, Sub Φ H → PkR g Φ H ρ d x → PkR g Φ H ρ e y → n d e = some z → Aft g Φ H ρ z Q → rr x [y] H Q) :
    OpdR g E o mo σ H fun x H1 => ty x H1 ∧ tCons (OpdR g E a ma) tNil σ H1 fun xs H2 => rr x xs H2 Q := by
  obtain ⟨Φ, ρ, s, fs, F, r, k, hm, p⟩ := h
  rcases bnd_some hm with ⟨x, s1, h1, h2⟩ | ⟨x, h1, rfl⟩
  · refine OpdR.val k h1 fun Φ1 H1 ρ1 v fs1 st1 k1 pd => ?_
    rcases bnd_some h2 with ⟨u, s2, h3, h4⟩ | ⟨x, h3, rfl⟩
    · unfold grd at h3
      split at h3
      · rename_i hg
        cases h3
        obtain ⟨d0, f0, ht, r0⟩ := pd.kind k1 hg
        refine ⟨hT _ _ _ _ _ _ k1.sub ht r0, ?_⟩
        rcases bnd_some h4 with ⟨y, s3, h5, h6⟩ | ⟨x, h5, rfl⟩
        · refine OpdR.val k1 h5 fun Φ2 H2 ρ2 w fs2 st2 k2 pd' => ?_
          rcases bnd_some h6 with ⟨d, s4, h7, h8⟩ | ⟨x, h7, rfl⟩
          · obtain ⟨_, _, Φ3, fs3, e, st3, k3, pk⟩ := fill1_ok k2 (pd.stp st2) h7
            cases e
            rcases bnd_some h8 with ⟨e', s5, h9, h10⟩ | ⟨x, h9, rfl⟩
            · obtain ⟨_, _, Φ4, fs4, e, st4, k4, pk'⟩ := fill1_ok k3 (pd'.stp st3) h9
              cases e
              obtain ⟨z, e1, rfl⟩ := lift_some h10
              exact hr _ _ _ _ _ _ _ _ k4.sub (pk.stp st4) pk' e1 (k4.aft (p.shift (((st1.trans st2 fun _ h => h).trans st3 fun _ h => h).trans st4 fun _ h => h) fun _ h => h))
            · obtain ⟨_, _, _, _, e, _⟩ := fill1_ok k3 (pd'.stp st3) h9
              cases e
          · obtain ⟨_, _, _, _, e, _⟩ := fill1_ok k2 (pd.stp st2) h7
            cases e
        · exact OpdR.exc k1 h5 (PX.shift p st1 fun _ h => h)
      · cases h3
    · unfold grd at h3
      split at h3 <;> cases h3
  · exact OpdR.exc k h1 p
end
end Den
/-! Den8: targets, what is walked, comprehensions. -/
namespace Den
open PySem PySem.Spec L2
mutual
def tgSl : Tg → List Nat
  | .nm i => [i]
  | .tp ts => tgSls ts
def tgSls : List Tg → List Nat
  | [] => []
  | t :: ts => tgSl t ++ tgSls ts
end
def isTp : Tg → Bool
  | .tp _ => true
  | _ => false
section
variable {g : Gx} {E : XK} {X : Cx} {Φ Φ1 Φ' H H1 H' : Hp} {ρ ρ1 ρ' : List Addr} {F F1 : Addr → Prop} {σ : L2.St} {s : S} {fs : Ix → List Addr} {Q : VK}
/-- a value, or (for a tuple target) a tuple of any make -/
def VlW (g : Gx) (Φ H : Hp) (ρ : List Addr) (tg : Tg) (d : D) (v : V) (f : List Addr) (F : Addr → Prop) : Prop :=
  Vl g Φ H ρ d v f F ∨ (isTp tg = true ∧ ∃ es a vs, d = .tup es ∧ v = .ref a ∧ SqT g.K Φ a vs ∧ VlL g Φ H ρ es vs f F)
def AsgR (g : Gx) (tg : Tg) : TG := fun v σ H Q => ∃ Φ ρ s s' fs F f d, Ok g Φ H ρ s σ fs (fadd f F) ∧ VlW g Φ H ρ tg d v f F ∧ asg tg d s = some (.val () s') ∧
  ∀ σ' fs', σ'.length = σ.length → (∀ j, j ∉ tgSl tg → σ'[j]? = σ[j]? ∧ s'.sl[j]? = s.sl[j]?) → Ok g Φ H ρ s' σ' fs' F → Q σ' H
def AsgRs (g : Gx) (ts : List Tg) : TGs := fun vs σ H Q => ∃ Φ ρ s s' fs F f ds, Ok g Φ H ρ s σ fs (fadd f F) ∧ VlL g Φ H ρ ds vs f F ∧ asgs ts ds s = some (.val () s') ∧
  ∀ σ' fs', σ'.length = σ.length → (∀ j, j ∉ tgSls ts → σ'[j]? = σ[j]? ∧ s'.sl[j]? = s.sl[j]?) → Ok g Φ H ρ s' σ' fs' F → Q σ' H
theorem pg_imp {e : Expr} {t t' : TG} (h : PG X e t) (k : ∀ v σ H Q, t' v σ H Q → t v σ H Q) : PG X e t' := ⟨fun pins s σ H v u Q I r q => h.run pins s σ H v u Q I r (k v σ H Q q)⟩
theorem pgs_imp {e : List Expr} {t t' : TGs} (h : PGs X e t) (k : ∀ v σ H Q, t' v σ H Q → t v σ H Q) : PGs X e t' := ⟨fun pins s σ H v u Q I r q => h.run pins s σ H v u Q I r (k v σ H Q q)⟩
theorem asg_nm {i : Nat} {e : Expr} (h : PG X e (gName i)) : PG X e (AsgR g (.nm i)) := pg_imp h fun v σ H Q h => by
  obtain ⟨Φ, ρ, s, s', fs, F, f, d, k, vl, hm, q⟩ := h
  have vl : Vl g Φ H ρ d v f F := by
    rcases vl with vl | ⟨h, _⟩
    · exact vl
    · simp [isTp] at h
  simp only [asg] at hm
  split at hm
  · rename_i hi
    cases hm
    refine q _ _ (by simp) (fun j hj => ?_) (k.set vl hi)
    simp only [tgSl, List.mem_singleton] at hj
    exact ⟨List.getElem?_set_ne (Ne.symm hj), List.getElem?_set_ne (Ne.symm hj)⟩
  · cases hm
theorem asgs_nil (h : PGs X [] gNil) : PGs X [] (AsgRs g []) := pgs_imp h fun v σ H Q h => by
  obtain ⟨Φ, ρ, s, s', fs, F, f, ds, k, vl, hm, q⟩ := h
  cases ds with
  | nil =>
    simp only [asgs] at hm
    cases ret_some hm
    have r := vl.rep
    simp only [RepL] at r
    exact ⟨r.1, q σ fs rfl (fun j _ => ⟨rfl, rfl⟩) k.drop⟩
  | cons _ _ => simp [asgs, stuck] at hm
theorem asgs_cons {t : Tg} {ts : List Tg} {e : Expr} {es : List Expr} (h : PGs X (e :: es) (gCons (AsgR g t) (AsgRs g ts))) : PGs X (e :: es) (AsgRs g (t :: ts)) := pgs_imp h fun v σ H Q h => by
  obtain ⟨Φ, ρ, s, s', fs, F, f, ds, k, vl, hm, q⟩ := h
  cases ds with
  | nil => simp [asgs, stuck] at hm
  | cons d ds =>
    simp only [asgs] at hm
    obtain ⟨r, nd, out⟩ := vl
    simp only [RepL] at r
    obtain ⟨v0, vs', f1, f2, rfl, rfl, r1, r2⟩ := r
    obtain ⟨n1, n2, n3⟩ := List.nodup_append.mp nd
    rcases bnd_some hm with ⟨⟨⟩, s1, h1, h2⟩ | ⟨x, h1, e⟩
    · refine ⟨v0, vs', rfl, Φ, ρ, s, s1, fs, fadd f2 F, f1, d, k.less fun a ha => ?_, .inl ⟨r1, n1, fun a ha z => ?_⟩, h1, fun σ' fs' hl hs ok => ?_⟩
      · rcases ha with ha | ha | ha
        · exact .inl (List.mem_append_left _ ha)
        · exact .inl (List.mem_append_right _ ha)
        · exact .inr ha
      · rcases z with z | z
        · exact n3 a ha a z rfl
        · exact out a (List.mem_append_left _ ha) z
      · refine ⟨Φ, ρ, s1, s', fs', F, f2, ds, ok, ⟨r2, n2, fun a ha => out a (List.mem_append_right _ ha)⟩, h2, fun σ2 fs2 hl2 hs2 ok2 => ?_⟩
        refine q σ2 fs2 (hl2.trans hl) (fun j hj => ?_) ok2
        simp only [tgSls, List.mem_append, not_or] at hj
        exact ⟨((hs2 j hj.2).1).trans (hs j hj.1).1, ((hs2 j hj.2).2).trans (hs j hj.1).2⟩
    · cases e
theorem asg_tp {ts : List Tg} {e : Expr} {n : Nat} (hK : X.K = g.K) (hn : ts.length = n) (h : PG X e (gTup X.K n (AsgRs g ts))) : PG X e (AsgR g (.tp ts)) := pg_imp h fun v σ H Q h => by
  obtain ⟨Φ, ρ, s, s', fs, F, f, d, k, vl, hm, q⟩ := h
  have lens : ∀ (ts : List Tg) (ds : List D) (s s' : S), asgs ts ds s = some (.val () s') → ds.length = ts.length := by
    intro ts
    induction ts with
    | nil => intro ds s s' h; cases ds with | nil => rfl | cons _ _ => simp [asgs, stuck] at h
    | cons t ts ih =>
      intro ds s s' h
      cases ds with
      | nil => simp [asgs, stuck] at h
      | cons d ds =>
        simp only [asgs] at h
        rcases bnd_some h with ⟨⟨⟩, s1, h1, h2⟩ | ⟨x, h1, e⟩
        · simp [ih _ _ _ h2]
        · cases e
  cases d with
  | tup es =>
    simp only [asg] at hm
    have fin : ∀ a vs, v = .ref a → SqT g.K Φ a vs → VlL g Φ H ρ es vs f F → gTup X.K n (AsgRs g ts) v σ H Q := fun a vs e t vv => by
      refine ⟨a, vs, e, by rw [hK]; exact sub_t k.sub t, ?_, Φ, ρ, s, s', fs, F, f, es, k, vv, hm, fun σ' fs' hl hs ok => q σ' fs' hl hs ok⟩
      rw [RepL.len _ _ _ vv.rep, lens _ _ _ _ hm, hn]
    rcases vl with vl | ⟨_, es', a, vs, e, rfl, t, vv⟩
    · obtain ⟨r, nd, out⟩ := vl
      simp only [Rep] at r
      obtain ⟨a, vs, rfl, t, r⟩ := r
      exact fin a vs rfl t.sq ⟨r, nd, out⟩
    · cases e
      exact fin a vs rfl t vv
  | _ => simp [asg, stuck] at hm
/-! ### what is walked -/
/-- J goes through the items ds -/
def Walk (g : Gx) (J : L2.It) (Φ1 : Hp) (ρ1 : List Addr) (tg : Tg) (ds : List D) : Prop := ∀ Φ2 H2 ρ2, Ext Φ1 Φ2 → ρ1 <+: ρ2 → Sub Φ2 H2 → ∀ i : Nat,
  (∀ d, ds[i]? = some d → J.go i H2 ∧ ∀ x H', J.yld i H2 x H' → ∃ Φ3, Grow g Φ2 H2 Φ3 H' ∧
    (Rep g Φ3 H' ρ2 d x [] ∨ (isTp tg = true ∧ ∃ es a vs, d = .tup es ∧ x = .ref a ∧ SqT g.K Φ3 a vs ∧ RepL g Φ3 H' ρ2 es vs []))) ∧
  (ds.length ≤ i → J.stop i H2)
def ItR (g : Gx) (E : XK) (tg : Tg) (m : M (List D)) : TI := fun σ H R => ∃ Φ ρ s fs F r, Ok g Φ H ρ s σ fs F ∧ m s = some r ∧ match r with
  | .val ds s' => ∀ Φ' H' ρ' fs' J, Stp Φ H ρ F Φ' H' ρ' → Ok g Φ' H' ρ' s' σ fs' F → Walk g J Φ' ρ' tg ds → R J H'
  | .exc x => PX g E Φ H ρ F x
theorem walk_list {a : Addr} {vs : List V} {ds : List D} {tg : Tg} (t : SqL g.K Φ1 a vs) (r : RepL g Φ1 H1 ρ1 ds vs []) : Walk g (Itl g.K a) Φ1 ρ1 tg ds := fun Φ2 H2 ρ2 e p sb i => by
  have t2 : SqL g.K H2 a vs := sub_l sb (ext_l e t)
  have hl := RepL.len _ _ _ r
  refine ⟨fun d hd => ?_, fun hi => ⟨vs, t2, by rw [hl]; exact hi⟩⟩
  obtain ⟨v, hv, rv⟩ := RepL.get _ _ r i d hd
  refine ⟨⟨vs, v, t2, hv⟩, fun x H' hy => ?_⟩
  obtain ⟨rfl, hy⟩ := hy
  have e1 := hy vs t2
  rw [hv] at e1
  cases e1
  exact ⟨Φ2, Grow.refl sb, .inl (Rep.mono e p d v [] (fun a ha => by cases ha) rv)⟩
theorem walk_tup {a : Addr} {vs : List V} {ds : List D} {tg : Tg} (t : SqT g.K Φ1 a vs) (r : RepL g Φ1 H1 ρ1 ds vs []) : Walk g (Itt g.K a) Φ1 ρ1 tg ds := fun Φ2 H2 ρ2 e p sb i => by
  have t2 : SqT g.K H2 a vs := sub_t sb (ext_t e t)
  have hl := RepL.len _ _ _ r
  refine ⟨fun d hd => ?_, fun hi => ⟨vs, t2, by rw [hl]; exact hi⟩⟩
  obtain ⟨v, hv, rv⟩ := RepL.get _ _ r i d hd
  refine ⟨⟨vs, v, t2, hv⟩, fun x H' hy => ?_⟩
  obtain ⟨rfl, hy⟩ := hy
  have e1 := hy vs t2
  rw [hv] at e1
  cases e1
  exact ⟨Φ2, Grow.refl sb, .inl (Rep.mono e p d v [] (fun a ha => by cases ha) rv)⟩
theorem walk_rev {a : Addr} {vs : List V} {ds : List D} {tg : Tg} (t : SqL g.K Φ1 a vs) (r : RepL g Φ1 H1 ρ1 ds vs []) : Walk g (Itv g.K a vs.length) Φ1 ρ1 tg ds.reverse := fun Φ2 H2 ρ2 e p sb i => by
  have t2 : SqL g.K H2 a vs := sub_l sb (ext_l e t)
  have hl := RepL.len _ _ _ r
  refine ⟨fun d hd => ?_, fun hi => by simp only [List.length_reverse] at hi; show vs.length ≤ i; omega⟩
  have hi : i < ds.length := by have := (List.getElem?_eq_some_iff.mp hd).1; simpa using this
  rw [List.getElem?_reverse hi] at hd
  obtain ⟨v, hv, rv⟩ := RepL.get _ _ r _ d hd
  rw [← hl] at hv
  refine ⟨⟨by omega, vs, v, t2, hv⟩, fun x H' hy => ?_⟩
  obtain ⟨rfl, hy⟩ := hy
  have e1 := hy vs t2
  rw [hv] at e1
  cases e1
  exact ⟨Φ2, Grow.refl sb, .inl (Rep.mono e p d v [] (fun a ha => by cases ha) rv)⟩
theorem walk_rng {lo hi : Int} {tg : Tg} : Walk g (Itr lo (hi - lo).toNat) Φ1 ρ1 tg (rngL lo hi) := fun Φ2 H2 ρ2 e p sb i => by
  refine ⟨fun d hd => ?_, fun h => by simp only [rngL, List.length_map, List.length_range] at h; exact h⟩
  have h1 : i < (hi - lo).toNat := by have := (List.getElem?_eq_some_iff.mp hd).1; simpa [rngL] using this
  simp only [rngL, List.getElem?_map, List.getElem?_range h1, Option.map_some, Option.some.injEq] at hd
  subst hd
  refine ⟨h1, fun x H' hy => ?_⟩
  obtain ⟨rfl, rfl⟩ := hy
  exact ⟨Φ2, Grow.refl sb, .inl rep_int⟩
/-- a list or a tuple is walked -/
def iSeq (K : PySem.W.Frag) (tl : TE) : TI := fun σ H R => tl σ H fun x H1 => ∃ a, x = .ref a ∧ ((∃ xs, SqL K H1 a xs ∧ R (Itl K a) H1) ∨ ∃ xs, SqT K H1 a xs ∧ R (Itt K a) H1)
theorem pi_seq {tg l : Expr} {tl : TE} (hl : PE X l tl) : PI X tg l (iSeq X.K tl) := by
  refine ⟨fun pins s σ H R I h => ?_⟩
  refine L2.thn (hl.run pins s σ H _ I h) fun v s1 ⟨x, H1, I1, r1, q1⟩ => ?_
  obtain ⟨a, e, q⟩ := q1
  subst e
  cases r1
  have fresh : ∀ b ∈ [s1.heap.objs.size], FpOk X pins H1 b := fun b hb => by
    have e : b = s1.heap.objs.size := by simpa using hb
    subst e
    exact I1.fpOk (Nat.le_refl _) (I1.hok.fresh (Nat.le_refl _))
  rcases q with ⟨xs, hq, q⟩ | ⟨xs, hq, q⟩
  · obtain ⟨its, rv, p, hz⟩ := I1.list hq
    refine wpAny_pyIter_list p.isList ?_
    exact ⟨s1.heap.objs.size, [s1.heap.objs.size], _, _, H1, rfl, I1.kept (t' := s1.toks) fun b o e => Heap.get?_push_of_some _ e, turn_list a _, ⟨_, Heap.get?_push_size _ rfl, rfl, rfl⟩, fresh, q⟩
  · obtain ⟨its, rv, p, hz⟩ := I1.tuple hq
    refine wpAny_pyIter_tuple (show s1.heap.IsTuple a its.toArray from p) ?_
    exact ⟨s1.heap.objs.size, [s1.heap.objs.size], _, _, H1, rfl, I1.kept (t' := s1.toks) fun b o e => Heap.get?_push_of_some _ e, turn_tuple a _, ⟨_, Heap.get?_push_size _ rfl, rfl, rfl⟩, fresh, q⟩
theorem Rep.lst {o : Ow} {ds : List D} {v : V} (h : Rep g Φ H ρ (.lst o ds) v []) : ∃ a vs, v = .ref a ∧ SqL g.K Φ a vs ∧ RepL g Φ H ρ ds vs [] := by
  cases o with
  | own => simp only [Rep] at h; obtain ⟨a, vs, f', _, _, _, e, _⟩ := h; cases e
  | fz => simp only [Rep] at h; obtain ⟨a, vs, ev, t, _, r⟩ := h; exact ⟨a, vs, ev, SqL.of t, r⟩
  | ro => simp only [Rep] at h; obtain ⟨a, vs, ev, t, _, r⟩ := h; exact ⟨a, vs, ev, t, r⟩
theorem itr_seq {m : M D} {tg : Tg} (hK : X.K = g.K) {σ : L2.St} {H : Hp} {R : L2.It → Hp → Prop} (h : ItR g E tg (bnd m fun d => match fz d with
    | .lst _ ds => ret ds
    | .tup ds => ret ds
    | _ => stuck) σ H R) : iSeq X.K (EvR g E m) σ H R := by
  obtain ⟨Φ, ρ, s, fs, F, r, k, hm, p⟩ := h
  rcases bnd_some hm with ⟨d, s1, h1, h2⟩ | ⟨x, h1, rfl⟩
  · refine EvR.val k h1 fun Φ1 H1 ρ1 v f fs1 st1 k1 vl => ?_
    obtain ⟨k2, st2, rp⟩ := k1.frz vl
    have st := st1.trans st2 fun _ h => h
    generalize fz d = d' at h2 rp
    split at h2
    · cases ret_some h2
      obtain ⟨a, vs, rfl, t, r⟩ := rp.lst
      exact ⟨a, rfl, .inl ⟨vs, by rw [hK]; exact sub_l k2.sub t, p _ _ _ _ _ st k2 (by rw [hK]; exact walk_list t r)⟩⟩
    · cases ret_some h2
      simp only [Rep] at rp
      obtain ⟨a, vs, rfl, t, r⟩ := rp
      exact ⟨a, rfl, .inr ⟨vs, by rw [hK]; exact sub_t k2.sub t.sq, p _ _ _ _ _ st k2 (by rw [hK]; exact walk_tup t.sq r)⟩⟩
    · cases h2
  · exact EvR.exc k h1 p
theorem itr_rev {m : M D} {tg : Tg} (hK : X.K = g.K) {σ : L2.St} {H : Hp} {R : L2.It → Hp → Prop} (h : ItR g E tg (bnd m fun d => match fz d with
    | .lst _ ds => ret ds.reverse
    | _ => stuck) σ H R) : iRev X.K (tCons (EvR g E m) tNil) σ H R := by
  obtain ⟨Φ, ρ, s, fs, F, r, k, hm, p⟩ := h
  rcases bnd_some hm with ⟨d, s1, h1, h2⟩ | ⟨x, h1, rfl⟩
  · refine EvR.val k h1 fun Φ1 H1 ρ1 v f fs1 st1 k1 vl => ?_
    obtain ⟨k2, st2, rp⟩ := k1.frz vl
    have st := st1.trans st2 fun _ h => h
    generalize fz d = d' at h2 rp
    split at h2
    · cases ret_some h2
      obtain ⟨a, vs, rfl, t, r⟩ := rp.lst
      exact ⟨a, vs, rfl, by rw [hK]; exact sub_l k2.sub t, p _ _ _ _ _ st k2 (by rw [hK]; exact walk_rev t r)⟩
    · cases h2
  · exact EvR.exc k h1 p
theorem Vl.int {Φ H : Hp} {ρ : List Addr} {b : Int} {v : V} {f : List Addr} {F : Addr → Prop} (h : Vl g Φ H ρ (.int b) v f F) : v = .int b ∧ f = [] := by
  have e := h.rep
  simpa only [Rep] using e
theorem smallR_of {n : Int} (h : smallR n = true) : -(2 ^ 62) ≤ n ∧ n < 2 ^ 62 := by
  simp only [smallR, Bool.and_eq_true, decide_eq_true_eq] at h
  omega
theorem itr_rng1 {m : M D} {tg : Tg} {σ : L2.St} {H : Hp} {R : L2.It → Hp → Prop} (h : ItR g E tg (bnd m fun d => match d with
    | .int n => if smallR n then ret (rngL 0 n) else stuck
    | _ => stuck) σ H R) : iRng1 (tCons (EvR g E m) tNil) σ H R := by
  obtain ⟨Φ, ρ, s, fs, F, r, k, hm, p⟩ := h
  rcases bnd_some hm with ⟨d, s1, h1, h2⟩ | ⟨x, h1, rfl⟩
  · refine EvR.val k h1 fun Φ1 H1 ρ1 v f fs1 st1 k1 vl => ?_
    split at h2
    · split at h2
      · rename_i n hs
        cases ret_some h2
        obtain ⟨rfl, rfl⟩ := vl.int
        obtain ⟨h3, h4⟩ := smallR_of hs
        refine ⟨_, rfl, h3, h4, p _ _ _ _ _ st1 k1.drop ?_⟩
        have w := walk_rng (g := g) (Φ1 := Φ1) (ρ1 := ρ1) (lo := 0) (hi := n) (tg := tg)
        rw [Int.sub_zero] at w
        exact w
      · cases h2
    · cases h2
  · exact EvR.exc k h1 p
theorem itr_rng2 {m m' : M D} {tg : Tg} {σ : L2.St} {H : Hp} {R : L2.It → Hp → Prop} (h : ItR g E tg (bnd m fun d => bnd m' fun e => match d, e with
    | .int n, .int m => if smallR n && smallR m then ret (rngL n m) else stuck
    | _, _ => stuck) σ H R) : iRng2 (tCons (EvR g E m) (tCons (EvR g E m') tNil)) σ H R := by
  obtain ⟨Φ, ρ, s, fs, F, r, k, hm, p⟩ := h
  rcases bnd_some hm with ⟨d, s1, h1, h2⟩ | ⟨x, h1, rfl⟩
  · refine EvR.val k h1 fun Φ1 H1 ρ1 v f fs1 st1 k1 vl => ?_
    rcases bnd_some h2 with ⟨e, s2, h3, h4⟩ | ⟨x, h3, rfl⟩
    · refine EvR.val k1.drop h3 fun Φ2 H2 ρ2 v' f' fs2 st2 k2 vl' => ?_
      split at h4
      · split at h4
        · rename_i hs
          cases ret_some h4
          obtain ⟨rfl, rfl⟩ := vl.int
          obtain ⟨rfl, rfl⟩ := vl'.int
          simp only [Bool.and_eq_true] at hs
          obtain ⟨a1, a2⟩ := smallR_of hs.1
          obtain ⟨a3, a4⟩ := smallR_of hs.2
          exact ⟨_, _, rfl, ⟨a1, a2, a3, a4⟩, p _ _ _ _ _ (st1.trans st2 fun _ h => h) k2.drop walk_rng⟩
        · cases h4
      · cases h4
    · exact EvR.exc k1.drop h3 (PX.shift p st1 fun _ h => h)
  · exact EvR.exc k h1 p
end
end Den
/-! Den9: comprehensions. -/
namespace Den
open PySem PySem.Spec L2
theorem wipeD_out {sl : List (Option D)} : ∀ {own : List Nat} {j : Nat}, j ∉ own → (wipeD sl own)[j]? = sl[j]?
  | [], j, h => rfl
  | v :: vs, j, h => by
    simp only [List.mem_cons, not_or] at h
    simp only [wipeD]
    rw [List.getElem?_set_ne (Ne.symm h.1)]
    exact wipeD_out h.2
theorem wipeD_len {sl : List (Option D)} : ∀ {own : List Nat}, (wipeD sl own).length = sl.length
  | [] => rfl
  | v :: vs => by simp only [wipeD, List.length_set]; exact wipeD_len
theorem wipeD_in {sl : List (Option D)} : ∀ {own : List Nat} {j : Nat} {d : D}, j ∈ own → (wipeD sl own)[j]? ≠ some (some d)
  | [], j, d, h => by cases h
  | v :: vs, j, d, h => by
    simp only [wipeD]
    by_cases e : j = v
    · subst e
      intro z
      have hj : j < (wipeD sl vs).length := by have := (List.getElem?_eq_some_iff.mp z).1; simpa using this
      rw [List.getElem?_set_self hj] at z
      cases z
    · rw [List.getElem?_set_ne (Ne.symm e)]
      rcases List.mem_cons.mp h with h | h
      · exact absurd h e
      · exact wipeD_in h
theorem restD_len {sl old : List (Option D)} : ∀ {own : List Nat}, (restD sl old own).length = sl.length
  | [] => rfl
  | v :: vs => by simp only [restD, List.length_set]; exact restD_len
theorem restD_out {sl old : List (Option D)} : ∀ {own : List Nat} {j : Nat}, j ∉ own → (restD sl old own)[j]? = sl[j]?
  | [], j, h => rfl
  | v :: vs, j, h => by
    simp only [List.mem_cons, not_or] at h
    simp only [restD]
    rw [List.getElem?_set_ne (Ne.symm h.1)]
    exact restD_out h.2
theorem restD_in {sl old : List (Option D)} : ∀ {own : List Nat} {j : Nat} {d : D}, j ∈ own → (restD sl old own)[j]? = some (some d) → old[j]? = some (some d)
  | [], j, d, h => by cases h
  | v :: vs, j, d, h => by
    simp only [restD]
    by_cases e : j = v
    · subst e
      intro z
      have hj : j < (restD sl old vs).length := by have := (List.getElem?_eq_some_iff.mp z).1; simpa using this
      rw [List.getElem?_set_self hj] at z
      cases q : old[j]? with
      | none => rw [q] at z; cases z
      | some w => rw [q] at z; simp at z; rw [z]
    · rw [List.getElem?_set_ne (Ne.symm e)]
      rcases List.mem_cons.mp h with h | h
      · exact absurd h e
      · exact restD_in h
theorem restD_at {sl old : List (Option D)} : ∀ {own : List Nat} {j : Nat}, j ∈ own → j < sl.length → (restD sl old own)[j]? = some ((old[j]?).getD none)
  | [], j, h, _ => by cases h
  | v :: vs, j, h, hl => by
    simp only [restD]
    by_cases e : j = v
    · subst e
      rw [List.getElem?_set_self (by rw [restD_len]; exact hl)]
    · rw [List.getElem?_set_ne (Ne.symm e)]
      rcases List.mem_cons.mp h with h | h
      · exact absurd h e
      · exact restD_at h hl
theorem wipe_same {σ σ2 : L2.St} : ∀ {own : List Nat}, σ2.length = σ.length → (∀ j, j ∉ own → σ2[j]? = σ[j]?) → wipe σ2 own = wipe σ own := by
  intro own hl h
  apply List.ext_getElem?
  intro j
  by_cases hj : j ∈ own
  · have key : ∀ (τ : L2.St), (wipe τ own)[j]? = if j < τ.length then some none else none := by
      intro τ
      clear h hl
      revert hj
      induction own with
      | nil => intro hj; cases hj
      | cons v vs ih =>
        intro hj
        show ((wipe τ vs).set v none)[j]? = _
        by_cases e : j = v
        · subst e
          split
          · rename_i hlt
            rw [List.getElem?_set_self (by rw [wipe_length]; exact hlt)]
          · rename_i hge
            rw [List.getElem?_eq_none_iff]
            rw [List.length_set, wipe_length]; omega
        · rw [List.getElem?_set_ne (Ne.symm e)]
          rcases List.mem_cons.mp hj with hj | hj
          · exact absurd hj e
          · exact ih hj
    rw [key, key, hl]
  · rw [wipe_out hj, wipe_out hj]; exact h j hj
section
variable {g : Gx} {E : XK} {X : Cx} {Φ Φ1 Φ' H H1 H' : Hp} {ρ ρ1 ρ' : List Addr} {F F1 : Addr → Prop} {σ : L2.St} {s : S} {fs : Ix → List Addr} {Q : VK}
def wS (s : S) (own : List Nat) : S := { s with sl := wipeD s.sl own }
def wfs (fs : Ix → List Addr) (own : List Nat) : Ix → List Addr
  | .inl j => if j ∈ own then [] else fs (.inl j)
  | .inr n => fs (.inr n)
def ownF (fs : Ix → List Addr) (own : List Nat) (F : Addr → Prop) : Addr → Prop := fun a => F a ∨ ∃ v, v ∈ own ∧ a ∈ fs (.inl v)
theorem wfs_sub {own : List Nat} {x : Ix} {a : Addr} (h : a ∈ wfs fs own x) : a ∈ fs x ∧ ∀ v ∈ own, x ≠ .inl v := by
  cases x with
  | inl j =>
    simp only [wfs] at h
    split at h
    · cases h
    · rename_i hj
      exact ⟨h, fun v hv e => by cases e; exact hj hv⟩
  | inr n => exact ⟨h, fun v _ e => by cases e⟩
theorem Ok.wipe (k : Ok g Φ H ρ s σ fs F) (own : List Nat) : Ok g Φ H ρ (wS s own) (wipe σ own) (wfs fs own) (ownF fs own F) where
  sub := k.sub
  tab := k.tab
  fr := fun a ha => ha.elim (k.fr a) fun ⟨v, _, hv⟩ => k.at _ a hv
  len := by show (wipeD s.sl own).length = _; rw [wipeD_len, wipe_length]; exact k.len
  slot := fun i d q => by
    have q : (wipeD s.sl own)[i]? = some (some d) := q
    by_cases hi : i ∈ own
    · exact absurd q (wipeD_in hi)
    · rw [wipeD_out hi] at q
      obtain ⟨v, e, r⟩ := k.slot i d q
      exact ⟨v, by rw [wipe_out hi]; exact e, by simp only [wfs, if_neg hi]; exact r⟩
  slot0 := fun i q => by
    by_cases hi : i ∈ own
    · simp only [wfs, if_pos hi]
    · simp only [wfs, if_neg hi]
      exact k.slot0 i fun d z => q d (by show (wipeD s.sl own)[i]? = _; rw [wipeD_out hi]; exact z)
  obl := k.obl
  obj := k.obj
  obj0 := k.obj0
  nd := fun x => by
    cases x with
    | inl j => simp only [wfs]; split; exact List.nodup_nil; exact k.nd _
    | inr n => exact k.nd _
  sep := fun x y a hx hy => k.sep x y a (wfs_sub hx).1 (wfs_sub hy).1
  out := fun x a hx z => by
    obtain ⟨h1, h2⟩ := wfs_sub hx
    rcases z with z | ⟨v, hv, z⟩
    · exact k.out x a h1 z
    · exact h2 v hv (k.sep _ _ a h1 z)
theorem Ok.wipe0 (k : Ok g Φ H ρ s σ fs F) (own : List Nat) : Ok g Φ H ρ (wS s own) (L2.wipe σ own) (wfs fs own) F := (k.wipe own).less fun _ h => .inl h
/-- the block's own names as they stood -/
theorem Ok.rest {s1 : S} {fs1 : Ix → List Addr} {own : List Nat} {f : List Addr} (hf : ∀ a ∈ f, ¬ ownF fs own F a) (k0 : Ok g Φ H ρ s σ fs F) (st : Stp Φ H ρ (ownF fs own F) Φ' H' ρ') (k : Ok g Φ' H' ρ' (wS s1 own) (L2.wipe σ own) fs1 (fadd f (ownF fs own F))) :
    Ok g Φ' H' ρ' { s1 with sl := restD s1.sl s.sl own } σ (fun x => match x with | .inl j => if j ∈ own then fs (.inl j) else fs1 (.inl j) | .inr n => fs1 (.inr n)) (fadd f F) where
  sub := k.sub
  tab := k.tab
  fr := fun a ha => k.fr a (ha.imp_right .inl)
  len := by
    have := k.len
    simp only [wS, wipeD_len, wipe_length] at this
    simp only [restD_len]; exact this
  slot := fun i d q => by
    by_cases hi : i ∈ own
    · simp only [if_pos hi]
      have q' : s.sl[i]? = some (some d) := restD_in hi q
      obtain ⟨v, e, r⟩ := k0.slot i d q'
      exact ⟨v, e, r.stp st fun a ha => .inr ⟨i, hi, ha⟩⟩
    · simp only [if_neg hi]
      have q' : (wS s1 own).sl[i]? = some (some d) := by show (wipeD s1.sl own)[i]? = _; rw [wipeD_out hi, ← restD_out (old := s.sl) hi]; exact q
      obtain ⟨v, e, r⟩ := k.slot i d q'
      rw [wipe_out hi] at e
      exact ⟨v, e, r⟩
  slot0 := fun i q => by
    by_cases hi : i ∈ own
    · simp only [if_pos hi]
      refine k0.slot0 i fun d z => ?_
      have hl : i < s1.sl.length := by
        have h1 := (List.getElem?_eq_some_iff.mp z).1
        have h2 := k.len
        simp only [wS, wipeD_len, wipe_length] at h2
        rw [h2, ← k0.len]; exact h1
      exact q d (by show (restD s1.sl s.sl own)[i]? = _; rw [restD_at hi hl, z]; rfl)
    · simp only [if_neg hi]
      refine k.slot0 i fun d z => q d ?_
      have z : (wipeD s1.sl own)[i]? = some (some d) := z
      rw [wipeD_out hi] at z
      show (restD s1.sl s.sl own)[i]? = _
      rw [restD_out hi]; exact z
  obl := k.obl
  obj := k.obj
  obj0 := k.obj0
  nd := fun x => by
    cases x with
    | inl j => dsimp only; split; exact k0.nd _; exact k.nd _
    | inr n => exact k.nd _
  sep := fun x y a hx hy => by
    cases x with
    | inl i =>
      cases y with
      | inl j =>
        dsimp only at hx hy
        split at hx
        · rename_i hi
          split at hy
          · exact k0.sep _ _ a hx hy
          · exact absurd (.inr (.inr ⟨i, hi, hx⟩)) (k.out _ a hy)
        · split at hy
          · rename_i hj
            exact absurd (.inr (.inr ⟨j, hj, hy⟩)) (k.out _ a hx)
          · exact k.sep _ _ a hx hy
      | inr n =>
        dsimp only at hx hy
        split at hx
        · rename_i hi
          exact absurd (.inr (.inr ⟨i, hi, hx⟩)) (k.out _ a hy)
        · exact k.sep _ _ a hx hy
    | inr m =>
      cases y with
      | inl j =>
        dsimp only at hx hy
        split at hy
        · rename_i hj
          exact absurd (.inr (.inr ⟨j, hj, hy⟩)) (k.out _ a hx)
        · exact k.sep _ _ a hx hy
      | inr n => exact k.sep _ _ a hx hy
  out := fun x a hx z => by
    cases x with
    | inl i =>
      dsimp only at hx
      split at hx
      · rename_i hi
        rcases z with z | z
        · exact hf a z (.inr ⟨i, hi, hx⟩)
        · exact k0.out _ a hx z
      · exact k.out _ a hx (z.imp_right .inl)
    | inr n => exact k.out _ a hx (z.imp_right .inl)
/-- a clause's test -/
def TcR (g : Gx) (E : XK) (m : M Bool) : TT := fun σ H Q => ∃ Φ ρ s fs F r, Ok g Φ H ρ s σ fs F ∧ m s = some r ∧ match r with
  | .val b s' => ∀ Φ' H' ρ' fs', Stp Φ H ρ F Φ' H' ρ' → Ok g Φ' H' ρ' s' σ fs' F → Q b H'
  | .exc x => PX g E Φ H ρ F x
theorem pts_imp {e : List Expr} {t t' : TT} (h : PTs X e t) (k : ∀ σ H Q, t' σ H Q → t σ H Q) : PTs X e t' := ⟨fun pins s σ H Q I q => h.run pins s σ H Q I (k σ H Q q)⟩
theorem tc_no : PTs X [] (TcR g E (ret true)) := pts_imp pts_nil fun σ H Q h => by
  obtain ⟨Φ, ρ, s, fs, F, r, k, hm, p⟩ := h
  cases ret_some hm
  exact p Φ H ρ fs (Stp.refl k.nF) k
theorem tc_yes {e : Expr} {m : M D} (h : PT X e (TtR g E m)) : PTs X [e] (TcR g E (bnd m fun d => match d with
    | .bl b => ret b
    | _ => stuck)) := pts_imp (pts_one h) fun σ H Q h => by
  obtain ⟨Φ, ρ, s, fs, F, r, k, hm, p⟩ := h
  rcases bnd_some hm with ⟨d, s1, h1, h2⟩ | ⟨x, h1, rfl⟩
  · split at h2
    · cases ret_some h2
      exact TtR.val k h1 p
    · cases h2
  · exact TtR.exc k h1 p
def lcF (tg : Tg) (mc : M Bool) (me : M D) : D → M (Option D) := fun x => bnd (asg tg x) fun _ => bnd mc fun b => if b then bnd me fun d => ret (some d) else ret none
def lcM (own : List Nat) (tg : Tg) (mi : M (List D)) (mc : M Bool) (me : M D) : M D := bnd mi fun xs => fun s =>
  match lcGo own (lcF tg mc me) xs [] (wS s own) with
  | some (.val ds s1) => some (.val (.lst .own ds) { s1 with sl := restD s1.sl s.sl own })
  | _ => none
theorem lc_to {own : List Nat} {tg : Tg} {mi : M (List D)} {mc : M Bool} {me : M D} {σ : L2.St} {H : Hp} (hown : ∀ j ∈ tgSl tg, j ∈ own) (h : EvR g E (lcM own tg mi mc me) σ H Q) :
    tLc (ItR g E tg mi) (AsgR g tg) (TcR g E0 mc) (EvR g E0 me) own σ H Q := by
  obtain ⟨Φ, ρ, s, fs, F, r, k, hm, p⟩ := h
  rcases bnd_some hm with ⟨xs, s1, h1, h2⟩ | ⟨x, h1, rfl⟩
  · refine ⟨Φ, ρ, s, fs, F, _, k, h1, fun Φ1 H1 ρ1 fs1 J st1 k1 W Dd hD => ?_⟩
    split at h2
    · rename_i ds s2 hgo
      cases h2
      obtain ⟨kL, stL, nfL, npL⟩ := (k1.wipe own).lay (o := .lst []) hD fun _ => HO.noConfusion
      refine ⟨fun i m H => m = xs.length - i ∧ i ≤ xs.length ∧ ∃ Φ2 ρ2 s3 fs3 acc fa, Stp Φ1 (upd H1 Dd (.lst [])) ρ1 (ownF fs1 own F) Φ2 H ρ2 ∧ Ok g Φ2 H ρ2 (wS s3 own) (L2.wipe σ own) fs3 (fadd fa (ownF fs1 own F)) ∧
        Vl g Φ2 H ρ2 (.lst .own acc) (.ref Dd) fa (ownF fs1 own F) ∧ lcGo own (lcF tg mc me) (xs.drop i) acc s3 = some (.val ds s2), ⟨xs.length, by simp, Nat.zero_le _, Φ1, ρ1, wS s1 own, wfs fs1 own, [], [Dd], Stp.refl (k1.wipe own).nF, ?_, ⟨?_, by simp, ?_⟩, hgo⟩, ?_⟩
      · have e : wS (wS s1 own) own = wS s1 own := by
          have z : wipeD (wipeD s1.sl own) own = wipeD s1.sl own := by
            apply List.ext_getElem?
            intro j
            by_cases hj : j ∈ own
            · have key : ∀ (sl : List (Option D)), (wipeD sl own)[j]? = if j < sl.length then some none else none := fun sl => by
                cases q : (wipeD sl own)[j]? with
                | none =>
                  rw [List.getElem?_eq_none_iff, wipeD_len] at q
                  rw [if_neg (by omega)]
                | some o =>
                  have hl := (List.getElem?_eq_some_iff.mp q).1
                  rw [wipeD_len] at hl
                  rw [if_pos hl]
                  cases o with
                  | none => rfl
                  | some d => exact absurd q (wipeD_in hj)
              rw [key, key, wipeD_len]
            · rw [wipeD_out hj]
          show (⟨wipeD (wipeD s1.sl own) own, s1.os⟩ : S) = ⟨wipeD s1.sl own, s1.os⟩
          rw [z]
        rw [e]; exact kL
      · simp only [Rep]
        exact ⟨Dd, [], [], rfl, upd_same, npL, rfl, by simp only [RepL]; exact ⟨trivial, trivial⟩⟩
      · intro a ha
        simp only [List.mem_singleton] at ha
        subst ha; exact nfL
      · rintro i m H2 ⟨rfl, hi, Φ2, ρ2, s3, fs3, acc, fa, st2, k2, vl, hg⟩
        by_cases hlt : i < xs.length
        · obtain ⟨hgo1, _⟩ := W Φ2 H2 ρ2 st2.ext st2.pre k2.sub i
          have hx : xs[i]? = some xs[i] := List.getElem?_eq_getElem hlt
          obtain ⟨go, yl⟩ := hgo1 _ hx
          rw [List.drop_eq_getElem_cons hlt] at hg
          simp only [lcGo] at hg
          refine .inr ⟨go, fun H => ∃ Φ2 ρ2 s3 fs3 acc fa, Stp Φ1 (upd H1 Dd (.lst [])) ρ1 (ownF fs1 own F) Φ2 H ρ2 ∧ Ok g Φ2 H ρ2 (wS s3 own) (L2.wipe σ own) fs3 (fadd fa (ownF fs1 own F)) ∧
            Vl g Φ2 H ρ2 (.lst .own acc) (.ref Dd) fa (ownF fs1 own F) ∧ lcGo own (lcF tg mc me) (xs.drop (i + 1)) acc s3 = some (.val ds s2), fun H' h => ⟨xs.length - (i + 1), by omega, rfl, hlt, h⟩, fun x H3 hy => ?_⟩
          obtain ⟨Φ3, w3, rep3⟩ := yl x H3 hy
          have k3 := k2.grow w3
          have st3 := st2.trans ((k2.less (F := ownF fs1 own F) fun _ h => .inr h).gstp w3) fun _ h => h
          have st3' := k2.gstp w3
          have vl3 : Vl g Φ3 H3 ρ2 (.lst .own acc) (.ref Dd) fa (ownF fs1 own F) := vl.stp st3'
          split at hg
          · rename_i d s4 hf
            split at hg
            · rename_i hz
              rcases bnd_some hf with ⟨⟨⟩, s5, h3, h4⟩ | ⟨x, h3, e⟩
              · refine ⟨Φ3, ρ2, _, s5, fs3, fadd fa (ownF fs1 own F), [], _, k3.nof, ?_, h3, fun σ' fs' hl hs ok => ?_⟩
                · rcases rep3 with r | ⟨ht, es, a, vs, e1, e2, t, r⟩
                  · exact .inl ⟨r, List.nodup_nil, fun a ha => by cases ha⟩
                  · exact .inr ⟨ht, es, a, vs, e1, e2, t, r, List.nodup_nil, fun a ha => by cases ha⟩
                have ew : L2.wipe σ' own = L2.wipe σ own := wipe_same (by rw [hl, wipe_length]) fun j hj => by
                  rw [(hs j fun z => hj (hown j z)).1, wipe_out hj]
                refine ⟨ew, ?_⟩
                rcases bnd_some h4 with ⟨b, s6, h5, h6⟩ | ⟨x, h5, e⟩
                · refine ⟨Φ3, ρ2, s5, fs', _, _, ok, h5, fun Φ4 H4 ρ4 fs4 st4 k4 => ?_⟩
                  cases b with
                  | false => cases ret_some h6
                  | true =>
                    rw [if_pos rfl]
                    rcases bnd_some h6 with ⟨d', s7, h7, h8⟩ | ⟨x, h7, e⟩
                    · cases ret_some h8
                      refine EvR.val k4 h7 fun Φ5 H5 ρ5 v f fs5 st5 k5 vl5 => ?_
                      have st35 := st4.trans st5 fun _ h => h
                      have vlD := vl3.stp st35
                      obtain ⟨rD, ndD, outD⟩ := vlD
                      simp only [Rep] at rD
                      obtain ⟨a, vs, f', e, ha, na, rfl, rl⟩ := rD
                      cases e
                      refine ⟨vs, ha, ?_, ?_⟩
                      · rw [RepL.len _ _ _ rl]; exact Nat.lt_of_lt_of_le hz lim_le
                      have nd' := List.nodup_cons.mp ndD
                      have mf : ∀ b, fadd (Dd :: (f' ++ f)) (ownF fs1 own F) b → fadd f (fadd (Dd :: f') (ownF fs1 own F)) b := fun b hb => by
                        rcases hb with hb | hb
                        · rcases List.mem_cons.mp hb with rfl | hb
                          · exact .inr (.inl List.mem_cons_self)
                          · rcases List.mem_append.mp hb with hb | hb
                            · exact .inr (.inl (List.mem_cons_of_mem _ hb))
                            · exact .inl hb
                        · exact .inr (.inr hb)
                      have k6 := (k5.less mf).wr (o := .lst (vs ++ [v])) List.mem_cons_self ha pln_lst pln_lst
                      have hne : ∀ b ∈ f' ++ f, b ≠ Dd := fun b hb e => by
                        subst e
                        rcases List.mem_append.mp hb with hb | hb
                        · exact nd'.1 hb
                        · exact vl5.out _ hb (.inl List.mem_cons_self)
                      have st6 : Stp Φ5 H5 ρ5 (ownF fs1 own F) Φ5 (upd H5 Dd (.lst (vs ++ [v]))) ρ5 := wr_stp (fun b hb => (k5.fr b (.inr (.inr hb))).1) fun z => outD Dd List.mem_cons_self z
                      have k7 := k6.wipe0 own
                      rw [ew] at k7
                      refine ⟨Φ5, ρ5, s4, _, acc ++ [d], Dd :: (f' ++ f), (st3.trans (st35.less fun _ h => .inr h) fun _ h => h).trans st6 fun _ h => h, k7, ⟨?_, ?_, fun b hb z => ?_⟩, hg⟩
                      · simp only [Rep]
                        refine ⟨Dd, vs ++ [v], f' ++ f, rfl, upd_same, na, rfl, ?_⟩
                        have r1 : RepL g Φ5 (upd H5 Dd (.lst (vs ++ [v]))) ρ5 acc vs f' := RepL.mono (fun _ _ h => h) (List.prefix_refl _) _ _ _ (fun b hb => ⟨upd_ne (hne b (List.mem_append_left _ hb)), (RepL.at _ _ _ rl b hb).1⟩) rl
                        have r2 : Rep g Φ5 (upd H5 Dd (.lst (vs ++ [v]))) ρ5 d v f := Rep.mono (fun _ _ h => h) (List.prefix_refl _) _ _ _ (fun b hb => ⟨upd_ne (hne b (List.mem_append_right _ hb)), (Rep.at _ _ _ vl5.rep b hb).1⟩) vl5.rep
                        refine RepL.app _ _ _ _ _ _ r1 ?_
                        simp only [RepL]
                        exact ⟨v, [], f, [], rfl, by simp, r2, rfl, rfl⟩
                      · refine List.nodup_cons.mpr ⟨fun z => hne Dd z rfl, List.nodup_append.mpr ⟨nd'.2, vl5.nd, fun b hb c hc e => ?_⟩⟩
                        subst e
                        exact vl5.out b hc (.inl (List.mem_cons_of_mem _ hb))
                      · rcases List.mem_cons.mp hb with rfl | hb
                        · exact outD _ List.mem_cons_self z
                        · rcases List.mem_append.mp hb with hb | hb
                          · exact outD b (List.mem_cons_of_mem _ hb) z
                          · exact vl5.out b hb (.inr z)
                    · cases e
                · cases e
              · cases e
            · cases hg
          · rename_i s4 hf
            rcases bnd_some hf with ⟨⟨⟩, s5, h3, h4⟩ | ⟨x, h3, e⟩
            · refine ⟨Φ3, ρ2, _, s5, fs3, fadd fa (ownF fs1 own F), [], _, k3.nof, ?_, h3, fun σ' fs' hl hs ok => ?_⟩
              · rcases rep3 with r | ⟨ht, es, a, vs, e1, e2, t, r⟩
                · exact .inl ⟨r, List.nodup_nil, fun a ha => by cases ha⟩
                · exact .inr ⟨ht, es, a, vs, e1, e2, t, r, List.nodup_nil, fun a ha => by cases ha⟩
              have ew : L2.wipe σ' own = L2.wipe σ own := wipe_same (by rw [hl, wipe_length]) fun j hj => by
                rw [(hs j fun z => hj (hown j z)).1, wipe_out hj]
              refine ⟨ew, ?_⟩
              rcases bnd_some h4 with ⟨b, s6, h5, h6⟩ | ⟨x, h5, e⟩
              · refine ⟨Φ3, ρ2, s5, fs', _, _, ok, h5, fun Φ4 H4 ρ4 fs4 st4 k4 => ?_⟩
                cases b with
                | true =>
                  rcases bnd_some h6 with ⟨d', s7, h7, h8⟩ | ⟨x, h7, e⟩
                  · cases ret_some h8
                  · cases e
                | false =>
                  rw [if_neg Bool.false_ne_true]
                  cases ret_some h6
                  have k7 := k4.wipe0 own
                  rw [ew] at k7
                  exact ⟨Φ4, ρ4, _, _, acc, fa, st3.trans (st4.less fun _ h => .inr h) fun _ h => h, k7, vl3.stp st4, hg⟩
              · cases e
            · cases e
          · cases hg
        · have e : i = xs.length := by omega
          subst e
          rw [List.drop_length] at hg
          simp only [lcGo] at hg
          cases ret_some hg
          obtain ⟨_, hst⟩ := W Φ2 H2 ρ2 st2.ext st2.pre k2.sub xs.length
          refine .inl ⟨hst (Nat.le_refl _), ?_⟩
          have stF := ((k1.wipe own).less (F := ownF fs1 own F) fun _ h => h)
          have st0 : Stp Φ1 H1 ρ1 (ownF fs1 own F) Φ2 H2 ρ2 := stL.trans st2 fun _ h => h
          have kR := k1.rest (s1 := s2) (f := fa) vl.out st0 k2
          exact p _ _ _ _ _ _ (st1.trans (st0.less fun _ h => .inl h) fun _ h => h) kR ⟨vl.rep, vl.nd, fun a ha z => vl.out a ha (.inl z)⟩
    · cases h2
  · exact ⟨Φ, ρ, s, fs, F, _, k, h1, p⟩
end
end Den
/-! Den10: the other forms. -/
namespace Den
open PySem PySem.Spec L2
section
variable {g : Gx} {E : XK} {X : Cx} {Φ Φ1 Φ' H H1 H' : Hp} {ρ ρ1 ρ' : List Addr} {F F1 : Addr → Prop} {σ : L2.St} {s : S} {fs : Ix → List Addr} {Q : VK}
/-! ### parts of a slice -/
def EoR (g : Gx) (E : XK) (m : M (Option Int)) : TO := fun σ H Q => ∃ Φ ρ s fs F r, Ok g Φ H ρ s σ fs F ∧ m s = some r ∧ match r with
  | .val o s' => ∀ Φ' H' ρ' fs', Stp Φ H ρ F Φ' H' ρ' → Ok g Φ' H' ρ' s' σ fs' F → Q o H'
  | .exc x => PX g E Φ H ρ F x
theorem po_imp {e : Option Expr} {t t' : TO} (h : PO X e t) (k : ∀ σ H Q, t' σ H Q → t σ H Q) : PO X e t' := ⟨fun pins s σ H Q I q => h.run pins s σ H Q I (k σ H Q q)⟩
theorem eo_no : PO X none (EoR g E (ret none)) := po_imp po_none fun σ H Q h => by
  obtain ⟨Φ, ρ, s, fs, F, r, k, hm, p⟩ := h
  cases ret_some hm
  exact p Φ H ρ fs (Stp.refl k.nF) k
theorem eo_yes {e : Expr} {m : M D} (h : PE X e (EvR g E m)) : PO X (some e) (EoR g E (bnd m fun d => match d with
    | .int i => ret (some i)
    | _ => stuck)) := po_imp (po_some h) fun σ H Q h => by
  obtain ⟨Φ, ρ, s, fs, F, r, k, hm, p⟩ := h
  rcases bnd_some hm with ⟨d, s1, h1, h2⟩ | ⟨x, h1, rfl⟩
  · split at h2
    · cases ret_some h2
      refine EvR.val k h1 fun Φ1 H1 ρ1 v f fs1 st1 k1 vl => ?_
      obtain ⟨rfl, rfl⟩ := vl.int
      exact ⟨_, rfl, p _ _ _ _ st1 k1.drop⟩
    · cases h2
  · exact EvR.exc k h1 p
theorem fill1_noexc {c : C} {o : Option D} {s : S} {x : Exn} (h : fill1 c o s = some (.exc x)) : False := by
  revert h
  unfold fill1
  split
  · intro h; cases h
  · split
    · unfold Den.view; split <;> (intro h; cases h)
    · intro h; cases h
theorem slc_to {a : C} {m : M (Option D)} {ml mh : M (Option Int)} {σ : L2.St} {H : Hp} (h : EvR g E (bnd m fun x => bnd ml fun l => bnd mh fun h => bnd (fill1 a x) fun d => lift (slcI d l h)) σ H Q) :
    tSl (SlV g) (OpdR g E a m) (EoR g E ml) (EoR g E mh) σ H Q := by
  obtain ⟨Φ, ρ, s, fs, F, r, k, hm, p⟩ := h
  rcases bnd_some hm with ⟨o, s1, h1, h2⟩ | ⟨x, h1, rfl⟩
  · refine OpdR.val k h1 fun Φ1 H1 ρ1 v fs1 st1 k1 pd => ?_
    rcases bnd_some h2 with ⟨ol, s2, h3, h4⟩ | ⟨x, h3, rfl⟩
    · refine ⟨Φ1, ρ1, s1, fs1, F, _, k1, h3, fun Φ2 H2 ρ2 fs2 st2 k2 => ?_⟩
      rcases bnd_some h4 with ⟨oh, s3, h5, h6⟩ | ⟨x, h5, rfl⟩
      · refine ⟨Φ2, ρ2, s2, fs2, F, _, k2, h5, fun Φ3 H3 ρ3 fs3 st3 k3 => ?_⟩
        rcases bnd_some h6 with ⟨d, s4, h7, h8⟩ | ⟨x, h7, rfl⟩
        · obtain ⟨z, e1, rfl⟩ := lift_some h8
          obtain ⟨_, _, Φ4, fs4, e, st4, k4, pk⟩ := fill1_ok k3 ((pd.stp st2).stp st3) h7
          cases e
          exact ⟨Φ4, ρ3, d, z, k4.sub, pk, e1, k4.aft (p.shift (((st1.trans st2 fun _ h => h).trans st3 fun _ h => h).trans st4 fun _ h => h) fun _ h => h)⟩
        · exact (fill1_noexc h7).elim
      · exact ⟨Φ2, ρ2, s2, fs2, F, _, k2, h5, PX.shift p (st1.trans st2 fun _ h => h) fun _ h => h⟩
    · exact ⟨Φ1, ρ1, s1, fs1, F, _, k1, h3, PX.shift p st1 fun _ h => h⟩
  · exact OpdR.exc k h1 p
/-! ### chains -/
theorem flat_any {d : D} {v : V} (hf : flatD d = true) (h : PkR g Φ H ρ d v) : PkR g Φ' H' ρ' d v := by
  have rn : Rep g Φ' H' ρ' .non .non [] := rep_non
  have rb : ∀ b, Rep g Φ' H' ρ' (.bl b) (.bl b) [] := fun b => rep_bl
  have ri : ∀ b, Rep g Φ' H' ρ' (.int b) (.int b) [] := fun b => rep_int
  have rs : ∀ s : List Nat, Rep g Φ' H' ρ' (.str s) (.str ⟨s.toArray⟩) [] := fun b => rep_str
  cases d with
  | non => rw [h.non]; exact rn
  | bl b => rw [h.bl]; exact rb _
  | int i => rw [h.int]; exact ri _
  | str s => rw [h.str]; exact rs _
  | _ => simp [flatD] at hf
theorem chain_to {a b c : C} {ma mb mc : M (Option D)} {n n' : D → D → Option D} {σ : L2.St} {H : Hp} (h : EvR g E (bnd ma fun x => bnd mb fun y => bnd (fill1 a x) fun d => bnd (fill1 b y) fun e =>
      bnd (lift (n d e)) fun r => match r with
        | .bl true => bnd mc fun z => bnd (fill1 c z) fun f => if flatD e = true then lift (n' e f) else stuck
        | .bl false => ret (.bl false)
        | _ => stuck) σ H Q) : tChain (OpV g n) (OpV g n') (OpdR g E a ma) (OpdR g E b mb) (OpdR g E c mc) σ H Q := by
  obtain ⟨Φ, ρ, s, fs, F, r, k, hm, p⟩ := h
  rcases bnd_some hm with ⟨o, s1, h1, h2⟩ | ⟨x, h1, rfl⟩
  · refine OpdR.val k h1 fun Φ1 H1 ρ1 v fs1 st1 k1 pd => ?_
    rcases bnd_some h2 with ⟨o', s2, h3, h4⟩ | ⟨x, h3, rfl⟩
    · refine OpdR.val k1 h3 fun Φ2 H2 ρ2 w fs2 st2 k2 pd' => ?_
      rcases bnd_some h4 with ⟨d, s3, h5, h6⟩ | ⟨x, h5, rfl⟩
      · obtain ⟨_, _, Φ3, fs3, e, st3, k3, pk⟩ := fill1_ok k2 (pd.stp st2) h5
        cases e
        rcases bnd_some h6 with ⟨d', s4, h7, h8⟩ | ⟨x, h7, rfl⟩
        · obtain ⟨_, _, Φ4, fs4, e, st4, k4, pk'⟩ := fill1_ok k3 (pd'.stp st3) h7
          cases e
          have st14 := ((st1.trans st2 fun _ h => h).trans st3 fun _ h => h).trans st4 fun _ h => h
          rcases bnd_some h8 with ⟨z, s5, h9, h10⟩ | ⟨x, h9, rfl⟩
          · obtain ⟨z', e1, e2⟩ := lift_some h9
            cases e2
            refine ⟨Φ4, ρ2, d, d', z, k4.sub, pk.stp st4, pk', e1, k4.aft (E := E) fun Φ5 H5 ρ5 v5 f5 fs5 st5 k5 vl5 => ?_⟩
            have st15 := st14.trans st5 fun _ h => h
            split at h10
            · obtain ⟨rfl, rfl⟩ := vl5.isBl
              refine ⟨true, rfl, iteT ?_⟩
              rcases bnd_some h10 with ⟨o3, s6, h11, h12⟩ | ⟨x, h11, rfl⟩
              · refine OpdR.val k5.drop h11 fun Φ6 H6 ρ6 w6 fs6 st6 k6 pd6 => ?_
                rcases bnd_some h12 with ⟨d6, s7, h13, h14⟩ | ⟨x, h13, rfl⟩
                · obtain ⟨_, _, Φ7, fs7, e, st7, k7, pk7⟩ := fill1_ok k6 pd6 h13
                  cases e
                  split at h14
                  · rename_i hf
                    obtain ⟨z7, e7, rfl⟩ := lift_some h14
                    exact ⟨Φ7, ρ6, d', d6, z7, k7.sub, flat_any hf pk', pk7, e7, k7.aft (p.shift ((st15.trans st6 fun _ h => h).trans st7 fun _ h => h) fun _ h => h)⟩
                  · cases h14
                · exact (fill1_noexc h13).elim
              · exact OpdR.exc k5.drop h11 (PX.shift p st15 fun _ h => h)
            · obtain ⟨rfl, rfl⟩ := vl5.isBl
              cases ret_some h10
              exact ⟨false, rfl, iteF (p _ _ _ _ _ _ st15 k5 ⟨rep_bl, List.nodup_nil, fun a ha => by cases ha⟩)⟩
            · cases h10
          · obtain ⟨z', e1, e2⟩ := lift_some h9
            cases e2
        · exact (fill1_noexc h7).elim
      · exact (fill1_noexc h5).elim
    · exact OpdR.exc k1 h3 (PX.shift p st1 fun _ h => h)
  · exact OpdR.exc k h1 p
/-! ### isinstance -/
def rIsi (g : Gx) (T : String) : List V → Hp → VK → Prop := fun vs H Q => ∃ (Φ : Hp) (ρ : List Addr) (d r : D) (v : V), vs = [v, .ty T] ∧ Sub Φ H ∧ PkR g Φ H ρ d v ∧ isiF T [d] = some r ∧ Aft g Φ H ρ r Q
theorem cr_isi (hK : X.K = g.K) {T : String} : CallR X (.builtin "isinstance") (rIsi g T) := by
  intro pins s σ H vs us Q I r h
  obtain ⟨Φ, ρ, d, r', v, rfl, sb, rd, hk, q⟩ := h
  exact bi_isi hK sb rd hk q I r
theorem isi_to {a : C} {m : M (Option D)} {T : String} {σ : L2.St} {H : Hp} (h : EvR g E (bnd m fun x => bnd (fill1 a x) fun d => lift (isiF T [d])) σ H Q) :
    tCB (rIsi g T) (tCons (OpdR g E a m) (tCons (tC (.ty T)) tNil)) σ H Q := by
  show OpdR g E a m σ H fun v H1 => rIsi g T [v, .ty T] H1 Q
  exact un_to (n := fun d => isiF T [d]) (K := fun v H1 Q => rIsi g T [v, .ty T] H1 Q) h fun Φ ρ H d r v sb pk hn af => ⟨Φ, ρ, d, r, v, rfl, sb, pk, hn, af⟩
/-! ### range as a list, as a tuple -/
def tTupRgF (te : L2.St → Hp → (Int → Int → Hp → Prop) → Prop) : TE := fun σ H Q => te σ H fun a b H1 => RgOk a b ∧ ∀ (q : Addr) (o : Obj), H1 q = none → o.dict = none → Q (.ref q) (upd H1 q (.frz o (.tup (rgV a b))))
open PyProof.Rows in
theorem pe_tupRgF {e : Expr} {te : L2.St → Hp → (Int → Int → Hp → Prop) → Prop} {p pos : Pos} (hc : X.calm = true) (hg : Gl X "tuple") (hm : X.mg "tuple" = none) (he : PRg X e te) (na : starEach [e] X.env = (false, eval e X.env) :: starEach [] X.env) : PE X (.Call (.Name "tuple" p) [e] [] pos) (tTupRgF te) := by
  refine ⟨fun pins s σ H Q I h => ?_⟩
  refine Call_ (ld_blt I hg hm boot_tuple (PyProof.Rows.callWith_type1 (args_cons (L2.thn (he pins s σ H _ I h) fun x s1 ⟨r, a, b, t, u, v, H1, ex, hr, I1, ok, q⟩ => args_nil ?_) na) na))
  subst ex
  obtain ⟨b1, b2, b3, b4, b5⟩ := ok
  refine call_tuple_range (n := (b - a).toNat) (I1.ok.hd hc) hr (small_one b1 b2 b3 b4) (rangeSize_nat a b) b5 fun h' tk acc hk hi => ?_
  have I2 : Inv X pins σ H1 { s1 with heap := h', toks := tk } := I1.kept hk
  refine ⟨.ref h'.objs.size, _, laidT (s := { s1 with heap := h', toks := tk }) (t' := tk) (us := acc.toList) I2 (fun c o e => Heap.get?_push_of_some _ e) (Nat.le_refl _) ?_ (vals_rg hi) ?_, rfl, q _ _ (I2.hok.fresh (Nat.le_refl _)) rfl⟩
  · rw [Array.toArray_toList]; exact Heap.get?_push_size _ rfl
  · rw [rgV_length, sizeLine_eq]; omega
theorem tupRg_to {a : C} {m : M (Option D)} {σ : L2.St} {H : Hp} (h : EvR g E (bnd m fun x => bnd (fill1 a x) fun d => match d with
    | .int n => if smallR n then ret (.tup (rngL 0 n)) else stuck
    | _ => stuck) σ H Q) : tTupRgF (tRg1 (OpdR g E a m)) σ H Q := by
  obtain ⟨Φ, ρ, s, fs, F, r, k, hm, p⟩ := h
  rcases bnd_some hm with ⟨o, s1, h1, h2⟩ | ⟨x, h1, rfl⟩
  · refine OpdR.val k h1 fun Φ1 H1 ρ1 v fs1 st1 k1 pd => ?_
    rcases bnd_some h2 with ⟨d, s2, h3, h4⟩ | ⟨x, h3, rfl⟩
    · obtain ⟨_, _, Φ2, fs2, e, st2, k2, pk⟩ := fill1_ok k1 pd h3
      cases e
      split at h4
      · split at h4
        · rename_i n hs
          cases ret_some h4
          refine ⟨n, pk.int, ?_, fun q o hq hd => ?_⟩
          · simp only [smallR, Bool.and_eq_true, decide_eq_true_eq] at hs
            exact ⟨by omega, by omega, by omega, by omega, by omega⟩
          · exact (k2.aft (p.shift (st1.trans st2 fun _ h => h) fun _ h => h)).tup k2.sub (rngV_rep 0 n) q o hq hd
        · cases h4
      · cases h4
    · exact (fill1_noexc h3).elim
  · exact OpdR.exc k h1 p
theorem lstRg_to {a : C} {m : M (Option D)} {σ : L2.St} {H : Hp} (h : EvR g E (bnd m fun x => bnd (fill1 a x) fun d => match d with
    | .int n => if smallR n then ret (.lst .own (rngL 0 n)) else stuck
    | _ => stuck) σ H Q) : tLstRg (tRg1 (OpdR g E a m)) σ H Q := by
  obtain ⟨Φ, ρ, s, fs, F, r, k, hm, p⟩ := h
  rcases bnd_some hm with ⟨o, s1, h1, h2⟩ | ⟨x, h1, rfl⟩
  · refine OpdR.val k h1 fun Φ1 H1 ρ1 v fs1 st1 k1 pd => ?_
    rcases bnd_some h2 with ⟨d, s2, h3, h4⟩ | ⟨x, h3, rfl⟩
    · obtain ⟨_, _, Φ2, fs2, e, st2, k2, pk⟩ := fill1_ok k1 pd h3
      cases e
      split at h4
      · split at h4
        · rename_i n hs
          cases ret_some h4
          refine ⟨n, pk.int, ?_, fun q hq => ?_⟩
          · simp only [smallR, Bool.and_eq_true, decide_eq_true_eq] at hs
            exact ⟨by omega, by omega, by omega, by omega, by omega⟩
          · exact (k2.aft (p.shift (st1.trans st2 fun _ h => h) fun _ h => h)).lst k2.sub (rngV_rep 0 n) q hq
        · cases h4
      · cases h4
    · exact (fill1_noexc h3).elim
  · exact OpdR.exc k h1 p
/-! ### sorted(set(t)) -/
theorem srtSet_ev {a : C} {m : M (Option D)} {σ : L2.St} {H : Hp} (hK : X.K = g.K) (h : EvR g E (bnd m fun x => bnd (fill1 a x) fun d => lift (setSrt d)) σ H Q) :
    tCB (rSortedSet X.w) (tCons (tCB (rSetI X.K X.w) (tCons (OpdR g E a m) tNil)) tNil) σ H Q := by
  show OpdR g E a m σ H fun v H1 => rSetI X.K X.w [v] H1 fun y H2 => rSortedSet X.w [y] H2 Q
  refine un_to (K := fun v H1 Q => rSetI X.K X.w [v] H1 fun y H2 => rSortedSet X.w [y] H2 Q) h fun Φ ρ H d r v sb pk hn af => ?_
  exact srtSet_to hK ⟨Φ, ρ, d, r, sb, pk, hn, af⟩
end
end Den
/-! Den11: a list in its slot changed by a method, by an item. -/
namespace Den
open PySem PySem.Spec L2
section
variable {g : Gx} {E : XK} {X : Cx} {Φ Φ1 Φ' H H1 H' : Hp} {ρ ρ1 ρ' : List Addr} {F F1 : Addr → Prop} {σ : L2.St} {s : S} {fs : Ix → List Addr} {Q : VK}
def muId : Mu → String
  | .append => "list.append"
  | .pop0 => "list.pop"
  | .pop1 => "list.pop"
  | .remove => "list.remove"
/-- what a method does to the list at l -/
def rMu (g : Gx) (m : Mu) : V → List V → Hp → VK → Prop := fun x xs H Q => ∃ (l : Addr) (vs : List V) (es ds : List D) (y : D) (es' : List D) (Φ : Hp) (ρ : List Addr) (fl : List Addr),
  x = .ref l ∧ H l = some (.lst vs) ∧ RepL g Φ H ρ es vs fl ∧ RepL g Φ H ρ ds xs [] ∧ muF m es ds = some (y, es') ∧ Sub Φ H ∧
  ∀ (vs' : List V) (w : V) (fy fr : List Addr), (∀ H', (∀ b ∈ fl, H' b = H b) → Rep g Φ H' ρ y w fy ∧ RepL g Φ H' ρ es' vs' fr) → fl.Perm (fy ++ fr) → Q w (upd H l (.lst vs'))
theorem RepL.out {es : List D} {vs : List V} {fl : List Addr} (r : RepL g Φ H ρ es vs fl) {H' : Hp} (h : ∀ b ∈ fl, H' b = H b) : RepL g Φ H' ρ es vs fl :=
  RepL.mono (fun _ _ h => h) (List.prefix_refl _) _ _ _ (fun b hb => ⟨h b hb, (RepL.at _ _ _ r b hb).1⟩) r
theorem Rep.out {es : D} {vs : V} {fl : List Addr} (r : Rep g Φ H ρ es vs fl) {H' : Hp} (h : ∀ b ∈ fl, H' b = H b) : Rep g Φ H' ρ es vs fl :=
  Rep.mono (fun _ _ h => h) (List.prefix_refl _) _ _ _ (fun b hb => ⟨h b hb, (Rep.at _ _ _ r b hb).1⟩) r
theorem erase_at (k : Int) : ∀ (l : List Int), k ∈ l → ∃ j, l[j]? = some k ∧ (∀ m : Nat, m < j → l[m]? ≠ some k) ∧ l.erase k = l.eraseIdx j
  | [], h => by cases h
  | x :: xs, h => by
    by_cases e : x = k
    · subst e
      exact ⟨0, rfl, fun m hm => by omega, by simp⟩
    · rcases List.mem_cons.mp h with h | h
      · exact absurd h.symm e
      · obtain ⟨j, h1, h2, h3⟩ := erase_at k xs h
        refine ⟨j + 1, by simpa using h1, fun m hm => ?_, ?_⟩
        · cases m with
          | zero => simpa using e
          | succ m => simpa using h2 m (by omega)
        · rw [List.erase_cons_tail (by simpa using e), h3]; rfl
theorem erase_map (l : List Int) (j : Nat) : (l.map D.int).eraseIdx j = (l.eraseIdx j).map D.int := by
  induction l generalizing j with
  | nil => rfl
  | cons x xs ih => cases j with
    | zero => rfl
    | succ j => simp [ih]
theorem ints_repF : ∀ {ds : List D} {vs : List V} {is : List Int} {f : List Addr}, RepL g Φ H ρ ds vs f → intsOf ds = some is → vs = is.map V.int ∧ ds = is.map D.int ∧ f = []
  | [], vs, is, f, r, e => by
    simp only [RepL] at r
    simp only [intsOf, Option.some.injEq] at e
    subst e
    exact ⟨r.1, rfl, r.2⟩
  | d :: ds, vs, is, f, r, e => by
    simp only [RepL] at r
    obtain ⟨v, vs', f1, f2, rfl, rfl, r1, r2⟩ := r
    cases d with
    | int i =>
      simp only [intsOf] at e
      cases q : intsOf ds with
      | none => rw [q] at e; cases e
      | some l =>
        rw [q] at e
        simp only [Option.map_some, Option.some.injEq] at e
        subst e
        obtain ⟨rfl, rfl, rfl⟩ := ints_repF r2 q
        simp only [Rep] at r1
        obtain ⟨rfl, rfl⟩ := r1
        exact ⟨rfl, rfl, rfl⟩
    | _ => simp [intsOf] at e
theorem mt_mu (m : Mu) : MtM X (muId m) (rMu g m) := by
  intro pins s σ H x xs v us Q I rx rs h
  obtain ⟨l, vs, es, ds, y, es', Φ, ρ, fl, rfl, hl, re, rd, hm, sb, q⟩ := h
  have hlen := RepL.len _ _ _ re
  cases m with
  | append =>
    unfold muF at hm
    split at hm
    all_goals first | (rename_i e; cases e; done) | skip
    · rename_i x0 _
      split at hm
      · rename_i hz
        cases hm
        simp only [RepL] at rd
        obtain ⟨w, vs0, f1, f2, rfl, e1, r1, rfl, rfl⟩ := rd
        obtain ⟨rfl, _⟩ := List.append_eq_nil_iff.mp e1.symm
        refine mt_append pins s σ H _ _ v us Q I rx rs ⟨l, vs, w, rfl, rfl, hl, ?_, ?_⟩
        · rw [hlen]; exact Nat.lt_of_lt_of_le hz lim_le
        · refine q (vs ++ [w]) .non [] fl (fun H' hH => ⟨rep_non, ?_⟩) (List.Perm.refl _)
          have := RepL.app _ [x0] _ [w] _ [] (re.out hH) (by simp only [RepL]; exact ⟨w, [], [], [], rfl, rfl, r1.any, rfl, rfl⟩)
          simpa using this
      · cases hm
    all_goals cases hm
  | pop0 =>
    unfold muF at hm
    split at hm
    all_goals first | (rename_i e; cases e; done) | skip
    · split at hm
      · rename_i yy hy
        cases hm
        simp only [RepL] at rd
        obtain ⟨rfl, _⟩ := rd
        obtain ⟨w, f1, f2, e1, r1, r2, hp⟩ := RepL.pick _ _ _ _ _ re hy
        rw [← hlen] at e1 r2
        refine mt_pop pins s σ H _ _ v us Q I rx rs ⟨l, vs, w, rfl, rfl, hl, e1, ?_⟩
        rw [hlen, List.eraseIdx_length_sub_one] at r2
        rw [← hlen, List.eraseIdx_length_sub_one] at r2
        exact q vs.dropLast w f1 f2 (fun H' hH => ⟨r1.out fun b hb => hH b (hp.mem_iff.mpr (List.mem_append_left _ hb)), r2.out fun b hb => hH b (hp.mem_iff.mpr (List.mem_append_right _ hb))⟩) hp
      · cases hm
    all_goals cases hm
  | pop1 =>
    unfold muF at hm
    split at hm
    all_goals first | (rename_i e; cases e; done) | skip
    · rename_i i0 _
      split at hm
      · rename_i hs
        split at hm
        · rename_i k hk
          split at hm
          · rename_i yy hy
            cases hm
            simp only [RepL, Rep] at rd
            obtain ⟨w0, vs0, f1, f2, rfl, e1, ⟨rfl, rfl⟩, rfl, rfl⟩ := rd
            obtain ⟨w, f1, f2, e1, r1, r2, hp⟩ := RepL.pick _ _ _ _ _ re hy
            obtain ⟨k1, k2, k3, k4⟩ := ixN_seq hk
            obtain ⟨s1, s2⟩ := smallR_of hs
            refine mt_popAt pins s σ H _ _ v us Q I rx rs ⟨l, vs, i0, k, w, rfl, rfl, hl, by omega, by omega, by rw [hlen]; exact k1, e1, ?_⟩
            exact q (vs.eraseIdx k) w f1 f2 (fun H' hH => ⟨r1.out fun b hb => hH b (hp.mem_iff.mpr (List.mem_append_left _ hb)), r2.out fun b hb => hH b (hp.mem_iff.mpr (List.mem_append_right _ hb))⟩) hp
          · cases hm
        · cases hm
      · cases hm
    all_goals cases hm
  | remove =>
    unfold muF at hm
    split at hm
    all_goals first | (rename_i e; cases e; done) | skip
    · rename_i i0 _
      split at hm
      · rename_i is hi
        split at hm
        · rename_i hmem
          cases hm
          simp only [RepL, Rep] at rd
          obtain ⟨w0, vs0, f1, f2, rfl, e1, ⟨rfl, rfl⟩, rfl, rfl⟩ := rd
          obtain ⟨rfl, rfl, rfl⟩ := ints_repF re hi
          obtain ⟨j, h1, h2, h3⟩ := erase_at i0 is hmem
          refine mt_remove pins s σ H _ _ v us Q I rx rs ⟨l, is, i0, j, rfl, rfl, hl, h1, h2, ?_⟩
          rw [h3] at q
          exact q _ .non [] [] (fun H' hH => ⟨rep_non, rep_ints _⟩) (List.Perm.refl _)
        · cases hm
      · cases hm
    all_goals cases hm
theorem isLst_some {i : Nat} {s : S} (h : isLst i s = true) : ∃ o ds, s.sl[i]? = some (some (.lst o ds)) := by
  unfold isLst at h
  split at h
  · exact ⟨_, _, by assumption⟩
  · cases h
theorem mut_to {m : Mu} {i : Nat} {mz : M (List D)} {σ : L2.St} {H : Hp} (hK : X.K = g.K) (h : EvR g E (bnd (grd (isLst i)) fun _ => bnd mz fun ds => mutL m i ds) σ H Q) :
    tBM X.K "list" (rMu g m) (tVar i) (FzR g E mz) σ H Q := by
  obtain ⟨Φ, ρ, s, fs, F, r, k, hm, p⟩ := h
  rcases bnd_some hm with ⟨⟨⟩, s1, h1, h2⟩ | ⟨x, h1, rfl⟩
  · unfold grd at h1
    split at h1
    · rename_i hl
      cases h1
      obtain ⟨o, ds, q⟩ := isLst_some hl
      obtain ⟨v, e1, rv⟩ := k.slot i _ q
      refine ⟨v, e1, ?_⟩
      obtain ⟨a, vs, rfl, t⟩ := rep_list k.sub (d := .lst o ds) rfl rv
      refine ⟨.inl ⟨rfl, vs, by rw [hK]; exact t⟩, ?_⟩
      rcases bnd_some h2 with ⟨es, s2, h3, h4⟩ | ⟨x, h3, rfl⟩
      · refine ⟨Φ, ρ, s, fs, F, _, k, h3, fun Φ1 H1 ρ1 ws fs1 st1 k1 rw1 => ?_⟩
        unfold mutL at h4
        split at h4
        · rename_i es0 q1
          split at h4
          · rename_i d es' hmu
            cases h4
            obtain ⟨a', vs', fl, e2, ha, re, fin⟩ := k1.chg (E := E) (Q := Q) (es' := es') q1
            rw [e1] at e2
            cases e2
            refine ⟨a, vs', es0, es, d, es', Φ1, ρ1, fl, rfl, ha, re, rw1.any, hmu, k1.sub, fun vs2 w fy fr hr hp => ?_⟩
            exact fin vs2 d w fy fr hr hp (p.shift st1 fun _ h => h)
          · cases h4
        · cases h4
      · exact ⟨Φ, ρ, s, fs, F, _, k, h3, p⟩
    · cases h1
  · unfold grd at h1
    split at h1 <;> cases h1
end
end Den
/-! Den12: statements. -/
namespace Den
open PySem PySem.Spec L2
def PrOk (pr : List Nat) (σ σ' : L2.St) : Prop := σ'.length = σ.length ∧ ∀ j ∈ pr, σ'[j]? = σ[j]?
def ExR (g : Gx) (E : XK) (pr : List Nat) (m : S → Option Rs) : TS := fun D σ H => ∃ Φ ρ s fs F r, Ok g Φ H ρ s σ fs F ∧ m s = some r ∧ match r with
  | .nx s' => ∀ Φ' H' ρ' σ' fs', Stp Φ H ρ F Φ' H' ρ' → PrOk pr σ σ' → Ok g Φ' H' ρ' s' σ' fs' F → D.nx σ' H'
  | .rt d s' => ∀ Φ' H' ρ' v f σ' fs', Stp Φ H ρ F Φ' H' ρ' → PrOk pr σ σ' → Ok g Φ' H' ρ' s' σ' fs' (fadd f F) → Vl g Φ' H' ρ' d v f F → D.rt v H'
  | .ex x => PX g E Φ H ρ F x
section
variable {g : Gx} {E : XK} {X : Cx} {pr : List Nat} {Φ Φ1 Φ' H H1 H' : Hp} {ρ ρ1 ρ' : List Addr} {F F1 : Addr → Prop} {σ : L2.St} {s : S} {fs : Ix → List Addr} {Q : VK} {D0 : Ends}
theorem PrOk.refl : PrOk pr σ σ := ⟨rfl, fun _ _ => rfl⟩
theorem PrOk.trans {σ1 σ2 : L2.St} (a : PrOk pr σ σ1) (b : PrOk pr σ1 σ2) : PrOk pr σ σ2 := ⟨b.1.trans a.1, fun j hj => (b.2 j hj).trans (a.2 j hj)⟩
theorem thn_some {α : Type} {x : Option (Ex α)} {k : α → S → Option Rs} {r : Rs} (h : Den.thn x k = some r) : (∃ a s1, x = some (.val a s1) ∧ k a s1 = some r) ∨ ∃ e, x = some (.exc e) ∧ r = .ex e := by
  unfold Den.thn at h
  split at h
  · exact .inl ⟨_, _, rfl, h⟩
  · cases h; exact .inr ⟨_, rfl, rfl⟩
  · cases h
theorem asg_noexc : (∀ (tg : Tg) (d : D) (s : S) (x : Exn), asg tg d s ≠ some (.exc x)) ∧ ∀ (ts : List Tg) (ds : List D) (s : S) (x : Exn), asgs ts ds s ≠ some (.exc x) := by
  have key : ∀ n : Nat, (∀ tg, sizeOf tg ≤ n → ∀ (d : D) (s : S) (x : Exn), asg tg d s ≠ some (.exc x)) ∧ ∀ ts : List Tg, sizeOf ts ≤ n → ∀ (ds : List D) (s : S) (x : Exn), asgs ts ds s ≠ some (.exc x) := by
    intro n
    induction n with
    | zero =>
      refine ⟨fun tg h => ?_, fun ts h => ?_⟩
      · cases tg <;> simp at h
      · cases ts <;> simp at h
    | succ n ih =>
      refine ⟨fun tg h d s x e => ?_, fun ts h ds s x e => ?_⟩
      · cases tg with
        | nm i => simp only [asg] at e; split at e <;> cases e
        | tp ts =>
          simp only [asg] at e
          split at e
          · exact ih.2 ts (by simp at h; omega) _ _ _ e
          · cases e
      · cases ts with
        | nil => cases ds <;> simp [asgs, ret, stuck] at e
        | cons t ts =>
          cases ds with
          | nil => simp [asgs, stuck] at e
          | cons d ds =>
            simp only [asgs] at e
            rcases bnd_some e with ⟨⟨⟩, s1, h1, h2⟩ | ⟨x, h1, _⟩
            · exact ih.2 ts (by simp at h; omega) _ _ _ h2
            · exact ih.1 t (by simp at h; omega) _ _ _ h1
  exact ⟨fun tg => (key (sizeOf tg)).1 tg (Nat.le_refl _), fun ts => (key (sizeOf ts)).2 ts (Nat.le_refl _)⟩
/-- target = e -/
theorem set_to {tg : Tg} {m : M D} (hp : ∀ j ∈ pr, j ∉ tgSl tg) (h : ExR g E pr (fun s => Den.thn (m s) fun d s1 => Den.thn (asg tg d s1) fun _ s2 => some (.nx s2)) D0 σ H) : tAsg (EvR g E m) (AsgR g tg) D0 σ H := by
  obtain ⟨Φ, ρ, s, fs, F, r, k, hm, p⟩ := h
  rcases thn_some hm with ⟨d, s1, h1, h2⟩ | ⟨x, h1, rfl⟩
  · refine EvR.val k h1 fun Φ1 H1 ρ1 v f fs1 st1 k1 vl => ?_
    rcases thn_some h2 with ⟨⟨⟩, s2, h3, h4⟩ | ⟨x, h3, _⟩
    · cases h4
      exact ⟨Φ1, ρ1, s1, s2, fs1, F, f, d, k1, .inl vl, h3, fun σ' fs' hl hs ok => p _ _ _ _ _ st1 ⟨hl, fun j hj => (hs j (hp j hj)).1⟩ ok⟩
    · exact absurd h3 (asg_noexc.1 _ _ _ _)
  · exact EvR.exc k h1 p
/-- .. a name, of a new list -/
theorem nm_to {i : Nat} {v : V} {σ : L2.St} {H : Hp} {Q : L2.St → Hp → Prop} (h : AsgR g (.nm i) v σ H Q) : gName i v σ H Q := by
  obtain ⟨Φ, ρ, s, s', fs, F, f, d, k, vl, hm, q⟩ := h
  have vl : Vl g Φ H ρ d v f F := by
    rcases vl with vl | ⟨h, _⟩
    · exact vl
    · simp [isTp] at h
  simp only [asg] at hm
  split at hm
  · rename_i hi
    cases hm
    refine q _ _ (by simp) (fun j hj => ?_) (k.set vl hi)
    simp only [tgSl, List.mem_singleton] at hj
    exact ⟨List.getElem?_set_ne (Ne.symm hj), List.getElem?_set_ne (Ne.symm hj)⟩
  · cases hm
theorem EvR.imp {m : M D} {Q Q' : VK} (h : EvR g E m σ H Q) (k : ∀ v H1, Q v H1 → Q' v H1) : EvR g E m σ H Q' := by
  obtain ⟨Φ, ρ, s, fs, F, r, kk, hm, p⟩ := h
  refine ⟨Φ, ρ, s, fs, F, r, kk, hm, ?_⟩
  cases r with
  | val d s' => exact fun Φ' H' ρ' v f fs' st ok vl => k _ _ (p Φ' H' ρ' v f fs' st ok vl)
  | exc x => exact p
theorem drop_to {m : M D} (h : ExR g E pr (fun s => Den.thn (m s) fun _ s1 => some (.nx s1)) D0 σ H) : tDrop (EvR g E m) D0 σ H := by
  obtain ⟨Φ, ρ, s, fs, F, r, k, hm, p⟩ := h
  rcases thn_some hm with ⟨d, s1, h1, h2⟩ | ⟨x, h1, rfl⟩
  · cases h2
    exact EvR.val k h1 fun Φ1 H1 ρ1 v f fs1 st1 k1 vl => p _ _ _ _ _ st1 .refl k1.drop
  · exact EvR.exc k h1 p
theorem ret_to {m : M D} (h : ExR g E pr (fun s => Den.thn (m s) fun d s1 => some (.rt d s1)) D0 σ H) : tRet (EvR g E m) D0 σ H := by
  obtain ⟨Φ, ρ, s, fs, F, r, k, hm, p⟩ := h
  rcases thn_some hm with ⟨d, s1, h1, h2⟩ | ⟨x, h1, rfl⟩
  · cases h2
    exact EvR.val k h1 fun Φ1 H1 ρ1 v f fs1 st1 k1 vl => p _ _ _ _ _ _ _ st1 .refl k1 vl
  · exact EvR.exc k h1 p
theorem retn_to (h : ExR g E pr (fun s => some (.rt .non s)) D0 σ H) : tRetN D0 σ H := by
  obtain ⟨Φ, ρ, s, fs, F, r, k, hm, p⟩ := h
  cases hm
  exact p Φ H ρ .non [] σ fs (Stp.refl k.nF) .refl k.nof ⟨rep_non, List.nodup_nil, fun a ha => by cases ha⟩
theorem nx_to (h : ExR g E pr (fun s => some (.nx s)) D0 σ H) : tNext D0 σ H := by
  obtain ⟨Φ, ρ, s, fs, F, r, k, hm, p⟩ := h
  cases hm
  exact p Φ H ρ σ fs (Stp.refl k.nF) .refl k
theorem sthn_some {x : Option Rs} {k : S → Option Rs} {r : Rs} (h : sthn x k = some r) : (∃ s1, x = some (.nx s1) ∧ k s1 = some r) ∨ (x = some r ∧ ∀ s, r ≠ .nx s) := by
  unfold sthn at h
  split at h
  · exact .inl ⟨_, rfl, h⟩
  · rename_i hn
    refine .inr ⟨h, fun s e => ?_⟩
    subst e
    exact hn s h
/-- .. what follows, one behind another -/
theorem ExR.seq {m m' : S → Option Rs} (h : ExR g E pr (fun s => sthn (m s) m') D0 σ H) : ExR g E pr m { D0 with nx := ExR g E pr m' D0 } σ H := by
  obtain ⟨Φ, ρ, s, fs, F, r, k, hm, p⟩ := h
  rcases sthn_some hm with ⟨s1, h1, h2⟩ | ⟨h1, hn⟩
  · refine ⟨Φ, ρ, s, fs, F, _, k, h1, fun Φ1 H1 ρ1 σ1 fs1 st1 pk1 k1 => ⟨Φ1, ρ1, s1, fs1, F, r, k1, h2, ?_⟩⟩
    cases r with
    | nx s' => exact fun Φ' H' ρ' σ' fs' st pk ok => p Φ' H' ρ' σ' fs' (st1.trans st fun _ h => h) (pk1.trans pk) ok
    | rt d s' => exact fun Φ' H' ρ' v f σ' fs' st pk ok vl => p Φ' H' ρ' v f σ' fs' (st1.trans st fun _ h => h) (pk1.trans pk) ok vl
    | ex x => exact PX.shift p st1 fun _ h => h
  · refine ⟨Φ, ρ, s, fs, F, r, k, h1, ?_⟩
    cases r with
    | nx s' => exact absurd rfl (hn s')
    | rt d s' => exact p
    | ex x => exact p
theorem if_to {m : M D} {a b : S → Option Rs} (h : ExR g E pr (fun s => Den.thn (m s) fun d s1 => match d with
    | .bl true => a s1
    | .bl false => b s1
    | _ => none) D0 σ H) : tIfS (TtR g E m) (ExR g E pr a) (ExR g E pr b) D0 σ H := by
  obtain ⟨Φ, ρ, s, fs, F, r, k, hm, p⟩ := h
  have go : ∀ {Φ1 H1 ρ1 fs1 s1 m'}, Stp Φ H ρ F Φ1 H1 ρ1 → Ok g Φ1 H1 ρ1 s1 σ fs1 F → m' s1 = some r → ExR g E pr m' D0 σ H1 := fun {Φ1 H1 ρ1 fs1 s1 m'} st1 k1 h2 => by
    refine ⟨Φ1, ρ1, s1, fs1, F, r, k1, h2, ?_⟩
    cases r with
    | nx s' => exact fun Φ' H' ρ' σ' fs' st pk ok => p Φ' H' ρ' σ' fs' (st1.trans st fun _ h => h) pk ok
    | rt d s' => exact fun Φ' H' ρ' v f σ' fs' st pk ok vl => p Φ' H' ρ' v f σ' fs' (st1.trans st fun _ h => h) pk ok vl
    | ex x => exact PX.shift p st1 fun _ h => h
  rcases thn_some hm with ⟨d, s1, h1, h2⟩ | ⟨x, h1, rfl⟩
  · split at h2
    · exact TtR.val k h1 fun Φ1 H1 ρ1 fs1 st1 k1 => by rw [if_pos rfl]; exact go st1 k1 h2
    · exact TtR.val k h1 fun Φ1 H1 ρ1 fs1 st1 k1 => by rw [if_neg Bool.false_ne_true]; exact go st1 k1 h2
    · cases h2
  · exact TtR.exc k h1 p
theorem aug_to {i : Nat} {m : M D} (hi : i ∉ pr) (h : ExR g E pr (fun s => match s.sl[i]? with
    | some (some (.int x)) => Den.thn (m s) fun d s1 => match d with
      | .int y => if i < s1.sl.length then some (.nx (setS s1 i (some (.int (x + y))))) else none
      | _ => none
    | _ => none) D0 σ H) : tAug i (EvR g E m) (ipI fun i j => i + j) D0 σ H := by
  obtain ⟨Φ, ρ, s, fs, F, r, k, hm, p⟩ := h
  dsimp only at hm
  split at hm
  · rename_i x q
    obtain ⟨v, e1, rv⟩ := k.slot i _ q
    simp only [Rep] at rv
    obtain ⟨rfl, _⟩ := rv
    refine ⟨.int x, e1, ?_⟩
    rcases thn_some hm with ⟨d, s1, h1, h2⟩ | ⟨x, h1, rfl⟩
    · refine EvR.val k h1 fun Φ1 H1 ρ1 v f fs1 st1 k1 vl => ?_
      split at h2
      · split at h2
        · rename_i y hl
          cases h2
          obtain ⟨rfl, rfl⟩ := vl.int
          refine ⟨x, y, rfl, rfl, ?_⟩
          refine p Φ1 H1 ρ1 _ _ st1 ⟨by simp, fun j hj => List.getElem?_set_ne (fun z : i = j => hi (by rw [z]; exact hj))⟩ (k1.set (i := i) (d := .int (x + y)) (v := .int (x + y)) ⟨rep_int, List.nodup_nil, fun a ha => by cases ha⟩ hl)
        · cases h2
      · cases h2
    · exact EvR.exc k h1 p
  · cases hm
theorem RepL.setR : ∀ (ds : List D) (vs : List V) (f : List Addr) (i : Nat) (d : D) (v : V), i < ds.length → RepL g Φ H ρ ds vs f → Rep g Φ H ρ d v [] →
    ∃ f1 f2, RepL g Φ H ρ (ds.set i d) (vs.set i v) f2 ∧ f.Perm (f1 ++ f2)
  | [], _, _, i, d, v, h, _, _ => by simp at h
  | x :: ds, _, _, 0, d, v, h, r, rd => by
    simp only [RepL] at r
    obtain ⟨w, vs', f1, f2, rfl, rfl, r1, r2⟩ := r
    refine ⟨f1, f2, ?_, List.Perm.refl _⟩
    simp only [List.set_cons_zero, RepL]
    exact ⟨v, vs', [], f2, rfl, rfl, rd, r2⟩
  | x :: ds, _, _, i + 1, d, v, h, r, rd => by
    simp only [RepL] at r
    obtain ⟨w, vs', f1, f2, rfl, rfl, r1, r2⟩ := r
    obtain ⟨g1, g2, q2, q3⟩ := RepL.setR ds vs' f2 i d v (by simpa using h) r2 rd
    refine ⟨g1, f1 ++ g2, ?_, ?_⟩
    · simp only [List.set_cons_succ, RepL]
      exact ⟨w, _, f1, g2, rfl, rfl, r1, q2⟩
    · refine (List.Perm.append_left f1 q3).trans ?_
      rw [← List.append_assoc, ← List.append_assoc]
      exact List.Perm.append_right g2 List.perm_append_comm
/-- the list in slot i: written, what was there dropped -/
theorem Ok.chg0 {i : Nat} {es es' : List D} (k : Ok g Φ H ρ s σ fs F) (q : s.sl[i]? = some (some (.lst .own es))) :
    ∃ a vs fl, σ[i]? = some (some (.ref a)) ∧ H a = some (.lst vs) ∧ RepL g Φ H ρ es vs fl ∧
      ∀ (vs' : List V) (fy fr : List Addr), (∀ H', (∀ b ∈ fl, H' b = H b) → RepL g Φ H' ρ es' vs' fr) → fl.Perm (fy ++ fr) →
        ∃ fs', Stp Φ H ρ F Φ (upd H a (.lst vs')) ρ ∧ Ok g Φ (upd H a (.lst vs')) ρ (setS s i (some (.lst .own es'))) σ fs' F := by
  obtain ⟨v, e1, r, k2⟩ := k.take q
  have hi : i < s.sl.length := (List.getElem?_eq_some_iff.mp q).1
  obtain ⟨rr, nd, out⟩ := r
  simp only [Rep] at rr
  obtain ⟨a, vs, f', rfl, ha, na, ef, rl⟩ := rr
  rw [ef] at nd out k2
  refine ⟨a, vs, f', e1, ha, rl, fun vs' fy fr hr hp => ?_⟩
  have nd' := List.nodup_cons.mp nd
  have k3 := k2.wr (o := .lst vs') List.mem_cons_self ha pln_lst pln_lst
  have mf : ∀ b, b ∈ f' ↔ b ∈ fy ∨ b ∈ fr := fun b => by rw [hp.mem_iff]; exact List.mem_append
  have ndp : (fy ++ fr).Nodup := hp.nodup_iff.mp nd'.2
  obtain ⟨n1, n2, n3⟩ := List.nodup_append.mp ndp
  have rr := hr (upd H a (.lst vs')) fun b hb => upd_ne fun z => nd'.1 (z ▸ hb)
  have k4 : Ok g Φ (upd H a (.lst vs')) ρ { s with sl := s.sl.set i none } σ (updI fs (.inl i) []) (fadd (a :: fr) F) := k3.less fun b hb => by
    rcases hb with hb | hb
    · rcases List.mem_cons.mp hb with rfl | hb
      · exact .inl List.mem_cons_self
      · exact .inl (List.mem_cons_of_mem _ ((mf b).mpr (.inr hb)))
    · exact .inr hb
  have vl : Vl g Φ (upd H a (.lst vs')) ρ (.lst .own es') (.ref a) (a :: fr) F := by
    refine ⟨?_, List.nodup_cons.mpr ⟨fun z => nd'.1 ((mf a).mpr (.inr z)), n2⟩, fun b hb z => ?_⟩
    · simp only [Rep]
      exact ⟨a, vs', fr, rfl, upd_same, na, rfl, rr⟩
    · rcases List.mem_cons.mp hb with rfl | hb
      · exact out b List.mem_cons_self z
      · exact out b (List.mem_cons_of_mem _ ((mf b).mpr (.inr hb))) z
  have k5 := k4.put (i := i) vl (by simpa using hi) e1
  simp only [List.set_set] at k5
  exact ⟨_, wr_stp k.nF (out a List.mem_cons_self), k5⟩
theorem seti_to {i : Nat} {m mk : M D} (h : ExR g E pr (fun s => Den.thn (bnd m (fun d => bnd (grd (isLst i)) fun _ => bnd mk fun kd => ret (kd, Den.fz d)) s) fun p s2 => setiM i p.1 p.2 s2) D0 σ H) :
    tAsg (EvR g E m) (gSub (tVar i) (EvR g E mk) rSetL) D0 σ H := by
  obtain ⟨Φ, ρ, s, fs, F, r, k, hm, p⟩ := h
  rcases thn_some hm with ⟨⟨kd, d'⟩, s2, h1, h2⟩ | ⟨x, h1, rfl⟩
  · rcases bnd_some h1 with ⟨d, s3, h3, h4⟩ | ⟨x, h3, e⟩
    · refine EvR.val k h3 fun Φ1 H1 ρ1 v f fs1 st1 k1 vl => ?_
      obtain ⟨k1', st1', rv⟩ := k1.frz vl
      rcases bnd_some h4 with ⟨⟨⟩, s4, h5, h6⟩ | ⟨x, h5, e⟩
      · unfold grd at h5
        split at h5
        · rename_i hl
          cases h5
          obtain ⟨o, ds, q⟩ := isLst_some hl
          obtain ⟨w, e1, _⟩ := k1'.slot i _ q
          refine ⟨w, e1, ?_⟩
          rcases bnd_some h6 with ⟨kd', s5, h7, h8⟩ | ⟨x, h7, e⟩
          · cases ret_some h8
            refine EvR.val k1' h7 fun Φ2 H2 ρ2 u f2 fs2 st2 k2 vl2 => ?_
            dsimp only at h2
            unfold setiM at h2
            split at h2
            · split at h2
              · rename_i es z q1 _ j hj
                cases h2
                obtain ⟨rfl, rfl⟩ := vl2.int
                obtain ⟨a, vs, fl, e2, ha, re, fin⟩ := k2.drop.chg0 (es' := es.set j (Den.fz d)) q1
                rw [e1] at e2
                cases e2
                have hlen := RepL.len _ _ _ re
                obtain ⟨_, hjl, _⟩ := ixN_seq hj
                have rv2 : Rep g Φ2 H2 ρ2 (Den.fz d) v [] := (rv.sh st2).any
                obtain ⟨fy, fr, rr, hp⟩ := RepL.setR es vs fl j (Den.fz d) v hjl re rv2
                refine ⟨a, vs, z, j, rfl, rfl, ha, by rw [hlen]; exact hj, ?_⟩
                obtain ⟨fs3, st3, k3⟩ := fin (vs.set j v) fy fr (fun H' hH => rr.out fun b hb => hH b (hp.mem_iff.mpr (List.mem_append_right _ hb))) hp
                exact p _ _ _ _ _ (((st1.trans st1' fun _ h => h).trans st2 fun _ h => h).trans st3 fun _ h => h) .refl k3
              · cases h2
            · cases h2
          · cases e
        · cases h5
      · unfold grd at h5
        split at h5 <;> cases h5
    · cases e
  · rcases bnd_some h1 with ⟨d, s3, h3, h4⟩ | ⟨x', h3, e⟩
    · refine EvR.val k h3 fun Φ1 H1 ρ1 v f fs1 st1 k1 vl => ?_
      obtain ⟨k1', st1', rv⟩ := k1.frz vl
      rcases bnd_some h4 with ⟨⟨⟩, s4, h5, h6⟩ | ⟨x', h5, e⟩
      · unfold grd at h5
        split at h5
        · rename_i hl
          cases h5
          obtain ⟨o, ds, q⟩ := isLst_some hl
          obtain ⟨w, e1, _⟩ := k1'.slot i _ q
          refine ⟨w, e1, ?_⟩
          rcases bnd_some h6 with ⟨kd', s5, h7, h8⟩ | ⟨x', h7, e⟩
          · cases ret_some h8
          · cases e
            exact EvR.exc k1' h7 (PX.shift p (st1.trans st1' fun _ h => h) fun _ h => h)
        · cases h5
      · unfold grd at h5
        split at h5 <;> cases h5
    · cases e
      exact EvR.exc k h3 p
end
end Den
/-! Den13: loops. -/
namespace Den
open PySem PySem.Spec L2
section
variable {g : Gx} {E : XK} {X : Cx} {pr : List Nat} {Φ Φ1 Φ' H H1 H' : Hp} {ρ ρ1 ρ' : List Addr} {F F1 : Addr → Prop} {σ : L2.St} {s : S} {fs : Ix → List Addr} {Q : VK} {D0 : Ends}
/-- the end of a statement, from a later state -/
def RsP (g : Gx) (E : XK) (pr : List Nat) (D : Ends) (Φ H : Hp) (ρ : List Addr) (F : Addr → Prop) (σ : L2.St) (r : Rs) : Prop := match r with
  | .nx s' => ∀ Φ' H' ρ' σ' fs', Stp Φ H ρ F Φ' H' ρ' → PrOk pr σ σ' → Ok g Φ' H' ρ' s' σ' fs' F → D.nx σ' H'
  | .rt d s' => ∀ Φ' H' ρ' v f σ' fs', Stp Φ H ρ F Φ' H' ρ' → PrOk pr σ σ' → Ok g Φ' H' ρ' s' σ' fs' (fadd f F) → Vl g Φ' H' ρ' d v f F → D.rt v H'
  | .ex x => PX g E Φ H ρ F x
theorem RsP.shift {σ1 : L2.St} {r : Rs} (h : RsP g E pr D0 Φ H ρ F σ r) (st : Stp Φ H ρ F Φ1 H1 ρ1) (pk : PrOk pr σ σ1) : RsP g E pr D0 Φ1 H1 ρ1 F σ1 r := by
  cases r with
  | nx s' => exact fun Φ' H' ρ' σ' fs' st' pk' ok => h Φ' H' ρ' σ' fs' (st.trans st' fun _ h => h) (pk.trans pk') ok
  | rt d s' => exact fun Φ' H' ρ' v f σ' fs' st' pk' ok vl => h Φ' H' ρ' v f σ' fs' (st.trans st' fun _ h => h) (pk.trans pk') ok vl
  | ex x => exact PX.shift h st fun _ h => h
theorem for_to {tg : Tg} {mi : M (List D)} {b : S → Option Rs} (hp : ∀ j ∈ pr, j ∉ tgSl tg) (h : ExR g E pr (fun s => Den.thn (mi s) fun xs s1 => forGo (fun x s2 => Den.thn (asg tg x s2) fun _ s3 => b s3) xs s1) D0 σ H) :
    tFor (ItR g E tg mi) (AsgR g tg) (ExR g E pr b) D0 σ H := by
  obtain ⟨Φ, ρ, s, fs, F, r, k, hm, p⟩ := h
  have p : RsP g E pr D0 Φ H ρ F σ r := p
  rcases thn_some hm with ⟨xs, s1, h1, h2⟩ | ⟨x, h1, rfl⟩
  · refine ⟨Φ, ρ, s, fs, F, _, k, h1, fun Φ1 H1 ρ1 fs1 J st1 k1 W => ?_⟩
    have p1 := p.shift st1 .refl
    refine ⟨fun i m σ2 H2 => m = xs.length - i ∧ i ≤ xs.length ∧ ∃ Φ2 ρ2 s2 fs2, Stp Φ1 H1 ρ1 F Φ2 H2 ρ2 ∧ PrOk pr σ σ2 ∧ Ok g Φ2 H2 ρ2 s2 σ2 fs2 F ∧ forGo (fun x s2 => Den.thn (asg tg x s2) fun _ s3 => b s3) (xs.drop i) s2 = some r,
      ⟨xs.length, by simp, Nat.zero_le _, Φ1, ρ1, s1, fs1, Stp.refl k1.nF, .refl, k1, h2⟩, ?_⟩
    rintro i m σ2 H2 ⟨rfl, hi, Φ2, ρ2, s2, fs2, st2, pk2, k2, hg⟩
    by_cases hlt : i < xs.length
    · obtain ⟨hgo1, _⟩ := W Φ2 H2 ρ2 st2.ext st2.pre k2.sub i
      have hx : xs[i]? = some xs[i] := List.getElem?_eq_getElem hlt
      obtain ⟨go, yl⟩ := hgo1 _ hx
      rw [List.drop_eq_getElem_cons hlt] at hg
      simp only [forGo] at hg
      refine .inr ⟨go, fun σ3 H3 => ∃ Φ2 ρ2 s2 fs2, Stp Φ1 H1 ρ1 F Φ2 H3 ρ2 ∧ PrOk pr σ σ3 ∧ Ok g Φ2 H3 ρ2 s2 σ3 fs2 F ∧ forGo (fun x s2 => Den.thn (asg tg x s2) fun _ s3 => b s3) (xs.drop (i + 1)) s2 = some r,
        fun σ' H' h => ⟨xs.length - (i + 1), by omega, rfl, hlt, h⟩, fun x H3 hy => ?_⟩
      obtain ⟨Φ3, w3, rep3⟩ := yl x H3 hy
      have k3 := k2.grow w3
      have st3 := st2.trans (k2.gstp w3) fun _ h => h
      have start : ∀ {s5}, asg tg xs[i] s2 = some (.val () s5) → ∀ {Q : L2.St → Hp → Prop}, (∀ σ' fs', PrOk pr σ2 σ' → Ok g Φ3 H3 ρ2 s5 σ' fs' F → Q σ' H3) → AsgR g tg x σ2 H3 Q := fun {s5} h3 {Q} hQ => by
        refine ⟨Φ3, ρ2, _, s5, fs2, F, [], _, k3.nof, ?_, h3, fun σ' fs' hl hs ok => hQ σ' fs' ⟨hl, fun j hj => (hs j (hp j hj)).1⟩ ok⟩
        rcases rep3 with r | ⟨ht, es, a, vs, e1, e2, t, r⟩
        · exact .inl ⟨r, List.nodup_nil, fun a ha => by cases ha⟩
        · exact .inr ⟨ht, es, a, vs, e1, e2, t, r, List.nodup_nil, fun a ha => by cases ha⟩
      rcases sthn_some hg with ⟨s4, h3, h4⟩ | ⟨h3, hn⟩
      · rcases thn_some h3 with ⟨⟨⟩, s5, h5, h6⟩ | ⟨x, h5, _⟩
        · refine start h5 fun σ' fs' pk ok => ⟨Φ3, ρ2, s5, fs', F, _, ok, h6, fun Φ4 H4 ρ4 σ4 fs4 st4 pk4 k4 => ?_⟩
          exact ⟨Φ4, ρ4, s4, fs4, st3.trans st4 fun _ h => h, (pk2.trans pk).trans pk4, k4, h4⟩
        · exact absurd h5 (asg_noexc.1 _ _ _ _)
      · rcases thn_some h3 with ⟨⟨⟩, s5, h5, h6⟩ | ⟨x, h5, _⟩
        · refine start h5 fun σ' fs' pk ok => ⟨Φ3, ρ2, s5, fs', F, _, ok, h6, ?_⟩
          have p2 := p1.shift (st3) (pk2.trans pk)
          cases r with
          | nx s' => exact absurd rfl (hn s')
          | rt d s' => exact p2
          | ex x => exact p2
        · exact absurd h5 (asg_noexc.1 _ _ _ _)
    · have e : i = xs.length := by omega
      subst e
      rw [List.drop_length] at hg
      simp only [forGo] at hg
      cases hg
      obtain ⟨_, hst⟩ := W Φ2 H2 ρ2 st2.ext st2.pre k2.sub xs.length
      exact .inl ⟨hst (Nat.le_refl _), p1 _ _ _ _ _ st2 pk2 k2⟩
  · exact ⟨Φ, ρ, s, fs, F, _, k, h1, p⟩
theorem while_to {n : Nat} {m : M D} {b : S → Option Rs} (h : ExR g E pr (whilGo m b n) D0 σ H) : tWhile (TtR g E m) (ExR g E pr b) D0 σ H := by
  obtain ⟨Φ, ρ, s, fs, F, r, k, hm, p⟩ := h
  have p : RsP g E pr D0 Φ H ρ F σ r := p
  refine ⟨fun n σ2 H2 => ∃ Φ2 ρ2 s2 fs2, Stp Φ H ρ F Φ2 H2 ρ2 ∧ PrOk pr σ σ2 ∧ Ok g Φ2 H2 ρ2 s2 σ2 fs2 F ∧ whilGo m b n s2 = some r, ⟨n, Φ, ρ, s, fs, Stp.refl k.nF, .refl, k, hm⟩, ?_⟩
  rintro n σ2 H2 ⟨Φ2, ρ2, s2, fs2, st2, pk2, k2, hg⟩
  cases n with
  | zero => cases hg
  | succ n =>
    simp only [whilGo] at hg
    rcases thn_some hg with ⟨d, s3, h1, h2⟩ | ⟨x, h1, rfl⟩
    · split at h2
      · refine TtR.val k2 h1 fun Φ3 H3 ρ3 fs3 st3 k3 => ?_
        rw [if_pos rfl]
        refine ⟨fun σ' H' => ∃ Φ2 ρ2 s2 fs2, Stp Φ H ρ F Φ2 H' ρ2 ∧ PrOk pr σ σ' ∧ Ok g Φ2 H' ρ2 s2 σ' fs2 F ∧ whilGo m b n s2 = some r, fun σ' H' h => ⟨n, Nat.lt_succ_self n, h⟩, ?_⟩
        have st13 := st2.trans st3 fun _ h => h
        rcases sthn_some h2 with ⟨s4, h3, h4⟩ | ⟨h3, hn⟩
        · exact ⟨Φ3, ρ3, s3, fs3, F, _, k3, h3, fun Φ4 H4 ρ4 σ4 fs4 st4 pk4 k4 => ⟨Φ4, ρ4, s4, fs4, st13.trans st4 fun _ h => h, pk2.trans pk4, k4, h4⟩⟩
        · refine ⟨Φ3, ρ3, s3, fs3, F, r, k3, h3, ?_⟩
          have p2 := p.shift st13 pk2
          cases r with
          | nx s' => exact absurd rfl (hn s')
          | rt d s' => exact p2
          | ex x => exact p2
      · cases h2
        refine TtR.val k2 h1 fun Φ3 H3 ρ3 fs3 st3 k3 => ?_
        rw [if_neg Bool.false_ne_true]
        exact p _ _ _ _ _ (st2.trans st3 fun _ h => h) pk2 k3
      · cases h2
    · exact TtR.exc k2 h1 (PX.shift p st2 fun _ h => h)
end
end Den
/-! DenD: dicts in their slots, a list within a list changed, zip. -/
namespace Den
open PySem PySem.Spec L2
section
variable {κ : Type} [DecidableEq κ]
theorem valV_zip (k : κ) : ∀ (ks : List κ) (vs : List V), valV (ks.zip vs) k = valL ks vs k
  | [], _ => rfl
  | _ :: _, [] => rfl
  | k' :: ks, v :: vs => by
    rw [List.zip_cons_cons]
    unfold valL
    by_cases e : k' = k
    · rw [if_pos e, valV_pos (p := (k', v)) e]
    · rw [if_neg e, valV_neg (p := (k', v)) e, valV_zip k ks vs]
theorem any_zip (k : κ) : ∀ (ks : List κ) (vs : List V), ks.length = vs.length → ((ks.zip vs).any fun kv => decide (kv.1 = k)) = decide (k ∈ ks)
  | [], [], _ => by simp
  | [], _ :: _, h => by cases h
  | _ :: _, [], h => by cases h
  | k' :: ks, v :: vs, h => by
    have ih := any_zip k ks vs (by simpa using h)
    rw [List.zip_cons_cons, List.any_cons, ih]
    by_cases e : k' = k
    · subst e; simp
    · have e' : ¬ k = k' := fun z => e z.symm
      simp [e, e']
theorem setL_len {α : Type} (k : κ) (x : α) : ∀ (ks : List κ) (ds : List α), (setL ks ds k x).length = ds.length
  | [], _ => by simp [setL]
  | _ :: _, [] => by simp [setL]
  | _ :: ks, _ :: ds => by simp only [setL, List.length_cons, setL_len k x ks ds]
theorem map_zip (k : κ) (x : V) : ∀ (ks : List κ) (vs : List V), ks.length = vs.length → ((ks.zip vs).map fun kv => if kv.1 = k then (kv.1, x) else kv) = ks.zip (setL ks vs k x)
  | [], [], _ => rfl
  | [], _ :: _, h => by cases h
  | _ :: _, [], h => by cases h
  | k' :: ks, v :: vs, h => by
    have ih := map_zip k x ks vs (by simpa using h)
    simp only [List.zip_cons_cons, List.map_cons, setL, ih]
    by_cases e : k' = k
    · rw [if_pos e, if_pos e]
    · rw [if_neg e, if_neg e]
theorem putK_zip (k : κ) (x : V) {ks : List κ} {vs : List V} (h : ks.length = vs.length) : putK (ks.zip vs) k x = (putL ks vs k x).1.zip (putL ks vs k x).2 := by
  unfold putK putL
  rw [any_zip k ks vs h]
  by_cases e : k ∈ ks
  · rw [if_pos (decide_eq_true e), if_pos e, map_zip k x ks vs h]
  · rw [if_neg (by simpa using e), if_neg e]
    dsimp only
    rw [List.zip_append h]
    rfl
end
theorem kks_inj : ∀ {a b : List Int}, kks a = kks b → a = b
  | [], [], _ => rfl
  | [], _ :: _, h => by cases h
  | _ :: _, [], h => by cases h
  | x :: a, y :: b, h => by
    have h' : (Sum.inl x : Key) :: kks a = Sum.inl y :: kks b := h
    injection h' with h1 h2
    injection h1 with h1
    rw [h1, kks_inj h2]
section
variable {α : Type}
theorem valL_kks (k : List Int) : ∀ (ks : List (List Int)) (ds : List α), valL (ks.map kks) ds (kks k) = valL ks ds k
  | [], _ => rfl
  | _ :: _, [] => rfl
  | k' :: ks, d :: ds => by
    simp only [List.map_cons, valL]
    by_cases e : k' = k
    · rw [if_pos e, if_pos (by rw [e])]
    · rw [if_neg e, if_neg (fun z => e (kks_inj z)), valL_kks k ks ds]
theorem setL_kks (k : List Int) (x : α) : ∀ (ks : List (List Int)) (ds : List α), setL (ks.map kks) ds (kks k) x = setL ks ds k x
  | [], _ => by simp [setL]
  | _ :: _, [] => by simp [setL]
  | k' :: ks, d :: ds => by
    simp only [List.map_cons, setL, setL_kks k x ks ds]
    by_cases e : k' = k
    · rw [if_pos e, if_pos (by rw [e])]
    · rw [if_neg e, if_neg (fun z => e (kks_inj z))]
theorem putL_kks (k : List Int) (x : α) (ks : List (List Int)) (ds : List α) : putL (ks.map kks) ds (kks k) x = ((putL ks ds k x).1.map kks, (putL ks ds k x).2) := by
  unfold putL
  by_cases e : k ∈ ks
  · rw [if_pos e, if_pos (List.mem_map.mpr ⟨k, e, rfl⟩), setL_kks]
  · rw [if_neg e, if_neg (fun z => by
      obtain ⟨a, h1, h2⟩ := List.mem_map.mp z
      exact e (kks_inj h2 ▸ h1))]
    simp
end
section
variable {g : Gx} {E : XK} {X : Cx} {pr : List Nat} {Φ Φ1 Φ' H H1 H' : Hp} {ρ ρ1 ρ' : List Addr} {F F1 : Addr → Prop} {σ : L2.St} {s : S} {fs : Ix → List Addr} {Q : VK} {D0 : Ends}
section
variable {κ : Type} [DecidableEq κ]
theorem RepL.val (k : κ) : ∀ (ks : List κ) (ds : List D) (vs : List V), RepL g Φ H ρ ds vs [] → match valL ks ds k with
    | some d => ∃ v, valL ks vs k = some v ∧ Rep g Φ H ρ d v []
    | none => valL ks vs k = none
  | [], ds, vs, r => by
    have e1 : valL ([] : List κ) ds k = none := by cases ds <;> rfl
    have e2 : valL ([] : List κ) vs k = none := by cases vs <;> rfl
    rw [e1]; exact e2
  | _ :: _, [], vs, r => by
    simp only [RepL] at r
    rw [r.1]
    rfl
  | k' :: ks, d :: ds, vs, r => by
    simp only [RepL] at r
    obtain ⟨v, vs', f1, f2, rfl, e, r1, r2⟩ := r
    obtain ⟨rfl, rfl⟩ := List.append_eq_nil_iff.mp e.symm
    unfold valL
    by_cases q : k' = k
    · rw [if_pos q, if_pos q]; exact ⟨v, rfl, r1⟩
    · rw [if_neg q, if_neg q]; exact RepL.val k ks ds vs' r2
theorem RepL.setLv (k : κ) {x : D} {w : V} (rx : Rep g Φ H ρ x w []) : ∀ (ks : List κ) (ds : List D) (vs : List V), RepL g Φ H ρ ds vs [] → RepL g Φ H ρ (setL ks ds k x) (setL ks vs k w) []
  | [], ds, vs, r => by simpa [setL] using r
  | _ :: _, [], vs, r => by
    have r' := r
    simp only [RepL] at r'
    rw [r'.1]
    simpa [setL, RepL] using r
  | k' :: ks, d :: ds, vs, r => by
    simp only [RepL] at r
    obtain ⟨v, vs', f1, f2, rfl, e, r1, r2⟩ := r
    obtain ⟨rfl, rfl⟩ := List.append_eq_nil_iff.mp e.symm
    simp only [setL, RepL]
    refine ⟨_, _, [], [], rfl, rfl, ?_, RepL.setLv k rx ks ds vs' r2⟩
    by_cases q : k' = k
    · rw [if_pos q, if_pos q]; exact rx
    · rw [if_neg q, if_neg q]; exact r1
theorem RepL.putLv (k : κ) {x : D} {w : V} (rx : Rep g Φ H ρ x w []) {ks : List κ} {ds : List D} {vs : List V} (r : RepL g Φ H ρ ds vs []) (hl : ks.length = ds.length) :
    (putL ks vs k w).1 = (putL ks ds k x).1 ∧ RepL g Φ H ρ (putL ks ds k x).2 (putL ks vs k w).2 [] ∧ (putL ks ds k x).1.length = (putL ks ds k x).2.length := by
  unfold putL
  by_cases e : k ∈ ks
  · rw [if_pos e, if_pos e]
    exact ⟨rfl, RepL.setLv k rx ks ds vs r, by dsimp only; rw [setL_len, hl]⟩
  · rw [if_neg e, if_neg e]
    refine ⟨rfl, ?_, by simp [hl]⟩
    have := RepL.app ds [x] vs [w] [] [] r (by simp only [RepL]; exact ⟨w, [], [], [], rfl, rfl, rx, rfl, rfl⟩)
    simpa using this
end
/-- what the dict holds at a key -/
theorem dget_of {a : Addr} {ks : KS} {ds : List D} {vs : List V} {kd : D} {y : V} {r : Option D} (sb : Sub Φ H) (ha : H a = some (ks.ho vs)) (hr : RepL g Φ H ρ ds vs []) (ry : Rep g Φ H ρ kd y []) (e : dcGet ks ds kd = some r) :
    ∃ o, DGet H a y o ∧ (∀ d, r = some d → ∃ v, o = some v ∧ Rep g Φ H ρ d v []) ∧ (r = none → o = none) := by
  cases ks with
  | t ks =>
    cases kd <;> simp only [dcGet, keyT, Option.map_some, Option.map_none] at e <;> cases e
    rename_i k
    simp only [Rep] at ry
    obtain ⟨b, rfl, eb, _⟩ := ry
    have eb' : H b = some (.tup ((kks k).map kV)) := by
      rcases (sb _ _ eb).2 with z | ⟨_, _, z, _⟩
      · exact z
      · cases z
    have ha' : H a = some (.dT ((ks.map kks).zip vs)) := ha
    refine ⟨valV ((ks.map kks).zip vs) (kks k), DGet.t ha' eb', fun d hd => ?_, fun hn => ?_⟩
    · have := RepL.val k ks ds vs hr
      rw [hd] at this
      rw [valV_zip, valL_kks]
      exact this
    · have := RepL.val k ks ds vs hr
      rw [hn] at this
      rw [valV_zip, valL_kks]
      exact this
  | k ks =>
    have fin : ∀ k : Key, y = kV k → valL ks ds k = r → ∃ o, DGet H a y o ∧ (∀ d, r = some d → ∃ v, o = some v ∧ Rep g Φ H ρ d v []) ∧ (r = none → o = none) := fun k ey er => by
      subst ey
      have ha' : H a = some (.dK (ks.zip vs)) := ha
      refine ⟨valV (ks.zip vs) k, DGet.k ha', fun d hd => ?_, fun hn => ?_⟩
      · have := RepL.val k ks ds vs hr
        rw [er, hd] at this
        rw [valV_zip]
        exact this
      · have := RepL.val k ks ds vs hr
        rw [er, hn] at this
        rw [valV_zip]
        exact this
    cases kd <;> simp only [dcGet, keyK, Option.map_some, Option.map_none] at e <;> cases e
    · simp only [Rep] at ry
      exact fin (Sum.inl _) ry.1 rfl
    · simp only [Rep] at ry
      exact fin (Sum.inr _) ry.1 rfl
theorem dput_of {a : Addr} {ks ks' : KS} {ds ds' : List D} {vs : List V} {kd d : D} {y w : V} (sb : Sub Φ H) (ha : H a = some (ks.ho vs)) (hl : ks.len = ds.length) (hz : ds.length < lim) (hr : RepL g Φ H ρ ds vs []) (ry : Rep g Φ H ρ kd y []) (rw' : Rep g Φ H ρ d w []) (e : dcPut ks ds kd d = some (ks', ds')) :
    ∃ vs', DPut H a y w (upd H a (ks'.ho vs')) ∧ ks'.len = ds'.length ∧ RepL g Φ H ρ ds' vs' [] := by
  have hv := RepL.len _ _ _ hr
  cases ks with
  | t ks =>
    cases kd <;> simp only [dcPut, keyT, Option.map_some, Option.map_none] at e <;> cases e
    rename_i k
    simp only [Rep] at ry
    obtain ⟨b, rfl, eb, _⟩ := ry
    have eb' : H b = some (.tup ((kks k).map kV)) := by
      rcases (sb _ _ eb).2 with z | ⟨_, _, z, _⟩
      · exact z
      · cases z
    have hl' : ks.length = ds.length := hl
    obtain ⟨p1, p2, p3⟩ := RepL.putLv k rw' hr hl'
    have ha' : H a = some (.dT ((ks.map kks).zip vs)) := ha
    refine ⟨(putL ks vs k w).2, ?_, p3, p2⟩
    have h := DPut.t (v := w) ha' eb' (by rw [List.length_zip, List.length_map, hl', hv, Nat.min_self]; exact Nat.lt_of_lt_of_le hz lim_le)
    rw [putK_zip (kks k) w (by rw [List.length_map, hl', hv]), putL_kks, p1] at h
    exact h
  | k ks =>
    have hl' : ks.length = ds.length := hl
    have ha' : H a = some (.dK (ks.zip vs)) := ha
    have fin : ∀ k : Key, y = kV k → ks' = .k (putL ks ds k d).1 → ds' = (putL ks ds k d).2 → ∃ vs', DPut H a y w (upd H a (ks'.ho vs')) ∧ ks'.len = ds'.length ∧ RepL g Φ H ρ ds' vs' [] := fun k ey e1 e2 => by
      subst ey e1 e2
      obtain ⟨p1, p2, p3⟩ := RepL.putLv k rw' hr hl'
      refine ⟨(putL ks vs k w).2, ?_, p3, p2⟩
      have h := DPut.k (k := k) (v := w) ha' (by rw [List.length_zip, hl', hv, Nat.min_self]; exact Nat.lt_of_lt_of_le hz lim_le)
      rw [putK_zip k w (by rw [hl', hv]), p1] at h
      exact h
    cases kd <;> simp only [dcPut, keyK, Option.map_some, Option.map_none] at e <;> cases e
    · simp only [Rep] at ry
      exact fin (Sum.inl _) ry.1 rfl rfl
    · simp only [Rep] at ry
      exact fin (Sum.inr _) ry.1 rfl rfl
theorem isDc_some {i : Nat} (h : isDc i s = true) : ∃ ks ds, s.sl[i]? = some (some (.dc .own ks ds)) := by
  unfold isDc at h
  split at h
  · exact ⟨_, _, by assumption⟩
  · cases h
theorem ks_isD {a : Addr} {ks : KS} {vs : List V} (h : H a = some (ks.ho vs)) : IsD H a := by
  cases ks with
  | t ks => exact .inr ⟨_, .inl h⟩
  | k ks => exact .inl ⟨_, .inl h⟩
theorem Ok.dc {i : Nat} {ks : KS} {ds : List D} (k : Ok g Φ H ρ s σ fs F) (q : s.sl[i]? = some (some (.dc .own ks ds))) : ∃ a vs, σ[i]? = some (some (.ref a)) ∧ H a = some (ks.ho vs) ∧ ks.len = ds.length ∧ RepL g Φ H ρ ds vs [] := by
  obtain ⟨v, e1, r⟩ := k.slot i _ q
  simp only [Rep] at r
  obtain ⟨a, vs, rfl, ha, _, _, hl, rl⟩ := r
  exact ⟨a, vs, e1, ha, hl, rl⟩
/-- a key in hand has nothing of its own -/
theorem key_free {d : D} {v : V} {f : List Addr} {ks : KS} {ds : List D} {r : Option D} (h : Rep g Φ H ρ d v f) (e : dcGet ks ds d = some r) : Rep g Φ H ρ d v [] ∧ f = [] := by
  cases ks <;> cases d <;> simp only [dcGet, keyT, keyK, Option.map_some, Option.map_none] at e <;> cases e
  · simp only [Rep] at h ⊢; exact ⟨⟨h.1, trivial⟩, h.2⟩
  · simp only [Rep] at h ⊢; exact ⟨⟨h.1, trivial⟩, h.2⟩
  · simp only [Rep] at h ⊢; obtain ⟨a, h1, h2, h3⟩ := h; exact ⟨⟨a, h1, h2, trivial⟩, h3⟩
theorem key_freeP {d x : D} {v : V} {f : List Addr} {ks : KS} {ds : List D} {r : KS × List D} (h : Rep g Φ H ρ d v f) (e : dcPut ks ds d x = some r) : Rep g Φ H ρ d v [] ∧ f = [] := by
  cases ks <;> cases d <;> simp only [dcPut, keyT, keyK, Option.map_some, Option.map_none] at e <;> cases e
  · simp only [Rep] at h ⊢; exact ⟨⟨h.1, trivial⟩, h.2⟩
  · simp only [Rep] at h ⊢; exact ⟨⟨h.1, trivial⟩, h.2⟩
  · simp only [Rep] at h ⊢; obtain ⟨a, h1, h2, h3⟩ := h; exact ⟨⟨a, h1, h2, trivial⟩, h3⟩
/-- d.get(k, e) -/
theorem dget_to {i : Nat} {mk me : M D} {σ : L2.St} {H : Hp} {Q : VK} (h : EvR g E (bnd (grd (isDc i)) fun _ => bnd mk fun kd => bnd me fun d => dgetM i kd d) σ H Q) : tDGet2 (tVar i) (EvR g E mk) (EvR g E me) σ H Q := by
  obtain ⟨Φ, ρ, s, fs, F, r, k, hm, p⟩ := h
  rcases bnd_some hm with ⟨⟨⟩, s1, h1, h2⟩ | ⟨x, h1, e⟩
  · unfold grd at h1
    split at h1
    · rename_i hd
      cases h1
      obtain ⟨ks, ds, q⟩ := isDc_some hd
      obtain ⟨a, vs, e1, ha, hl, rl⟩ := k.dc q
      refine ⟨.ref a, e1, a, rfl, ks_isD ha, ?_⟩
      rcases bnd_some h2 with ⟨kd, s2, h3, h4⟩ | ⟨x, h3, rfl⟩
      · refine EvR.val k h3 fun Φ1 H1 ρ1 y f1 fs1 st1 k1 vl1 => ?_
        rcases bnd_some h4 with ⟨d, s3, h5, h6⟩ | ⟨x, h5, rfl⟩
        · refine EvR.val k1.drop h5 fun Φ2 H2 ρ2 z f2 fs2 st2 k2 vl2 => ?_
          unfold dgetM at h6
          split at h6
          · rename_i ks' ds' q2
            obtain ⟨a', vs', e2, ha', hl', rl'⟩ := k2.dc q2
            rw [e1] at e2
            cases e2
            have st12 := st1.trans st2 fun _ h => h
            split at h6
            · rename_i d' hg
              cases h6
              obtain ⟨rk, _⟩ := key_free vl1.rep hg
              obtain ⟨o, g1, g2, _⟩ := dget_of k2.sub ha' rl' ((rk.sh st2).any) hg
              obtain ⟨v, rfl, rv⟩ := g2 _ rfl
              exact ⟨some v, g1, p Φ2 H2 ρ2 v [] fs2 st12 k2.drop.nof ⟨rv, List.nodup_nil, fun b hb => by cases hb⟩⟩
            · rename_i hg
              cases h6
              obtain ⟨rk, _⟩ := key_free vl1.rep hg
              obtain ⟨o, g1, _, g3⟩ := dget_of k2.sub ha' rl' ((rk.sh st2).any) hg
              obtain rfl := g3 rfl
              exact ⟨none, g1, p Φ2 H2 ρ2 z f2 fs2 st12 k2 vl2⟩
            · cases h6
          · cases h6
        · exact EvR.exc k1.drop h5 (PX.shift p st1 fun _ h => h)
      · exact EvR.exc k h3 p
    · cases h1
  · unfold grd at h1
    split at h1 <;> cases h1
/-- d[k] -/
theorem didx_to {i : Nat} {mk : M D} {σ : L2.St} {H : Hp} {Q : VK} (h : EvR g E (bnd (grd (isDc i)) fun _ => bnd mk fun kd => didxM i kd) σ H Q) : tDGet (tVar i) (EvR g E mk) σ H Q := by
  obtain ⟨Φ, ρ, s, fs, F, r, k, hm, p⟩ := h
  rcases bnd_some hm with ⟨⟨⟩, s1, h1, h2⟩ | ⟨x, h1, e⟩
  · unfold grd at h1
    split at h1
    · rename_i hd
      cases h1
      obtain ⟨ks, ds, q⟩ := isDc_some hd
      obtain ⟨a, vs, e1, ha, hl, rl⟩ := k.dc q
      refine ⟨.ref a, e1, ?_⟩
      rcases bnd_some h2 with ⟨kd, s2, h3, h4⟩ | ⟨x, h3, rfl⟩
      · refine EvR.val k h3 fun Φ1 H1 ρ1 y f1 fs1 st1 k1 vl1 => ?_
        unfold didxM at h4
        split at h4
        · rename_i ks' ds' q2
          obtain ⟨a', vs', e2, ha', hl', rl'⟩ := k1.drop.dc q2
          rw [e1] at e2
          cases e2
          split at h4
          · rename_i d' hg
            cases h4
            obtain ⟨rk, _⟩ := key_free vl1.rep hg
            obtain ⟨o, g1, g2, _⟩ := dget_of k1.sub ha' rl' rk hg
            obtain ⟨v, rfl, rv⟩ := g2 _ rfl
            exact ⟨a, v, rfl, g1, p Φ1 H1 ρ1 v [] fs1 st1 k1.drop.nof ⟨rv, List.nodup_nil, fun b hb => by cases hb⟩⟩
          · cases h4
        · cases h4
      · exact EvR.exc k h3 p
    · cases h1
  · unfold grd at h1
    split at h1 <;> cases h1
theorem pln_ho {ks : KS} {vs : List V} : PlnO (ks.ho vs) := by
  cases ks <;> exact ⟨fun _ => HO.noConfusion, fun _ => HO.noConfusion⟩
/-- the dict in slot i: written -/
theorem Ok.chgD {i : Nat} {ks : KS} {ds : List D} (k : Ok g Φ H ρ s σ fs F) (q : s.sl[i]? = some (some (.dc .own ks ds))) :
    ∃ a vs, σ[i]? = some (some (.ref a)) ∧ H a = some (ks.ho vs) ∧ ks.len = ds.length ∧ RepL g Φ H ρ ds vs [] ∧
      ∀ (ks' : KS) (ds' : List D) (vs' : List V), ks'.len = ds'.length → RepL g Φ H ρ ds' vs' [] →
        ∃ fs', Stp Φ H ρ F Φ (upd H a (ks'.ho vs')) ρ ∧ Ok g Φ (upd H a (ks'.ho vs')) ρ (setS s i (some (.dc .own ks' ds'))) σ fs' F := by
  obtain ⟨v, e1, r, k2⟩ := k.take q
  have hi : i < s.sl.length := (List.getElem?_eq_some_iff.mp q).1
  obtain ⟨rr, nd, out⟩ := r
  simp only [Rep] at rr
  obtain ⟨a, vs, rfl, ha, na, ef, hl, rl⟩ := rr
  rw [ef] at nd out k2
  refine ⟨a, vs, e1, ha, hl, rl, fun ks' ds' vs' hl' rl' => ?_⟩
  have k3 := k2.wr (o := ks'.ho vs') List.mem_cons_self ha pln_ho pln_ho
  have vl : Vl g Φ (upd H a (ks'.ho vs')) ρ (.dc .own ks' ds') (.ref a) [a] F := by
    refine ⟨?_, by simp, out⟩
    simp only [Rep]
    exact ⟨a, vs', rfl, upd_same, na, rfl, hl', rl'.any⟩
  have k5 := k3.put (i := i) vl (by simpa using hi) e1
  simp only [List.set_set] at k5
  exact ⟨_, wr_stp k.nF (out a List.mem_cons_self), k5⟩
/-- d[k] = e -/
theorem dset_to {i : Nat} {m mk : M D} (h : ExR g E pr (fun s => Den.thn (bnd m (fun d => bnd (grd (isDc i)) fun _ => bnd mk fun kd => ret (kd, Den.fz d)) s) fun p s2 => dsetM i p.1 p.2 s2) D0 σ H) :
    sDPut (tVar i) (EvR g E mk) (EvR g E m) D0 σ H := by
  obtain ⟨Φ, ρ, s, fs, F, r, k, hm, p⟩ := h
  rcases thn_some hm with ⟨⟨kd, d'⟩, s2, h1, h2⟩ | ⟨x, h1, rfl⟩
  · rcases bnd_some h1 with ⟨d, s3, h3, h4⟩ | ⟨x, h3, e⟩
    · refine EvR.val k h3 fun Φ1 H1 ρ1 v f fs1 st1 k1 vl => ?_
      obtain ⟨k1', st1', rv⟩ := k1.frz vl
      rcases bnd_some h4 with ⟨⟨⟩, s4, h5, h6⟩ | ⟨x, h5, e⟩
      · unfold grd at h5
        split at h5
        · rename_i hd
          cases h5
          obtain ⟨ks, ds, q⟩ := isDc_some hd
          obtain ⟨a, vs, e1, ha, hl, rl⟩ := k1'.dc q
          refine ⟨.ref a, e1, ?_⟩
          rcases bnd_some h6 with ⟨kd', s5, h7, h8⟩ | ⟨x, h7, e⟩
          · cases ret_some h8
            refine EvR.val k1' h7 fun Φ2 H2 ρ2 u f2 fs2 st2 k2 vl2 => ?_
            dsimp only at h2
            unfold dsetM at h2
            split at h2
            · rename_i ks2 ds2 q1
              split at h2
              · rename_i hz
                split at h2
                · rename_i ks3 ds3 hp
                  cases h2
                  obtain ⟨a', vs', e2, ha', hl', rl', fin⟩ := k2.drop.chgD q1
                  rw [e1] at e2
                  cases e2
                  obtain ⟨rk, _⟩ := key_freeP vl2.rep hp
                  have rv2 : Rep g Φ2 H2 ρ2 (Den.fz d) v [] := (rv.sh st2).any
                  obtain ⟨vs3, p1, p2, p3⟩ := dput_of k2.sub ha' hl' hz rl' rk rv2 hp
                  obtain ⟨fs3, st3, k3⟩ := fin ks3 ds3 vs3 p2 p3
                  exact ⟨a, _, rfl, p1, p _ _ _ _ _ (((st1.trans st1' fun _ h => h).trans st2 fun _ h => h).trans st3 fun _ h => h) .refl k3⟩
                · cases h2
              · cases h2
            · cases h2
          · cases e
        · cases h5
      · unfold grd at h5
        split at h5 <;> cases h5
    · cases e
  · rcases bnd_some h1 with ⟨d, s3, h3, h4⟩ | ⟨x', h3, e⟩
    · refine EvR.val k h3 fun Φ1 H1 ρ1 v f fs1 st1 k1 vl => ?_
      obtain ⟨k1', st1', rv⟩ := k1.frz vl
      rcases bnd_some h4 with ⟨⟨⟩, s4, h5, h6⟩ | ⟨x', h5, e⟩
      · unfold grd at h5
        split at h5
        · rename_i hd
          cases h5
          obtain ⟨ks, ds, q⟩ := isDc_some hd
          obtain ⟨a, vs, e1, ha, hl, rl⟩ := k1'.dc q
          refine ⟨.ref a, e1, ?_⟩
          rcases bnd_some h6 with ⟨kd', s5, h7, h8⟩ | ⟨x', h7, e⟩
          · cases ret_some h8
          · cases e
            exact EvR.exc k1' h7 (PX.shift p (st1.trans st1' fun _ h => h) fun _ h => h)
        · cases h5
      · unfold grd at h5
        split at h5 <;> cases h5
    · cases e
      exact EvR.exc k h3 p
/-- a new dict -/
theorem dnew_to (t : Bool) {σ : L2.St} {H : Hp} {Q : VK} (h : EvR g E (ret (.dc .own (if t then .t [] else .k []) [])) σ H Q) : (if t then tDNewT else tDNewK) σ H Q := by
  obtain ⟨Φ, ρ, s, fs, F, r, k, hm, p⟩ := h
  cases ret_some hm
  have go : ∀ (ks : KS), ks = (if t then .t [] else .k []) → ∀ q, H q = none → Q (.ref q) (upd H q (ks.ho [])) := fun ks ek q hq => by
    obtain ⟨k2, st2, nf, np⟩ := k.lay (o := ks.ho []) hq pln_ho.1
    subst ek
    refine p _ _ ρ (.ref q) [q] fs st2 k2 ⟨?_, by simp, fun a ha => by rw [List.mem_singleton.mp ha]; exact nf⟩
    simp only [Rep]
    exact ⟨q, [], rfl, upd_same, np, rfl, by cases t <;> rfl, by simp [RepL]⟩
  cases t with
  | true => exact go (.t []) rfl
  | false => exact go (.k []) rfl
/-- a tuple of ints, to be a key -/
theorem ktup_to {m : M (List D)} {σ : L2.St} {H : Hp} {Q : VK} (h : EvR g E (bnd m fun ds => match intsOf ds with
    | some ks => if ks.length ≤ lim then ret (.kt ks) else stuck
    | none => stuck) σ H Q) : tTup (EvsR g E m) σ H Q := by
  obtain ⟨Φ, ρ, s, fs, F, r, k, hm, p⟩ := h
  rcases bnd_some hm with ⟨ds, s1, h1, h2⟩ | ⟨x, h1, rfl⟩
  · refine ⟨Φ, ρ, s, fs, F, _, k, h1, fun Φ1 H1 ρ1 vs f fs1 st1 k1 vl => ?_⟩
    have hl := RepL.len _ _ _ vl.rep
    cases ei : intsOf ds with
    | none =>
      simp only [ei] at h2
      cases h2
    | some is =>
      simp only [ei] at h2
      split at h2
      · rename_i hz
        cases ret_some h2
        obtain ⟨e1, e2, e3⟩ := ints_repF vl.rep ei
        subst e1 e3
        refine ⟨by rw [List.length_map]; exact Nat.le_trans hz lim_le, fun q hq => ?_⟩
        obtain ⟨k2, st2⟩ := k1.drop.layS (o := .tup (is.map V.int)) hq fun _ => HO.noConfusion
        refine p _ _ ρ1 (.ref q) [] fs1 (st1.trans st2 fun _ h => h) k2.nof ⟨?_, List.nodup_nil, fun a ha => by cases ha⟩
        simp only [Rep]
        refine ⟨q, rfl, ?_, trivial⟩
        rw [upd_same]
        unfold kks
        rw [List.map_map]
        rfl
      · cases h2
  · exact ⟨Φ, ρ, s, fs, F, _, k, h1, p⟩
end
end Den
/-! DenE: list(d) compared with what is written, a list within a list changed, zip of tuples. -/
namespace Den
open PySem PySem.Spec L2
theorem andE {a b : Bool} (h : (a && b) = true) : a = true ∧ b = true := by simpa using h
/-- written keys -/
def litI : List Expr → List Int → Bool
  | [], [] => true
  | .Constant (.int n) _ _ :: es, m :: ms => decide (n = m) && litI es ms
  | _, _ => false
def litT : List Expr → List (List Int) → Bool
  | [], [] => true
  | .Tuple xs _ _ :: es, k :: ks => decide (xs.length ≤ 100) && litI xs k && litT es ks
  | _, _ => false
def litL : List Expr → List (List (List Int)) → Bool
  | [], [] => true
  | .List xs _ :: es, k :: ks => decide (xs.length ≤ 100) && litT xs k && litL es ks
  | _, _ => false
section
variable {g : Gx} {E : XK} {X : Cx} {pr : List Nat} {Φ Φ1 Φ' H H1 H' : Hp} {ρ ρ1 ρ' : List Addr} {F F1 : Addr → Prop} {σ : L2.St} {s : S} {fs : Ix → List Addr} {Q : VK} {D0 : Ends} {K : PySem.W.Frag}
abbrev ExtH (H H' : Hp) : Prop := ∀ b u, H b = some u → H' b = some u
theorem extH_l {a : Addr} {xs : List V} (e : ExtH H H') (h : SqL K H a xs) : SqL K H' a xs := by
  rcases h with (h | ⟨o, h⟩) | h
  · exact .inl (.inl (e _ _ h))
  · exact .inl (.inr ⟨o, e _ _ h⟩)
  · exact .inr h
theorem extH_t {a : Addr} {xs : List V} (e : ExtH H H') (h : SqT K H a xs) : SqT K H' a xs := by
  rcases h with (h | ⟨o, h⟩) | h
  · exact .inl (.inl (e _ _ h))
  · exact .inl (.inr ⟨o, e _ _ h⟩)
  · exact .inr h
mutual
theorem Dp.ext (e : ExtH H H') : ∀ (d : PyData) (v : V), Dp K H v d → Dp K H' v d
  | .none, _, h => by cases h; exact .non
  | .bool b, _, h => by cases h; exact .bl _
  | .int i, _, h => by cases h; exact .int _
  | .str s, _, h => by cases h; exact .str _
  | .list ds, _, h => by
    cases h with
    | lst a b => exact .lst (extH_l e a) (DpAll.ext e ds _ b)
  | .tuple ds, _, h => by
    cases h with
    | tup a b => exact .tup (extH_t e a) (DpAll.ext e ds _ b)
  | .dict _, _, h => by cases h
theorem DpAll.ext (e : ExtH H H') : ∀ (ds : List PyData) (vs : List V), DpAll K H vs ds → DpAll K H' vs ds
  | [], _, h => by cases h; exact .nil
  | d :: ds, _, h => by
    cases h with
    | cons a b => exact .cons (Dp.ext e d _ a) (DpAll.ext e ds _ b)
end
def tLit (K : PySem.W.Frag) (d : PyData) : TE := fun _ H Q => ∀ H' v, ExtH H H' → Dp K H' v d → Q v H'
def tLits (K : PySem.W.Frag) (ds : List PyData) : TA := fun _ H Q => ∀ H' vs, ExtH H H' → DpAll K H' vs ds → Q vs H'
theorem extH_new {p : Addr} {o : HO} (n : H p = none) : ExtH H (upd H p o) := fun b u e => by rw [upd_ne (ne_of_none e n)]; exact e
theorem dpA_len : ∀ {ds : List PyData} {vs : List V}, DpAll K H vs ds → vs.length = ds.length
  | [], _, h => by cases h; rfl
  | d :: ds, _, h => by
    cases h with
    | cons a b => simp [dpA_len b]
theorem lits_cons {e : Expr} {es : List Expr} {d : PyData} {ds : List PyData} (h : PE X e (tLit K d)) (h2 : PA X es (tLits K ds)) (hs : starEach (e :: es) X.env = (false, eval e X.env) :: starEach es X.env) : PA X (e :: es) (tLits K (d :: ds)) :=
  pa_imp (pa_cons h h2 hs) fun σ H Q q H1 v e1 d1 H2 vs e2 d2 => q H2 (v :: vs) (fun b u z => e2 b u (e1 b u z)) (.cons (Dp.ext e2 d v d1) d2)
theorem lits_nil : PA X [] (tLits K []) := pa_imp pa_nil fun σ H Q q => q H [] (fun _ _ z => z) .nil
theorem lit_tup {es : List Expr} {x1 : Nat} {p : Pos} {ds : List PyData} (hl : ds.length ≤ 100) (h : PA X es (tLits K ds)) : PE X (.Tuple es x1 p) (tLit K (.tuple ds)) :=
  pe_imp (pe_tup h) fun σ H Q q H1 vs e1 d1 => ⟨by rw [dpA_len d1, sizeLine_eq]; omega, fun p hp => q _ (.ref p) (fun b u z => extH_new hp b u (e1 b u z)) (.tup (.inl (.inl upd_same)) (DpAll.ext (extH_new hp) ds vs d1))⟩
theorem lit_lst {es : List Expr} {p : Pos} {ds : List PyData} (hl : ds.length ≤ 100) (h : PA X es (tLits K ds)) : PE X (.List es p) (tLit K (.list ds)) :=
  pe_imp (pe_lst h) fun σ H Q q H1 vs e1 d1 => ⟨by rw [dpA_len d1, sizeLine_eq]; omega, fun p hp => q _ (.ref p) (fun b u z => extH_new hp b u (e1 b u z)) (.lst (.inl (.inl upd_same)) (DpAll.ext (extH_new hp) ds vs d1))⟩
theorem litI_ok : ∀ (es : List Expr) (ms : List Int), litI es ms = true → es.length = ms.length ∧ PA X es (tLits K (ms.map .int))
  | [], [], _ => ⟨rfl, lits_nil⟩
  | [], _ :: _, h => by cases h
  | e :: es, [], h => by cases e <;> (try cases h) <;> (rename_i c _ _; cases c <;> cases h)
  | e :: es, m :: ms, h => by
    unfold litI at h
    split at h
    · cases ‹_ :: _ = []›
    · rename_i n x p es' m' ms' h1 h2
      cases h1
      cases h2
      obtain ⟨h1, h2⟩ := andE h
      obtain ⟨l, q⟩ := litI_ok es ms h2
      have e := of_decide_eq_true h1
      subst e
      exact ⟨by simp [l], lits_cons (pe_imp pe_int fun σ H Q q => q H _ (fun _ _ z => z) (.int _)) q rfl⟩
    · cases h
theorem litT_ok : ∀ (es : List Expr) (ms : List (List Int)), litT es ms = true → es.length = ms.length ∧ PA X es (tLits K (ms.map fun k => .tuple (k.map .int)))
  | [], [], _ => ⟨rfl, lits_nil⟩
  | [], _ :: _, h => by cases h
  | e :: es, [], h => by cases e <;> cases h
  | e :: es, m :: ms, h => by
    unfold litT at h
    split at h
    · cases ‹_ :: _ = []›
    · rename_i xs x p es' m' ms' h1 h2
      cases h1
      cases h2
      obtain ⟨h1, h2⟩ := andE h
      obtain ⟨h0, h1⟩ := andE h1
      obtain ⟨l, q⟩ := litT_ok es ms h2
      obtain ⟨l1, q1⟩ := litI_ok xs m h1
      have z := of_decide_eq_true h0
      exact ⟨by simp [l], lits_cons (lit_tup (by rw [List.length_map]; omega) q1) q rfl⟩
    · cases h
theorem litL_ok : ∀ (es : List Expr) (ms : List (List (List Int))), litL es ms = true → es.length = ms.length ∧ PA X es (tLits K (ms.map keysP))
  | [], [], _ => ⟨rfl, lits_nil⟩
  | [], _ :: _, h => by cases h
  | e :: es, [], h => by cases e <;> cases h
  | e :: es, m :: ms, h => by
    unfold litL at h
    split at h
    · cases ‹_ :: _ = []›
    · rename_i xs p es' m' ms' h1 h2
      cases h1
      cases h2
      obtain ⟨h1, h2⟩ := andE h
      obtain ⟨h0, h1⟩ := andE h1
      obtain ⟨l, q⟩ := litL_ok es ms h2
      obtain ⟨l1, q1⟩ := litT_ok xs m h1
      have z := of_decide_eq_true h0
      exact ⟨by simp [l], lits_cons (lit_lst (by rw [List.length_map]; omega) q1) q rfl⟩
    · cases h
/-- list(d), its answer's items by H -/
def rLiT : List V → Hp → VK → Prop := fun xs H Q => ∃ d kvs, xs = [V.ref d] ∧ Rd H d (.dT kvs) ∧ ∀ p bs, H p = none → IsKeys H kvs bs → Q (.ref p) (upd H p (.lst (bs.map V.ref)))
theorem dp_ints : ∀ ks : List Int, DpAll K H (ks.map V.int) (ks.map .int)
  | [] => .nil
  | k :: ks => .cons (.int k) (dp_ints ks)
theorem dp_keys {vs : List V} : ∀ {ks : List (List Int)} {ws : List V} {bs : List Addr}, ks.length = ws.length → IsKeys H ((ks.map kks).zip ws) bs → DpAll K H (bs.map V.ref) (ks.map fun k => .tuple (k.map .int))
  | [], ws, bs, hl, h => by
    cases h
    exact .nil
  | k :: ks, [], bs, hl, h => by cases hl
  | k :: ks, w :: ws, bs, hl, h => by
    cases h with
    | cons a b =>
      refine .cons (.tup (xs := k.map V.int) (.inl (.inl ?_)) (dp_ints k)) (dp_keys (vs := vs) (by simpa using hl) b)
      have a' : H _ = some (.tup ((kks k).map kV)) := a
      rw [a']
      unfold kks
      rw [List.map_map]
      rfl
theorem keys_dp {i : Nat} {m : List (List Int) → Option D} {σ : L2.St} {H : Hp} {Q : VK} (hK : X.K = g.K) (h : EvR g E (bnd (keysM i) fun ks => lift (m ks)) σ H Q) :
    tCB rLiT (tCons (tVar i) tNil) σ H fun x H1 => ∃ ks r, ExtH H H1 ∧ m ks = some r ∧ (∀ H2, ExtH H1 H2 → Dp X.K H2 x (keysP ks)) ∧ ∀ H2, (∀ b, r = .bl b → ExtH H1 H2 → Q (.bl b) H2) := by
  obtain ⟨Φ, ρ, s, fs, F, r, k, hm, p⟩ := h
  rcases bnd_some hm with ⟨ks, s1, h1, h2⟩ | ⟨x, h1, e⟩
  · unfold keysM at h1
    split at h1
    · rename_i ks' ds q
      cases h1
      obtain ⟨a, vs, e1, ha, hl, rl⟩ := k.dc q
      obtain ⟨z, e2, rfl⟩ := lift_some h2
      have hv := RepL.len _ _ _ rl
      refine ⟨.ref a, e1, a, (ks.map kks).zip vs, rfl, .inl ha, fun p0 bs hp hk => ?_⟩
      refine ⟨ks, z, extH_new hp, e2, fun H2 eH => ?_, fun H2 b eb eH => ?_⟩
      · refine Dp.ext eH _ _ (.lst (.inl (.inl upd_same)) (DpAll.ext (extH_new hp) _ _ (dp_keys (vs := vs) (by rw [hv]; exact hl) hk)))
      · subst eb
        have w : Grow g Φ H Φ H2 := ⟨fun b u e _ => eH b u (extH_new hp b u e), fun t => t.ext fun b u e => eH b u (extH_new hp b u e), fun _ _ h => h, fun b u e => by
          refine ⟨(k.sub b u e).1, ?_⟩
          rcases (k.sub b u e).2 with y | ⟨o, kvs, y1, y2⟩
          · exact .inl (eH _ _ (extH_new hp _ _ y))
          · exact .inr ⟨o, kvs, y1, eH _ _ (extH_new hp _ _ y2)⟩, fun _ h => h.1⟩
        exact p Φ H2 ρ (.bl b) [] fs (k.gstp w) (k.grow w).nof ⟨rep_bl, List.nodup_nil, fun a ha => by cases ha⟩
    · cases h1
  · unfold keysM at h1
    split at h1 <;> cases h1
theorem dlEq_to {i : Nat} {r : List (List Int)} {σ : L2.St} {H : Hp} {Q : VK} (hK : X.K = g.K) (h : EvR g E (bnd (keysM i) fun ks => lift ((eqKeys ks r).map .bl)) σ H Q) :
    tOp (rEqD X.K) (tCB rLiT (tCons (tVar i) tNil)) (tLit X.K (keysP r)) σ H Q := by
  obtain ⟨v, e1, d, kvs, e2, hd, q⟩ := keys_dp (X := X) hK h
  refine ⟨v, e1, d, kvs, e2, hd, fun p bs hp hk H2 w eH dw => ?_⟩
  obtain ⟨ks, z, _, em, dp, fin⟩ := q p bs hp hk
  obtain ⟨b, eb, rfl⟩ := Option.map_eq_some_iff.mp em
  unfold eqKeys at eb
  split at eb
  · rename_i hs
    cases eb
    exact ⟨_, _, dp H2 eH, dw, hs.1, hs.2, fin H2 _ rfl eH⟩
  · cases eb
theorem dlIn_to {i : Nat} {r : List (List (List Int))} {σ : L2.St} {H : Hp} {Q : VK} (hK : X.K = g.K) (h : EvR g E (bnd (keysM i) fun ks => lift ((inKeys ks r).map .bl)) σ H Q) :
    tOp (rInD X.K) (tCB rLiT (tCons (tVar i) tNil)) (tLit X.K (.list (r.map keysP))) σ H Q := by
  obtain ⟨v, e1, d, kvs, e2, hd, q⟩ := keys_dp (X := X) hK h
  refine ⟨v, e1, d, kvs, e2, hd, fun p bs hp hk H2 w eH dw => ?_⟩
  obtain ⟨ks, z, _, em, dp, fin⟩ := q p bs hp hk
  obtain ⟨b, eb, rfl⟩ := Option.map_eq_some_iff.mp em
  unfold inKeys at eb
  split at eb
  · rename_i hs
    cases eb
    exact ⟨_, _, dp H2 eH, dw, hs.1, hs.2, fin H2 _ rfl eH⟩
  · cases eb
/-! ### a list within a list -/
theorem RepL.modAt {fs0 : List D} : ∀ (es : List D) (vs : List V) (f : List Addr) (j : Nat), RepL g Φ H ρ es vs f → f.Nodup → es[j]? = some (.lst .own fs0) →
    ∃ q ws fq, vs[j]? = some (.ref q) ∧ q ∈ f ∧ H q = some (.lst ws) ∧ Φ q = none ∧ RepL g Φ H ρ fs0 ws fq ∧ (∀ b ∈ fq, b ∈ f ∧ b ≠ q) ∧
      ∀ (H' : Hp) (fs' : List D) (ws' : List V), (∀ b ∈ f, b ≠ q → H' b = H b) → H' q = some (.lst ws') → RepL g Φ H' ρ fs' ws' fq → RepL g Φ H' ρ (es.set j (.lst .own fs')) vs f
  | [], _, _, j, _, _, h => by simp at h
  | e :: es, _, _, 0, r, nd, h => by
    simp only [RepL] at r
    obtain ⟨v, vs', f1, f2, rfl, rfl, r1, r2⟩ := r
    simp at h
    subst h
    simp only [Rep] at r1
    obtain ⟨q, ws, fq, rfl, hq, np, rfl, rl⟩ := r1
    have nd1 := (List.nodup_append.mp nd).1
    have nd1' := List.nodup_cons.mp nd1
    refine ⟨q, ws, fq, rfl, by simp, hq, np, rl, fun b hb => ⟨by simp [hb], fun z => nd1'.1 (z ▸ hb)⟩, fun H' fs' ws' k1 k2 k3 => ?_⟩
    simp only [List.set_cons_zero, RepL]
    refine ⟨.ref q, vs', q :: fq, f2, rfl, rfl, ?_, r2.out fun b hb => k1 b (by simp [hb]) fun z => (List.nodup_append.mp nd).2.2 q List.mem_cons_self b hb z.symm⟩
    simp only [Rep]
    exact ⟨q, ws', fq, rfl, k2, np, rfl, k3⟩
  | e :: es, _, _, j + 1, r, nd, h => by
    simp only [RepL] at r
    obtain ⟨v, vs', f1, f2, rfl, rfl, r1, r2⟩ := r
    obtain ⟨n1, n2, n3⟩ := List.nodup_append.mp nd
    obtain ⟨q, ws, fq, a1, a2, a3, a3', a4, a5, a6⟩ := RepL.modAt es vs' f2 j r2 n2 (by simpa using h)
    refine ⟨q, ws, fq, by simpa using a1, by simp [a2], a3, a3', a4, fun b hb => ⟨by simp [(a5 b hb).1], (a5 b hb).2⟩, fun H' fs' ws' k1 k2 k3 => ?_⟩
    simp only [List.set_cons_succ, RepL]
    exact ⟨v, vs', f1, f2, rfl, rfl, r1.out fun b hb => k1 b (by simp [hb]) fun z => n3 b hb q a2 z, a6 H' fs' ws' (fun b hb => k1 b (by simp [hb])) k2 k3⟩
theorem innL_some {i : Nat} {xd : D} {es fs0 : List D} {j : Nat} (h : innL i xd s = some (es, j, fs0)) : ∃ z, s.sl[i]? = some (some (.lst .own es)) ∧ xd = .int z ∧ ixN es.length z = some j ∧ es[j]? = some (.lst .own fs0) ∧ fs0.length < lim := by
  unfold innL at h
  split at h
  · split at h
    · split at h
      · split at h
        · cases h
          exact ⟨_, by assumption, rfl, by assumption, by assumption, by assumption⟩
        · cases h
      · cases h
    · cases h
  · cases h
/-- L[ix].append(e) -/
theorem mutA_to {i : Nat} {mi me : M D} {σ : L2.St} {H : Hp} {Q : VK} (hK : X.K = g.K) (h : EvR g E (bnd (grd (isLst i)) fun _ => bnd mi fun xd => mutAM i xd me) σ H Q) :
    tBM X.K "list" rAppend (tOp (rIxL X.K) (tVar i) (EvR g E mi)) (tCons (EvR g E me) tNil) σ H Q := by
  obtain ⟨Φ, ρ, s, fs, F, r, k, hm, p⟩ := h
  rcases bnd_some hm with ⟨⟨⟩, s1, h1, h2⟩ | ⟨x, h1, e⟩
  · unfold grd at h1
    split at h1
    · rename_i hl
      cases h1
      obtain ⟨o, ds, q⟩ := isLst_some hl
      obtain ⟨v, e1, _⟩ := k.slot i _ q
      refine ⟨v, e1, ?_⟩
      rcases bnd_some h2 with ⟨xd, s2, h3, h4⟩ | ⟨x, h3, rfl⟩
      · refine EvR.val k h3 fun Φ1 H1 ρ1 y f1 fs1 st1 k1 vl1 => ?_
        unfold mutAM at h4
        split at h4
        · rename_i es j fs0 hin
          obtain ⟨z, q1, rfl, hj, hf, hz⟩ := innL_some hin
          obtain ⟨rfl, _⟩ := vl1.int
          obtain ⟨v', e1', vlo, k2⟩ := k1.drop.take q1
          rw [e1] at e1'
          cases e1'
          have hi : i < s2.sl.length := (List.getElem?_eq_some_iff.mp q1).1
          obtain ⟨rr, nd, out⟩ := vlo
          have rr0 := rr
          simp only [Rep] at rr
          obtain ⟨a, vs, f', rfl, ha, na, ef, rl⟩ := rr
          rw [ef] at nd out k2 rr0
          have nd' := List.nodup_cons.mp nd
          have hvl := RepL.len _ _ _ rl
          obtain ⟨b, ws, fq, b1, b2, b3, b3', b4, b5, b6⟩ := RepL.modAt es vs f' j rl nd'.2 hf
          refine ⟨a, vs, z, .ref b, rfl, rfl, SqL.of ha, ?_, .inl ⟨rfl, ws, SqL.of b3⟩, ?_⟩
          · unfold atI
            rw [hvl, hj]
            exact b1
          · split at h4
            · rename_i d s4 h7
              cases h4
              refine EvR.val k2 h7 fun Φ2 H2 ρ2 w f2 fs2 st2 k3 vl2 => ?_
              obtain ⟨k4, st3, rv⟩ := k3.frz vl2
              have rr2 := (Rep.stp st2 (fun c hc => .inl hc) rr0).stp st3 fun c hc => .inl hc
              have hab : ∀ c ∈ a :: f', H2 c = H1 c := fun c hc => ((st2.trans st3 fun _ h => h).frm c (.inl hc)).1
              simp only [Rep] at rr2
              obtain ⟨a', vs2, f'', ea, ha2, na2, ef2, rl2⟩ := rr2
              cases ea
              cases ef2
              rw [hab a List.mem_cons_self, ha] at ha2
              cases ha2
              obtain ⟨b', ws2, fq2, c1, c2, c3, c3', c4, c5, c6⟩ := RepL.modAt es vs f' j rl2 nd'.2 hf
              rw [b1] at c1
              cases c1
              have hpa : b ≠ a := fun z => nd'.1 (z ▸ b2)
              refine ⟨b, ws2, w, rfl, rfl, c3, by rw [RepL.len _ _ _ c4]; exact Nat.lt_of_lt_of_le hz lim_le, ?_⟩
              have k5 := k4.wr (o := .lst (ws2 ++ [w])) (a := b) (List.mem_cons_of_mem _ b2) c3 pln_lst pln_lst
              have vl : Vl g (frzP Φ2 H2 f2) (upd H2 b (.lst (ws2 ++ [w]))) ρ2 (.lst .own (es.set j (.lst .own (fs0 ++ [Den.fz d])))) (.ref a) (a :: f') F := by
                refine ⟨?_, nd, out⟩
                simp only [Rep]
                refine ⟨a, vs, f', rfl, by rw [upd_ne (Ne.symm hpa), hab a List.mem_cons_self]; exact ha, na2, rfl, c6 _ _ _ (fun c hc hne => upd_ne hne) upd_same ?_⟩
                have := RepL.app fs0 [Den.fz d] ws2 [w] fq2 [] (c4.out (H' := upd H2 b (.lst (ws2 ++ [w]))) fun c hc => upd_ne (c5 c hc).2) (by simp only [RepL]; exact ⟨w, [], [], [], rfl, rfl, rv.any, rfl, rfl⟩)
                simpa using this
              have hi4 : i < s4.sl.length := by
                rw [k4.len]
                exact (List.getElem?_eq_some_iff.mp e1).1
              have k6 := k5.put (i := i) vl hi4 e1
              have st12 : Stp Φ H ρ F (frzP Φ2 H2 f2) H2 ρ2 := st1.trans ((st2.trans st3 fun _ h => h).less fun c hc => .inr hc) fun _ h => h
              exact p _ _ ρ2 .non [] _ (st12.trans (wr_stp k6.nF (out b (List.mem_cons_of_mem _ b2))) fun _ h => h) k6.nof ⟨rep_non, List.nodup_nil, fun c hc => by cases hc⟩
            · cases h4
              rename_i x h7
              exact EvR.exc k2 h7 (PX.shift p st1 fun c hc => .inr hc)
            · cases h4
        · cases h4
      · exact EvR.exc k h3 p
    · cases h1
  · unfold grd at h1
    split at h1 <;> cases h1
/-! ### zip -/
theorem walk_zip {a b : Addr} {xs ys : List V} {ds es : List D} {tg : Tg} (htp : isTp tg = true) (ta : SqT g.K Φ1 a xs) (tb : SqT g.K Φ1 b ys) (ra : RepL g Φ1 H1 ρ1 ds xs []) (rb : RepL g Φ1 H1 ρ1 es ys []) : Walk g (RZ.ItzT g.K a b) Φ1 ρ1 tg ((ds.zip es).map fun p => .tup [p.1, p.2]) := fun Φ2 H2 ρ2 e p sb i => by
  have ta2 : SqT g.K H2 a xs := sub_t sb (ext_t e ta)
  have tb2 : SqT g.K H2 b ys := sub_t sb (ext_t e tb)
  have la := RepL.len _ _ _ ra
  have lb := RepL.len _ _ _ rb
  refine ⟨fun d hd => ?_, fun hi => ⟨xs, ys, ta2, tb2, by rw [List.length_map, List.length_zip] at hi; omega⟩⟩
  rw [List.getElem?_map] at hd
  obtain ⟨⟨d1, d2⟩, hz, rfl⟩ := Option.map_eq_some_iff.mp hd
  rw [List.getElem?_zip_eq_some] at hz
  obtain ⟨v, hv, rv⟩ := RepL.get _ _ ra i d1 hz.1
  obtain ⟨w, hw, rw'⟩ := RepL.get _ _ rb i d2 hz.2
  refine ⟨⟨xs, ys, v, w, ta2, tb2, hv, hw⟩, fun x H' hy => ?_⟩
  obtain ⟨T, x1, y1, rfl, hT, rfl, h1, h2⟩ := hy
  have e1 := h1 xs ta2
  rw [hv] at e1
  cases e1
  have e2 := h2 ys tb2
  rw [hw] at e2
  cases e2
  have gw : Grow g Φ2 H2 (upd Φ2 T (.tup [v, w])) (upd H2 T (.tup [v, w])) := Grow.shared sb hT fun _ => HO.noConfusion
  refine ⟨_, gw, .inr ⟨htp, [d1, d2], T, [v, w], rfl, rfl, .inl (.inl upd_same), ?_⟩⟩
  simp only [RepL]
  refine ⟨v, [w], [], [], rfl, rfl, ?_, w, [], [], [], rfl, rfl, ?_, rfl, rfl⟩
  · exact Rep.mono (fun c u z => gw.ext c u (e c u z)) p d1 v [] (fun c hc => by cases hc) rv
  · exact Rep.mono (fun c u z => gw.ext c u (e c u z)) p d2 w [] (fun c hc => by cases hc) rw'
theorem itr_zip {as : Cs} {m : M (List D)} {tg : Tg} {σ : L2.St} {H : Hp} {R : L2.It → Hp → Prop} (hK : X.K = g.K) (htp : isTp tg = true) (h : ItR g E tg (bnd m fun ds => lift (zipD ds)) σ H R) : RZ.iZipA X.K (FzR g E m) σ H R := by
  obtain ⟨Φ, ρ, s, fs, F, r, k, hm, p⟩ := h
  rcases bnd_some hm with ⟨ds, s1, h1, h2⟩ | ⟨x, h1, rfl⟩
  · refine ⟨Φ, ρ, s, fs, F, _, k, h1, fun Φ1 H1 ρ1 vs fs1 st1 k1 vl => ?_⟩
    obtain ⟨z, e1, rfl⟩ := lift_some h2
    unfold zipD at e1
    split at e1
    · cases e1
      rename_i d1 d2
      simp only [RepL, Rep] at vl
      obtain ⟨v, vs', f1, f2, rfl, ef, ⟨a, xs, rfl, ta, ra⟩, w, vs'', f3, f4, rfl, ef2, ⟨b, ys, rfl, tb, rb⟩, rfl, rfl⟩ := vl
      obtain ⟨rfl, rfl⟩ := List.append_eq_nil_iff.mp ef.symm
      obtain ⟨rfl, _⟩ := List.append_eq_nil_iff.mp ef2.symm
      have q := p Φ1 H1 ρ1 fs1 (RZ.ItzT g.K a b) st1 k1 (walk_zip htp ta.sq tb.sq ra rb)
      refine ⟨a, b, xs, ys, rfl, .inr ⟨?_, ?_, ?_⟩⟩
      · rw [hK]; exact sub_t k1.sub ta.sq
      · rw [hK]; exact sub_t k1.sub tb.sq
      · rw [hK]; exact q
    · cases e1
  · exact ⟨Φ, ρ, s, fs, F, _, k, h1, p⟩
end
end Den
/-! Den14: does a core text stand for a tree. -/
namespace Den
open PySem PySem.Spec L2
structure Ck where
  N : List Str
  sc : Scope
  pr : List Nat
  bs : Option Scope
  lm : Bool
def visB (c : Ck) (i : Nat) (x : Str) : Bool := decide (c.N[i]? = some x) && (match c.sc.names.lookup x with
  | some .local => true
  | some .cell => true
  | some .free => true
  | _ => false) && !(x == ("__debug__" : Str)) && !(x == ("__classdict__" : Str))
def glB (c : Ck) (x : Str) : Bool := decide (c.sc.names.lookup x = some .globalImplicit) && !(x == ("__debug__" : Str))
def fnB (c : Ck) (x : Str) : Bool := match c.bs with
  | none => true
  | some sc => sc.names.lookup x == some .cell
def locB (c : Ck) (i : Nat) (x : Str) : Bool := decide (c.N[i]? = some x) && (decide (c.sc.names.lookup x = some .local) || (decide (c.sc.names.lookup x = some .cell) && fnB c x))
def cstB : D → Expr → Bool
  | .int i, .Constant (.int j) _ _ => decide (i = j)
  | .str s, .Constant (.str x) _ _ => decide (x = ⟨s.toArray⟩)
  | .bl b, .Constant (.bool x) _ _ => b == x
  | .non, .Constant .none _ _ => true
  | _, _ => false
def binB : Op2 → Operator → Bool
  | .add, .Add => true
  | .sub, .Sub => true
  | .mul, .Mult => true
  | .fdiv, .FloorDiv => true
  | .mod, .Mod => true
  | .pow, .Pow => true
  | _, _ => false
def cmpB : Op2 → CmpOp → Bool
  | .eq, .Eq => true
  | .ne, .NotEq => true
  | .lt, .Lt => true
  | .le, .LtE => true
  | .gt, .Gt => true
  | .ge, .GtE => true
  | .isin, .In => true
  | .notin, .NotIn => true
  | _, _ => false
def plainIx : Expr → Bool
  | .Slice _ _ _ _ => false
  | _ => true
def plainT : Expr → Bool
  | .Call _ _ _ _ => true
  | .Name _ _ => true
  | .Subscript _ _ _ => true
  | _ => false
def tyL : List String := ["bool", "int", "str", "dict", "tuple", "list"]
def biN : Bi → Str
  | .len => "len"
  | .abs => "abs"
  | .max2 => "max"
  | .min2 => "min"
  | .maxL => "max"
  | .int1 => "int"
  | .tuple1 => "tuple"
  | .list1 => "list"
  | .sorted1 => "sorted"
  | .all1 => "all"
  | .sortedP => "sorted"
  | .sum1 => "sum"
def muN : Mu → Str
  | .append => "append"
  | .pop0 => "pop"
  | .pop1 => "pop"
  | .remove => "remove"
def noSuper : Expr → Bool
  | .Call _ (_ :: _) _ _ => true
  | .Call _ _ _ _ => false
  | _ => true
def noSetD : Expr → Bool
  | .Set _ _ _ => false
  | _ => true
def ownN (c : Ck) (own : List Nat) : List (Str × Nat) := own.map fun i => ((c.N[i]?).getD "", i)
def blkCk (c : Ck) (sc : Scope) : Ck := ⟨c.N, relS sc c.sc, c.pr, some sc, c.lm⟩
def scB (N P : List Str) (sc : Scope) : Bool := (match sc.kind with
  | .function => true
  | _ => false) && (sc.isCoroutine == false) && (sc.isGenerator == false) && decide (N.Nodup ∧ N.take P.length = P) && (P.all fun y => match sc.names.lookup y with
  | some .local => true
  | some .cell => true
  | _ => false) && (sc.names.all fun y => match y.2 with
  | .free => false
  | _ => true)
def parB (y : Str) : Arguments → Bool
  | ⟨[], [⟨z, none, _⟩], none, [], [], none, []⟩ => decide (z = y) && decide (y = ("some" : Str))
  | _ => false
mutual
def chkG (c : Ck) : Tg → Expr → Bool
  | .nm i, e => match e with
    | .Name x _ => locB c i x
    | _ => false
  | .tp ts, e => match e with
    | .Tuple es _ _ => chkGs c ts es
    | _ => false
termination_by structural t => t
def chkGs (c : Ck) : List Tg → List Expr → Bool
  | [], es => es.isEmpty
  | t :: ts, es => match es with
    | e :: es => !star e && chkG c t e && chkGs c ts es
    | [] => false
termination_by structural t => t
end
/-- a walk that hands out pairs wants a target of several -/
def ztg : It → Tg → Expr → Bool
  | .zip _, tg, t => isTp tg && (match t with
    | .Tuple _ _ _ => true
    | _ => false)
  | _, _, _ => true
mutual
def chkE : Ck → C → Expr → Bool
  | _, .bad, _ => true
  | _, .cst d, e => cstB d e
  | c, .glo x, e => match e with
    | .Name y _ => decide (x = y) && glB c y
    | _ => false
  | c, .var i, e => match e with
    | .Name x _ => visB c i x
    | _ => false
  | c, .mv i, e => match e with
    | .Name x _ => visB c i x
    | _ => false
  | c, .neg a, e => match e with
    | .UnaryOp .USub e _ => chkE c a e
    | _ => false
  | c, .not a, e => match e with
    | .UnaryOp .Not e _ => chkE c a e
    | _ => false
  | c, .isN a, e => match e with
    | .Compare e [.Is] [.Constant .none _ _] _ => chkE c a e
    | _ => false
  | c, .notN a, e => match e with
    | .Compare e [.IsNot] [.Constant .none _ _] _ => chkE c a e
    | _ => false
  | c, .op2 o a b, e => match e with
    | .BinOp l op r _ => binB o op && chkE c a l && chkE c b r
    | .Compare l [op] [r] _ => cmpB o op && chkE c a l && chkE c b r && !behindInMarks op r
    | _ => false
  | c, .and a b, e => match e with
    | .BoolOp .And (x :: y :: rest) pos => chkE c a x && (match rest with
      | [] => chkE c b y
      | z :: zs => chkE c b (.BoolOp .And (y :: z :: zs) pos))
    | _ => false
  | c, .or a b, e => match e with
    | .BoolOp .Or (x :: y :: rest) pos => chkE c a x && (match rest with
      | [] => chkE c b y
      | z :: zs => chkE c b (.BoolOp .Or (y :: z :: zs) pos))
    | _ => false
  | c, .chain o o' a b d, e => match e with
    | .Compare l [op, op'] [m, r] _ => cmpB o op && cmpB o' op' && chkE c a l && chkE c b m && chkE c d r && !lastMarks [op, op'] [m, r]
    | _ => false
  | c, .ite t a b, e => match e with
    | .IfExp e x y _ => chkT c t e && chkE c a x && chkE c b y
    | _ => false
  | c, .tup as, e => match e with
    | .Tuple es _ _ => chkEs c as es
    | _ => false
  | c, .lst as, e => match e with
    | .List es _ => chkEs c as es
    | _ => false
  | c, .idx a i, e => match e with
    | .Subscript x y _ => chkE c a x && chkE c i y && plainIx y
    | _ => false
  | c, .slc a lo hi, e => match e with
    | .Subscript x (.Slice l h none _) _ => chkE c a x && chkO c lo l && chkO c hi h
    | _ => false
  | c, .cal f as, e => match e with
    | .Call (.Name x _) es [] _ => decide (f = x) && glB c x && chkEs c as es
    | _ => false
  | c, .isi T a, e => match e with
    | .Call (.Name x _) [e, .Name y _] [] _ => decide (x = ("isinstance" : Str)) && glB c x && glB c y && decide (y = (Str.ofString T)) && decide (T ∈ tyL) && !star e && chkE c a e
    | _ => false
  | c, .bi b as, e => match e with
    | .Call (.Name x _) (e :: es) [] _ => decide (biN b = x) && glB c x && chkEs c as (e :: es)
    | _ => false
  | c, .tupRg a, e => match e with
    | .Call (.Name x _) [.Call (.Name y _) [e] [] _] [] _ => decide (x = ("tuple" : Str)) && decide (y = ("range" : Str)) && glB c x && glB c y && !star e && chkE c a e
    | _ => false
  | c, .lstRg a, e => match e with
    | .Call (.Name x _) [.Call (.Name y _) [e] [] _] [] _ => decide (x = ("list" : Str)) && decide (y = ("range" : Str)) && glB c x && glB c y && !star e && chkE c a e
    | _ => false
  | c, .srtSet a, e => match e with
    | .Call (.Name x _) [.Call (.Name y _) [e] [] _] [] _ => decide (x = ("sorted" : Str)) && decide (y = ("set" : Str)) && glB c x && glB c y && !star e && chkE c a e
    | _ => false
  | c, .srtKey a, e => match e with
    | .Call (.Name x _) [e] [⟨some kn, .Lambda params (.Tuple [.Call (.Name ln _) [.Name y _] [] _, .Name y2 _] _ _) sc _, _⟩] _ => c.lm && decide (x = ("sorted" : Str)) && decide (kn = ("key" : Str)) && decide (ln = ("len" : Str)) && decide (y2 = y) && glB c x && !star e && chkE c a e && scB [y] [y] sc && noCF sc && decide (sc.names.lookup ("len" : Str) = some .globalImplicit) && parB y params && !(y == ("__debug__" : Str)) && !(y == ("__classdict__" : Str))
    | _ => false
  | c, .mth _ o a, e => match e with
    | .Call (.Attribute oe name apos) [e] [] cpos => decide (name = ("index" : Str)) && (apos.endLine == cpos.line) && noSuper oe && chkE c o oe && !star e && chkE c a e
    | _ => false
  | c, .mut m i as, e => match e with
    | .Call (.Attribute (.Name x _) name apos) es [] cpos => decide (name = muN m) && (apos.endLine == cpos.line) && visB c i x && chkEs c as es && decide (es.length < 20) && (match es with
      | [] => decide (m = .pop0)
      | _ => true)
    | _ => false
  | _, .dnew _, e => match e with
    | .Dict [] [] _ => true
    | _ => false
  | c, .ktup as, e => match e with
    | .Tuple es _ _ => chkEs c as es
    | _ => false
  | c, .dget i k d, e => match e with
    | .Call (.Attribute (.Name x _) name apos) [e1, e2] [] cpos => decide (name = ("get" : Str)) && (apos.endLine == cpos.line) && visB c i x && !star e1 && !star e2 && chkE c k e1 && chkE c d e2
    | _ => false
  | c, .didx i k, e => match e with
    | .Subscript (.Name x _) ix _ => visB c i x && chkE c k ix && plainIx ix
    | _ => false
  | c, .dlEq i r, e => match e with
    | .Compare (.Call (.Name y _) [.Name x _] [] _) [.Eq] [.List es _] _ => decide (y = ("list" : Str)) && glB c y && visB c i x && litT es r && decide (es.length ≤ 100)
    | _ => false
  | c, .dlIn i r, e => match e with
    | .Compare (.Call (.Name y _) [.Name x _] [] _) [.In] [.List es p] _ => decide (y = ("list" : Str)) && glB c y && visB c i x && litL es r && decide (es.length ≤ 100) && !behindInMarks .In (.List es p)
    | _ => false
  | c, .mutA i ix a, e => match e with
    | .Call (.Attribute (.Subscript (.Name x _) ixe _) name apos) [e1] [] cpos => decide (name = ("append" : Str)) && (apos.endLine == cpos.line) && visB c i x && plainIx ixe && !star e1 && chkE c ix ixe && chkE c a e1
    | _ => false
  | c, .lc own tg it cond elt, e => match e with
    | .ListComp e [⟨t, iter, ifs, 0⟩] sc _ => blkC c.N c.sc sc (ownN c own) && decide (∀ j ∈ tgSl tg, j ∈ own) && (chkI c it iter && ztg it tg t) && chkG (blkCk c sc) tg t && chkC (blkCk c sc) cond ifs && chkE (blkCk c sc) elt e
    | _ => false
termination_by structural _ k => k
def chkT : Ck → C → Expr → Bool
  | _, .bad, _ => true
  | c, .and a b, e => match e with
    | .BoolOp .And (x :: y :: rest) pos => chkT c a x && (match rest with
      | [] => chkT c b y
      | z :: zs => chkT c b (.BoolOp .And (y :: z :: zs) pos))
    | _ => false
  | c, .or a b, e => match e with
    | .BoolOp .Or (x :: y :: rest) pos => chkT c a x && (match rest with
      | [] => chkT c b y
      | z :: zs => chkT c b (.BoolOp .Or (y :: z :: zs) pos))
    | _ => false
  | c, .not a, e => match e with
    | .UnaryOp .Not e _ => chkT c a e
    | _ => false
  | c, .isN a, e => match e with
    | .Compare e [.Is] [.Constant .none _ _] _ => chkE c a e
    | _ => false
  | c, .notN a, e => match e with
    | .Compare e [.IsNot] [.Constant .none _ _] _ => chkE c a e
    | _ => false
  | c, .op2 o a b, e => match e with
    | .Compare l [op] [r] _ => cmpB o op && chkE c a l && chkE c b r && !behindInMarks op r
    | _ => false
  | c, .chain o o' a b d, e => match e with
    | .Compare l [op, op'] [m, r] _ => cmpB o op && cmpB o' op' && chkE c a l && chkE c b m && chkE c d r && !lastMarks [op, op'] [m, r]
    | _ => false
  | c, .cal f as, e => match e with
    | .Call (.Name x _) es [] _ => decide (f = x) && glB c x && chkEs c as es
    | _ => false
  | c, .isi T a, e => match e with
    | .Call (.Name x _) [e, .Name y _] [] _ => decide (x = ("isinstance" : Str)) && glB c x && glB c y && decide (y = (Str.ofString T)) && decide (T ∈ tyL) && !star e && chkE c a e
    | _ => false
  | c, .bi b as, e => match e with
    | .Call (.Name x _) (e :: es) [] _ => decide (biN b = x) && glB c x && chkEs c as (e :: es)
    | _ => false
  | c, .var i, e => match e with
    | .Name x _ => visB c i x
    | _ => false
  | c, .idx a i, e => match e with
    | .Subscript x y _ => chkE c a x && chkE c i y && plainIx y
    | _ => false
  | c, .dlEq i r, e => match e with
    | .Compare (.Call (.Name y _) [.Name x _] [] _) [.Eq] [.List es _] _ => decide (y = ("list" : Str)) && glB c y && visB c i x && litT es r && decide (es.length ≤ 100)
    | _ => false
  | c, .dlIn i r, e => match e with
    | .Compare (.Call (.Name y _) [.Name x _] [] _) [.In] [.List es p] _ => decide (y = ("list" : Str)) && glB c y && visB c i x && litL es r && decide (es.length ≤ 100) && !behindInMarks .In (.List es p)
    | _ => false
  | _, _, _ => false
termination_by structural _ k => k
def chkEs : Ck → Cs → List Expr → Bool
  | _, .nil, es => es.isEmpty
  | c, .cons a as, es => match es with
    | e :: es => !star e && chkE c a e && chkEs c as es
    | [] => false
termination_by structural _ k => k
def chkO : Ck → Co → Option Expr → Bool
  | _, .no, e => e.isNone
  | c, .yes a, e => match e with
    | some e => chkE c a e
    | none => false
termination_by structural _ k => k
def chkC : Ck → Co → List Expr → Bool
  | _, .no, es => es.isEmpty
  | c, .yes a, es => match es with
    | [e] => chkT c a e
    | _ => false
termination_by structural _ k => k
def chkI : Ck → It → Expr → Bool
  | c, .seq a, e => chkE c a e && noSetD e
  | c, .rng1 a, e => match e with
    | .Call (.Name x _) [e] [] _ => decide (x = ("range" : Str)) && glB c x && !star e && chkE c a e
    | _ => false
  | c, .rng2 a b, e => match e with
    | .Call (.Name x _) [e, f] [] _ => decide (x = ("range" : Str)) && glB c x && !star e && !star f && chkE c a e && chkE c b f
    | _ => false
  | c, .rev a, e => match e with
    | .Call (.Name x _) [e] [] _ => decide (x = ("reversed" : Str)) && glB c x && !star e && chkE c a e
    | _ => false
  | c, .zip as, e => match e with
    | .Call (.Name x _) [e1, e2] [] _ => decide (x = ("zip" : Str)) && glB c x && !star e1 && !star e2 && chkEs c as [e1, e2]
    | _ => false
termination_by structural _ k => k
end
end Den
/-! Den15: what is checked is true. -/
namespace Den
open PySem PySem.Spec L2
def bltL : List Str := ["len", "abs", "max", "min", "int", "tuple", "list", "sorted", "all", "isinstance", "range", "reversed", "set", "bool", "str", "dict", "enumerate", "zip", "sum", "any"]
structure XOk (g : Gx) (Γ : Tb) (c : Ck) (E : XK) (X : Cx) : Prop where
  hK : X.K = g.K
  hN : X.N = c.N
  nd : c.N.Nodup
  hs : X.env.scope = c.sc
  calm : X.calm = true
  units : X.A.units + 65 < cLine
  fnc : ∀ x, fnB c x = true → c.sc.names.lookup x = some .cell → X.fn x = true
  blt : ∀ x ∈ bltL, X.mg x = none
  fns : ∀ x F, Γ.fn x = some F → ∃ (k : Nat) (f : Addr) (fd : FuncData) (ps : List Str), FnOk X.prog X.w X.K X.mg X.base (L2.CX X.prog X.w) k f fd ps (spD g F) ∧ Room k X.A ∧ X.mg x = some (.ref f) ∧ PySem.W.keepIn X.K (.ref f) = true ∧ Binds X.K fd ps []
  glo : ∀ x d, Γ.glo x = some d → ∃ (v : V) (u : Value), X.mg x = some u ∧ RelV v u ∧ ∀ Φ H ρ, Rep g Φ H ρ d v []
  px : Passes (L2.CX X.prog X.w) X E
  lam : c.lm = true → LamF g X ∧ Room 2 X.A
section
variable {g : Gx} {Γ : Tb} {c : Ck} {E : XK} {X : Cx}
theorem and2 {a b : Bool} (h : (a && b) = true) : a = true ∧ b = true := by simpa using h
theorem star_no {e : Expr} {es : List Expr} {env : Env} (h : star e = false) : starEach (e :: es) env = (false, eval e env) :: starEach es env := by
  cases e <;> first | rfl | simp [star] at h
theorem star_ne {b : Bool} (h : (!b) = true) : b = false := by simpa using h
theorem chkEs_star {pos : Pos} {env : Env} : ∀ {as : Cs} {es : List Expr}, chkEs c as es = true → (backTo pos (starEach es env)).any (·.1) = false
  | .nil, es, h => by
    have h : es.isEmpty = true := h
    cases es with
    | nil => rfl
    | cons _ _ => cases h
  | .cons a as, [], h => by have h : false = true := h; cases h
  | .cons a as, e :: es, h => by
    have h : (!star e && chkE c a e && chkEs c as es) = true := h
    obtain ⟨h1, h3⟩ := and2 h
    obtain ⟨h1, h2⟩ := and2 h1
    rw [star_no (star_ne h1)]
    show (false || (backTo pos (starEach es env)).any (·.1)) = false
    rw [chkEs_star h3]; rfl
theorem vis_of {i : Nat} {x : Str} (x0 : XOk g Γ c E X) (h : visB c i x = true) : X.N[i]? = some x ∧ Vis X.env.scope x ∧ (x == ("__debug__" : Str)) = false ∧ (x == ("__classdict__" : Str)) = false := by
  unfold visB at h
  obtain ⟨h1, h4⟩ := and2 h
  obtain ⟨h1, h3⟩ := and2 h1
  obtain ⟨h1, h2⟩ := and2 h1
  refine ⟨by rw [x0.hN]; exact of_decide_eq_true h1, ?_, star_ne h3, star_ne h4⟩
  rw [x0.hs]
  split at h2
  · exact .inl (by assumption)
  · exact .inr (.inl (by assumption))
  · exact .inr (.inr (by assumption))
  · cases h2
theorem gl_of {x : Str} (x0 : XOk g Γ c E X) (h : glB c x = true) : Gl X x ∧ (x == ("__debug__" : Str)) = false := by
  unfold glB at h
  obtain ⟨h1, h2⟩ := and2 h
  refine ⟨?_, star_ne h2⟩
  show X.env.scope.names.lookup x = _
  rw [x0.hs]; exact of_decide_eq_true h1
theorem loc_of {i : Nat} {x : Str} (x0 : XOk g Γ c E X) (h : locB c i x = true) : X.N[i]? = some x ∧ L2.Loc X.env.scope x ∧ (X.fn x = true ∨ X.env.scope.names.lookup x = some .local) := by
  unfold locB at h
  obtain ⟨h1, h2⟩ := and2 h
  refine ⟨by rw [x0.hN]; exact of_decide_eq_true h1, ?_⟩
  unfold L2.Loc
  rw [x0.hs]
  rcases (Bool.or_eq_true _ _).mp h2 with h2 | h2
  · exact ⟨.inl (of_decide_eq_true h2), .inr (of_decide_eq_true h2)⟩
  · obtain ⟨h3, h4⟩ := and2 h2
    exact ⟨.inr (of_decide_eq_true h3), .inl (x0.fnc x h4 (of_decide_eq_true h3))⟩
theorem xN (x0 : XOk g Γ c E X) : X.N.Nodup := by rw [x0.hN]; exact x0.nd
theorem x64 (x0 : XOk g Γ c E X) : X.A.units + 64 < cLine := Nat.lt_of_succ_lt x0.units
theorem scB_ok {N ps : List Str} {sc : Scope} (h : scB N ps sc = true) : FnScope N ps sc := by
  unfold scB at h
  obtain ⟨h, h6⟩ := and2 h
  obtain ⟨h, h5⟩ := and2 h
  obtain ⟨h, h4⟩ := and2 h
  obtain ⟨h, h3⟩ := and2 h
  obtain ⟨h1, h2⟩ := and2 h
  obtain ⟨n1, n2⟩ := of_decide_eq_true h4
  refine ⟨?_, eq_of_beq h2, eq_of_beq h3, n1, n2, fun x hx => ?_, fun y hy e => ?_⟩
  · split at h1
    · assumption
    · cases h1
  · have q := List.all_eq_true.mp h5 x hx
    split at q
    · exact .inl (by assumption)
    · exact .inr (by assumption)
    · cases q
  · have q := List.all_eq_true.mp h6 y hy
    rw [e] at q
    cases q
/-- the block of a comprehension -/
theorem XOk.blk (x0 : XOk g Γ c E X) (sc : Scope) (s : Shared) (H : Hp) (C : Addr) (cl : List (Str × Addr)) (fp : List Addr) : XOk g Γ (blkCk c sc) E0 (X.blk s H sc (compEnvC sc cl C X.env) fp) where
  hK := x0.hK
  hN := x0.hN
  nd := x0.nd
  hs := by
    show relabel sc X.env = relS sc c.sc
    rw [← x0.hs]
    rfl
  calm := x0.calm
  units := x0.units
  fnc := fun x h _ => h
  blt := x0.blt
  fns := x0.fns
  glo := x0.glo
  px := passL
  lam := x0.lam
/-! ### targets -/
theorem chkGs_len : ∀ {ts : List Tg} {es : List Expr}, chkGs c ts es = true → ts.length = es.length
  | [], [], _ => rfl
  | t :: ts, e :: es, h => by
    unfold chkGs at h
    obtain ⟨h1, h3⟩ := and2 h
    simp [chkGs_len h3]
  | [], _ :: _, h => by unfold chkGs at h; cases h
  | _ :: _, [], h => by unfold chkGs at h; cases h
theorem asg_map {e : Expr} {es : List Expr} {env : Env} (h : star e = false) : (assignEach (e :: es) env).map (·.2) = assign e env :: (assignEach es env).map (·.2) := by
  cases e <;> first | rfl | simp [star] at h
theorem asg_first {e : Expr} {es : List Expr} {env : Env} (h : star e = false) : assignEach (e :: es) env = (false, assign e env) :: assignEach es env := by
  cases e <;> first | rfl | simp [star] at h
theorem assignEach_len {env : Env} : ∀ {es : List Expr}, (assignEach es env).length = es.length
  | [] => rfl
  | e :: es => by
    have ih := assignEach_len (env := env) (es := es)
    cases e <;> (show (assignEach es env).length + 1 = es.length + 1; rw [ih])
theorem assign_noStar {env : Env} : ∀ {ts : List Tg} {es : List Expr}, chkGs c ts es = true → (assignEach es env).findIdx? (·.1) = none
  | [], [], _ => rfl
  | t :: ts, e :: es, h => by
    unfold chkGs at h
    obtain ⟨h1, h3⟩ := and2 h
    obtain ⟨h1, h2⟩ := and2 h1
    rw [asg_first (star_ne h1), List.findIdx?_cons]
    simp [assign_noStar h3]
  | [], _ :: _, h => by unfold chkGs at h; cases h
  | _ :: _, [], h => by unfold chkGs at h; cases h
mutual
theorem sG (x0 : XOk g Γ c E X) : ∀ (t : Tg) (e : Expr), chkG c t e = true → PG X e (AsgR g t)
  | .nm i, e, h => by
    unfold chkG at h
    split at h
    · obtain ⟨h1, h2, h3⟩ := loc_of x0 h
      exact asg_nm (pg_name (xN x0) h1 h2 h3)
    · cases h
  | .tp ts, e, h => by
    unfold chkG at h
    split at h
    · rename_i es _ _
      have hl : ts.length = es.length := chkGs_len h
      exact asg_tp x0.hK rfl (pg_tup x0.calm (sGs x0 ts es h) (by rw [assignEach_len, hl]) (assign_noStar h))
    · cases h
theorem sGs (x0 : XOk g Γ c E X) : ∀ (ts : List Tg) (es : List Expr), chkGs c ts es = true → PGs X es (AsgRs g ts)
  | [], [], h => asgs_nil pgs_nil
  | t :: ts, e :: es, h => by
    unfold chkGs at h
    obtain ⟨h1, h3⟩ := and2 h
    obtain ⟨h1, h2⟩ := and2 h1
    exact asgs_cons (pgs_cons (sG x0 t e h2) (sGs x0 ts es h3) (asg_map (star_ne h1)))
  | [], _ :: _, h => by unfold chkGs at h; cases h
  | _ :: _, [], h => by unfold chkGs at h; cases h
end
end
end Den
/-! Den16: expressions: soundness of the look. -/
namespace Den
open PySem PySem.Spec L2
section
variable {g : Gx} {Γ : Tb} {c : Ck} {E : XK} {X : Cx}
theorem op_pe (x0 : XOk g Γ c E X) {o : Op2} {op : Operator} (h : binB o op = true) : OpR X (binaryOp op) (OpV g (opF o)) := by
  cases o <;> cases op <;> first
    | exact absurd h (by decide)
    | exact opv_add x0.hK
    | exact opv_sub
    | exact opv_mul x0.hK
    | exact opv_fdiv
    | exact opv_mod
    | exact opv_pow
theorem cmp_pe (x0 : XOk g Γ c E X) {o : Op2} {op : CmpOp} (h : cmpB o op = true) : OpR X (compareOp op) (OpV g (opF o)) := by
  cases o <;> cases op <;> first
    | exact absurd h (by decide)
    | exact opv_eq x0.hK (x64 x0)
    | exact opv_ne x0.hK (x64 x0)
    | exact opv_cmp (p := fun i j => decide (i < j)) op_lt
    | exact opv_cmp (p := fun i j => decide (i ≤ j)) op_le
    | exact opv_cmp (p := fun i j => decide (j < i)) op_gt
    | exact opv_cmp (p := fun i j => decide (j ≤ i)) op_ge
    | exact opv_in x0.hK x0.units
    | exact opv_notin x0.hK x0.units
theorem blt_of (x0 : XOk g Γ c E X) {x : Str} (h : x ∈ bltL) : X.mg x = none := x0.blt x h
theorem bi_pe (x0 : XOk g Γ c E X) (b : Bi) {e : Expr} {es : List Expr} {t : TA} {p pos : Pos} (ha : PA X (e :: es) t) (hg : Gl X (biN b)) (he : starEach (e :: es) X.env = (false, eval e X.env) :: starEach es X.env) (hpl : (backTo pos (starEach es X.env)).any (·.1) = false) :
    PE X (.Call (.Name (biN b) p) (e :: es) [] pos) (tCB (CbV g (biF b)) t) := by
  cases b with
  | len => exact pe_callB (bi_len x0.hK) hg (blt_of x0 (by decide)) (by decide +kernel) ha (by decide) (by decide) he hpl
  | abs => exact pe_callB bi_abs hg (blt_of x0 (by decide)) (by decide +kernel) ha (by decide) (by decide) he hpl
  | max2 => exact pe_callB (bi_max2 x0.calm) hg (blt_of x0 (by decide)) (by decide +kernel) ha (by decide) (by decide) he hpl
  | min2 => exact pe_callB (bi_min2 x0.calm) hg (blt_of x0 (by decide)) (by decide +kernel) ha (by decide) (by decide) he hpl
  | maxL => exact pe_callB (bi_maxL x0.hK x0.calm) hg (blt_of x0 (by decide)) (by decide +kernel) ha (by decide) (by decide) he hpl
  | int1 => exact pe_callTy bi_int hg (blt_of x0 (by decide)) (by decide +kernel) ha (by decide) (by decide) he hpl
  | tuple1 => exact pe_callTy (bi_tuple x0.hK) hg (blt_of x0 (by decide)) (by decide +kernel) ha (by decide) (by decide) he hpl
  | list1 => exact pe_callTy (bi_list x0.hK) hg (blt_of x0 (by decide)) (by decide +kernel) ha (by decide) (by decide) he hpl
  | sorted1 => exact pe_callB (bi_sorted x0.hK) hg (blt_of x0 (by decide)) (by decide +kernel) ha (by decide) (by decide) he hpl
  | sortedP => exact pe_callB (bi_sortedP x0.hK (by have := x0.units; omega)) hg (blt_of x0 (by decide)) (by decide +kernel) ha (by decide) (by decide) he hpl
  | sum1 => exact pe_callB (bi_sum x0.hK x0.calm) hg (blt_of x0 (by decide)) (by decide +kernel) ha (by decide) (by decide) he hpl
  | all1 => exact pe_callB (bi_all x0.hK x0.calm) hg (blt_of x0 (by decide)) (by decide +kernel) ha (by decide) (by decide) he hpl
theorem ty_pe (x0 : XOk g Γ c E X) {T : String} (h : T ∈ tyL) {p : Pos} (hg : Gl X (Str.ofString T)) : PE X (.Name (Str.ofString T) p) (tC (.ty T)) := by
  simp only [tyL, List.mem_cons, List.mem_nil_iff, or_false] at h
  rcases h with rfl | rfl | rfl | rfl | rfl | rfl
  all_goals exact pe_bltn hg (blt_of x0 (by decide)) (by decide +kernel) rfl (by decide) (by decide)
/-- an operand -/
theorem opd_of (x0 : XOk g Γ c E X) {a : C} {e : Expr} (h : chkE c a e = true) (ih : PE X e (EvR g E (ev Γ a))) : PE X e (OpdR g E a (opd a (ev Γ a))) := by
  by_cases hv : isVar a = true
  · cases a <;> simp [isVar] at hv
    rename_i i
    unfold chkE at h
    split at h
    · obtain ⟨h1, h2, h3, h4⟩ := vis_of x0 h
      exact opd_var (pe_var h1 h2 h3 h4)
    · cases h
  · exact opd_ev (by simpa using hv) ih
theorem has_of (x0 : XOk g Γ c E X) {a : C} {e : Expr} (h : chkE c a e = true) : PE X e (OpdR g E a (hasV a)) := by
  by_cases hv : isVar a = true
  · cases a <;> simp [isVar] at hv
    rename_i i
    unfold chkE at h
    split at h
    · obtain ⟨h1, h2, h3, h4⟩ := vis_of x0 h
      exact opd_has (pe_var h1 h2 h3 h4)
    · cases h
  · refine ⟨fun pins s σ H Q I h => ?_⟩
    obtain ⟨Φ, ρ, s, fs, F, r, k, hm, p⟩ := h
    exfalso
    unfold hasV at hm
    split at hm
    · exact hv rfl
    · cases hm
theorem cst_pe {d : D} {e : Expr} (h : cstB d e = true) : PE X e (EvR g E (ret d)) := by
  unfold cstB at h
  split at h
  · have e := of_decide_eq_true h
    subst e
    exact ev_cst pe_int fun _ _ _ => rep_int
  · have e := of_decide_eq_true h
    subst e
    exact ev_cst pe_str fun _ _ _ => rep_str
  · have e := eq_of_beq h
    subst e
    exact ev_cst pe_bl fun _ _ _ => rep_bl
  · exact ev_cst pe_non fun _ _ _ => rep_non
  · cases h
theorem isN_to {a : C} {m : M (Option D)} {σ : L2.St} {H : Hp} {Q : VK} (h : EvR g E (bnd m fun x => bnd (fill1 a x) fun d => ret (.bl (isNonD d))) σ H Q) : tIsN (OpdR g E a m) σ H Q := by
  refine un_to (n := fun d => some (.bl (isNonD d))) (K := fun v H1 Q => Q (.bl (decide (v = .non))) H1) h fun Φ ρ H d r v sb pk hn af => ?_
  cases hn
  have e : decide (v = .non) = isNonD d := by
    cases d with
    | non => rw [pk.non]; rfl
    | bl b => rw [pk.bl]; rfl
    | int b => rw [pk.int]; rfl
    | str b => rw [pk.str]; rfl
    | tup ds => obtain ⟨a, vs, rfl, _⟩ := pk.tup sb; rfl
    | lst o ds => obtain ⟨a, vs, rfl, _⟩ := pk.lst sb; rfl
    | obj n =>
      have pk : Rep g Φ H ρ (.obj n) v [] := pk
      simp only [Rep] at pk
      obtain ⟨a, _, rfl, _⟩ := pk
      rfl
    | kt n =>
      have pk : Rep g Φ H ρ (.kt n) v [] := pk
      simp only [Rep] at pk
      obtain ⟨a, rfl, _⟩ := pk
      rfl
    | dc o n ds =>
      have pk : Rep g Φ H ρ (.dc o n ds) v [] := pk
      cases o <;> (simp only [Rep] at pk; obtain ⟨a, vs, rfl, _⟩ := pk; rfl)
  show Q (.bl (decide (v = .non))) H
  rw [e]; exact af.bl sb
theorem notN_to {a : C} {m : M (Option D)} {σ : L2.St} {H : Hp} {Q : VK} (h : EvR g E (bnd m fun x => bnd (fill1 a x) fun d => ret (.bl (!isNonD d))) σ H Q) : tNotN (OpdR g E a m) σ H Q := by
  refine un_to (n := fun d => some (.bl (!isNonD d))) (K := fun v H1 Q => Q (.bl (!decide (v = .non))) H1) h fun Φ ρ H d r v sb pk hn af => ?_
  cases hn
  have e : decide (v = .non) = isNonD d := by
    cases d with
    | non => rw [pk.non]; rfl
    | bl b => rw [pk.bl]; rfl
    | int b => rw [pk.int]; rfl
    | str b => rw [pk.str]; rfl
    | tup ds => obtain ⟨a, vs, rfl, _⟩ := pk.tup sb; rfl
    | lst o ds => obtain ⟨a, vs, rfl, _⟩ := pk.lst sb; rfl
    | obj n =>
      have pk : Rep g Φ H ρ (.obj n) v [] := pk
      simp only [Rep] at pk
      obtain ⟨a, _, rfl, _⟩ := pk
      rfl
    | kt n =>
      have pk : Rep g Φ H ρ (.kt n) v [] := pk
      simp only [Rep] at pk
      obtain ⟨a, rfl, _⟩ := pk
      rfl
    | dc o n ds =>
      have pk : Rep g Φ H ρ (.dc o n ds) v [] := pk
      cases o <;> (simp only [Rep] at pk; obtain ⟨a, vs, rfl, _⟩ := pk; rfl)
  show Q (.bl (!decide (v = .non))) H
  rw [e]; exact af.bl sb
theorem neg_to {a : C} {m : M (Option D)} {σ : L2.St} {H : Hp} {Q : VK} (h : EvR g E (bnd m fun x => bnd (fill1 a x) fun d => lift (negD d)) σ H Q) : tUn (rU fun i => .int (-i)) (OpdR g E a m) σ H Q := by
  refine un_to (n := negD) (K := fun v H1 Q => rU (fun i => .int (-i)) v H1 Q) h fun Φ ρ H d r v sb pk hn af => ?_
  unfold negD at hn
  split at hn
  · cases hn
    exact ⟨_, pk.int, af.int sb⟩
  · cases hn
theorem lc_hs {e : Expr} {env : Env} (h : noSetD e = true) : ∀ x, foldedSetIterable e env x = pure x := by
  intro x
  cases e <;> first | rfl | (simp [noSetD] at h)
theorem own_map {own : List Nat} : (ownN c own).map (·.2) = own := by
  unfold ownN
  rw [List.map_map]
  exact List.map_id own
theorem base_of {o : Expr} {name : Str} {env : Env} (h : noSuper o = true) : attributeBase o name env (eval o env) = eval o env := by
  cases o with
  | Call f as ks p =>
    cases as with
    | nil => simp [noSuper] at h
    | cons a as => cases f <;> rfl
  | _ => rfl
theorem chkI_set {it : It} {e : Expr} (h : chkI c it e = true) : noSetD e = true := by
  cases it <;> unfold chkI at h
  · exact (and2 h).2
  all_goals
    split at h
    · rfl
    · cases h
theorem testable {e : Expr} {env : Env} (h : plainT e = true) : ∀ whole, isTrue e env whole = (do let v ← whole; standAt e.pos; holding [v] (truthy v)) := by
  intro w
  cases e <;> first | rfl | (simp [plainT] at h)
end
end Den
/-! Den17: expressions: soundness of the look, all together. -/
namespace Den
open PySem PySem.Spec L2
section
variable {g : Gx} {Γ : Tb} {c : Ck} {E : XK} {X : Cx}
theorem sName (x0 : XOk g Γ c E X) {i : Nat} {x : Str} {p : Pos} (h : visB c i x = true) : PE X (.Name x p) (tVar i) := by
  obtain ⟨h1, h2, h3, h4⟩ := vis_of x0 h
  exact pe_var h1 h2 h3 h4
theorem n_op2 (x0 : XOk g Γ c E X) {o : Op2} {a b : C} {op : Operator} {l r : Expr} {p : Pos} (hb : binB o op = true) (ha : PE X l (OpdR g E a (opd a (ev Γ a)))) (hc : PE X r (OpdR g E b (opd b (ev Γ b)))) : PE X (.BinOp l op r p) (EvR g E (ev Γ (.op2 o a b))) :=
  pe_imp (pe_op (op_pe x0 hb) ha hc) fun σ H Q h => bin_to h
theorem n_cmp (x0 : XOk g Γ c E X) {o : Op2} {a b : C} {op : CmpOp} {l r : Expr} {p : Pos} (hb : cmpB o op = true) (ha : PE X l (OpdR g E a (opd a (ev Γ a)))) (hc : PE X r (OpdR g E b (opd b (ev Γ b)))) (hm : behindInMarks op r = false) :
    PE X (.Compare l [op] [r] p) (EvR g E (ev Γ (.op2 o a b))) ∧ PT X (.Compare l [op] [r] p) (TtR g E (ev Γ (.op2 o a b))) :=
  ⟨pe_imp (pe_cmpR (cmp_pe x0 hb) ha hc hm) fun σ H Q h => bin_to h, pt_imp (pt_cmpR (cmp_pe x0 hb) ha hc hm) fun σ H Q h => bin_to (tt_of h)⟩
theorem n_chain (x0 : XOk g Γ c E X) {o o' : Op2} {a b d : C} {op op' : CmpOp} {l m r : Expr} {p : Pos} (hb : cmpB o op = true) (hb' : cmpB o' op' = true) (h1 : PE X l (OpdR g E a (opd a (ev Γ a)))) (h2 : PE X m (OpdR g E b (opd b (ev Γ b))))
    (h3 : PE X r (OpdR g E d (opd d (ev Γ d)))) (hm : lastMarks [op, op'] [m, r] = false) :
    PE X (.Compare l [op, op'] [m, r] p) (EvR g E (ev Γ (.chain o o' a b d))) ∧ PT X (.Compare l [op, op'] [m, r] p) (TtR g E (ev Γ (.chain o o' a b d))) :=
  ⟨pe_imp (pe_chain (cmp_pe x0 hb) (cmp_pe x0 hb') h1 h2 h3 hm) fun σ H Q h => chain_to h, pt_imp (pt_chain (cmp_pe x0 hb) (cmp_pe x0 hb') h1 h2 h3 hm) fun σ H Q h => chain_to (tt_of h)⟩
theorem n_isN {a : C} {e : Expr} {k : Nat} {p p2 : Pos} (ha : PE X e (OpdR g E a (opd a (ev Γ a)))) :
    PE X (.Compare e [.Is] [.Constant .none k p] p2) (EvR g E (ev Γ (.isN a))) ∧ PT X (.Compare e [.Is] [.Constant .none k p] p2) (TtR g E (ev Γ (.isN a))) :=
  ⟨pe_imp (pe_cmp (pc_isN ha)) fun σ H Q h => isN_to h, pt_imp (pt_cmp (pc_isN ha)) fun σ H Q h => isN_to (tt_of h)⟩
theorem n_notN {a : C} {e : Expr} {k : Nat} {p p2 : Pos} (ha : PE X e (OpdR g E a (opd a (ev Γ a)))) :
    PE X (.Compare e [.IsNot] [.Constant .none k p] p2) (EvR g E (ev Γ (.notN a))) ∧ PT X (.Compare e [.IsNot] [.Constant .none k p] p2) (TtR g E (ev Γ (.notN a))) :=
  ⟨pe_imp (pe_cmp (pc_notN ha)) fun σ H Q h => notN_to h, pt_imp (pt_cmp (pc_notN ha)) fun σ H Q h => notN_to (tt_of h)⟩
theorem n_isi (x0 : XOk g Γ c E X) {T : String} {a : C} {e : Expr} {x y : Str} {p p1 p2 : Pos} (h1 : x = ("isinstance" : Str)) (h2 : glB c x = true) (h3 : glB c y = true) (h4 : y = Str.ofString T) (h5 : T ∈ tyL) (h6 : star e = false) (ha : PE X e (OpdR g E a (opd a (ev Γ a)))) :
    PE X (.Call (.Name x p) [e, .Name y p1] [] p2) (EvR g E (ev Γ (.isi T a))) := by
  subst h1
  subst h4
  refine pe_imp (pe_callB (cr_isi x0.hK (T := T)) (gl_of x0 h2).1 (blt_of x0 (by decide)) (by decide +kernel) (pa_cons ha (pa_cons (ty_pe x0 h5 (gl_of x0 h3).1) pa_nil rfl) (star_no h6)) (by decide) (by decide) (star_no h6) rfl) fun σ H Q h => isi_to h
theorem n_rg (x0 : XOk g Γ c E X) {a : C} {e : Expr} {y : Str} {p p2 : Pos} (h1 : y = ("range" : Str)) (h2 : glB c y = true) (h6 : star e = false) (ha : PE X e (OpdR g E a (opd a (ev Γ a)))) : PRg X (.Call (.Name y p) [e] [] p2) (tRg1 (OpdR g E a (opd a (ev Γ a)))) := by
  subst h1
  exact prg_1 (gl_of x0 h2).1 (blt_of x0 (by decide)) ha (star_no h6)
theorem call_star {f : Expr} {as : List Expr} {ks : List Keyword} {p : Pos} {es : List Expr} {env : Env} : starEach (.Call f as ks p :: es) env = (false, eval (.Call f as ks p) env) :: starEach es env := rfl
theorem n_tupRg (x0 : XOk g Γ c E X) {a : C} {e : Expr} {x y : Str} {p p1 p2 p3 : Pos} (h0 : x = ("tuple" : Str)) (h1 : y = ("range" : Str)) (hx : glB c x = true) (h2 : glB c y = true) (h6 : star e = false) (ha : PE X e (OpdR g E a (opd a (ev Γ a)))) :
    PE X (.Call (.Name x p) [.Call (.Name y p1) [e] [] p2] [] p3) (EvR g E (ev Γ (.tupRg a))) := by
  subst h0
  exact pe_imp (pe_tupRgF x0.calm (gl_of x0 hx).1 (blt_of x0 (by decide)) (n_rg x0 h1 h2 h6 ha) rfl) fun σ H Q h => tupRg_to h
theorem n_lstRg (x0 : XOk g Γ c E X) {a : C} {e : Expr} {x y : Str} {p p1 p2 p3 : Pos} (h0 : x = ("list" : Str)) (h1 : y = ("range" : Str)) (hx : glB c x = true) (h2 : glB c y = true) (h6 : star e = false) (ha : PE X e (OpdR g E a (opd a (ev Γ a)))) :
    PE X (.Call (.Name x p) [.Call (.Name y p1) [e] [] p2] [] p3) (EvR g E (ev Γ (.lstRg a))) := by
  subst h0
  exact pe_imp (pe_listRg x0.calm (gl_of x0 hx).1 (blt_of x0 (by decide)) (n_rg x0 h1 h2 h6 ha) rfl) fun σ H Q h => lstRg_to h
theorem n_srtSet (x0 : XOk g Γ c E X) {a : C} {e : Expr} {x y : Str} {p p1 p2 p3 : Pos} (h0 : x = ("sorted" : Str)) (h1 : y = ("set" : Str)) (hx : glB c x = true) (h2 : glB c y = true) (h6 : star e = false) (ha : PE X e (OpdR g E a (opd a (ev Γ a)))) :
    PE X (.Call (.Name x p) [.Call (.Name y p1) [e] [] p2] [] p3) (EvR g E (ev Γ (.srtSet a))) := by
  subst h0
  subst h1
  exact pe_imp (pe_callB (cr_sortedSet x0.calm) (gl_of x0 hx).1 (blt_of x0 (by decide)) (by decide +kernel) (pa_cons (pe_callTy (cr_setI x0.calm) (gl_of x0 h2).1 (blt_of x0 (by decide)) (by decide +kernel) (pa_cons ha pa_nil (star_no h6)) (by decide) (by decide) (star_no h6) rfl) pa_nil rfl) (by decide) (by decide) rfl rfl) fun σ H Q h => srtSet_ev x0.hK h
theorem n_call (x0 : XOk g Γ c E X) {f x : Str} {as : Cs} {es : List Expr} {p p2 : Pos} (h1 : f = x) (h2 : glB c x = true) (h3 : chkEs c as es = true) (ha : ∀ ms, PA X es (PksR g E as (evOps Γ ms as))) : PE X (.Call (.Name x p) es [] p2) (EvR g E (ev Γ (.cal f as))) := by
  subst h1
  cases hf : Γ.fn f with
  | none =>
    have e : ev Γ (.cal f as) = stuck := by simp only [ev, hf]
    rw [e]; exact ev_stuck
  | some F0 =>
    have e : ev Γ (.cal f as) = bnd (evOps Γ F0.io as) fun os => bnd (fillC as os) fun ds => callF F0 (ioSl F0.io as) ds := by simp only [ev, hf]
    rw [e]
    obtain ⟨k, fa, fd, ps, F, hr, hm, hk, hb⟩ := x0.fns f F0 hf
    obtain ⟨hg, hd⟩ := gl_of x0 h2
    have late : ∀ s os s', evOps Γ F0.io as s = some (.val os s') → LateOk F0.io os := fun s os s' h => evOps_late _ _ _ _ _ h
    cases es with
    | nil =>
      refine pe_imp (pe_call0 F hr hg hm hk hb .nil x0.px hd) fun σ H Q h => ?_
      have h' := call_to late h
      have h'' : PksR g E as (evOps Γ F0.io as) σ H fun vs H1 => spD g F0 (vs ++ []) H1 Q E := h'
      cases as with
      | cons a as => unfold chkEs at h3; cases h3
      | nil =>
        obtain ⟨Φ, ρ, s, fs, F, r, kk, hmm, pp⟩ := h''
        cases hio : F0.io with
        | nil =>
          rw [hio] at hmm
          simp only [evOps] at hmm
          cases ret_some hmm
          exact pp Φ H ρ [] fs (Stp.refl kk.nF) kk .nil
        | cons m ms =>
          rw [hio] at hmm
          cases m <;> simp [evOps, stuck] at hmm
    | cons e es =>
      cases as with
      | nil => unfold chkEs at h3; cases h3
      | cons a as =>
        have h3' := h3
        unfold chkEs at h3'
        obtain ⟨h4, h6⟩ := and2 h3'
        obtain ⟨h4, h5⟩ := and2 h4
        exact pe_imp (pe_call F hr hg hm hk hb .nil x0.px (ha F0.io) hd (star_no (star_ne h4)) (chkEs_star h6)) fun σ H Q h => call_to late h
def rLi (g : Gx) : V → List V → Hp → VK → Prop := fun x xs H Q => ∃ (Φ : Hp) (ρ : List Addr) (o : Ow) (ds : List D) (e r : D) (y : V), xs = [y] ∧ Sub Φ H ∧ PkR g Φ H ρ (.lst o ds) x ∧ PkR g Φ H ρ e y ∧ mtF .lindex (.lst o ds) e = some r ∧ Aft g Φ H ρ r Q
def rTi (g : Gx) : V → List V → Hp → VK → Prop := fun x xs H Q => ∃ (Φ : Hp) (ρ : List Addr) (ds : List D) (e r : D) (y : V), xs = [y] ∧ Sub Φ H ∧ PkR g Φ H ρ (.tup ds) x ∧ PkR g Φ H ρ e y ∧ mtF .tindex (.tup ds) e = some r ∧ Aft g Φ H ρ r Q
theorem n_mth (x0 : XOk g Γ c E X) {m : Mt} {o a : C} {oe e : Expr} {name : Str} {apos cpos : Pos} (h1 : name = ("index" : Str)) (h2 : (apos.endLine == cpos.line) = true) (h3 : noSuper oe = true) (ho : PE X oe (OpdR g E o (opd o (ev Γ o)))) (h6 : star e = false) (ha : PE X e (OpdR g E a (opd a (ev Γ a)))) :
    PE X (.Call (.Attribute oe name apos) [e] [] cpos) (EvR g E (ev Γ (.mth m o a))) := by
  subst h1
  have few : ((backTo cpos (starEach [e] X.env)).all (fun x => !x.1) && (backToKw cpos (keywordEach [] X.env)).all (fun x => x.1.isSome) && decide ([e].length + ([] : List Keyword).length + (if ([] : List Keyword).isEmpty then 0 else 1) < 30)) = true := by
    rw [star_no h6]; rfl
  cases m with
  | lindex =>
    refine pe_imp (pe_bmG (T := "list") (id := "list.index") (ty := fun x H => ∃ a vs, x = .ref a ∧ SqL g.K H a vs) PySem.F.plainAttrs_list PySem.F.slot_list_index PySem.F.type_list_index (mt_lindex x0.hK x0.units) (fun pins σ H s x v I rx h => ?_) ho (pa_cons ha pa_nil (star_no h6)) (base_of h3) few h2 (star_no h6) rfl) fun σ H Q h => ?_
    · obtain ⟨a, vs, rfl, t⟩ := h
      exact tyV_is I rx (.inl ⟨rfl, vs, by rw [x0.hK]; exact t⟩)
    · exact mth_to (T := "list") (n := mtF .lindex) (rr := rLi g) h (fun Φ H ρ d v f sb ht r => rep_list sb ht r) fun Φ ρ H d e z x y sb p1 p2 hn af => by
        cases d with
        | lst o ds => exact ⟨Φ, ρ, o, ds, e, z, y, rfl, sb, p1, p2, hn, af⟩
        | _ => exact absurd hn (by simp [mtF])
  | tindex =>
    refine pe_imp (pe_bmG (T := "tuple") (id := "tuple.index") (ty := fun x H => ∃ a vs, x = .ref a ∧ TpK g.K H a vs) PySem.F.plainAttrs_tuple PySem.F.slot_tuple_index PySem.F.type_tuple_index (mt_tindex x0.hK) (fun pins σ H s x v I rx h => tuple_is x0.hK I rx h) ho (pa_cons ha pa_nil (star_no h6)) (base_of h3) few h2 (star_no h6) rfl) fun σ H Q h => ?_
    exact mth_to (T := "tuple") (n := mtF .tindex) (rr := rTi g) h (fun Φ H ρ d v f sb ht r => rep_tuple sb ht r) fun Φ ρ H d e z x y sb p1 p2 hn af => by
        cases d with
        | tup ds => exact ⟨Φ, ρ, ds, e, z, y, rfl, sb, p1, p2, hn, af⟩
        | _ => exact absurd hn (by simp [mtF])
theorem all_false {pos : Pos} {env : Env} : ∀ {as : Cs} {es : List Expr}, chkEs c as es = true → (backTo pos (starEach es env)).all (fun x => !x.1) = true
  | .nil, es, h => by
    have h : es.isEmpty = true := h
    cases es with
    | nil => rfl
    | cons _ _ => cases h
  | .cons a as, [], h => by have h : false = true := h; cases h
  | .cons a as, e :: es, h => by
    have h : (!star e && chkE c a e && chkEs c as es) = true := h
    obtain ⟨h1, h3⟩ := and2 h
    obtain ⟨h1, h2⟩ := and2 h1
    rw [star_no (star_ne h1)]
    show (true && (backTo pos (starEach es env)).all (fun x => !x.1)) = true
    rw [all_false h3]; rfl
theorem n_mut (x0 : XOk g Γ c E X) {m : Mu} {i : Nat} {as : Cs} {x name : Str} {es : List Expr} {p apos cpos : Pos} (h1 : name = muN m) (h2 : (apos.endLine == cpos.line) = true) (h3 : visB c i x = true) (h4 : chkEs c as es = true) (h5 : es.length < 20) (h6 : es = [] → m = .pop0) (ha : PA X es (FzR g E (evFz Γ as))) :
    PE X (.Call (.Attribute (.Name x p) name apos) es [] cpos) (EvR g E (ev Γ (.mut m i as))) := by
  subst h1
  cases es with
  | nil =>
    cases h6 rfl
    refine pe_imp (pe_bm0 PySem.F.plainAttrs_list PySem.F.slot_list_pop PySem.F.type_list_pop (mt_mu (g := g) .pop0) (sName x0 h3) rfl h2) fun σ H Q h => ?_
    cases as with
    | cons a as => unfold chkEs at h4; cases h4
    | nil =>
      obtain ⟨v, e1, ty, q⟩ := mut_to x0.hK h
      exact ⟨v, e1, ty, fz_nil q⟩
  | cons e es =>
    cases as with
    | nil => unfold chkEs at h4; cases h4
    | cons a as =>
      have h4' := h4
      unfold chkEs at h4'
      obtain ⟨h7, h9⟩ := and2 h4'
      obtain ⟨h7, h8⟩ := and2 h7
      have few : ((backTo cpos (starEach (e :: es) X.env)).all (fun x => !x.1) && (backToKw cpos (keywordEach [] X.env)).all (fun x => x.1.isSome) && decide ((e :: es).length + ([] : List Keyword).length + (if ([] : List Keyword).isEmpty then 0 else 1) < 30)) = true := by
        rw [all_false h4]
        show (true && true && decide _) = true
        rw [Bool.and_self, Bool.true_and]
        refine decide_eq_true ?_
        show (e :: es).length + 0 + 0 < 30
        omega
      cases m with
      | append => exact pe_imp (pe_bm PySem.F.plainAttrs_list PySem.F.slot_list_append PySem.F.type_list_append (mt_mu (g := g) .append) (sName x0 h3) ha rfl few h2 (star_no (star_ne h7)) (chkEs_star h9)) fun σ H Q h => mut_to x0.hK h
      | pop0 => exact pe_imp (pe_bm PySem.F.plainAttrs_list PySem.F.slot_list_pop PySem.F.type_list_pop (mt_mu (g := g) .pop0) (sName x0 h3) ha rfl few h2 (star_no (star_ne h7)) (chkEs_star h9)) fun σ H Q h => mut_to x0.hK h
      | pop1 => exact pe_imp (pe_bm PySem.F.plainAttrs_list PySem.F.slot_list_pop PySem.F.type_list_pop (mt_mu (g := g) .pop1) (sName x0 h3) ha rfl few h2 (star_no (star_ne h7)) (chkEs_star h9)) fun σ H Q h => mut_to x0.hK h
      | remove => exact pe_imp (pe_bm PySem.F.plainAttrs_list PySem.F.slot_list_remove PySem.F.type_list_remove (mt_mu (g := g) .remove) (sName x0 h3) ha rfl few h2 (star_no (star_ne h7)) (chkEs_star h9)) fun σ H Q h => mut_to x0.hK h
theorem n_dget (x0 : XOk g Γ c E X) {i : Nat} {x : Str} {p apos cpos : Pos} {e1 e2 : Expr} {t1 t2 : TE} (h2 : (apos.endLine == cpos.line) = true) (h3 : visB c i x = true) (h4 : star e1 = false) (h5 : star e2 = false) (hk : PE X e1 t1) (hd : PE X e2 t2) :
    PE X (.Call (.Attribute (.Name x p) "get" apos) [e1, e2] [] cpos) (tDGet2 (tVar i) t1 t2) := by
  have hs : starEach [e1, e2] X.env = [(false, eval e1 X.env), (false, eval e2 X.env)] := by rw [star_no h4, star_no h5]; rfl
  have hu : X.A.units + 1 < cLine := by have := x0.units; omega
  exact pe_dget2 hu (sName x0 h3) hk hd ⟨rfl, by rw [hs]; rfl, h2, by rw [hs]; rfl⟩
theorem n_liT (x0 : XOk g Γ c E X) {i : Nat} {x y : Str} {p p1 p2 : Pos} (h1 : y = ("list" : Str)) (h2 : glB c y = true) (h3 : visB c i x = true) : PE X (.Call (.Name y p) [.Name x p1] [] p2) (tCB rLiT (tCons (tVar i) tNil)) := by
  subst h1
  exact pe_callTy (call_list_dT x0.calm) (gl_of x0 h2).1 (blt_of x0 (by decide)) (by decide +kernel) (pa_cons (sName x0 h3) pa_nil rfl) (by decide) (by decide) rfl rfl
theorem n_dlEq (x0 : XOk g Γ c E X) {i : Nat} {r : List (List Int)} {x y : Str} {es : List Expr} {p p1 p2 p3 p4 : Pos} (h1 : y = ("list" : Str)) (h2 : glB c y = true) (h3 : visB c i x = true) (h4 : litT es r = true) (h5 : es.length ≤ 100) :
    PE X (.Compare (.Call (.Name y p) [.Name x p1] [] p2) [.Eq] [.List es p3] p4) (EvR g E (ev Γ (.dlEq i r))) ∧ PT X (.Compare (.Call (.Name y p) [.Name x p1] [] p2) [.Eq] [.List es p3] p4) (TtR g E (ev Γ (.dlEq i r))) := by
  obtain ⟨hl, hp⟩ := litT_ok (K := X.K) es r h4
  have hL : PE X (.List es p3) (tLit X.K (keysP r)) := lit_lst (by rw [List.length_map]; omega) hp
  have hu : X.A.units + 64 < cLine := by have := x0.units; omega
  exact ⟨pe_imp (pe_cmpR (op_eqD hu) (n_liT x0 h1 h2 h3) hL rfl) fun σ H Q h => dlEq_to x0.hK h, pt_imp (pt_cmpR (op_eqD hu) (n_liT x0 h1 h2 h3) hL rfl) fun σ H Q h => dlEq_to x0.hK (tt_of h)⟩
theorem n_dlIn (x0 : XOk g Γ c E X) {i : Nat} {r : List (List (List Int))} {x y : Str} {es : List Expr} {p p1 p2 p3 p4 : Pos} (h1 : y = ("list" : Str)) (h2 : glB c y = true) (h3 : visB c i x = true) (h4 : litL es r = true) (h5 : es.length ≤ 100) (h6 : behindInMarks .In (.List es p3) = false) :
    PE X (.Compare (.Call (.Name y p) [.Name x p1] [] p2) [.In] [.List es p3] p4) (EvR g E (ev Γ (.dlIn i r))) ∧ PT X (.Compare (.Call (.Name y p) [.Name x p1] [] p2) [.In] [.List es p3] p4) (TtR g E (ev Γ (.dlIn i r))) := by
  obtain ⟨hl, hp⟩ := litL_ok (K := X.K) es r h4
  have hL : PE X (.List es p3) (tLit X.K (.list (r.map keysP))) := lit_lst (by rw [List.length_map]; omega) hp
  exact ⟨pe_imp (pe_cmpR (op_inD x0.units) (n_liT x0 h1 h2 h3) hL h6) fun σ H Q h => dlIn_to x0.hK h, pt_imp (pt_cmpR (op_inD x0.units) (n_liT x0 h1 h2 h3) hL h6) fun σ H Q h => dlIn_to x0.hK (tt_of h)⟩
theorem n_mutA (x0 : XOk g Γ c E X) {i : Nat} {x : Str} {p p1 apos cpos : Pos} {ixe e1 : Expr} {ti t1 : TE} (h2 : (apos.endLine == cpos.line) = true) (h3 : visB c i x = true) (h4 : PlainIx ixe) (h5 : star e1 = false) (hi : PE X ixe ti) (h1 : PE X e1 t1) :
    PE X (.Call (.Attribute (.Subscript (.Name x p) ixe p1) "append" apos) [e1] [] cpos) (tBM X.K "list" rAppend (tOp (rIxL X.K) (tVar i) ti) (tCons t1 tNil)) := by
  have hs : starEach [e1] X.env = [(false, eval e1 X.env)] := by rw [star_no h5]; rfl
  have few : ((backTo cpos (starEach [e1] X.env)).all (fun x => !x.1) && (backToKw cpos (keywordEach [] X.env)).all (fun x => x.1.isSome) && decide ([e1].length + ([] : List Keyword).length + (if ([] : List Keyword).isEmpty then 0 else 1) < 30)) = true := by
    rw [hs]; rfl
  exact pe_bm PySem.F.plainAttrs_list PySem.F.slot_list_append PySem.F.type_list_append mt_append (pe_ix ix_list (sName x0 h3) hi h4) (pa_cons h1 pa_nil hs) rfl few h2 hs rfl
theorem n_key (x0 : XOk g Γ c E X) {a : C} {e : Expr} {x kn ln y y2 : Str} {params : Arguments} {sc : Scope} {kk : Nat} {p p1 p2 p3 p4 p5 kpos lpos pos : Pos} (h1 : c.lm = true) (h2 : x = ("sorted" : Str)) (h3 : kn = ("key" : Str)) (h4 : ln = ("len" : Str)) (h5 : y2 = y) (h6 : glB c x = true) (h7 : star e = false)
    (ha : PE X e (OpdR g E a (opd a (ev Γ a)))) (h9 : scB [y] [y] sc = true) (h10 : noCF sc = true) (h11 : sc.names.lookup ("len" : Str) = some .globalImplicit) (h12 : parB y params = true) (h13 : (y == ("__debug__" : Str)) = false) (h14 : (y == ("__classdict__" : Str)) = false) :
    PE X (.Call (.Name x p) [e] [⟨some kn, .Lambda params (.Tuple [.Call (.Name ln p1) [.Name y p2] [] p3, .Name y2 p4] kk p5) sc lpos, kpos⟩] pos) (EvR g E (ev Γ (.srtKey a))) := by
  subst h2 h3 h4 h5
  obtain ⟨hl, hr⟩ := x0.lam h1
  unfold parB at h12
  split at h12
  · have e := of_decide_eq_true (and2 h12).1
    have e2 := of_decide_eq_true (and2 h12).2
    subst e
    subst e2
    exact pe_srtKey x0.hK x0.calm x0.units hr hl (gl_of x0 h6).1 (blt_of x0 (by decide)) (blt_of x0 (by decide)) ha h7 (scB_ok h9) h10 h11 h13 h14 rfl fun _ _ _ _ _ _ => rfl
  · cases h12
end
end Den
/-! Den18: all expressions. -/
namespace Den
open PySem PySem.Spec L2
section
variable {g : Gx} {Γ : Tb}
structure PAs (g : Gx) (Γ : Tb) (E : XK) (X : Cx) (as : Cs) (es : List Expr) : Prop where
  ev : PA X es (EvsR g E (evs Γ as))
  pk : PA X es (PksR g E as (evPk Γ as))
  fz : PA X es (FzR g E (evFz Γ as))
  op : ∀ ms, PA X es (PksR g E as (evOps Γ ms as))
theorem pa_stuck {E : XK} {X : Cx} {as : Cs} {es : List Expr} : PA X es (PksR g E as stuck) := ⟨fun p pins s σ H Q I h => by obtain ⟨Φ, ρ, s, fs, F, r, k, hm, q⟩ := h; cases hm⟩
theorem plain_of {e : Expr} (h : plainIx e = true) : PlainIx e := by
  intro o i
  cases e <;> first | rfl | (simp [plainIx] at h)
theorem star_head {c : Ck} {as : Cs} {e : Expr} {es : List Expr} {env : Env} (h : chkEs c as (e :: es) = true) : starEach (e :: es) env = (false, eval e env) :: starEach es env := by
  cases as with
  | nil => unfold chkEs at h; cases h
  | cons a as =>
    unfold chkEs at h
    obtain ⟨h7, h9⟩ := and2 h
    exact star_no (star_ne (and2 h7).1)
theorem star_rest {c : Ck} {as : Cs} {e : Expr} {es : List Expr} {env : Env} {pos : Pos} (h : chkEs c as (e :: es) = true) : (backTo pos (starEach es env)).any (·.1) = false := by
  cases as with
  | nil => unfold chkEs at h; cases h
  | cons a as =>
    unfold chkEs at h
    exact chkEs_star (and2 h).2
mutual
theorem sE : ∀ (k : C) (c : Ck) (E : XK) (X : Cx) (e : Expr), XOk g Γ c E X → chkE c k e = true → PE X e (EvR g E (ev Γ k))
  | .bad, c, E, X, e, x0, h => ev_stuck
  | .cst d, c, E, X, e, x0, h => cst_pe h
  | .glo x, c, E, X, e, x0, h => by
    unfold chkE at h
    split at h
    · obtain ⟨h1, h2⟩ := and2 h
      have e := of_decide_eq_true h1
      subst e
      show PE X _ (EvR g E (lift (Γ.glo x)))
      cases q : Γ.glo x with
      | none => exact ev_stuck
      | some d =>
        obtain ⟨v, u, hm, rv, rr⟩ := x0.glo x d q
        obtain ⟨hg, hd⟩ := gl_of x0 h2
        exact ev_cst (pe_glob hg hm rv hd) rr
    · cases h
  | .var i, c, E, X, e, x0, h => by
    unfold chkE at h
    split at h
    · exact ev_var (sName x0 h)
    · cases h
  | .mv i, c, E, X, e, x0, h => by
    unfold chkE at h
    split at h
    · exact ev_mv (sName x0 h)
    · cases h
  | .neg a, c, E, X, e, x0, h => by
    unfold chkE at h
    split at h
    · exact pe_imp (pe_un un_neg (opd_of x0 h (sE a c E X _ x0 h))) fun σ H Q h => neg_to h
    · cases h
  | .not a, c, E, X, e, x0, h => by
    unfold chkE at h
    split at h
    · exact pe_imp (pe_not (sE a c E X _ x0 h)) fun σ H Q h => ev_not h
    · cases h
  | .isN a, c, E, X, e, x0, h => by
    unfold chkE at h
    split at h
    · exact (n_isN (opd_of x0 h (sE a c E X _ x0 h))).1
    · cases h
  | .notN a, c, E, X, e, x0, h => by
    unfold chkE at h
    split at h
    · exact (n_notN (opd_of x0 h (sE a c E X _ x0 h))).1
    · cases h
  | .op2 o a b, c, E, X, e, x0, h => by
    unfold chkE at h
    split at h
    · obtain ⟨h1, h3⟩ := and2 h
      obtain ⟨h1, h2⟩ := and2 h1
      exact n_op2 x0 h1 (opd_of x0 h2 (sE a c E X _ x0 h2)) (opd_of x0 h3 (sE b c E X _ x0 h3))
    · obtain ⟨h1, h4⟩ := and2 h
      obtain ⟨h1, h3⟩ := and2 h1
      obtain ⟨h1, h2⟩ := and2 h1
      exact (n_cmp x0 h1 (opd_of x0 h2 (sE a c E X _ x0 h2)) (opd_of x0 h3 (sE b c E X _ x0 h3)) (star_ne h4)).1
    · cases h
  | .and a b, c, E, X, e, x0, h => by
    unfold chkE at h
    split at h
    · obtain ⟨h1, h2⟩ := and2 h
      refine pe_imp (pe_and (sE a c E X _ x0 h1) (tb := EvR g E (ev Γ b)) ?_) fun σ H Q h => ev_and h
      split at h2
      · exact pe_one (sE b c E X _ x0 h2)
      · exact sE b c E X _ x0 h2
    · cases h
  | .or a b, c, E, X, e, x0, h => by
    unfold chkE at h
    split at h
    · obtain ⟨h1, h2⟩ := and2 h
      refine pe_imp (pe_or (sE a c E X _ x0 h1) (tb := EvR g E (ev Γ b)) ?_) fun σ H Q h => ev_or h
      split at h2
      · exact pe_one (sE b c E X _ x0 h2)
      · exact sE b c E X _ x0 h2
    · cases h
  | .chain o o' a b d, c, E, X, e, x0, h => by
    unfold chkE at h
    split at h
    · obtain ⟨h1, h6⟩ := and2 h
      obtain ⟨h1, h5⟩ := and2 h1
      obtain ⟨h1, h4⟩ := and2 h1
      obtain ⟨h1, h3⟩ := and2 h1
      obtain ⟨h1, h2⟩ := and2 h1
      exact (n_chain x0 h1 h2 (opd_of x0 h3 (sE a c E X _ x0 h3)) (opd_of x0 h4 (sE b c E X _ x0 h4)) (opd_of x0 h5 (sE d c E X _ x0 h5)) (star_ne h6)).1
    · cases h
  | .ite t a b, c, E, X, e, x0, h => by
    unfold chkE at h
    split at h
    · obtain ⟨h1, h3⟩ := and2 h
      obtain ⟨h1, h2⟩ := and2 h1
      exact pe_imp (pe_ifExp (sT t c E X _ x0 h1).1 (sE a c E X _ x0 h2) (sE b c E X _ x0 h3)) fun σ H Q h => ev_ite h
    · cases h
  | .tup as, c, E, X, e, x0, h => by
    unfold chkE at h
    split at h
    · exact pe_imp (pe_tupF (sEs as c E X _ x0 h).ev) fun σ H Q h => tup_to h
    · cases h
  | .lst as, c, E, X, e, x0, h => by
    unfold chkE at h
    split at h
    · exact pe_imp (pe_lst (sEs as c E X _ x0 h).ev) fun σ H Q h => lst_to h
    · cases h
  | .idx a i, c, E, X, e, x0, h => by
    unfold chkE at h
    split at h
    · obtain ⟨h1, h3⟩ := and2 h
      obtain ⟨h1, h2⟩ := and2 h1
      exact pe_imp (pe_ix (ixv x0.hK) (opd_of x0 h1 (sE a c E X _ x0 h1)) (opd_of x0 h2 (sE i c E X _ x0 h2)) (plain_of h3)) fun σ H Q h => bin_to h
    · cases h
  | .slc a lo hi, c, E, X, e, x0, h => by
    unfold chkE at h
    split at h
    · obtain ⟨h1, h3⟩ := and2 h
      obtain ⟨h1, h2⟩ := and2 h1
      exact pe_imp (pe_slice (slv x0.hK) (opd_of x0 h1 (sE a c E X _ x0 h1)) (sO lo c E X _ x0 h2) (sO hi c E X _ x0 h3)) fun σ H Q h => slc_to h
    · cases h
  | .cal f as, c, E, X, e, x0, h => by
    unfold chkE at h
    split at h
    · obtain ⟨h1, h3⟩ := and2 h
      obtain ⟨h1, h2⟩ := and2 h1
      exact n_call x0 (of_decide_eq_true h1) h2 h3 (sEs as c E X _ x0 h3).op
    · cases h
  | .isi T a, c, E, X, e, x0, h => by
    unfold chkE at h
    split at h
    · obtain ⟨h1, h7⟩ := and2 h
      obtain ⟨h1, h6⟩ := and2 h1
      obtain ⟨h1, h5⟩ := and2 h1
      obtain ⟨h1, h4⟩ := and2 h1
      obtain ⟨h1, h3⟩ := and2 h1
      obtain ⟨h1, h2⟩ := and2 h1
      exact n_isi x0 (of_decide_eq_true h1) h2 h3 (of_decide_eq_true h4) (of_decide_eq_true h5) (star_ne h6) (opd_of x0 h7 (sE a c E X _ x0 h7))
    · cases h
  | .bi b as, c, E, X, e, x0, h => by
    unfold chkE at h
    split at h
    · obtain ⟨h1, h3⟩ := and2 h
      obtain ⟨h1, h2⟩ := and2 h1
      have e := of_decide_eq_true h1
      subst e
      refine pe_imp (bi_pe x0 b (sEs as c E X _ x0 h3).pk (gl_of x0 h2).1 (star_head h3) (star_rest h3)) fun σ H Q h => bi_to h
    · cases h
  | .tupRg a, c, E, X, e, x0, h => by
    unfold chkE at h
    split at h
    · obtain ⟨h1, h6⟩ := and2 h
      obtain ⟨h1, h5⟩ := and2 h1
      obtain ⟨h1, h4⟩ := and2 h1
      obtain ⟨h1, h3⟩ := and2 h1
      obtain ⟨h1, h2⟩ := and2 h1
      exact n_tupRg x0 (of_decide_eq_true h1) (of_decide_eq_true h2) h3 h4 (star_ne h5) (opd_of x0 h6 (sE a c E X _ x0 h6))
    · cases h
  | .lstRg a, c, E, X, e, x0, h => by
    unfold chkE at h
    split at h
    · obtain ⟨h1, h6⟩ := and2 h
      obtain ⟨h1, h5⟩ := and2 h1
      obtain ⟨h1, h4⟩ := and2 h1
      obtain ⟨h1, h3⟩ := and2 h1
      obtain ⟨h1, h2⟩ := and2 h1
      exact n_lstRg x0 (of_decide_eq_true h1) (of_decide_eq_true h2) h3 h4 (star_ne h5) (opd_of x0 h6 (sE a c E X _ x0 h6))
    · cases h
  | .srtSet a, c, E, X, e, x0, h => by
    unfold chkE at h
    split at h
    · obtain ⟨h1, h6⟩ := and2 h
      obtain ⟨h1, h5⟩ := and2 h1
      obtain ⟨h1, h4⟩ := and2 h1
      obtain ⟨h1, h3⟩ := and2 h1
      obtain ⟨h1, h2⟩ := and2 h1
      exact n_srtSet x0 (of_decide_eq_true h1) (of_decide_eq_true h2) h3 h4 (star_ne h5) (opd_of x0 h6 (sE a c E X _ x0 h6))
    · cases h
  | .srtKey a, c, E, X, e, x0, h => by
    unfold chkE at h
    split at h
    · obtain ⟨h, h14⟩ := and2 h
      obtain ⟨h, h13⟩ := and2 h
      obtain ⟨h, h12⟩ := and2 h
      obtain ⟨h, h11⟩ := and2 h
      obtain ⟨h, h10⟩ := and2 h
      obtain ⟨h, h9⟩ := and2 h
      obtain ⟨h, h8⟩ := and2 h
      obtain ⟨h, h7⟩ := and2 h
      obtain ⟨h, h6⟩ := and2 h
      obtain ⟨h, h5⟩ := and2 h
      obtain ⟨h, h4⟩ := and2 h
      obtain ⟨h, h3⟩ := and2 h
      obtain ⟨h1, h2⟩ := and2 h
      exact n_key x0 h1 (of_decide_eq_true h2) (of_decide_eq_true h3) (of_decide_eq_true h4) (of_decide_eq_true h5) h6 (star_ne h7) (opd_of x0 h8 (sE a c E X _ x0 h8)) h9 h10 (of_decide_eq_true h11) h12 (star_ne h13) (star_ne h14)
    · cases h
  | .mth m o a, c, E, X, e, x0, h => by
    unfold chkE at h
    split at h
    · obtain ⟨h1, h6⟩ := and2 h
      obtain ⟨h1, h5⟩ := and2 h1
      obtain ⟨h1, h4⟩ := and2 h1
      obtain ⟨h1, h3⟩ := and2 h1
      obtain ⟨h1, h2⟩ := and2 h1
      exact n_mth x0 (of_decide_eq_true h1) h2 h3 (opd_of x0 h4 (sE o c E X _ x0 h4)) (star_ne h5) (opd_of x0 h6 (sE a c E X _ x0 h6))
    · cases h
  | .mut m i as, c, E, X, e, x0, h => by
    unfold chkE at h
    split at h
    · obtain ⟨h1, h6⟩ := and2 h
      obtain ⟨h1, h5⟩ := and2 h1
      obtain ⟨h1, h4⟩ := and2 h1
      obtain ⟨h1, h3⟩ := and2 h1
      obtain ⟨h1, h2⟩ := and2 h1
      refine n_mut x0 (of_decide_eq_true h1) h2 h3 h4 (of_decide_eq_true h5) (fun e => ?_) (sEs as c E X _ x0 h4).fz
      subst e
      exact of_decide_eq_true h6
    · cases h
  | .dnew t, c, E, X, e, x0, h => by
    unfold chkE at h
    split at h
    · cases t with
      | true => exact pe_imp pe_dnewT fun σ H Q h => dnew_to true h
      | false => exact pe_imp pe_dnewK fun σ H Q h => dnew_to false h
    · cases h
  | .ktup as, c, E, X, e, x0, h => by
    unfold chkE at h
    split at h
    · exact pe_imp (pe_tup (sEs as c E X _ x0 h).ev) fun σ H Q h => ktup_to h
    · cases h
  | .dget i k d, c, E, X, e, x0, h => by
    unfold chkE at h
    split at h
    · obtain ⟨h1, h7⟩ := and2 h
      obtain ⟨h1, h6⟩ := and2 h1
      obtain ⟨h1, h5⟩ := and2 h1
      obtain ⟨h1, h4⟩ := and2 h1
      obtain ⟨h1, h3⟩ := and2 h1
      obtain ⟨h1, h2⟩ := and2 h1
      have hn := of_decide_eq_true h1
      subst hn
      exact pe_imp (n_dget x0 h2 h3 (star_ne h4) (star_ne h5) (sE k c E X _ x0 h6) (sE d c E X _ x0 h7)) fun σ H Q h => dget_to h
    · cases h
  | .didx i k, c, E, X, e, x0, h => by
    unfold chkE at h
    split at h
    · obtain ⟨h1, h3⟩ := and2 h
      obtain ⟨h1, h2⟩ := and2 h1
      have hu : X.A.units + 1 < cLine := by have := x0.units; omega
      exact pe_imp (pe_dget hu (sName x0 h1) (sE k c E X _ x0 h2) (plain_of h3)) fun σ H Q h => didx_to h
    · cases h
  | .dlEq i r, c, E, X, e, x0, h => by
    unfold chkE at h
    split at h
    · obtain ⟨h1, h5⟩ := and2 h
      obtain ⟨h1, h4⟩ := and2 h1
      obtain ⟨h1, h3⟩ := and2 h1
      obtain ⟨h1, h2⟩ := and2 h1
      exact (n_dlEq x0 (of_decide_eq_true h1) h2 h3 h4 (of_decide_eq_true h5)).1
    · cases h
  | .dlIn i r, c, E, X, e, x0, h => by
    unfold chkE at h
    split at h
    · obtain ⟨h1, h6⟩ := and2 h
      obtain ⟨h1, h5⟩ := and2 h1
      obtain ⟨h1, h4⟩ := and2 h1
      obtain ⟨h1, h3⟩ := and2 h1
      obtain ⟨h1, h2⟩ := and2 h1
      exact (n_dlIn x0 (of_decide_eq_true h1) h2 h3 h4 (of_decide_eq_true h5) (star_ne h6)).1
    · cases h
  | .mutA i ix a, c, E, X, e, x0, h => by
    unfold chkE at h
    split at h
    · obtain ⟨h1, h7⟩ := and2 h
      obtain ⟨h1, h6⟩ := and2 h1
      obtain ⟨h1, h5⟩ := and2 h1
      obtain ⟨h1, h4⟩ := and2 h1
      obtain ⟨h1, h3⟩ := and2 h1
      obtain ⟨h1, h2⟩ := and2 h1
      have hn := of_decide_eq_true h1
      subst hn
      exact pe_imp (n_mutA x0 h2 h3 (plain_of h4) (star_ne h5) (sE ix c E X _ x0 h6) (sE a c E X _ x0 h7)) fun σ H Q h => mutA_to x0.hK h
    · cases h
  | .lc own tg it cond elt, c, E, X, e, x0, h => by
    unfold chkE at h
    split at h
    · rename_i e t iter ifs sc p
      obtain ⟨h1, h6⟩ := and2 h
      obtain ⟨h1, h5⟩ := and2 h1
      obtain ⟨h1, h4⟩ := and2 h1
      obtain ⟨h1, h3z⟩ := and2 h1
      obtain ⟨h3, hz⟩ := and2 h3z
      obtain ⟨h1, h2⟩ := and2 h1
      have ok : BlkOk X.N X.env.scope sc (ownN c own) := by rw [x0.hN, x0.hs]; exact blkOk_by h1
      refine pe_imp (pe_lc (wi := ItR g E tg (evIt Γ it)) (g := AsgR g tg) (tt := TcR g E0 (evc Γ cond)) (te := EvR g E0 (ev Γ elt)) x0.calm (xN x0) (sI it c E X _ t tg x0 h3 hz) ok (fun s H C cl fp => sG (x0.blk sc s H C cl fp) tg t h4)
        (fun s H C cl fp => sC cond _ _ _ _ (x0.blk sc s H C cl fp) h5) (fun s H C cl fp => sE elt _ _ _ _ (x0.blk sc s H C cl fp) h6) (lc_hs (chkI_set h3))) fun σ H Q h => ?_
      rw [own_map]
      exact lc_to (of_decide_eq_true h2) h
    · cases h
theorem sT : ∀ (k : C) (c : Ck) (E : XK) (X : Cx) (e : Expr), XOk g Γ c E X → chkT c k e = true → PT X e (TtR g E (ev Γ k)) ∧ ∀ op vs p, e = .BoolOp op vs p → PW X e (TtR g E (ev Γ k))
  | .bad, c, E, X, e, x0, h => ⟨tt_stuck, fun op vs p _ => ⟨fun w pins s σ H Q I h => by obtain ⟨Φ, ρ, s, fs, F, r, k, hm, q⟩ := h; cases hm⟩⟩
  | .and a b, c, E, X, e, x0, h => by
    have key : PW X e (TtR g E (ev Γ (.and a b))) := by
      unfold chkT at h
      split at h
      · obtain ⟨h1, h2⟩ := and2 h
        refine pw_imp (pw_and (sT a c E X _ x0 h1).1 (tB' := TtR g E (ev Γ b)) ?_) fun σ H Q h => tt_and h
        split at h2
        · exact pw_and1 (sT b c E X _ x0 h2).1
        · exact (sT b c E X _ x0 h2).2 _ _ _ rfl
      · cases h
    exact ⟨key.pt, fun _ _ _ _ => key⟩
  | .or a b, c, E, X, e, x0, h => by
    have key : PW X e (TtR g E (ev Γ (.or a b))) := by
      unfold chkT at h
      split at h
      · obtain ⟨h1, h2⟩ := and2 h
        refine pw_imp (pw_or (sT a c E X _ x0 h1).1 (tB' := TtR g E (ev Γ b)) ?_) fun σ H Q h => tt_or h
        split at h2
        · exact pw_or1 (sT b c E X _ x0 h2).1
        · exact (sT b c E X _ x0 h2).2 _ _ _ rfl
      · cases h
    exact ⟨key.pt, fun _ _ _ _ => key⟩
  | .not a, c, E, X, e, x0, h => by
    unfold chkT at h
    split at h
    · exact ⟨pt_imp (pt_not (sT a c E X _ x0 h).1) fun σ H Q h => tt_not h, fun _ _ _ e => by cases e⟩
    · cases h
  | .isN a, c, E, X, e, x0, h => by
    unfold chkT at h
    split at h
    · exact ⟨(n_isN (opd_of x0 h (sE a c E X _ x0 h))).2, fun _ _ _ e => by cases e⟩
    · cases h
  | .notN a, c, E, X, e, x0, h => by
    unfold chkT at h
    split at h
    · exact ⟨(n_notN (opd_of x0 h (sE a c E X _ x0 h))).2, fun _ _ _ e => by cases e⟩
    · cases h
  | .op2 o a b, c, E, X, e, x0, h => by
    unfold chkT at h
    split at h
    · obtain ⟨h1, h4⟩ := and2 h
      obtain ⟨h1, h3⟩ := and2 h1
      obtain ⟨h1, h2⟩ := and2 h1
      exact ⟨(n_cmp x0 h1 (opd_of x0 h2 (sE a c E X _ x0 h2)) (opd_of x0 h3 (sE b c E X _ x0 h3)) (star_ne h4)).2, fun _ _ _ e => by cases e⟩
    · cases h
  | .chain o o' a b d, c, E, X, e, x0, h => by
    unfold chkT at h
    split at h
    · obtain ⟨h1, h6⟩ := and2 h
      obtain ⟨h1, h5⟩ := and2 h1
      obtain ⟨h1, h4⟩ := and2 h1
      obtain ⟨h1, h3⟩ := and2 h1
      obtain ⟨h1, h2⟩ := and2 h1
      exact ⟨(n_chain x0 h1 h2 (opd_of x0 h3 (sE a c E X _ x0 h3)) (opd_of x0 h4 (sE b c E X _ x0 h4)) (opd_of x0 h5 (sE d c E X _ x0 h5)) (star_ne h6)).2, fun _ _ _ e => by cases e⟩
    · cases h
  | .cal f as, c, E, X, e, x0, h => by
    unfold chkT at h
    split at h
    · obtain ⟨h1, h3⟩ := and2 h
      obtain ⟨h1, h2⟩ := and2 h1
      exact ⟨pt_of (n_call x0 (of_decide_eq_true h1) h2 h3 (sEs as c E X _ x0 h3).op) (testable rfl), fun _ _ _ e => by cases e⟩
    · cases h
  | .isi T a, c, E, X, e, x0, h => by
    unfold chkT at h
    split at h
    · obtain ⟨h1, h7⟩ := and2 h
      obtain ⟨h1, h6⟩ := and2 h1
      obtain ⟨h1, h5⟩ := and2 h1
      obtain ⟨h1, h4⟩ := and2 h1
      obtain ⟨h1, h3⟩ := and2 h1
      obtain ⟨h1, h2⟩ := and2 h1
      exact ⟨pt_of (n_isi x0 (of_decide_eq_true h1) h2 h3 (of_decide_eq_true h4) (of_decide_eq_true h5) (star_ne h6) (opd_of x0 h7 (sE a c E X _ x0 h7))) (testable rfl), fun _ _ _ e => by cases e⟩
    · cases h
  | .bi b as, c, E, X, e, x0, h => by
    unfold chkT at h
    split at h
    · obtain ⟨h1, h3⟩ := and2 h
      obtain ⟨h1, h2⟩ := and2 h1
      have e := of_decide_eq_true h1
      subst e
      exact ⟨pt_of (pe_imp (bi_pe x0 b (sEs as c E X _ x0 h3).pk (gl_of x0 h2).1 (star_head h3) (star_rest h3)) fun σ H Q h => bi_to h) (testable rfl), fun _ _ _ e => by cases e⟩
    · cases h
  | .var i, c, E, X, e, x0, h => by
    unfold chkT at h
    split at h
    · exact ⟨pt_of (ev_var (sName x0 h)) (testable rfl), fun _ _ _ e => by cases e⟩
    · cases h
  | .idx a i, c, E, X, e, x0, h => by
    unfold chkT at h
    split at h
    · obtain ⟨h1, h3⟩ := and2 h
      obtain ⟨h1, h2⟩ := and2 h1
      exact ⟨pt_of (pe_imp (pe_ix (ixv x0.hK) (opd_of x0 h1 (sE a c E X _ x0 h1)) (opd_of x0 h2 (sE i c E X _ x0 h2)) (plain_of h3)) fun σ H Q h => bin_to h) (testable rfl), fun _ _ _ e => by cases e⟩
    · cases h
  | .cst _, _, _, _, _, _, h => by unfold chkT at h; cases h
  | .glo _, _, _, _, _, _, h => by unfold chkT at h; cases h
  | .mv _, _, _, _, _, _, h => by unfold chkT at h; cases h
  | .neg _, _, _, _, _, _, h => by unfold chkT at h; cases h
  | .ite _ _ _, _, _, _, _, _, h => by unfold chkT at h; cases h
  | .tup _, _, _, _, _, _, h => by unfold chkT at h; cases h
  | .lst _, _, _, _, _, _, h => by unfold chkT at h; cases h
  | .slc _ _ _, _, _, _, _, _, h => by unfold chkT at h; cases h
  | .tupRg _, _, _, _, _, _, h => by unfold chkT at h; cases h
  | .lstRg _, _, _, _, _, _, h => by unfold chkT at h; cases h
  | .srtSet _, _, _, _, _, _, h => by unfold chkT at h; cases h
  | .srtKey _, _, _, _, _, _, h => by unfold chkT at h; cases h
  | .mth _ _ _, _, _, _, _, _, h => by unfold chkT at h; cases h
  | .mut _ _ _, _, _, _, _, _, h => by unfold chkT at h; cases h
  | .lc _ _ _ _ _, _, _, _, _, _, h => by unfold chkT at h; cases h
  | .dnew _, _, _, _, _, _, h => by unfold chkT at h; cases h
  | .ktup _, _, _, _, _, _, h => by unfold chkT at h; cases h
  | .dget _ _ _, _, _, _, _, _, h => by unfold chkT at h; cases h
  | .didx _ _, _, _, _, _, _, h => by unfold chkT at h; cases h
  | .mutA _ _ _, _, _, _, _, _, h => by unfold chkT at h; cases h
  | .dlEq i r, c, E, X, e, x0, h => by
    unfold chkT at h
    split at h
    · obtain ⟨h1, h5⟩ := and2 h
      obtain ⟨h1, h4⟩ := and2 h1
      obtain ⟨h1, h3⟩ := and2 h1
      obtain ⟨h1, h2⟩ := and2 h1
      exact ⟨(n_dlEq x0 (of_decide_eq_true h1) h2 h3 h4 (of_decide_eq_true h5)).2, fun _ _ _ e => by cases e⟩
    · cases h
  | .dlIn i r, c, E, X, e, x0, h => by
    unfold chkT at h
    split at h
    · obtain ⟨h1, h6⟩ := and2 h
      obtain ⟨h1, h5⟩ := and2 h1
      obtain ⟨h1, h4⟩ := and2 h1
      obtain ⟨h1, h3⟩ := and2 h1
      obtain ⟨h1, h2⟩ := and2 h1
      exact ⟨(n_dlIn x0 (of_decide_eq_true h1) h2 h3 h4 (of_decide_eq_true h5) (star_ne h6)).2, fun _ _ _ e => by cases e⟩
    · cases h
theorem sEs : ∀ (as : Cs) (c : Ck) (E : XK) (X : Cx) (es : List Expr), XOk g Γ c E X → chkEs c as es = true → PAs g Γ E X as es
  | .nil, c, E, X, es, x0, h => by
    unfold chkEs at h
    cases es with
    | cons _ _ => cases h
    | nil =>
      refine ⟨pa_imp pa_nil fun σ H Q h => evs_nil h, pa_imp pa_nil fun σ H Q h => pks_nil h, pa_imp pa_nil fun σ H Q h => fz_nil h, fun ms => ?_⟩
      cases ms with
      | nil => exact pa_imp pa_nil fun σ H Q h => pks_nil h
      | cons m ms =>
        have e : evOps Γ (m :: ms) .nil = stuck := by cases m <;> rfl
        rw [e]; exact pa_stuck
  | .cons a as, c, E, X, es, x0, h => by
    unfold chkEs at h
    cases es with
    | nil => cases h
    | cons e es =>
      obtain ⟨h1, h3⟩ := and2 h
      obtain ⟨h1, h2⟩ := and2 h1
      have pe := sE a c E X e x0 h2
      have pa := sEs as c E X es x0 h3
      refine ⟨pa_imp (pa_cons pe pa.ev (star_no (star_ne h1))) fun σ H Q h => evs_cons h, pa_imp (pa_cons (opd_of x0 h2 pe) pa.pk (star_no (star_ne h1))) fun σ H Q h => pks_cons h, pa_imp (pa_cons pe pa.fz (star_no (star_ne h1))) fun σ H Q h => fz_cons h, fun ms => ?_⟩
      cases ms with
      | nil =>
        have e : evOps Γ [] (.cons a as) = stuck := rfl
        rw [e]; exact pa_stuck
      | cons m ms =>
        cases m with
        | val => exact pa_imp (pa_cons (opd_fz pe) (pa.op ms) (star_no (star_ne h1))) fun σ H Q h => pks_cons h
        | io => exact pa_imp (pa_cons (has_of x0 h2) (pa.op ms) (star_no (star_ne h1))) fun σ H Q h => pks_cons h
theorem sO : ∀ (k : Co) (c : Ck) (E : XK) (X : Cx) (e : Option Expr), XOk g Γ c E X → chkO c k e = true → PO X e (EoR g E (evo Γ k))
  | .no, c, E, X, e, x0, h => by
    unfold chkO at h
    cases e with
    | none => exact eo_no
    | some _ => cases h
  | .yes a, c, E, X, e, x0, h => by
    unfold chkO at h
    cases e with
    | none => cases h
    | some e => exact eo_yes (sE a c E X e x0 h)
theorem sC : ∀ (k : Co) (c : Ck) (E : XK) (X : Cx) (e : List Expr), XOk g Γ c E X → chkC c k e = true → PTs X e (TcR g E (evc Γ k))
  | .no, c, E, X, e, x0, h => by
    unfold chkC at h
    cases e with
    | nil => exact tc_no
    | cons _ _ => cases h
  | .yes a, c, E, X, e, x0, h => by
    unfold chkC at h
    split at h
    · exact tc_yes (sT a c E X _ x0 h).1
    · cases h
theorem sI : ∀ (k : It) (c : Ck) (E : XK) (X : Cx) (e : Expr) (t : Expr) (tg : Tg), XOk g Γ c E X → chkI c k e = true → ztg k tg t = true → PI X t e (ItR g E tg (evIt Γ k))
  | .seq a, c, E, X, e, t, tg, x0, h, _ => by
    unfold chkI at h
    exact pi_imp (pi_seq (sE a c E X e x0 (and2 h).1)) fun σ H Q h => itr_seq x0.hK h
  | .rng1 a, c, E, X, e, t, tg, x0, h, _ => by
    unfold chkI at h
    split at h
    · obtain ⟨h1, h4⟩ := and2 h
      obtain ⟨h1, h3⟩ := and2 h1
      obtain ⟨h1, h2⟩ := and2 h1
      have e := of_decide_eq_true h1
      subst e
      exact pi_imp (pi_range1 (gl_of x0 h2).1 (blt_of x0 (by decide)) (pa_cons (sE a c E X _ x0 h4) pa_nil (star_no (star_ne h3))) (star_no (star_ne h3))) fun σ H Q h => itr_rng1 h
    · cases h
  | .rng2 a b, c, E, X, e, t, tg, x0, h, _ => by
    unfold chkI at h
    split at h
    · obtain ⟨h1, h6⟩ := and2 h
      obtain ⟨h1, h5⟩ := and2 h1
      obtain ⟨h1, h4⟩ := and2 h1
      obtain ⟨h1, h3⟩ := and2 h1
      obtain ⟨h1, h2⟩ := and2 h1
      have e := of_decide_eq_true h1
      subst e
      exact pi_imp (pi_range2 (gl_of x0 h2).1 (blt_of x0 (by decide)) (pa_cons (sE a c E X _ x0 h5) (pa_cons (sE b c E X _ x0 h6) pa_nil (star_no (star_ne h4))) (star_no (star_ne h3))) (by rw [star_no (star_ne h3), star_no (star_ne h4)]; rfl) (star_no (star_ne h4))) fun σ H Q h => itr_rng2 h
    · cases h
  | .zip as, c, E, X, e, t, tg, x0, h, hz => by
    unfold chkI at h
    split at h
    · obtain ⟨h1, h5⟩ := and2 h
      obtain ⟨h1, h4⟩ := and2 h1
      obtain ⟨h1, h3⟩ := and2 h1
      obtain ⟨h1, h2⟩ := and2 h1
      have e := of_decide_eq_true h1
      subst e
      obtain ⟨z1, z2⟩ := and2 hz
      split at z2
      · exact pi_imp (RZ.pi_zipA (gl_of x0 h2).1 (blt_of x0 (by decide)) (sEs as c E X _ x0 h5).fz (star_no (star_ne h3)) (by rw [star_no (star_ne h4)]; rfl)) fun σ H Q h => itr_zip (as := as) x0.hK z1 h
      · cases z2
    · cases h
  | .rev a, c, E, X, e, t, tg, x0, h, _ => by
    unfold chkI at h
    split at h
    · obtain ⟨h1, h4⟩ := and2 h
      obtain ⟨h1, h3⟩ := and2 h1
      obtain ⟨h1, h2⟩ := and2 h1
      have e := of_decide_eq_true h1
      subst e
      exact pi_imp (pi_reversed (gl_of x0 h2).1 (blt_of x0 (by decide)) (pa_cons (sE a c E X _ x0 h4) pa_nil (star_no (star_ne h3))) (star_no (star_ne h3))) fun σ H Q h => itr_rev x0.hK h
    · cases h
end
end
end Den
/-! Den19: statements: the look and its soundness. -/
namespace Den
open PySem PySem.Spec L2
def isComp : Expr → Bool
  | .ListComp _ _ _ _ => true
  | .SetComp _ _ _ _ => true
  | .DictComp _ _ _ _ _ => true
  | _ => false
def noSwp : Expr → Expr → Bool
  | .Tuple _ _ _, .Tuple _ _ _ => false
  | .List _ _, .Tuple _ _ _ => false
  | _, _ => true
/-- a comprehension's value that is stored by an exchange -/
def lcSw (c : Ck) (y : Str) (py pos : Pos) (sc : Scope) : Bool := decide (c.sc.kind = .function) && decide (c.sc.names.lookup y = some .local) && (py.line == pos.line) && !(sc.names.any fun (n, k) => n == y && (k == .local || k == .cell))
mutual
def chkS : Ck → T → Stmt → Bool
  | _, .bad, _ => true
  | _, .doc, s => match s with
    | .Expr (.Constant (.str _) _ _) _ => true
    | .Pass _ => true
    | _ => false
  | c, .set tg e, s => match s with
    | .Assign [t] v p => decide (∀ j ∈ c.pr, j ∉ tgSl tg) && chkG c tg t && chkE c e v && (match e with
      | .lc own tg' it cond elt => (match tg, t, v with
        | .nm i, .Name y py, .ListComp _ [⟨_, _, _, 0⟩] sc pos => lcSw c y py pos sc || decide (c.sc.names.lookup y = some .cell)
        | _, _, _ => false)
      | _ => !isComp v && noSwp t v)
    | _ => false
  | c, .seti i k e, s => match s with
    | .Assign [.Subscript (.Name x _) ix _] v _ => visB c i x && chkE c k ix && plainIx ix && chkE c e v && !isComp v
    | _ => false
  | c, .dset i k e, s => match s with
    | .Assign [.Subscript (.Name x _) ix _] v _ => visB c i x && chkE c k ix && plainIx ix && chkE c e v && !isComp v
    | _ => false
  | c, .aug i e, s => match s with
    | .AugAssign (.Name x _) .Add v _ => decide (i ∉ c.pr) && locB c i x && chkE c e v
    | _ => false
  | c, .expr e, s => match s with
    | .Expr v _ => chkE c e v && !isComp v
    | _ => false
  | c, .ret e, s => match s with
    | .Return (some v) _ => chkE c e v
    | _ => false
  | _, .retn, s => match s with
    | .Return none _ => true
    | _ => false
  | c, .ife t a b, s => match s with
    | .If e x y _ => chkT c t e && chkSs c a x && chkSs c b y
    | _ => false
  | c, .forr tg it body, s => match s with
    | .For t iter b [] _ => decide (∀ j ∈ c.pr, j ∉ tgSl tg) && chkG c tg t && (chkI c it iter && ztg it tg t) && chkSs c body b
    | _ => false
  | c, .whil _ t body, s => match s with
    | .While e b [] _ => chkT c t e && chkSs c body b
    | _ => false
termination_by structural _ t => t
def chkSs : Ck → Ts → List Stmt → Bool
  | _, .nil, ss => ss.isEmpty
  | c, .cons t ts, ss => match ss with
    | s :: ss => chkS c t s && chkSs c ts ss
    | [] => false
termination_by structural _ t => t
end
section
variable {g : Gx} {Γ : Tb} {c : Ck} {E : XK} {X : Cx}
structure SOk (g : Gx) (Γ : Tb) (c : Ck) (E : XK) (X : Cx) : Prop where
  x : XOk g Γ c E X
  own : PassesOwn (model X.prog X.w) X.A X.env X.xe
theorem swp_no {v : Expr} {t : Option Expr} {l : Nat} {env : Env} (h : isComp v = false) : swapsWith v t l env = pure false := by
  cases v <;> first | rfl | (simp [isComp] at h)
theorem sole_no {v t : Expr} {l : Nat} {env : Env} (h : isComp v = false) : swapsWithSole [t] v l env = pure false := by
  show swapsWith v (some t) l env = pure false
  exact swp_no h
theorem sts_no {t v : Expr} {env : Env} (h : noSwp t v = true) : swappedStores [t] v env = pure none := by
  cases t <;> cases v <;> first | rfl | (simp [noSwp] at h)
theorem sub_ha {o i : Expr} {p : Pos} {env : Env} (h : plainIx i = true) : ∀ v, assign (.Subscript o i p) env v = (do
      let ov ← holding [v] (eval o env)
      let iv ← holding [v, ov] (eval i env)
      standAt p
      holding [v, ov, iv] (setItem ov iv v)
      release [v, ov, iv] []) := by
  intro v
  cases i <;> first | rfl | (simp [plainIx] at h)
theorem ExR.nev {pr : List Nat} {D0 : Ends} {σ : L2.St} {H : Hp} (h : ExR g E pr (fun _ => none) D0 σ H) : False := by
  obtain ⟨Φ, ρ, s, fs, F, r, k, hm, p⟩ := h
  cases hm
theorem lc_set (x0 : XOk g Γ c E X) {i : Nat} {y : Str} {py pos spos : Pos} {own : List Nat} {tg : Tg} {it : It} {cond : Co} {elt : C} {e t iter : Expr} {ifs : List Expr} {sc : Scope} (hp : ∀ j ∈ c.pr, j ∉ tgSl (.nm i)) (hl : locB c i y = true)
    (h : chkE c (.lc own tg it cond elt) (.ListComp e [⟨t, iter, ifs, 0⟩] sc pos) = true) (hw : lcSw c y py pos sc = true) :
    PS X (.Assign [.Name y py] (.ListComp e [⟨t, iter, ifs, 0⟩] sc pos) spos) (ExR g E c.pr (exec Γ (.set (.nm i) (.lc own tg it cond elt)))) := by
  unfold chkE at h
  obtain ⟨h1, h6⟩ := and2 h
  obtain ⟨h1, h5⟩ := and2 h1
  obtain ⟨h1, h4⟩ := and2 h1
  obtain ⟨h1, h3z⟩ := and2 h1
  obtain ⟨h3, hz⟩ := and2 h3z
  obtain ⟨h1, h2⟩ := and2 h1
  have ok : BlkOk X.N X.env.scope sc (ownN c own) := by rw [x0.hN, x0.hs]; exact blkOk_by h1
  unfold lcSw at hw
  obtain ⟨w1, w4⟩ := and2 hw
  obtain ⟨w1, w3⟩ := and2 w1
  obtain ⟨w1, w2⟩ := and2 w1
  have hy : X.env.scope.names.lookup y = some .local := by rw [x0.hs]; exact of_decide_eq_true w2
  have hk : X.env.scope.kind = .function := by rw [x0.hs]; exact of_decide_eq_true w1
  refine ps_imp (ps_setLc (wi := ItR g E tg (evIt Γ it)) (g := AsgR g tg) (tt := TcR g E0 (evc Γ cond)) (te := EvR g E0 (ev Γ elt)) x0.calm (xN x0) (loc_of x0 hl).1 hy (sw_true hk hy w3 (star_ne w4)) (sI it c E X _ t tg x0 h3 hz) ok (fun s H C cl fp => sG (x0.blk sc s H C cl fp) tg t h4)
        (fun s H C cl fp => sC cond _ _ _ _ (x0.blk sc s H C cl fp) h5) (fun s H C cl fp => sE elt _ _ _ _ (x0.blk sc s H C cl fp) h6) (lc_hs (chkI_set h3))) fun D σ H h => ?_
  rw [own_map]
  have h' : tAsg (EvR g E (ev Γ (.lc own tg it cond elt))) (AsgR g (.nm i)) D σ H := set_to hp h
  have h'' : EvR g E (lcM own tg (evIt Γ it) (evc Γ cond) (ev Γ elt)) σ H fun x H1 => gName i x σ H1 D.nx := EvR.imp h' fun v H1 q => nm_to q
  exact lc_to (of_decide_eq_true h2) h''
theorem sw_cell {elt : Expr} {gs : List Comprehension} {scope : Scope} {pos py : Pos} {y : Str} {l : Nat} {env : Env} (hy : env.scope.names.lookup y = some .cell) : swapsWithSole [.Name y py] (.ListComp elt gs scope pos) l env = pure false := by
  have ky : env.kindOf y = some .cell := hy
  show swapsWith (.ListComp elt gs scope pos) (some (.Name y py)) l env = pure false
  unfold swapsWith
  simp only [ky]
  have e : (some NameKind.cell == some NameKind.local) = false := rfl
  simp only [e, Bool.and_false, Bool.false_and]
mutual
theorem sS (so : SOk g Γ c E X) : ∀ (t : T) (s : Stmt), chkS c t s = true → PS X s (ExR g E c.pr (exec Γ t))
  | .bad, s, h => ps_imp ps_never fun D σ H h => ExR.nev h
  | .doc, s, h => by
    unfold chkS at h
    split at h
    · exact ps_imp ps_doc fun D σ H h => nx_to h
    · exact ps_imp ps_pass fun D σ H h => nx_to h
    · cases h
  | .set tg e, s, h => by
    unfold chkS at h
    split at h
    · obtain ⟨h1, h4⟩ := and2 h
      obtain ⟨h1, h3⟩ := and2 h1
      obtain ⟨h1, h2⟩ := and2 h1
      have hp := of_decide_eq_true h1
      split at h4
      · split at h4
        · rcases (Bool.or_eq_true _ _).mp h4 with h4 | h4
          · unfold chkG at h2
            exact lc_set so.x hp h2 h3 h4
          · have hy := of_decide_eq_true h4
            rw [← so.x.hs] at hy
            exact ps_imp (ps_asg (sE _ c E X _ so.x h3) (sG so.x _ _ h2) (sw_cell hy) rfl rfl) fun D σ H h => set_to hp h
        · cases h4
      · obtain ⟨h5, h6⟩ := and2 h4
        exact ps_imp (ps_asg (sE e c E X _ so.x h3) (sG so.x tg _ h2) (sole_no (star_ne h5)) (sts_no h6) (by
          cases tg <;> unfold chkG at h2 <;> split at h2 <;> first | rfl | cases h2)) fun D σ H h => set_to hp h
    · cases h
  | .seti i k e, s, h => by
    unfold chkS at h
    split at h
    · obtain ⟨h1, h5⟩ := and2 h
      obtain ⟨h1, h4⟩ := and2 h1
      obtain ⟨h1, h3⟩ := and2 h1
      obtain ⟨h1, h2⟩ := and2 h1
      have hs : ∀ (tt : Option Expr) (l : Nat), swapsWith _ tt l X.env = pure false := fun tt l => swp_no (star_ne h5)
      exact ps_imp (ps_asg (sE e c E X _ so.x h4) (pg_sub (sName so.x h1) (sE k c E X _ so.x h2) set_list (sub_ha h3)) (sole_no (star_ne h5)) (sts_no rfl) rfl) fun D σ H h => seti_to h
    · cases h
  | .dset i k e, s, h => by
    unfold chkS at h
    split at h
    · obtain ⟨h1, h5⟩ := and2 h
      obtain ⟨h1, h4⟩ := and2 h1
      obtain ⟨h1, h3⟩ := and2 h1
      obtain ⟨h1, h2⟩ := and2 h1
      have hu : X.A.units + 1 < cLine := by have := so.x.units; omega
      exact ps_imp (ps_dput hu (sName so.x h1) (sE k c E X _ so.x h2) (sE e c E X _ so.x h4) (swp_no (star_ne h5))) fun D σ H h => dset_to h
    · cases h
  | .aug i e, s, h => by
    unfold chkS at h
    split at h
    · obtain ⟨h1, h3⟩ := and2 h
      obtain ⟨h1, h2⟩ := and2 h1
      obtain ⟨l1, l2, l3⟩ := loc_of so.x h2
      exact ps_imp (ps_aug (xN so.x) l1 l2 (sE e c E X _ so.x h3) ip_add l3) fun D σ H h => aug_to (of_decide_eq_true h1) h
    · cases h
  | .expr e, s, h => by
    unfold chkS at h
    split at h
    · obtain ⟨h1, h2⟩ := and2 h
      exact ps_imp (ps_expr (sE e c E X _ so.x h1) (swp_no (star_ne h2))) fun D σ H h => drop_to h
    · cases h
  | .ret e, s, h => by
    unfold chkS at h
    split at h
    · exact ps_imp (ps_ret (sE e c E X _ so.x h)) fun D σ H h => ret_to h
    · cases h
  | .retn, s, h => by
    unfold chkS at h
    split at h
    · exact ps_imp ps_retN fun D σ H h => retn_to h
    · cases h
  | .ife t a b, s, h => by
    unfold chkS at h
    split at h
    · obtain ⟨h1, h3⟩ := and2 h
      obtain ⟨h1, h2⟩ := and2 h1
      exact ps_imp (ps_if (sT t c E X _ so.x h1).1 (sSs so a _ h2) (sSs so b _ h3)) fun D σ H h => if_to h
    · cases h
  | .forr tg it body, s, h => by
    unfold chkS at h
    split at h
    · obtain ⟨h1, h4⟩ := and2 h
      obtain ⟨h1, h3z⟩ := and2 h1
      obtain ⟨h3, hz⟩ := and2 h3z
      obtain ⟨h1, h2⟩ := and2 h1
      exact ps_imp (ps_for so.own so.x.calm (sI it c E X _ _ tg so.x h3 hz) (sG so.x tg _ h2) (sSs so body _ h4) (lc_hs (chkI_set h3))) fun D σ H h => for_to (of_decide_eq_true h1) h
    · cases h
  | .whil n t body, s, h => by
    unfold chkS at h
    split at h
    · obtain ⟨h1, h2⟩ := and2 h
      exact ps_imp (ps_while so.own (sT t c E X _ so.x h1).1 (sSs so body _ h2)) fun D σ H h => while_to h
    · cases h
theorem sSs (so : SOk g Γ c E X) : ∀ (t : Ts) (s : List Stmt), chkSs c t s = true → PSs X s (ExR g E c.pr (execs Γ t))
  | .nil, s, h => by
    unfold chkSs at h
    cases s with
    | nil => exact pss_imp pss_nil fun D σ H h => nx_to h
    | cons _ _ => cases h
  | .cons t ts, s, h => by
    unfold chkSs at h
    cases s with
    | nil => cases h
    | cons s ss =>
      obtain ⟨h1, h2⟩ := and2 h
      exact pss_imp (pss_cons (sS so t s h1) (sSs so ts ss h2)) fun D σ H h => ExR.seq h
end
end
end Den
/-! Den20: a def by its core text; tables of defs. -/
namespace Den
open PySem PySem.Spec L2
def prOf (io : List Md) : List Nat := (List.range io.length).filter fun j => decide (io[j]? = some .io)
section
variable {g : Gx} {Γ : Tb} {Φ Φ' H H' : Hp} {ρ ρ' : List Addr} {F : Addr → Prop} {σ : L2.St} {s : S} {fs : Ix → List Addr}
theorem outsOf_get : ∀ {io : List Md} {sl : List (Option D)} {outs : List D}, outsOf io sl = some outs → (outsSl io outs).length = io.length ∧ ∀ (j : Nat) (d : D), (outsSl io outs)[j]? = some (some d) → io[j]? = some .io ∧ sl[j]? = some (some d)
  | [], sl, outs, h => by
    simp only [outsOf] at h
    cases h
    exact ⟨rfl, fun j d e => by simp [outsSl] at e⟩
  | .io :: ms, [], outs, h => by simp [outsOf] at h
  | .io :: ms, none :: sl, outs, h => by simp [outsOf] at h
  | .io :: ms, some d :: sl, outs, h => by
    simp only [outsOf] at h
    cases q : outsOf ms sl with
    | none => rw [q] at h; cases h
    | some os =>
      rw [q] at h
      cases h
      obtain ⟨h1, h2⟩ := outsOf_get q
      refine ⟨by simp [outsSl, h1], fun j e z => ?_⟩
      cases j with
      | zero => simp [outsSl] at z; subst z; exact ⟨rfl, rfl⟩
      | succ j => simpa using h2 j e (by simpa [outsSl] using z)
  | .val :: ms, [], outs, h => by simp [outsOf] at h
  | .val :: ms, o :: sl, outs, h => by
    simp only [outsOf] at h
    obtain ⟨h1, h2⟩ := outsOf_get h
    refine ⟨by simp [outsSl, h1], fun j e z => ?_⟩
    cases j with
    | zero => simp [outsSl] at z
    | succ j => simpa using h2 j e (by simpa [outsSl] using z)
/-- behind a body: the parameters that are handed back -/
theorem Ok.outs {io : List Md} {outs : List D} {vs : List V} {σ0 : L2.St} (k : Ok g Φ H ρ s σ fs F) (ho : outsOf io s.sl = some outs) (hl : vs.length = io.length) (h0 : ∀ j : Nat, j < vs.length → σ0[j]? = (vs.map some)[j]?) (hp : PrOk (prOf io) σ0 σ) :
    Ok g Φ H ρ ⟨outsSl io outs, s.os⟩ (vs.map some) (fun x => match x with | .inl j => (match (outsSl io outs)[j]? with | some (some _) => fs (.inl j) | _ => []) | .inr n => fs (.inr n)) F := by
  obtain ⟨h1, h2⟩ := outsOf_get ho
  have sub : ∀ x a, a ∈ (fun x => match x with | .inl j => (match (outsSl io outs)[j]? with | some (some _) => fs (.inl j) | _ => []) | .inr n => fs (.inr n) : Ix → List Addr) x → a ∈ fs x := fun x a ha => by
    cases x with
    | inl j =>
      dsimp only at ha
      split at ha
      · exact ha
      · cases ha
    | inr n => exact ha
  refine ⟨k.sub, k.tab, k.fr, by simp [h1, hl], fun i d q => ?_, fun i q => ?_, k.obl, k.obj, k.obj0, fun x => ?_, fun x y a hx hy => k.sep x y a (sub x a hx) (sub y a hy), fun x a hx => k.out x a (sub x a hx)⟩
  · obtain ⟨h3, h4⟩ := h2 i d q
    obtain ⟨v, e, r⟩ := k.slot i d h4
    have hi : i < io.length := (List.getElem?_eq_some_iff.mp h3).1
    have hj : i ∈ prOf io := List.mem_filter.mpr ⟨List.mem_range.mpr hi, decide_eq_true h3⟩
    rw [hp.2 i hj, h0 i (by rw [hl]; exact hi)] at e
    refine ⟨v, e, ?_⟩
    have q' : (outsSl io outs)[i]? = some (some d) := q
    simp only [q']
    exact r
  · dsimp only
    split
    · rename_i d e
      exact absurd e (q d)
    · rfl
  · cases x with
    | inl j => dsimp only; split; exact k.nd _; exact List.nodup_nil
    | inr n => exact k.nd _
theorem start_len {n : Nat} {ds : List D} {os : List Ob} {vs : List V} {N : List Str} (hn : N.length = n) (h : ds.length = vs.length) (k : Ok g Φ H ρ ⟨ds.map some, os⟩ (vs.map some) fs F) : Ok g Φ H ρ (startS n ds os) (L2.start N vs) fs F := by
  have out : ∀ (i : Nat) (d : D), (startS n ds os).sl[i]? = some (some d) → (ds.map some)[i]? = some (some d) := fun i d q => by
    simp only [startS] at q
    by_cases hi : i < (ds.map some).length
    · rw [List.getElem?_append_left hi] at q; exact q
    · rw [List.getElem?_append_right (by omega), List.getElem?_replicate] at q
      split at q <;> cases q
  refine ⟨k.sub, k.tab, k.fr, ?_, fun i d q => ?_, fun i q => ?_, k.obl, k.obj, k.obj0, k.nd, k.sep, k.out⟩
  · unfold L2.start startS
    simp only [List.length_append, List.length_map, List.length_replicate]
    rw [h, hn]
  · have q' := out i d q
    obtain ⟨v, e, r⟩ := k.slot i d q'
    refine ⟨v, ?_, r⟩
    unfold L2.start
    have hi : i < (vs.map some).length := (List.getElem?_eq_some_iff.mp e).1
    rw [List.getElem?_append_left hi]; exact e
  · refine k.slot0 i fun d z => q d ?_
    show (startS n ds os).sl[i]? = some (some d)
    simp only [startS]
    have hi : i < (ds.map some).length := (List.getElem?_eq_some_iff.mp z).1
    rw [List.getElem?_append_left hi]; exact z
end
/-- the table's defs keep their promises -/
def TbOk (P : Program) (w : World) (K : PySem.W.Frag) (mg : Str → Option Value) (base : Heap) (g : Gx) (k : Nat) (Γ : Tb) : Prop :=
  ∀ x F, Γ.fn x = some F → ∃ (f : Addr) (fd : FuncData) (ps : List Str), FnOk P w K mg base (L2.CX P w) k f fd ps (spD g F) ∧ mg x = some (.ref f) ∧ PySem.W.keepIn K (.ref f) = true ∧ Binds K fd ps []
def GloOk (mg : Str → Option Value) (g : Gx) (Γ : Tb) : Prop := ∀ x d, Γ.glo x = some d → ∃ (v : V) (u : Value), mg x = some u ∧ RelV v u ∧ ∀ Φ H ρ, Rep g Φ H ρ d v []
section
variable {P : Program} {w : World} {K : PySem.W.Frag} {mg : Str → Option Value} {base : Heap} {g : Gx} {Γ : Tb}
theorem fn_ok {st : Stmt} {f : Addr} {N ps : List Str} {k : Nat} {io : List Md} {body : Ts} {lm : Bool} {name qual : Str} {dV kV doc pm cdv ct oc : Value} {an od : Option Addr} {osl : Array (Option Value)} (lk : K.lookup f = some ⟨oc, od, .func (PySem.W.fnOf name qual (defArgs st) (defBody st) (defScope st) dV kV doc pm an cdv ct), osl⟩) (hcd : PySem.W.codeIn K cdv qual = true) (Sc : FnScope N ps (defScope st)) (hps : ps.length = io.length) (hg : K = g.K)
    (hc : chkSs ⟨N, defScope st, prOf io, none, lm⟩ body (defBody st) = true) (hb : ∀ x ∈ bltL, mg x = none) (ht : TbOk P w K mg base g k Γ) (hgl : GloOk mg g Γ)
    (hlm : lm = true → 2 ≤ k ∧ ∃ c P, cdv = .ref c ∧ LamX.TabB base mg c P ∧ (P, (qual ++ ".<locals>.") ++ "<lambda>") ∈ g.T ∧ ∀ p ∈ g.T, p.1 = P → p.2 = (qual ++ ".<locals>.") ++ "<lambda>") :
    FnOk P w K mg base (L2.CX P w) (k + 1) f (PySem.W.fnOf name qual (defArgs st) (defBody st) (defScope st) dV kV doc pm an cdv ct) ps (spD g ⟨io, runB Γ N.length io body⟩) := by
  have len : ∀ vs H Q E, spD g ⟨io, runB Γ N.length io body⟩ vs H Q E → vs.length = io.length := fun vs H Q E h => by
    obtain ⟨Φ, ρ, ds, os, fs, Fr, r, k0, hl, _⟩ := h
    have := k0.len
    simp only [List.length_map] at this
    rw [← this]; exact hl
  refine fn_of lk hcd Sc (fun vs H Q E h => by rw [len vs H Q E h, hps]) fun A outer s H vs Q E hr h => ?_
  have hvl := len vs H Q E h
  obtain ⟨Φ, ρ, ds, os, fs, Fr, r, k0, hl, hrun, p⟩ := h
  have so : SOk g Γ ⟨N, defScope st, prOf io, none, lm⟩ E (cxOf (L2.CX P w) P w K mg base N qual (defScope st) f cdv A outer s H E) := by
    refine ⟨⟨hg, rfl, Sc.nd, rfl, rfl, ?_, fun _ _ _ => rfl, hb, fun y F' hy => ?_, hgl, passes_call (W := fun cls d _ H => E cls d H) (takes_of rfl rfl rfl rfl) (fun _ _ _ _ h => h), fun hl => ?_⟩, passes_of rfl⟩
    · have := hr.un
      show (A.deeper _).units + 65 < cLine
      omega
    · obtain ⟨f', fd', ps', h1, h2, h3, h4⟩ := ht y F' hy
      exact ⟨k, f', fd', ps', h1, hr, h2, h3, h4⟩
    · obtain ⟨h2, c, P, rfl, TB, hT, hu⟩ := hlm hl
      exact ⟨⟨c, P, TB, rfl, hT, hu⟩, hr.mono h2⟩
  refine ⟨_, sSs so body _ hc, ?_⟩
  have hdl : ds.length = vs.length := by rw [hl, hvl]
  have k1 := start_len (n := N.length) (N := N) rfl hdl k0
  have h0 : ∀ j : Nat, j < vs.length → (L2.start N vs)[j]? = (vs.map some)[j]? := fun j hj => by
    unfold L2.start
    rw [List.getElem?_append_left (by simpa using hj)]
  unfold runB at hrun
  dsimp only at hrun
  have fin : ∀ (d : D) (s' : Den.S) (outs : List D), outsOf io s'.sl = some outs → r = .ret d outs s'.os → ∀ Φ' H' ρ' v f σ' fs', Stp Φ H ρ Fr Φ' H' ρ' → PrOk (prOf io) (L2.start N vs) σ' → Ok g Φ' H' ρ' s' σ' fs' (fadd f Fr) → Vl g Φ' H' ρ' d v f Fr → Q v H' := fun d s' outs ho hr' Φ' H' ρ' v f σ' fs' stp pk ok vl => by
    subst hr'
    exact p Φ' H' ρ' v f _ stp (ok.outs ho hvl h0 pk) vl
  split at hrun
  · rename_i d s' he
    split at hrun
    · rename_i outs ho
      cases hrun
      exact ⟨Φ, ρ, _, fs, Fr, _, k1, he, fin d s' outs ho rfl⟩
    · cases hrun
  · rename_i s' he
    split at hrun
    · rename_i outs ho
      cases hrun
      exact ⟨Φ, ρ, _, fs, Fr, _, k1, he, fun Φ' H' ρ' σ' fs' stp pk ok => fin .non s' outs ho rfl Φ' H' ρ' .non [] σ' fs' stp pk ok.nof ⟨rep_non, List.nodup_nil, fun a ha => by cases ha⟩⟩
    · cases hrun
  · rename_i x he
    cases hrun
    exact ⟨Φ, ρ, _, fs, Fr, _, k1, he, p⟩
  · cases hrun
/-- a def of the text -/
structure Df where
  name : Str
  N : List Str
  ps : List Str
  io : List Md
  body : Ts
  lm : Bool
def findD1 (x : Str) : List Df → Option Df
  | [] => none
  | d :: ds => if d.name = x then some d else findD1 x ds
def tab (glo : Str → Option D) (defs : List Df) : Nat → Tb
  | 0 => ⟨fun _ => none, glo⟩
  | n + 1 => ⟨fun x => match findD1 x defs with
    | some d => if d.lm && decide (n < 2) then none else some ⟨d.io, runB (tab glo defs n) d.N.length d.io d.body⟩
    | none => none, glo⟩
theorem findD1_mem {x : Str} : ∀ {ds : List Df} {d : Df}, findD1 x ds = some d → d ∈ ds ∧ d.name = x
  | [], d, h => by cases h
  | e :: ds, d, h => by
    unfold findD1 at h
    split at h
    · rename_i hx
      cases h
      exact ⟨List.mem_cons_self, hx⟩
    · obtain ⟨h1, h2⟩ := findD1_mem h
      exact ⟨List.mem_cons_of_mem _ h1, h2⟩
/-- what is known of a def behind the top -/
def DfOk (K : PySem.W.Frag) (mg : Str → Option Value) (base : Heap) (g : Gx) (d : Df) : Prop := ∃ (st : Stmt) (f : Addr) (dV kV doc pm cdv ct oc : Value) (an od : Option Addr) (osl : Array (Option Value)), K.lookup f = some ⟨oc, od, .func (PySem.W.fnOf d.name d.name (defArgs st) (defBody st) (defScope st) dV kV doc pm an cdv ct), osl⟩ ∧
  PySem.W.codeIn K cdv d.name = true ∧ PySem.W.keepIn K (.ref f) = true ∧ (chkSs ⟨d.N, defScope st, prOf d.io, none, d.lm⟩ d.body (defBody st) && scB d.N d.ps (defScope st)) = true ∧ d.ps.length = d.io.length ∧ mg d.name = some (.ref f) ∧
  Binds K (PySem.W.fnOf d.name d.name (defArgs st) (defBody st) (defScope st) dV kV doc pm an cdv ct) d.ps [] ∧
  (d.lm = true → ∃ c P, cdv = .ref c ∧ LamX.TabB base mg c P ∧ (P, (d.name ++ ".<locals>.") ++ "<lambda>") ∈ g.T ∧ ∀ p ∈ g.T, p.1 = P → p.2 = (d.name ++ ".<locals>.") ++ "<lambda>")
theorem tab_glo {glo : Str → Option D} {defs : List Df} : ∀ n, (tab glo defs n).glo = glo
  | 0 => rfl
  | n + 1 => rfl
theorem tab_ok {glo : Str → Option D} {defs : List Df} (hg : K = g.K) (hb : ∀ x ∈ bltL, mg x = none) (hd : ∀ d ∈ defs, DfOk K mg base g d) (hgl : ∀ x d, glo x = some d → ∃ (v : V) (u : Value), mg x = some u ∧ RelV v u ∧ ∀ Φ H ρ, Rep g Φ H ρ d v []) :
    ∀ n, TbOk P w K mg base g n (tab glo defs n)
  | 0 => fun x F h => by cases h
  | n + 1 => fun x F h => by
    have h : (match findD1 x defs with
      | some d => if d.lm && decide (n < 2) then none else some (⟨d.io, runB (tab glo defs n) d.N.length d.io d.body⟩ : Fn)
      | none => none) = some F := h
    split at h
    · rename_i d q
      split at h
      · cases h
      · rename_i hlm
        cases h
        obtain ⟨h1, h2⟩ := findD1_mem q
        obtain ⟨st, f, dV, kV, doc, pm, cdv, ct, oc, an, od, osl, lk, hcd, kp, hcs, hp, hm, hB, hL⟩ := hd d h1
        obtain ⟨hc, hs⟩ := and2 hcs
        subst h2
        refine ⟨f, _, d.ps, fn_ok lk hcd (scB_ok hs) hp hg hc hb (tab_ok hg hb hd hgl n) (fun y e hy => hgl y e (by rw [tab_glo] at hy; exact hy)) (fun hl => ?_), hm, kp, hB⟩
        refine ⟨?_, hL hl⟩
        rw [hl] at hlm
        simpa using hlm
    · cases h
end
end Den
/-! DenW: the end of a law. -/
namespace Den
open PySem PySem.Spec L2
/-- what is known of the defs' code objects at the head -/
def AllTab (q : Program) (mg : Str → Option Value) (h : Heap) : Prop := ∀ d ∈ PyProof.Rows.recsOf q, ∃ a o fd c P, mg d.name = some (.ref a) ∧ h.get? a = some o ∧ o.data = .func fd ∧ fd.code = .ref c ∧ h.IsCode c P #[] ∧ h.TableAt c P #[]
open PyProof.Rows in
theorem walk_den {l : PySem.W.OpenLaw} {n k : Nat} {q : Program} {loose : List Str} {XP : (Str → Option Value) → Heap → Prop} {YP : World → Heap → Prop} {d : DefRec} {K : Params → PySem.W.Frag} {CX : World → CXT} {x : Str}
    (hn : l.most = some n) (hn2 : n ≤ sizeLine) (hdf : d.params.defaults = []) (hr : Room k callerA) (hY : ∀ (w : World) (h : Heap), YP w h → (K w.params).In h)
    (F : ∀ (w : World) (mg : Str → Option Value) (fa : Addr) (h : Heap), (K w.params).In h → h.Ns mainGlobals mg → mg d.name = some (.ref fa) → AllTab q mg h → LamX.LawAtS l w (K w.params) (CX w) k n x mg fa h)
    (hCX : ∀ (w : World) (H : Hp) (s : Shared) (e : Value) (s' : Shared), CX w [] H s (fun _ _ _ => False) e s' → False) :
    PySem.W.WalkO q loose XP YP l.row.toRowW d [] (fun f vs => PySem.call f vs) := by
  refine Att.attach_callB hn hdf fun w s₀ s₁ mg mb fa o pm cd doc a vs ns G Y ho hd hcd hmg hobj hints hlen hbits hg => ?_
  have KX := hY w _ Y
  obtain ⟨fd, cs, sp, hT, nT, C, hb, hsp, hF⟩ := F w mg fa _ KX G.T.g hmg G.T.tab
  exact LamX.law_callTs KX G.T.g G.T.b G.T.builtins G.T.nolimit hg hT nT C G.T.bmain hobj hints (Nat.le_trans hlen hn2) hr hF hb (fun H hH hS => hsp H a ns hlen hbits hH hS) fun H e s' => hCX w H s₁ e s'
section
variable {g : Gx}
/-- the promise of the law's own def at the script -/
theorem sp_law {F : Fn} {H : Hp} {a : Addr} {ns : List Int} (hio : F.io = [.val]) (hT : LamX.Tabs g.T H) (hS : SqL g.K H a (ns.map V.int)) (hrun : ∃ os', F.run [.lst .ro (ns.map .int)] [] = some (.ret (.bl true) [] os')) : spD g F [.ref a] H (fun v _ => v = .bl true) fun _ _ _ => False := by
  obtain ⟨os', hrun⟩ := hrun
  have hΦ : ∃ Φ : Hp, Sub Φ H ∧ SqL g.K Φ a (ns.map V.int) := by
    rcases hS with (h | ⟨o, h⟩) | h
    · refine ⟨upd (fun _ => none) a (.lst (ns.map V.int)), fun b u e => ?_, .inl (.inl upd_same)⟩
      by_cases hb : b = a
      · subst hb
        rw [upd_same] at e
        cases e
        exact ⟨fun _ => HO.noConfusion, .inl h⟩
      · rw [upd_ne hb] at e; cases e
    · refine ⟨upd (fun _ => none) a (.frz o (.lst (ns.map V.int))), fun b u e => ?_, .inl (.inr ⟨o, upd_same⟩)⟩
      by_cases hb : b = a
      · subst hb
        rw [upd_same] at e
        cases e
        exact ⟨fun _ => HO.noConfusion, .inl h⟩
      · rw [upd_ne hb] at e; cases e
    · exact ⟨fun _ => none, (fun b u e => by cases e), .inr h⟩
  obtain ⟨Φ, sb, hs⟩ := hΦ
  refine ⟨Φ, [], [.lst .ro (ns.map .int)], [], fun _ => [], fun _ => False, _, ⟨sb, hT, fun a h => h.elim, rfl, fun i d q => ?_, fun _ _ => rfl, rfl, fun n o q => by simp at q, fun _ _ => rfl, fun _ => List.nodup_nil, fun _ _ _ h => (by cases h), fun _ _ h => (by cases h)⟩, by rw [hio]; rfl, hrun, fun Φ' H' ρ' v f fs' st ok vl => (vl.isBl).1⟩
  cases i with
  | zero =>
    simp at q
    subst q
    refine ⟨.ref a, rfl, ?_⟩
    simp only [Rep]
    exact ⟨a, ns.map V.int, rfl, hs, trivial, rep_ints ns⟩
  | succ i => simp at q
variable {K : PySem.W.Frag} {mg : Str → Option Value} {base : Heap}
theorem df_mk {d : Df} {st : Stmt} {f : Addr} {dV kV doc pm cdv ct oc : Value} {an od : Option Addr} {osl : Array (Option Value)} (l : K.lookup f = some ⟨oc, od, .func (PySem.W.fnOf d.name d.name (defArgs st) (defBody st) (defScope st) dV kV doc pm an cdv ct), osl⟩)
    (c : PySem.W.codeIn K cdv d.name = true) (k : PySem.W.keepIn K (.ref f) = true) (hc : (chkSs ⟨d.N, defScope st, prOf d.io, none, d.lm⟩ d.body (defBody st) && scB d.N d.ps (defScope st)) = true) (hp : d.ps.length = d.io.length) (hm : mg d.name = some (.ref f))
    (hb : ∀ us : List Value, us.length = d.ps.length → bindArgs (PySem.W.fnOf d.name d.name (defArgs st) (defBody st) (defScope st) dV kV doc pm an cdv ct) ⟨us, []⟩ = pure (d.ps.zip us)) (hl : d.lm = false) : DfOk K mg base g d :=
  ⟨st, f, dV, kV, doc, pm, cdv, ct, oc, an, od, osl, l, c, k, hc, hp, hm, .all hb, fun h => by rw [hl] at h; cases h⟩
theorem df_mkL {d : Df} {st : Stmt} {f : Addr} {dV kV doc pm cdv ct oc : Value} {an od : Option Addr} {osl : Array (Option Value)} (l : K.lookup f = some ⟨oc, od, .func (PySem.W.fnOf d.name d.name (defArgs st) (defBody st) (defScope st) dV kV doc pm an cdv ct), osl⟩)
    (c : PySem.W.codeIn K cdv d.name = true) (k : PySem.W.keepIn K (.ref f) = true) (hc : (chkSs ⟨d.N, defScope st, prOf d.io, none, d.lm⟩ d.body (defBody st) && scB d.N d.ps (defScope st)) = true) (hp : d.ps.length = d.io.length) (hm : mg d.name = some (.ref f))
    (hb : ∀ us : List Value, us.length = d.ps.length → bindArgs (PySem.W.fnOf d.name d.name (defArgs st) (defBody st) (defScope st) dV kV doc pm an cdv ct) ⟨us, []⟩ = pure (d.ps.zip us))
    (hl : ∃ c P, cdv = .ref c ∧ LamX.TabB base mg c P ∧ (P, (d.name ++ ".<locals>.") ++ "<lambda>") ∈ g.T ∧ ∀ p ∈ g.T, p.1 = P → p.2 = (d.name ++ ".<locals>.") ++ "<lambda>") : DfOk K mg base g d :=
  ⟨st, f, dV, kV, doc, pm, cdv, ct, oc, an, od, osl, l, c, k, hc, hp, hm, .all hb, fun _ => hl⟩
/-- a def's code object and its table -/
theorem tab_of {q : Program} {h : Heap} {x : Str} {f c0 : Addr} {o : Obj} {fd : FuncData} {e : Value} {dd : Option Addr} {vs : Array Value} {sl : Array (Option Value)} {P0 : Addr} (T : AllTab q mg h) (KX : K.In h) (hx : ((PyProof.Rows.recsOf q).any fun d => d.name == x) = true) (hm : mg x = some (.ref f))
    (l : K.lookup f = some o) (hd : o.data = .func fd) (hc : fd.code = .ref c0) (lc : K.lookup c0 = some ⟨e, dd, .fields vs, sl⟩) (h11 : vs[11]? = some (.ref P0)) :
    h.get? P0 = some { cls := .none, data := .fields #[] } ∧ PySem.W.CodeHd h c0 P0 := by
  obtain ⟨d, hd1, hd2⟩ := List.any_eq_true.mp hx
  have hd3 : d.name = x := eq_of_beq hd2
  obtain ⟨a, o', fd', c, P, h1, h2, h3, h4, h5, h6⟩ := T d hd1
  rw [hd3, hm] at h1
  cases h1
  have g1 := KX _ _ l
  rw [g1] at h2
  cases h2
  rw [hd] at h3
  cases h3
  rw [hc] at h4
  cases h4
  have g2 := KX _ _ lc
  obtain ⟨⟨oc, vc, e1, e2, e3, e4⟩, hP⟩ := id h6
  rw [g2] at e1
  cases e1
  cases e3
  rw [h11] at e4
  cases e4
  exact ⟨hP, PySem.W.CodeHd.of h5 h6⟩
theorem rep_glo_tup {H Φ : Hp} {ρ : List Addr} {t : Addr} {o : Obj} {its : Array Value} {n : Nat} {ds : List D} {vs : List V} (hK : g.K.lookup t = some o) (hc : o.cls = .type "tuple") (hd : o.dict = none) (ho : o.data = .seq its n) (hz : its.size ≤ sizeLine) (hv : Vals vs its.toList) (hr : RepL g Φ H ρ ds vs []) : Rep g Φ H ρ (.tup ds) (.ref t) [] := by
  simp only [Rep]
  exact ⟨t, vs, rfl, .inr ⟨o, its, n, hK, hc, hd, ho, hz, hv⟩, hr⟩
end
end Den
/-! M0: evaluation by simp. -/
namespace Den
open PySem PySem.Spec L2
theorem bnd_val {α β : Type} {m : M α} {k : α → M β} {s s1 : S} {a : α} (h : m s = some (.val a s1)) : bnd m k s = k a s1 := by unfold bnd; rw [h]
@[simp] theorem bnd_ret {α β : Type} {a : α} {k : α → M β} : bnd (ret a) k = k a := rfl
@[simp] theorem lift_some' {α : Type} {a : α} : lift (some a) = ret a := rfl
@[simp] theorem ret_app {α : Type} {a : α} {s : S} : ret a s = some (.val a s) := rfl
@[simp] theorem thn_val {α : Type} {a : α} {s : S} {k : α → S → Option Rs} : Den.thn (some (.val a s)) k = k a s := rfl
@[simp] theorem sthn_nx {s : S} {k : S → Option Rs} : sthn (some (.nx s)) k = k s := rfl
@[simp] theorem sthn_rt {d : D} {s : S} {k : S → Option Rs} : sthn (some (.rt d s)) k = some (.rt d s) := rfl
@[simp] theorem ints_fz (l : List Int) : fzL (l.map D.int) = l.map D.int := by
  induction l with
  | nil => rfl
  | cons x xs ih => simp only [List.map_cons, fzL, ih, fz]
@[simp] theorem atI_0 {α : Type} {x : α} {l : List α} : atI (x :: l) 0 = some x := atI_nat (j := 0) rfl
@[simp] theorem atI_1 {α : Type} {x y : α} {l : List α} : atI (x :: y :: l) 1 = some y := atI_nat (j := 1) rfl
@[simp] theorem atI_2 {α : Type} {x y z : α} {l : List α} : atI (x :: y :: z :: l) 2 = some z := atI_nat (j := 2) rfl
@[simp] theorem atI_3 {α : Type} {x y z u : α} {l : List α} : atI (x :: y :: z :: u :: l) 3 = some u := atI_nat (j := 3) rfl
@[simp] theorem atI_4 {α : Type} {x y z u v : α} {l : List α} : atI (x :: y :: z :: u :: v :: l) 4 = some v := atI_nat (j := 4) rfl
theorem shaped_int (i : Int) : SeqAt.shaped (.int i) = true := by
  simp [SeqAt.shaped, PyData.canLay0, PyData.depth]
@[simp] theorem eqD_int {a b : Int} : eqD (.int a) (.int b) = some (decide (a = b)) := by
  unfold eqD
  rw [if_pos ⟨shaped_int a, shaped_int b⟩]
  simp only [toP, PyData.eqv]
  by_cases h : a = b
  · subst h; simp
  · rw [decide_eq_false h, beq_eq_false_iff_ne.mpr h]
theorem ixN_of {n : Nat} {i : Nat} (h : i < n) : ixN n (i : Int) = some i := by
  unfold ixN; rw [if_pos (by omega), if_pos (by omega)]; simp
end Den
/-! M1: equality, membership and shapes of plain values; loops. -/
namespace Den
open PySem PySem.Spec L2
def Shp (k : Nat) (d : D) : Prop := (toP d).canLay0 = true ∧ (toP d).depth ≤ k
theorem Shp.mono {k m : Nat} {d : D} (h : Shp k d) (l : k ≤ m) : Shp m d := ⟨h.1, Nat.le_trans h.2 l⟩
theorem shaped_of {k : Nat} {d : D} (h : Shp k d) (l : k ≤ 64 := by omega) : SeqAt.shaped (toP d) = true := by
  unfold SeqAt.shaped
  rw [h.1, decide_eq_true (Nat.le_trans h.2 l)]; rfl
theorem shp_int {k : Nat} {i : Int} : Shp k (.int i) := ⟨by simp [toP, PyData.canLay0], by simp [toP, PyData.depth]⟩
theorem shp_bl {k : Nat} {b : Bool} : Shp k (.bl b) := ⟨by simp [toP, PyData.canLay0], by simp [toP, PyData.depth]⟩
theorem shp_non {k : Nat} : Shp k .non := ⟨by simp [toP, PyData.canLay0], by simp [toP, PyData.depth]⟩
theorem shp_str {k : Nat} {s : List Nat} (h : s.all (· < 0x110000) = true) : Shp k (.str s) := ⟨by simpa [toP, PyData.canLay0, PyData.strOk] using h, by simp [toP, PyData.depth]⟩
theorem shp_all {k : Nat} : ∀ {ds : List D}, (∀ x ∈ ds, Shp k x) → PyData.canLayAll0 (toPs ds) = true ∧ PyData.depthAll (toPs ds) ≤ k
  | [], _ => ⟨by simp [toPs, PyData.canLayAll0], by simp [toPs, PyData.depthAll]⟩
  | d :: ds, h => by
    obtain ⟨h1, h2⟩ := h d List.mem_cons_self
    obtain ⟨h3, h4⟩ := shp_all fun x hx => h x (List.mem_cons_of_mem _ hx)
    refine ⟨by simp only [toPs, PyData.canLayAll0, h1, h3, Bool.and_self], ?_⟩
    simp only [toPs, PyData.depthAll]
    omega
theorem shp_tup {k : Nat} {ds : List D} (h : ∀ x ∈ ds, Shp k x) : Shp (k + 1) (.tup ds) := by
  obtain ⟨h1, h2⟩ := shp_all h
  exact ⟨by simp only [toP, PyData.canLay0, h1], by simp only [toP, PyData.depth]; omega⟩
theorem shp_lst {k : Nat} {o : Ow} {ds : List D} (h : ∀ x ∈ ds, Shp k x) : Shp (k + 1) (.lst o ds) := by
  obtain ⟨h1, h2⟩ := shp_all h
  exact ⟨by simp only [toP, PyData.canLay0, h1], by simp only [toP, PyData.depth]; omega⟩
theorem shp_ints {k : Nat} {l : List Int} : ∀ x ∈ l.map D.int, Shp k x := fun x hx => by
  obtain ⟨i, _, rfl⟩ := List.mem_map.mp hx
  exact shp_int
theorem shp_tupI {k : Nat} {l : List Int} : Shp (k + 1) (tupI l) := shp_tup shp_ints
theorem eqD_of {j k : Nat} {a b : D} (ha : Shp j a) (hb : Shp k b) (hj : j ≤ 64 := by omega) (hk : k ≤ 64 := by omega) : eqD a b = some (PyData.eqv (toP a) (toP b)) := by
  unfold eqD; rw [if_pos ⟨shaped_of ha hj, shaped_of hb hk⟩]
theorem eqv_ints : ∀ (a b : List Int), PyData.eqvAll (toPs (a.map .int)) (toPs (b.map .int)) = decide (a = b)
  | [], [] => by simp [toPs, PyData.eqvAll]
  | [], _ :: _ => by simp [toPs, toP, PyData.eqvAll]
  | _ :: _, [] => by simp [toPs, toP, PyData.eqvAll]
  | x :: a, y :: b => by
    simp only [List.map_cons, toPs, toP, PyData.eqvAll, PyData.eqv, eqv_ints a b]
    by_cases h : x = y <;> simp [h]
@[simp] theorem eqD_lst {o o' : Ow} (a b : List Int) : eqD (.lst o (a.map .int)) (.lst o' (b.map .int)) = some (decide (a = b)) := by
  rw [eqD_of (shp_lst (k := 0) shp_ints) (shp_lst (k := 0) shp_ints)]
  simp only [toP, PyData.eqv, eqv_ints]
@[simp] theorem eqD_lst0 {o o' : Ow} (a : List Int) : eqD (.lst o (a.map .int)) (.lst o' []) = some (decide (a = [])) := eqD_lst a []
theorem eqD_tupI (a b : List Int) : eqD (tupI a) (tupI b) = some (decide (a = b)) := by
  rw [eqD_of (shp_tupI (k := 0)) (shp_tupI (k := 0))]
  simp only [tupI, toP, PyData.eqv, eqv_ints]
@[simp] theorem eqD_tup (a b : List Int) : eqD (.tup (a.map .int)) (.tup (b.map .int)) = some (decide (a = b)) := eqD_tupI a b
@[simp] theorem eqD_tup0 (a : List Int) : eqD (.tup (a.map .int)) (.tup []) = some (decide (a = [])) := eqD_tupI a []
theorem eqD_str {a b : List Nat} (ha : a.all (· < 0x110000) = true) (hb : b.all (· < 0x110000) = true) : eqD (.str a) (.str b) = some (decide (a = b)) := by
  rw [eqD_of (shp_str (k := 0) ha) (shp_str (k := 0) hb)]
  simp only [toP, PyData.eqv]
  by_cases h : a = b
  · subst h; simp
  · rw [decide_eq_false h, beq_eq_false_iff_ne.mpr]
    intro e
    injection e with e
    exact h (by simpa using congrArg Array.toList e)
theorem inL_int (x : Int) : ∀ l : List Int, inL (.int x) (l.map .int) = decide (x ∈ l)
  | [] => by simp [inL, toPs]
  | y :: l => by
    have := inL_int x l
    unfold inL at this ⊢
    simp only [List.map_cons, toPs, toP, List.any_cons, PyData.eqv] at this ⊢
    rw [this]
    by_cases h : y = x
    · subst h; simp
    · have h' : ¬ x = y := fun e => h e.symm
      simp [h, h']
theorem flat_ints (l : List Int) : (l.map D.int).all flatD = true := by
  rw [List.all_eq_true]
  intro d hd
  obtain ⟨i, _, rfl⟩ := List.mem_map.mp hd
  rfl
@[simp] theorem inD_tup (x : Int) (l : List Int) : inD (.int x) (.tup (l.map .int)) = some (decide (x ∈ l)) := by
  simp only [inD, flatD, flat_ints, and_self, if_true, inL_int]
@[simp] theorem inD_lst {o : Ow} (x : Int) (l : List Int) : inD (.int x) (.lst o (l.map .int)) = some (decide (x ∈ l)) := by
  have h : SeqAt.shaped (.list (toPs (l.map D.int))) = true := shaped_of (shp_lst (o := .own) (k := 0) (shp_ints (l := l)))
  simp only [inD, toP, shaped_int, h, and_self, if_true, inL_int]
theorem findD_int (x : Int) : ∀ (l : List Int) (k : Nat), x ∈ l → findD (.int x) (l.map .int) k = some (k + l.idxOf x)
  | [], _, h => by cases h
  | y :: l, k, h => by
    simp only [List.map_cons, findD, toP, PyData.eqv]
    by_cases e : y = x
    · subst e; simp
    · have h' : x ∈ l := by
        rcases List.mem_cons.mp h with rfl | h
        · exact absurd rfl e
        · exact h
      have := findD_int x l (k + 1) h'
      rw [if_neg (by simpa using e), this, List.idxOf_cons, beq_eq_false_iff_ne.mpr e, cond_false]
      congr 1; omega
/-! ### loops -/
theorem forGo_ex {f : D → S → Option Rs} (I : Nat → S → Prop) : ∀ (xs : List D) (k : Nat), (∀ i x s, xs[i]? = some x → I (k + i) s → ∃ s', f x s = some (.nx s') ∧ I (k + i + 1) s') → ∀ s, I k s → ∃ s', forGo f xs s = some (.nx s') ∧ I (k + xs.length) s'
  | [], k, _, s, h => ⟨s, rfl, h⟩
  | x :: xs, k, hf, s, h => by
    obtain ⟨s1, e1, h1⟩ := hf 0 x s rfl h
    obtain ⟨s2, e2, h2⟩ := forGo_ex I xs (k + 1) (fun i y s hy hi => by
      have := hf (i + 1) y s (by simpa using hy) (by rw [show k + (i + 1) = k + 1 + i by omega]; exact hi)
      rw [show k + (i + 1) + 1 = k + 1 + i + 1 by omega] at this
      exact this) s1 h1
    refine ⟨s2, ?_, by rw [List.length_cons, show k + (xs.length + 1) = k + 1 + xs.length by omega]; exact h2⟩
    simp only [forGo, e1, sthn, e2]
theorem whil_t {c : M D} {f : S → Option Rs} {n : Nat} {s s1 : S} (h : c s = some (.val (.bl true) s1)) : whilGo c f (n + 1) s = sthn (f s1) (whilGo c f n) := by
  simp only [whilGo, h, thn]
theorem whil_f {c : M D} {f : S → Option Rs} {n : Nat} {s s1 : S} (h : c s = some (.val (.bl false) s1)) : whilGo c f (n + 1) s = some (.nx s1) := by
  simp only [whilGo, h, thn]
theorem callF_ret {F : Fn} {sl : List Nat} {ds outs : List D} {d : D} {s : S} {os' : List Ob} {sl' : List (Option D)} (h : F.run ds s.os = some (.ret d outs os')) (p : putB sl outs s.sl = some sl') : callF F sl ds s = some (.val d ⟨sl', os'⟩) := by
  simp only [callF, h, p]
theorem shal_own {ds : List D} : shal (.lst .own ds) = .lst .own (fzL ds) := rfl
theorem shal_fz {ds : List D} : shal (.lst .fz ds) = .lst .fz (fzL ds) := rfl
theorem shal_ro {ds : List D} : shal (.lst .ro ds) = fz (.lst .ro ds) := rfl
theorem shal_int {i : Int} : shal (.int i) = .int i := rfl
theorem shal_bl {i : Bool} : shal (.bl i) = .bl i := rfl
theorem shal_str {i : List Nat} : shal (.str i) = .str i := rfl
theorem shal_non : shal .non = .non := rfl
theorem shal_tup {ds : List D} : shal (.tup ds) = .tup (fzL ds) := rfl
end Den
namespace Den
open PySem PySem.Spec L2
/-! ### the text -/
def topS (i : Nat) : Stmt := PySem.Challenge.pw_oneair_k15_whole_without_idle_asks.main.body.getD i (.Pass ⟨0, 0, 0, 0⟩)
def b_need_many : Ts := (.cons (.ife (.not (.chain .le .le (.cst (.int 1)) (.var 0) (.glo "MOST_STATIONS")))
  (.cons .bad
  .nil)
  .nil)
  .nil)
def d_need_many : Df := ⟨"need_many", ["many"], ["many"], [.val], b_need_many, false⟩
theorem c_need_many : (chkSs ⟨d_need_many.N, defScope (topS 6), prOf d_need_many.io, none, d_need_many.lm⟩ b_need_many (defBody (topS 6)) && scB d_need_many.N d_need_many.ps (defScope (topS 6))) = true := by decide +kernel
def b_need_most : Ts := (.cons (.expr (.cal "need_many" (.cons (.var 0) .nil)))
  (.cons (.ife (.not (.chain .le .le (.cst (.int 1)) (.var 1) (.var 0)))
  (.cons .bad
  .nil)
  .nil)
  .nil))
def d_need_most : Df := ⟨"need_most", ["many", "most"], ["many", "most"], [.val, .val], b_need_most, false⟩
theorem c_need_most : (chkSs ⟨d_need_most.N, defScope (topS 7), prOf d_need_most.io, none, d_need_most.lm⟩ b_need_most (defBody (topS 7)) && scB d_need_most.N d_need_most.ps (defScope (topS 7))) = true := by decide +kernel
def lb_all_sets_0 : Ts := (.cons (.set (.nm 2) (.op2 .add (.var 2) (.lc [4] (.nm 4) (.seq (.var 2)) (.yes (.op2 .lt (.bi .len (.cons (.var 4) .nil)) (.var 1))) (.op2 .add (.var 4) (.tup (.cons (.var 3) .nil))))))
  .nil)
def b_all_sets : Ts := (.cons (.set (.nm 2) (.lst (.cons (.tup .nil) .nil)))
  (.cons (.forr (.nm 3) (.rng1 (.var 0)) lb_all_sets_0)
  (.cons (.ret (.srtKey (.slc (.var 2) (.yes (.cst (.int 1))) .no)))
  .nil)))
def d_all_sets : Df := ⟨"all_sets", ["many", "most", "found", "number", "some"], ["many", "most"], [.val, .val], b_all_sets, true⟩
theorem c_all_sets : (chkSs ⟨d_all_sets.N, defScope (topS 8), prOf d_all_sets.io, none, d_all_sets.lm⟩ b_all_sets (defBody (topS 8)) && scB d_all_sets.N d_all_sets.ps (defScope (topS 8))) = true := by decide +kernel
def b_parts_of : Ts := (.cons (.ret (.ite (.op2 .eq (.var 0) (.glo "END")) (.lst .nil) (.op2 .add (.op2 .add (.lst (.cons (.idx (.var 0) (.cst (.int 2))) .nil)) (.bi .list1 (.cons (.idx (.var 0) (.cst (.int 3))) .nil))) (.lst (.cons (.idx (.var 0) (.cst (.int 4))) .nil)))))
  .nil)
def d_parts_of : Df := ⟨"parts_of", ["plan"], ["plan"], [.val], b_parts_of, false⟩
theorem c_parts_of : (chkSs ⟨d_parts_of.N, defScope (topS 12), prOf d_parts_of.io, none, d_parts_of.lm⟩ b_parts_of (defBody (topS 12)) && scB d_parts_of.N d_parts_of.ps (defScope (topS 12))) = true := by decide +kernel
def b_deepness : Ts := (.cons (.ret (.ite (.op2 .eq (.var 0) (.glo "END")) (.cst (.int 0)) (.op2 .add (.cst (.int 1)) (.bi .maxL (.cons (.lc [1] (.nm 1) (.seq (.cal "parts_of" (.cons (.var 0) .nil))) .no (.cal "deepness" (.cons (.var 1) .nil))) .nil)))))
  .nil)
def d_deepness : Df := ⟨"deepness", ["plan", "part"], ["plan"], [.val], b_deepness, false⟩
theorem c_deepness : (chkSs ⟨d_deepness.N, defScope (topS 13), prOf d_deepness.io, none, d_deepness.lm⟩ b_deepness (defBody (topS 13)) && scB d_deepness.N d_deepness.ps (defScope (topS 13))) = true := by decide +kernel
def b_are_numbers : Ts := (.cons (.ife (.or (.op2 .eq (.bi .len (.cons (.var 0) .nil)) (.cst (.int 0))) (.op2 .ne (.bi .list1 (.cons (.var 0) .nil)) (.srtSet (.var 0))))
  (.cons (.ret (.cst (.bl false)))
  .nil)
  .nil)
  (.cons (.ret (.and (.op2 .le (.cst (.int 0)) (.idx (.var 0) (.cst (.int 0)))) (.op2 .lt (.idx (.var 0) (.neg (.cst (.int 1)))) (.var 1))))
  .nil))
def d_are_numbers : Df := ⟨"are_numbers", ["numbers", "many"], ["numbers", "many"], [.val, .val], b_are_numbers, false⟩
theorem c_are_numbers : (chkSs ⟨d_are_numbers.N, defScope (topS 14), prOf d_are_numbers.io, none, d_are_numbers.lm⟩ b_are_numbers (defBody (topS 14)) && scB d_are_numbers.N d_are_numbers.ps (defScope (topS 14))) = true := by decide +kernel
def lb_fault_of_0 : Ts := (.cons (.set (.nm 3) (.cal "fault_of" (.cons (.var 2) (.cons (.var 1) .nil))))
  (.cons (.ife (.notN (.var 3))
  (.cons (.ret (.mv 3))
  .nil)
  .nil)
  .nil))
def b_fault_of : Ts := (.cons (.ife (.op2 .eq (.var 0) (.glo "END"))
  (.cons (.ret (.cst .non))
  .nil)
  .nil)
  (.cons (.ife (.or (.op2 .ne (.idx (.var 0) (.cst (.int 0))) (.cst (.str [97, 115, 107]))) (.op2 .ne (.bi .len (.cons (.var 0) .nil)) (.cst (.int 5))))
  (.cons (.ret (.cst (.str [119, 111, 114, 100])))
  .nil)
  .nil)
  (.cons (.ife (.not (.cal "are_numbers" (.cons (.idx (.var 0) (.cst (.int 1))) (.cons (.var 1) .nil))))
  (.cons (.ret (.cst (.str [110, 117, 109, 98, 101, 114, 115])))
  .nil)
  .nil)
  (.cons (.ife (.op2 .ne (.bi .len (.cons (.idx (.var 0) (.cst (.int 3))) .nil)) (.bi .len (.cons (.idx (.var 0) (.cst (.int 1))) .nil)))
  (.cons (.ret (.cst (.str [112, 108, 97, 110, 115])))
  .nil)
  .nil)
  (.cons (.forr (.nm 2) (.seq (.cal "parts_of" (.cons (.var 0) .nil))) lb_fault_of_0)
  (.cons (.ret (.cst .non))
  .nil))))))
def d_fault_of : Df := ⟨"fault_of", ["plan", "many", "part", "why"], ["plan", "many"], [.val, .val], b_fault_of, false⟩
theorem c_fault_of : (chkSs ⟨d_fault_of.N, defScope (topS 15), prOf d_fault_of.io, none, d_fault_of.lm⟩ b_fault_of (defBody (topS 15)) && scB d_fault_of.N d_fault_of.ps (defScope (topS 15))) = true := by decide +kernel
def b_need_plan : Ts := (.cons (.expr (.cal "need_many" (.cons (.var 1) .nil)))
  (.cons (.set (.nm 2) (.cal "fault_of" (.cons (.var 0) (.cons (.var 1) .nil))))
  (.cons (.ife (.notN (.var 2))
  (.cons .bad
  .nil)
  .nil)
  (.cons (.ife (.op2 .gt (.cal "deepness" (.cons (.var 0) .nil)) (.glo "MOST_DEEP"))
  (.cons .bad
  .nil)
  .nil)
  .nil))))
def d_need_plan : Df := ⟨"need_plan", ["plan", "many", "why"], ["plan", "many"], [.val, .val], b_need_plan, false⟩
theorem c_need_plan : (chkSs ⟨d_need_plan.N, defScope (topS 16), prOf d_need_plan.io, none, d_need_plan.lm⟩ b_need_plan (defBody (topS 16)) && scB d_need_plan.N d_need_plan.ps (defScope (topS 16))) = true := by decide +kernel
def b_step : Ts := (.cons (.set (.nm 2) (.lc [3] (.nm 3) (.seq (.idx (.var 0) (.cst (.int 1)))) (.yes (.op2 .isin (.var 3) (.var 1))) (.var 3)))
  (.cons (.ife (.op2 .eq (.var 2) (.lst .nil))
  (.cons (.ret (.tup (.cons (.idx (.var 0) (.cst (.int 2))) (.cons (.var 1) .nil))))
  .nil)
  .nil)
  (.cons (.ife (.op2 .gt (.bi .len (.cons (.var 2) .nil)) (.cst (.int 1)))
  (.cons (.ret (.tup (.cons (.idx (.var 0) (.cst (.int 4))) (.cons (.var 1) .nil))))
  .nil)
  .nil)
  (.cons (.set (.nm 4) (.bi .tuple1 (.cons (.lc [3] (.nm 3) (.seq (.var 1)) (.yes (.op2 .ne (.var 3) (.idx (.var 2) (.cst (.int 0))))) (.var 3)) .nil)))
  (.cons (.ret (.tup (.cons (.idx (.idx (.var 0) (.cst (.int 3))) (.mth .lindex (.bi .list1 (.cons (.idx (.var 0) (.cst (.int 1))) .nil)) (.idx (.var 2) (.cst (.int 0))))) (.cons (.var 4) .nil))))
  .nil)))))
def d_step : Df := ⟨"step", ["plan", "left", "speakers", "number", "rest"], ["plan", "left"], [.val, .val], b_step, false⟩
theorem c_step : (chkSs ⟨d_step.N, defScope (topS 17), prOf d_step.io, none, d_step.lm⟩ b_step (defBody (topS 17)) && scB d_step.N d_step.ps (defScope (topS 17))) = true := by decide +kernel
def lc_followed_0 : C := (.op2 .ne (.var 0) (.glo "END"))
def lb_followed_0 : Ts := (.cons (.set (.tp [(.nm 0), (.nm 3)]) (.cal "step" (.cons (.var 0) (.cons (.var 3) .nil))))
  (.cons (.aug 2 (.cst (.int 1)))
  .nil))
def b_followed : Ts := (.cons (.set (.nm 2) (.cst (.int 0)))
  (.cons (.set (.nm 3) (.var 1))
  (.cons (.whil 1000000 lc_followed_0 lb_followed_0)
  (.cons (.ret (.tup (.cons (.var 2) (.cons (.var 3) .nil))))
  .nil))))
def d_followed : Df := ⟨"followed", ["plan", "some", "many", "left"], ["plan", "some"], [.val, .val], b_followed, false⟩
theorem c_followed : (chkSs ⟨d_followed.N, defScope (topS 18), prOf d_followed.io, none, d_followed.lm⟩ b_followed (defBody (topS 18)) && scB d_followed.N d_followed.ps (defScope (topS 18))) = true := by decide +kernel
def b_who : Ts := (.cons (.ret (.op2 .add (.lst (.cons (.tup .nil) .nil)) (.cal "all_sets" (.cons (.var 0) (.cons (.var 1) .nil)))))
  .nil)
def d_who : Df := ⟨"who", ["many", "most"], ["many", "most"], [.val, .val], b_who, false⟩
theorem c_who : (chkSs ⟨d_who.N, defScope (topS 19), prOf d_who.io, none, d_who.lm⟩ b_who (defBody (topS 19)) && scB d_who.N d_who.ps (defScope (topS 19))) = true := by decide +kernel
def lb_judged_0 : Ts := (.cons (.set (.tp [(.nm 5), (.nm 6)]) (.cal "followed" (.cons (.var 0) (.cons (.var 4) .nil))))
  (.cons (.ife (.op2 .ne (.var 6) (.tup .nil))
  (.cons (.ret (.tup (.cons (.cst (.str [109, 105, 115, 115, 101, 100])) (.cons (.var 4) (.cons (.var 6) .nil)))))
  .nil)
  .nil)
  (.cons (.ife (.op2 .gt (.var 5) (.idx (.var 3) (.cst (.int 1))))
  (.cons (.set (.nm 3) (.tup (.cons (.cst (.str [104, 101, 97, 114, 100])) (.cons (.var 5) (.cons (.var 4) .nil)))))
  .nil)
  .nil)
  .nil)))
def b_judged : Ts := (.cons (.expr (.cal "need_most" (.cons (.var 1) (.cons (.var 2) .nil))))
  (.cons (.expr (.cal "need_plan" (.cons (.var 0) (.cons (.var 1) .nil))))
  (.cons (.set (.nm 3) (.tup (.cons (.cst (.str [104, 101, 97, 114, 100])) (.cons (.cst (.int 0)) (.cons (.tup .nil) .nil)))))
  (.cons (.forr (.nm 4) (.seq (.cal "who" (.cons (.var 1) (.cons (.var 2) .nil)))) lb_judged_0)
  (.cons (.ret (.mv 3))
  .nil)))))
def d_judged : Df := ⟨"judged", ["plan", "many", "most", "found", "some", "asks", "left"], ["plan", "many", "most"], [.val, .val, .val], b_judged, false⟩
theorem c_judged : (chkSs ⟨d_judged.N, defScope (topS 20), prOf d_judged.io, none, d_judged.lm⟩ b_judged (defBody (topS 20)) && scB d_judged.N d_judged.ps (defScope (topS 20))) = true := by decide +kernel
def lb_pruned_0 : Ts := (.cons (.set (.nm 4) (.lc [6] (.nm 6) (.seq (.idx (.var 0) (.cst (.int 1)))) (.yes (.op2 .isin (.var 6) (.var 3))) (.var 6)))
  (.cons (.set (.nm 5) (.ktup (.cons (.bi .min2 (.cons (.cst (.int 2)) (.cons (.bi .len (.cons (.var 4) .nil)) .nil))) (.cons (.ite (.op2 .eq (.bi .len (.cons (.var 4) .nil)) (.cst (.int 1))) (.idx (.var 4) (.cst (.int 0))) (.cst (.int 0))) .nil))))
  (.cons (.dset 2 (.var 5) (.op2 .add (.dget 2 (.var 5) (.lst .nil)) (.lst (.cons (.idx (.cal "step" (.cons (.var 0) (.cons (.var 3) .nil))) (.cst (.int 1))) .nil))))
  .nil)))
def b_pruned : Ts := (.cons (.ife (.or (.op2 .eq (.var 0) (.glo "END")) (.op2 .eq (.var 1) (.lst .nil)))
  (.cons (.ret (.glo "END"))
  .nil)
  .nil)
  (.cons (.set (.nm 2) (.dnew true))
  (.cons (.forr (.nm 3) (.seq (.var 1)) lb_pruned_0)
  (.cons (.ife (.dlEq 2 [[0, 0]])
  (.cons (.ret (.cal "pruned" (.cons (.idx (.var 0) (.cst (.int 2))) (.cons (.didx 2 (.ktup (.cons (.cst (.int 0)) (.cons (.cst (.int 0)) .nil)))) .nil))))
  .nil)
  .nil)
  (.cons (.ife (.dlEq 2 [[2, 0]])
  (.cons (.ret (.cal "pruned" (.cons (.idx (.var 0) (.cst (.int 4))) (.cons (.didx 2 (.ktup (.cons (.cst (.int 2)) (.cons (.cst (.int 0)) .nil)))) .nil))))
  .nil)
  .nil)
  (.cons (.set (.nm 7) (.bi .tuple1 (.cons (.lc [6, 8] (.tp [(.nm 6), (.nm 8)]) (.zip (.cons (.idx (.var 0) (.cst (.int 1))) (.cons (.idx (.var 0) (.cst (.int 3))) .nil))) .no (.cal "pruned" (.cons (.var 8) (.cons (.dget 2 (.ktup (.cons (.cst (.int 1)) (.cons (.var 6) .nil))) (.lst .nil)) .nil)))) .nil)))
  (.cons (.set (.nm 9) (.cal "pruned" (.cons (.idx (.var 0) (.cst (.int 2))) (.cons (.dget 2 (.ktup (.cons (.cst (.int 0)) (.cons (.cst (.int 0)) .nil))) (.lst .nil)) .nil))))
  (.cons (.ret (.tup (.cons (.cst (.str [97, 115, 107])) (.cons (.idx (.var 0) (.cst (.int 1))) (.cons (.var 9) (.cons (.var 7) (.cons (.cal "pruned" (.cons (.idx (.var 0) (.cst (.int 4))) (.cons (.dget 2 (.ktup (.cons (.cst (.int 2)) (.cons (.cst (.int 0)) .nil))) (.lst .nil)) .nil))) .nil)))))))
  .nil))))))))
def d_pruned : Df := ⟨"pruned", ["plan", "lefts", "behind", "left", "speakers", "key", "number", "heards", "part", "silent"], ["plan", "lefts"], [.val, .val], b_pruned, false⟩
theorem c_pruned : (chkSs ⟨d_pruned.N, defScope (topS 21), prOf d_pruned.io, none, d_pruned.lm⟩ b_pruned (defBody (topS 21)) && scB d_pruned.N d_pruned.ps (defScope (topS 21))) = true := by decide +kernel
def b_trimmed : Ts := (.cons (.expr (.cal "need_most" (.cons (.var 1) (.cons (.var 2) .nil))))
  (.cons (.expr (.cal "need_plan" (.cons (.var 0) (.cons (.var 1) .nil))))
  (.cons (.ret (.cal "pruned" (.cons (.var 0) (.cons (.cal "who" (.cons (.var 1) (.cons (.var 2) .nil))) .nil))))
  .nil)))
def d_trimmed : Df := ⟨"trimmed", ["plan", "many", "most"], ["plan", "many", "most"], [.val, .val, .val], b_trimmed, false⟩
theorem c_trimmed : (chkSs ⟨d_trimmed.N, defScope (topS 22), prOf d_trimmed.io, none, d_trimmed.lm⟩ b_trimmed (defBody (topS 22)) && scB d_trimmed.N d_trimmed.ps (defScope (topS 22))) = true := by decide +kernel
def lb__law_dice_0 : Ts := (.cons (.set (.nm 2) (.op2 .mod (.op2 .add (.op2 .mul (.var 2) (.cst (.int 31))) (.bi .abs (.cons (.var 3) .nil))) (.cst (.int 2147483647))))
  .nil)
def b__law_dice : Ts := (.cons (.set (.nm 2) (.var 1))
  (.cons (.forr (.nm 3) (.seq (.var 0)) lb__law_dice_0)
  (.cons (.ret (.op2 .add (.lst (.cons (.var 2) (.cons (.cst (.int 0)) .nil))) (.lc [3] (.nm 3) (.seq (.var 0)) (.yes (.op2 .ge (.var 3) (.op2 .pow (.cst (.int 10)) (.cst (.int 18))))) (.var 3))))
  .nil)))
def d__law_dice : Df := ⟨"_law_dice", ["_law_script", "_law_k", "_law_found", "_law_cell"], ["_law_script", "_law_k"], [.val, .val], b__law_dice, false⟩
theorem c__law_dice : (chkSs ⟨d__law_dice.N, defScope (topS 24), prOf d__law_dice.io, none, d__law_dice.lm⟩ b__law_dice (defBody (topS 24)) && scB d__law_dice.N d__law_dice.ps (defScope (topS 24))) = true := by decide +kernel
def b__law_off : Ts := (.cons (.ife (.and (.op2 .eq (.idx (.var 0) (.cst (.int 1))) (.cst (.int 0))) (.op2 .gt (.bi .len (.cons (.var 0) .nil)) (.cst (.int 2))))
  (.cons (.seti 0 (.cst (.int 1)) (.mut .pop1 0 (.cons (.cst (.int 2)) .nil)))
  .nil)
  .nil)
  (.cons (.ife (.op2 .gt (.idx (.var 0) (.cst (.int 1))) (.cst (.int 0)))
  (.cons (.set (.nm 2) (.op2 .mod (.idx (.var 0) (.cst (.int 1))) (.var 1)))
  (.cons (.seti 0 (.cst (.int 1)) (.op2 .fdiv (.idx (.var 0) (.cst (.int 1))) (.var 1)))
  (.cons (.ret (.mv 2))
  .nil)))
  .nil)
  (.cons (.seti 0 (.cst (.int 0)) (.op2 .mod (.op2 .add (.op2 .mul (.idx (.var 0) (.cst (.int 0))) (.cst (.int 48271))) (.cst (.int 11))) (.cst (.int 2147483647))))
  (.cons (.ret (.op2 .mod (.op2 .fdiv (.idx (.var 0) (.cst (.int 0))) (.cst (.int 64))) (.var 1)))
  .nil))))
def d__law_off : Df := ⟨"_law_off", ["_law_d", "_law_most", "_law_found"], ["_law_d", "_law_most"], [.io, .val], b__law_off, false⟩
theorem c__law_off : (chkSs ⟨d__law_off.N, defScope (topS 25), prOf d__law_off.io, none, d__law_off.lm⟩ b__law_off (defBody (topS 25)) && scB d__law_off.N d__law_off.ps (defScope (topS 25))) = true := by decide +kernel
def b__law_alike : Ts := (.cons (.ife (.isN (.var 1))
  (.cons (.ret (.isN (.var 0)))
  .nil)
  .nil)
  (.cons (.ife (.isi "bool" (.var 1))
  (.cons (.ret (.and (.isi "bool" (.var 0)) (.op2 .eq (.var 0) (.var 1))))
  .nil)
  .nil)
  (.cons (.ife (.isi "int" (.var 1))
  (.cons (.ret (.and (.isi "int" (.var 0)) (.and (.not (.isi "bool" (.var 0))) (.op2 .eq (.var 0) (.var 1)))))
  .nil)
  .nil)
  (.cons (.ife (.isi "str" (.var 1))
  (.cons (.ret (.and (.isi "str" (.var 0)) (.op2 .eq (.var 0) (.var 1))))
  .nil)
  .nil)
  (.cons (.ife (.isi "dict" (.var 1))
  (.cons (.ife (.or (.not (.isi "dict" (.var 0))) (.op2 .ne (.bi .len (.cons (.var 0) .nil)) (.bi .len (.cons (.var 1) .nil))))
  (.cons (.ret (.cst (.bl false)))
  .nil)
  .nil)
  (.cons (.ret (.bi .all1 (.cons (.lc [2] (.nm 2) (.seq (.var 1)) .no (.and (.op2 .isin (.var 2) (.var 0)) (.cal "_law_alike" (.cons (.idx (.var 0) (.var 2)) (.cons (.idx (.var 1) (.var 2)) .nil))))) .nil)))
  .nil))
  .nil)
  (.cons (.ife (.or (.op2 .ne (.isi "tuple" (.var 1)) (.isi "tuple" (.var 0))) (.op2 .ne (.isi "list" (.var 1)) (.isi "list" (.var 0))))
  (.cons (.ret (.cst (.bl false)))
  .nil)
  .nil)
  (.cons (.ife (.op2 .ne (.bi .len (.cons (.var 0) .nil)) (.bi .len (.cons (.var 1) .nil)))
  (.cons (.ret (.cst (.bl false)))
  .nil)
  .nil)
  (.cons (.ret (.bi .all1 (.cons (.lc [3] (.nm 3) (.rng1 (.bi .len (.cons (.var 1) .nil))) .no (.cal "_law_alike" (.cons (.idx (.var 0) (.var 3)) (.cons (.idx (.var 1) (.var 3)) .nil)))) .nil)))
  .nil))))))))
def d__law_alike : Df := ⟨"_law_alike", ["_law_found", "_law_due", "_law_name", "_law_k"], ["_law_found", "_law_due"], [.val, .val], b__law_alike, false⟩
theorem c__law_alike : (chkSs ⟨d__law_alike.N, defScope (topS 26), prOf d__law_alike.io, none, d__law_alike.lm⟩ b__law_alike (defBody (topS 26)) && scB d__law_alike.N d__law_alike.ps (defScope (topS 26))) = true := by decide +kernel
def lc__law_mixed_0 : C := (.op2 .ne (.var 2) (.lst .nil))
def lb__law_mixed_0 : Ts := (.cons (.expr (.mut .append 3 (.cons (.mut .pop1 2 (.cons (.cal "_law_off" (.cons (.var 0) (.cons (.bi .len (.cons (.var 2) .nil)) .nil))) .nil)) .nil)))
  .nil)
def b__law_mixed : Ts := (.cons (.set (.nm 2) (.bi .list1 (.cons (.var 1) .nil)))
  (.cons (.set (.nm 3) (.lst .nil))
  (.cons (.whil 1000000 lc__law_mixed_0 lb__law_mixed_0)
  (.cons (.ret (.mv 3))
  .nil))))
def d__law_mixed : Df := ⟨"_law_mixed", ["_law_d", "_law_row", "_law_left", "_law_found"], ["_law_d", "_law_row"], [.io, .val], b__law_mixed, false⟩
theorem c__law_mixed : (chkSs ⟨d__law_mixed.N, defScope (topS 27), prOf d__law_mixed.io, none, d__law_mixed.lm⟩ b__law_mixed (defBody (topS 27)) && scB d__law_mixed.N d__law_mixed.ps (defScope (topS 27))) = true := by decide +kernel
def b__law_many : Ts := (.cons (.ret (.idx (.lst (.cons (.cst (.int 8)) (.cons (.cst (.int 5)) (.cons (.cst (.int 4)) (.cons (.op2 .add (.cst (.int 1)) (.cal "_law_off" (.cons (.var 0) (.cons (.cst (.int 8)) .nil)))) .nil))))) (.cal "_law_off" (.cons (.var 0) (.cons (.cst (.int 4)) .nil)))))
  .nil)
def d__law_many : Df := ⟨"_law_many", ["_law_d"], ["_law_d"], [.io], b__law_many, false⟩
theorem c__law_many : (chkSs ⟨d__law_many.N, defScope (topS 28), prOf d__law_many.io, none, d__law_many.lm⟩ b__law_many (defBody (topS 28)) && scB d__law_many.N d__law_many.ps (defScope (topS 28))) = true := by decide +kernel
def lb__law_sets_0 : Ts := (.cons (.set (.nm 2) (.op2 .add (.var 2) (.lc [4] (.nm 4) (.seq (.var 2)) .no (.op2 .add (.var 4) (.tup (.cons (.var 3) .nil))))))
  .nil)
def b__law_sets : Ts := (.cons (.set (.nm 2) (.lst (.cons (.tup .nil) .nil)))
  (.cons (.forr (.nm 3) (.rng1 (.var 0)) lb__law_sets_0)
  (.cons (.ret (.lc [5] (.nm 5) (.seq (.bi .sortedP (.cons (.lc [4] (.nm 4) (.seq (.var 2)) .no (.tup (.cons (.bi .len (.cons (.var 4) .nil)) (.cons (.var 4) .nil)))) .nil))) (.yes (.chain .le .le (.cst (.int 1)) (.idx (.var 5) (.cst (.int 0))) (.var 1))) (.idx (.var 5) (.cst (.int 1)))))
  .nil)))
def d__law_sets : Df := ⟨"_law_sets", ["_law_many_here", "_law_most", "_law_some", "_law_number", "_law_one", "_law_pair"], ["_law_many_here", "_law_most"], [.val, .val], b__law_sets, false⟩
theorem c__law_sets : (chkSs ⟨d__law_sets.N, defScope (topS 29), prOf d__law_sets.io, none, d__law_sets.lm⟩ b__law_sets (defBody (topS 29)) && scB d__law_sets.N d__law_sets.ps (defScope (topS 29))) = true := by decide +kernel
def b__law_plan : Ts := (.cons (.ife (.or (.op2 .eq (.var 2) (.cst (.int 0))) (.op2 .eq (.cal "_law_off" (.cons (.var 0) (.cons (.cst (.int 5)) .nil))) (.cst (.int 0))))
  (.cons (.ret (.tup (.cons (.cst (.str [101, 110, 100])) .nil)))
  .nil)
  .nil)
  (.cons (.set (.nm 3) (.lc [4] (.nm 4) (.rng1 (.var 1)) (.yes (.op2 .eq (.cal "_law_off" (.cons (.var 0) (.cons (.cst (.int 2)) .nil))) (.cst (.int 0)))) (.var 4)))
  (.cons (.ife (.op2 .eq (.var 3) (.lst .nil))
  (.cons (.set (.nm 3) (.lst (.cons (.cal "_law_off" (.cons (.var 0) (.cons (.var 1) .nil))) .nil)))
  .nil)
  .nil)
  (.cons (.ife (.op2 .gt (.bi .len (.cons (.var 3) .nil)) (.cst (.int 3)))
  (.cons (.set (.nm 3) (.slc (.var 3) .no (.yes (.op2 .add (.cst (.int 1)) (.cal "_law_off" (.cons (.var 0) (.cons (.cst (.int 3)) .nil)))))))
  .nil)
  .nil)
  (.cons (.set (.nm 5) (.bi .tuple1 (.cons (.lc [4] (.nm 4) (.seq (.var 3)) .no (.cal "_law_plan" (.cons (.var 0) (.cons (.var 1) (.cons (.op2 .sub (.var 2) (.cst (.int 1))) .nil))))) .nil)))
  (.cons (.ret (.tup (.cons (.cst (.str [97, 115, 107])) (.cons (.bi .tuple1 (.cons (.var 3) .nil)) (.cons (.cal "_law_plan" (.cons (.var 0) (.cons (.var 1) (.cons (.op2 .sub (.var 2) (.cst (.int 1))) .nil)))) (.cons (.var 5) (.cons (.cal "_law_plan" (.cons (.var 0) (.cons (.var 1) (.cons (.op2 .sub (.var 2) (.cst (.int 1))) .nil)))) .nil)))))))
  .nil))))))
def d__law_plan : Df := ⟨"_law_plan", ["_law_d", "_law_many_here", "_law_deep", "_law_numbers", "_law_number", "_law_heards"], ["_law_d", "_law_many_here", "_law_deep"], [.io, .val, .val], b__law_plan, false⟩
theorem c__law_plan : (chkSs ⟨d__law_plan.N, defScope (topS 30), prOf d__law_plan.io, none, d__law_plan.lm⟩ b__law_plan (defBody (topS 30)) && scB d__law_plan.N d__law_plan.ps (defScope (topS 30))) = true := by decide +kernel
def lb__law_each_0 : Ts := (.cons (.set (.nm 2) (.tup (.cons (.cst (.str [97, 115, 107])) (.cons (.tup (.cons (.var 3) .nil)) (.cons (.var 2) (.cons (.tup (.cons (.var 2) .nil)) (.cons (.tup (.cons (.cst (.str [101, 110, 100])) .nil)) .nil)))))))
  (.cons (.ife (.op2 .eq (.cal "_law_off" (.cons (.var 0) (.cons (.cst (.int 4)) .nil))) (.cst (.int 0)))
  (.cons (.set (.nm 4) (.bi .sorted1 (.cons (.lst (.cons (.var 3) (.cons (.idx (.var 1) (.cal "_law_off" (.cons (.var 0) (.cons (.bi .len (.cons (.var 1) .nil)) .nil)))) .nil))) .nil)))
  (.cons (.ife (.op2 .lt (.idx (.var 4) (.cst (.int 0))) (.idx (.var 4) (.cst (.int 1))))
  (.cons (.set (.nm 2) (.tup (.cons (.cst (.str [97, 115, 107])) (.cons (.bi .tuple1 (.cons (.var 4) .nil)) (.cons (.var 2) (.cons (.tup (.cons (.var 2) (.cons (.var 2) .nil))) (.cons (.var 2) .nil)))))))
  .nil)
  (.cons (.set (.nm 2) (.tup (.cons (.cst (.str [97, 115, 107])) (.cons (.tup (.cons (.var 3) .nil)) (.cons (.var 2) (.cons (.tup (.cons (.var 2) .nil)) (.cons (.var 2) .nil)))))))
  .nil))
  .nil))
  .nil)
  .nil))
def b__law_each : Ts := (.cons (.set (.nm 2) (.tup (.cons (.cst (.str [101, 110, 100])) .nil)))
  (.cons (.forr (.nm 3) (.rev (.var 1)) lb__law_each_0)
  (.cons (.ret (.mv 2))
  .nil)))
def d__law_each : Df := ⟨"_law_each", ["_law_d", "_law_numbers", "_law_plan_here", "_law_number", "_law_pair"], ["_law_d", "_law_numbers"], [.io, .val], b__law_each, false⟩
theorem c__law_each : (chkSs ⟨d__law_each.N, defScope (topS 31), prOf d__law_each.io, none, d__law_each.lm⟩ b__law_each (defBody (topS 31)) && scB d__law_each.N d__law_each.ps (defScope (topS 31))) = true := by decide +kernel
def b__law_groups : Ts := (.cons (.ife (.op2 .eq (.var 0) (.lst .nil))
  (.cons (.ret (.tup (.cons (.cst (.str [101, 110, 100])) .nil)))
  .nil)
  .nil)
  (.cons (.set (.nm 1) (.idx (.var 0) (.cst (.int 0))))
  (.cons (.set (.nm 2) (.cal "_law_groups" (.cons (.slc (.var 0) (.yes (.cst (.int 1))) .no) .nil)))
  (.cons (.set (.nm 3) (.op2 .sub (.bi .len (.cons (.var 1) .nil)) (.op2 .fdiv (.bi .len (.cons (.var 1) .nil)) (.cst (.int 2)))))
  (.cons (.set (.nm 4) (.tup (.cons (.cst (.str [101, 110, 100])) .nil)))
  (.cons (.ife (.op2 .gt (.bi .len (.cons (.var 1) .nil)) (.cst (.int 1)))
  (.cons (.set (.nm 4) (.cal "_law_groups" (.cons (.op2 .add (.lst (.cons (.slc (.var 1) .no (.yes (.var 3))) (.cons (.slc (.var 1) (.yes (.var 3)) .no) .nil))) (.slc (.var 0) (.yes (.cst (.int 1))) .no)) .nil)))
  .nil)
  .nil)
  (.cons (.ret (.tup (.cons (.cst (.str [97, 115, 107])) (.cons (.var 1) (.cons (.var 2) (.cons (.bi .tuple1 (.cons (.lc [5] (.nm 5) (.seq (.var 1)) .no (.var 2)) .nil)) (.cons (.var 4) .nil)))))))
  .nil)))))))
def d__law_groups : Df := ⟨"_law_groups", ["_law_groups_here", "_law_group", "_law_behind", "_law_cut", "_law_noise", "_law_number"], ["_law_groups_here"], [.val], b__law_groups, false⟩
theorem c__law_groups : (chkSs ⟨d__law_groups.N, defScope (topS 32), prOf d__law_groups.io, none, d__law_groups.lm⟩ b__law_groups (defBody (topS 32)) && scB d__law_groups.N d__law_groups.ps (defScope (topS 32))) = true := by decide +kernel
def b__law_some_plan : Ts := (.cons (.set (.nm 2) (.cal "_law_off" (.cons (.var 0) (.cons (.cst (.int 4)) .nil))))
  (.cons (.ife (.op2 .eq (.var 2) (.cst (.int 0)))
  (.cons (.ret (.cal "_law_plan" (.cons (.var 0) (.cons (.var 1) (.cons (.cst (.int 4)) .nil)))))
  .nil)
  .nil)
  (.cons (.set (.nm 3) (.cal "_law_mixed" (.cons (.var 0) (.cons (.lstRg (.var 1)) .nil))))
  (.cons (.ife (.op2 .eq (.var 2) (.cst (.int 1)))
  (.cons (.ret (.cal "_law_each" (.cons (.var 0) (.cons (.slc (.var 3) .no (.yes (.bi .min2 (.cons (.cst (.int 4)) (.cons (.op2 .add (.cst (.int 1)) (.cal "_law_off" (.cons (.var 0) (.cons (.var 1) .nil)))) .nil))))) .nil))))
  .nil)
  .nil)
  (.cons (.ife (.op2 .eq (.var 2) (.cst (.int 2)))
  (.cons (.ret (.ite (.op2 .lt (.var 1) (.cst (.int 6))) (.cal "_law_groups" (.cons (.lst (.cons (.tupRg (.var 1)) .nil)) .nil)) (.cal "_law_each" (.cons (.var 0) (.cons (.slc (.var 3) .no (.yes (.cst (.int 4)))) .nil)))))
  .nil)
  .nil)
  (.cons (.set (.nm 4) (.cal "_law_groups" (.cons (.lst (.cons (.bi .tuple1 (.cons (.bi .sorted1 (.cons (.slc (.var 3) .no (.yes (.cst (.int 3)))) .nil)) .nil)) .nil)) .nil)))
  (.cons (.set (.nm 5) (.idx (.var 3) (.cal "_law_off" (.cons (.var 0) (.cons (.var 1) .nil)))))
  (.cons (.ret (.tup (.cons (.cst (.str [97, 115, 107])) (.cons (.tup (.cons (.var 5) .nil)) (.cons (.var 4) (.cons (.tup (.cons (.cal "_law_plan" (.cons (.var 0) (.cons (.var 1) (.cons (.cst (.int 3)) .nil)))) .nil)) (.cons (.tup (.cons (.cst (.str [101, 110, 100])) .nil)) .nil)))))))
  .nil))))))))
def d__law_some_plan : Df := ⟨"_law_some_plan", ["_law_d", "_law_many_here", "_law_kind", "_law_numbers", "_law_plan_here", "_law_at"], ["_law_d", "_law_many_here"], [.io, .val], b__law_some_plan, false⟩
theorem c__law_some_plan : (chkSs ⟨d__law_some_plan.N, defScope (topS 33), prOf d__law_some_plan.io, none, d__law_some_plan.lm⟩ b__law_some_plan (defBody (topS 33)) && scB d__law_some_plan.N d__law_some_plan.ps (defScope (topS 33))) = true := by decide +kernel
def lc__law_followed_0 : C := (.op2 .ne (.idx (.var 0) (.cst (.int 0))) (.cst (.str [101, 110, 100])))
def lb__law_followed_0 : Ts := (.cons (.expr (.mut .append 2 (.cons (.tup (.cons (.var 0) (.cons (.bi .tuple1 (.cons (.var 3) .nil)) .nil))) .nil)))
  (.cons (.set (.nm 4) (.lc [5] (.nm 5) (.seq (.idx (.var 0) (.cst (.int 1)))) (.yes (.op2 .isin (.var 5) (.var 3))) (.var 5)))
  (.cons (.ife (.op2 .eq (.bi .len (.cons (.var 4) .nil)) (.cst (.int 1)))
  (.cons (.expr (.mut .remove 3 (.cons (.idx (.var 4) (.cst (.int 0))) .nil)))
  (.cons (.set (.nm 0) (.idx (.idx (.var 0) (.cst (.int 3))) (.mth .tindex (.idx (.var 0) (.cst (.int 1))) (.idx (.var 4) (.cst (.int 0))))))
  .nil))
  (.cons (.set (.nm 0) (.idx (.var 0) (.idx (.lst (.cons (.cst (.int 2)) (.cons (.cst (.int 4)) .nil))) (.bi .int1 (.cons (.op2 .ne (.var 4) (.lst .nil)) .nil)))))
  .nil))
  .nil)))
def b__law_followed : Ts := (.cons (.set (.nm 2) (.lst .nil))
  (.cons (.set (.nm 3) (.bi .list1 (.cons (.var 1) .nil)))
  (.cons (.whil 1000000 lc__law_followed_0 lb__law_followed_0)
  (.cons (.ret (.tup (.cons (.var 2) (.cons (.bi .tuple1 (.cons (.var 3) .nil)) .nil))))
  .nil))))
def d__law_followed : Df := ⟨"_law_followed", ["_law_plan_here", "_law_some", "_law_met", "_law_left", "_law_speak", "_law_number"], ["_law_plan_here", "_law_some"], [.val, .val], b__law_followed, false⟩
theorem c__law_followed : (chkSs ⟨d__law_followed.N, defScope (topS 34), prOf d__law_followed.io, none, d__law_followed.lm⟩ b__law_followed (defBody (topS 34)) && scB d__law_followed.N d__law_followed.ps (defScope (topS 34))) = true := by decide +kernel
def b__law_parts : Ts := (.cons (.ife (.op2 .eq (.idx (.var 0) (.cst (.int 0))) (.cst (.str [101, 110, 100])))
  (.cons (.ret (.cst (.int 0)))
  .nil)
  .nil)
  (.cons (.ret (.op2 .add (.cst (.int 1)) (.bi .sum1 (.cons (.lc [1] (.nm 1) (.seq (.op2 .add (.op2 .add (.tup (.cons (.idx (.var 0) (.cst (.int 2))) .nil)) (.idx (.var 0) (.cst (.int 3)))) (.tup (.cons (.idx (.var 0) (.cst (.int 4))) .nil)))) .no (.cal "_law_parts" (.cons (.var 1) .nil))) .nil))))
  .nil))
def d__law_parts : Df := ⟨"_law_parts", ["_law_plan_here", "_law_part"], ["_law_plan_here"], [.val], b__law_parts, false⟩
theorem c__law_parts : (chkSs ⟨d__law_parts.N, defScope (topS 35), prOf d__law_parts.io, none, d__law_parts.lm⟩ b__law_parts (defBody (topS 35)) && scB d__law_parts.N d__law_parts.ps (defScope (topS 35))) = true := by decide +kernel
def lb__law_trim_0 : Ts := (.cons (.ife (.op2 .eq (.bi .len (.cons (.idx (.var 4) (.var 7)) .nil)) (.bi .len (.cons (.var 1) .nil)))
  (.cons (.ret (.cal "_law_trim" (.cons (.idx (.var 0) (.idx (.lst (.cons (.cst (.int 2)) (.cons (.cst (.int 4)) .nil))) (.var 7))) (.cons (.var 1) .nil))))
  .nil)
  .nil)
  .nil)
def lb__law_trim_1 : Ts := (.cons (.set (.nm 6) (.lc [3] (.nm 3) (.seq (.idx (.var 0) (.cst (.int 1)))) (.yes (.op2 .isin (.var 3) (.var 5))) (.var 3)))
  (.cons (.ife (.op2 .eq (.bi .len (.cons (.var 6) .nil)) (.cst (.int 1)))
  (.cons (.expr (.mutA 2 (.mth .tindex (.idx (.var 0) (.cst (.int 1))) (.idx (.var 6) (.cst (.int 0)))) (.bi .tuple1 (.cons (.lc [3] (.nm 3) (.seq (.var 5)) (.yes (.op2 .ne (.var 3) (.idx (.var 6) (.cst (.int 0))))) (.var 3)) .nil))))
  .nil)
  (.cons (.expr (.mutA 4 (.bi .int1 (.cons (.op2 .ne (.var 6) (.lst .nil)) .nil)) (.var 5)))
  .nil))
  .nil))
def b__law_trim : Ts := (.cons (.ife (.or (.op2 .eq (.idx (.var 0) (.cst (.int 0))) (.cst (.str [101, 110, 100]))) (.op2 .eq (.var 1) (.lst .nil)))
  (.cons (.ret (.tup (.cons (.cst (.str [101, 110, 100])) .nil)))
  .nil)
  .nil)
  (.cons (.set (.nm 2) (.lc [3] (.nm 3) (.seq (.idx (.var 0) (.cst (.int 1)))) .no (.lst .nil)))
  (.cons (.set (.nm 4) (.lst (.cons (.lst .nil) (.cons (.lst .nil) .nil))))
  (.cons (.forr (.nm 5) (.seq (.var 1)) lb__law_trim_1)
  (.cons (.forr (.nm 7) (.rng1 (.cst (.int 2))) lb__law_trim_0)
  (.cons (.set (.nm 8) (.bi .tuple1 (.cons (.lc [7] (.nm 7) (.rng1 (.bi .len (.cons (.var 2) .nil))) .no (.cal "_law_trim" (.cons (.idx (.idx (.var 0) (.cst (.int 3))) (.var 7)) (.cons (.idx (.var 2) (.var 7)) .nil)))) .nil)))
  (.cons (.ret (.tup (.cons (.cst (.str [97, 115, 107])) (.cons (.idx (.var 0) (.cst (.int 1))) (.cons (.cal "_law_trim" (.cons (.idx (.var 0) (.cst (.int 2))) (.cons (.idx (.var 4) (.cst (.int 0))) .nil))) (.cons (.var 8) (.cons (.cal "_law_trim" (.cons (.idx (.var 0) (.cst (.int 4))) (.cons (.idx (.var 4) (.cst (.int 1))) .nil))) .nil)))))))
  .nil)))))))
def d__law_trim : Df := ⟨"_law_trim", ["_law_plan_here", "_law_lefts", "_law_heards", "_law_number", "_law_others", "_law_left", "_law_speak", "_law_k", "_law_some"], ["_law_plan_here", "_law_lefts"], [.val, .val], b__law_trim, false⟩
theorem c__law_trim : (chkSs ⟨d__law_trim.N, defScope (topS 36), prOf d__law_trim.io, none, d__law_trim.lm⟩ b__law_trim (defBody (topS 36)) && scB d__law_trim.N d__law_trim.ps (defScope (topS 36))) = true := by decide +kernel
def lb__law_idle_0 : Ts := (.cons (.expr (.mut .append 8 (.cons (.cal "_law_idle" (.cons (.idx (.idx (.var 0) (.cst (.int 3))) (.var 9)) (.cons (.dget 2 (.ktup (.cons (.cst (.int 1)) (.cons (.idx (.idx (.var 0) (.cst (.int 1))) (.var 9)) .nil))) (.lst .nil)) .nil))) .nil)))
  .nil)
def lb__law_idle_1 : Ts := (.cons (.set (.nm 4) (.lc [6] (.nm 6) (.seq (.idx (.var 0) (.cst (.int 1)))) (.yes (.op2 .isin (.var 6) (.var 3))) (.var 6)))
  (.cons (.set (.nm 5) (.ktup (.cons (.bi .min2 (.cons (.cst (.int 2)) (.cons (.bi .len (.cons (.var 4) .nil)) .nil))) (.cons (.ite (.op2 .eq (.bi .len (.cons (.var 4) .nil)) (.cst (.int 1))) (.idx (.var 4) (.cst (.int 0))) (.cst (.int 0))) .nil))))
  (.cons (.dset 2 (.var 5) (.op2 .add (.dget 2 (.var 5) (.lst .nil)) (.lst (.cons (.bi .tuple1 (.cons (.lc [7] (.nm 7) (.seq (.var 3)) (.yes (.or (.op2 .ne (.bi .len (.cons (.var 4) .nil)) (.cst (.int 1))) (.op2 .ne (.var 7) (.idx (.var 4) (.cst (.int 0)))))) (.var 7)) .nil)) .nil))))
  .nil)))
def b__law_idle : Ts := (.cons (.ife (.op2 .eq (.idx (.var 0) (.cst (.int 0))) (.cst (.str [101, 110, 100])))
  (.cons (.ret (.cst (.bl false)))
  .nil)
  .nil)
  (.cons (.set (.nm 2) (.dnew true))
  (.cons (.forr (.nm 3) (.seq (.var 1)) lb__law_idle_1)
  (.cons (.ife (.dlIn 2 [[], [[0, 0]], [[2, 0]]])
  (.cons (.ret (.cst (.bl true)))
  .nil)
  .nil)
  (.cons (.set (.nm 8) (.lst (.cons (.cal "_law_idle" (.cons (.idx (.var 0) (.cst (.int 2))) (.cons (.dget 2 (.ktup (.cons (.cst (.int 0)) (.cons (.cst (.int 0)) .nil))) (.lst .nil)) .nil))) (.cons (.cal "_law_idle" (.cons (.idx (.var 0) (.cst (.int 4))) (.cons (.dget 2 (.ktup (.cons (.cst (.int 2)) (.cons (.cst (.int 0)) .nil))) (.lst .nil)) .nil))) .nil))))
  (.cons (.forr (.nm 9) (.rng1 (.bi .len (.cons (.idx (.var 0) (.cst (.int 1))) .nil))) lb__law_idle_0)
  (.cons (.ret (.op2 .isin (.cst (.bl true)) (.var 8)))
  .nil)))))))
def d__law_idle : Df := ⟨"_law_idle", ["_law_plan_here", "_law_lefts", "_law_behind", "_law_left", "_law_speak", "_law_word", "_law_number", "_law_one", "_law_some", "_law_k"], ["_law_plan_here", "_law_lefts"], [.val, .val], b__law_idle, false⟩
theorem c__law_idle : (chkSs ⟨d__law_idle.N, defScope (topS 37), prOf d__law_idle.io, none, d__law_idle.lm⟩ b__law_idle (defBody (topS 37)) && scB d__law_idle.N d__law_idle.ps (defScope (topS 37))) = true := by decide +kernel
def lb_law_1 : Ts := (.cons (.set (.tp [(.nm 10), (.nm 11)]) (.cal "_law_followed" (.cons (.var 4) (.cons (.var 7) .nil))))
  (.cons (.set (.tp [(.nm 12), (.nm 13)]) (.cal "_law_followed" (.cons (.var 6) (.cons (.var 7) .nil))))
  (.cons (.ife (.or (.op2 .ne (.var 13) (.var 11)) (.op2 .gt (.bi .len (.cons (.var 12) .nil)) (.bi .len (.cons (.var 10) .nil))))
  (.cons (.ret (.cst (.bl false)))
  .nil)
  .nil)
  .nil)))
def lb_law_0 : Ts := (.cons (.set (.nm 4) (.cal "_law_some_plan" (.cons (.var 1) (.cons (.var 2) .nil))))
  (.cons (.set (.nm 5) (.op2 .add (.cst (.int 1)) (.cal "_law_off" (.cons (.var 1) (.cons (.var 2) .nil)))))
  (.cons (.ife (.op2 .eq (.op2 .mod (.op2 .fdiv (.idx (.var 1) (.cst (.int 0))) (.cst (.int 7))) (.cst (.int 5))) (.cst (.int 0)))
  (.cons (.set (.nm 4) (.cal "_law_groups" (.cons (.lst (.cons (.tupRg (.var 2)) .nil)) .nil)))
  (.cons (.set (.nm 5) (.bi .min2 (.cons (.var 5) (.cons (.cst (.int 3)) .nil))))
  .nil))
  .nil)
  (.cons (.ife (.and (.op2 .eq (.cal "_law_off" (.cons (.var 1) (.cons (.cst (.int 4)) .nil))) (.cst (.int 0))) (.op2 .lt (.cal "_law_parts" (.cons (.var 4) .nil)) (.cst (.int 300))))
  (.cons (.set (.nm 9) (.tupRg (.var 2)))
  (.cons (.set (.nm 4) (.tup (.cons (.cst (.str [97, 115, 107])) (.cons (.var 9) (.cons (.var 4) (.cons (.op2 .mul (.tup (.cons (.var 4) .nil)) (.var 2)) (.cons (.tup (.cons (.cst (.str [97, 115, 107])) (.cons (.var 9) (.cons (.tup (.cons (.cst (.str [101, 110, 100])) .nil)) (.cons (.op2 .mul (.tup (.cons (.tup (.cons (.cst (.str [101, 110, 100])) .nil)) .nil)) (.var 2)) (.cons (.var 4) .nil)))))) .nil)))))))
  .nil))
  .nil)
  (.cons (.set (.nm 6) (.cal "trimmed" (.cons (.var 4) (.cons (.var 2) (.cons (.var 5) .nil)))))
  (.cons (.ife (.not (.cal "_law_alike" (.cons (.var 6) (.cons (.cal "_law_trim" (.cons (.var 4) (.cons (.op2 .add (.lst (.cons (.tup .nil) .nil)) (.cal "_law_sets" (.cons (.var 2) (.cons (.var 5) .nil)))) .nil))) .nil))))
  (.cons (.ret (.cst (.bl false)))
  .nil)
  .nil)
  (.cons (.forr (.nm 7) (.seq (.op2 .add (.lst (.cons (.tup .nil) .nil)) (.cal "_law_sets" (.cons (.var 2) (.cons (.var 5) .nil))))) lb_law_1)
  (.cons (.ife (.or (.cal "_law_idle" (.cons (.var 6) (.cons (.op2 .add (.lst (.cons (.tup .nil) .nil)) (.cal "_law_sets" (.cons (.var 2) (.cons (.var 5) .nil)))) .nil))) (.op2 .gt (.cal "_law_parts" (.cons (.var 6) .nil)) (.cal "_law_parts" (.cons (.var 4) .nil))))
  (.cons (.ret (.cst (.bl false)))
  .nil)
  .nil)
  (.cons (.ife (.not (.cal "_law_alike" (.cons (.cal "trimmed" (.cons (.var 6) (.cons (.var 2) (.cons (.var 5) .nil)))) (.cons (.var 6) .nil))))
  (.cons (.ret (.cst (.bl false)))
  .nil)
  .nil)
  (.cons (.set (.nm 8) (.lst (.cons (.cal "judged" (.cons (.var 4) (.cons (.var 2) (.cons (.var 5) .nil)))) (.cons (.cal "judged" (.cons (.var 6) (.cons (.var 2) (.cons (.var 5) .nil)))) .nil))))
  (.cons (.ife (.or (.op2 .ne (.idx (.idx (.var 8) (.cst (.int 0))) (.cst (.int 0))) (.idx (.idx (.var 8) (.cst (.int 1))) (.cst (.int 0)))) (.and (.op2 .eq (.idx (.idx (.var 8) (.cst (.int 0))) (.cst (.int 0))) (.cst (.str [109, 105, 115, 115, 101, 100]))) (.op2 .ne (.idx (.var 8) (.cst (.int 0))) (.idx (.var 8) (.cst (.int 1))))))
  (.cons (.ret (.cst (.bl false)))
  .nil)
  .nil)
  .nil)))))))))))
def b_law : Ts := (.cons (.set (.nm 1) (.cal "_law_dice" (.cons (.var 0) (.cons (.cst (.int 0)) .nil))))
  (.cons (.set (.nm 2) (.cal "_law_many" (.cons (.var 1) .nil)))
  (.cons (.forr (.nm 3) (.rng1 (.cst (.int 2))) lb_law_0)
  (.cons (.ret (.cst (.bl true)))
  .nil))))
def d_law : Df := ⟨"law", ["_law_script", "_law_d", "_law_many_here", "_law_turn", "_law_plan_here", "_law_most", "_law_found", "_law_some", "_law_both", "_law_every", "_law_met", "_law_left", "_law_fewer", "_law_rest"], ["_law_script"], [.val], b_law, false⟩
theorem c_law : (chkSs ⟨d_law.N, defScope (topS 38), prOf d_law.io, none, d_law.lm⟩ b_law (defBody (topS 38)) && scB d_law.N d_law.ps (defScope (topS 38))) = true := by decide +kernel
def gloC : Str → Option D := fun x => if x = "MOST_STATIONS" then some (.int 8) else if x = "MOST_DEEP" then some (.int 20) else if x = "END" then some (.tup [(.str [101, 110, 100])]) else none
def defsC : List Df := [d_need_many, d_need_most, d_all_sets, d_parts_of, d_deepness, d_are_numbers, d_fault_of, d_need_plan, d_step, d_followed, d_who, d_judged, d_pruned, d_trimmed, d__law_dice, d__law_off, d__law_alike, d__law_mixed, d__law_many, d__law_sets, d__law_plan, d__law_each, d__law_groups, d__law_some_plan, d__law_followed, d__law_parts, d__law_trim, d__law_idle, d_law]
end Den
namespace Den
open PySem PySem.Spec L2
/-- the dice -/
def DOk (d : List Int) : Prop := ∃ a b rest, d = a :: b :: rest ∧ 0 ≤ a ∧ 0 ≤ b ∧ ∀ x ∈ rest, 0 < x
theorem off_lo (Γ : Tb) (a m : Int) (os : List Ob) (hm : 0 < m) :
    runB Γ 3 [.io, .val] b__law_off [.lst .own [.int a, .int 0], .int m] os = some (.ret (.int ((a * 48271 + 11) % 2147483647 / 64 % m)) [.lst .own [.int ((a * 48271 + 11) % 2147483647), .int 0]] os) := by
  simp [runB, b__law_off, execs, exec, ev, evPk, evFz, opd, isVar, hasV, fill1, fillP, asg, asgs, Den.view, rdV, mvV, setS, shal, fz, fzL, bnd, ret, lift, Den.thn, sthn, startS, idxD, opF, addD, mulD, modD, fdivD, cmpD, grd, isLst, setiM, outsOf, biF, lenF, small, hm, ixN]
theorem off_hi (Γ : Tb) (a b m : Int) (rest : List Int) (os : List Ob) (hm : 0 < m) (hm2 : m < 1073741824) (hb : 0 < b) :
    runB Γ 3 [.io, .val] b__law_off [.lst .own (.int a :: .int b :: rest.map .int), .int m] os = some (.ret (.int (b % m)) [.lst .own (.int a :: .int (b / m) :: rest.map .int)] os) := by
  have hb0 : b ≠ 0 := by omega
  have h1 : (1 : Int) < (rest.length : Int) + 1 + 1 := by omega
  simp [runB, b__law_off, execs, exec, ev, evPk, evFz, opd, isVar, hasV, fill1, fillP, asg, asgs, Den.view, rdV, mvV, setS, shal, fz, fzL, bnd, ret, lift, Den.thn, sthn, startS, idxD, opF, addD, mulD, modD, fdivD, cmpD, grd, isLst, setiM, outsOf, biF, lenF, small, hm, hm2, hb, hb0, ixN, h1]
theorem off_pop (Γ : Tb) (a c m : Int) (rest : List Int) (os : List Ob) (hm : 0 < m) (hm2 : m < 1073741824) (hc : 0 < c) :
    runB Γ 3 [.io, .val] b__law_off [.lst .own (.int a :: .int 0 :: .int c :: rest.map .int), .int m] os = some (.ret (.int (c % m)) [.lst .own (.int a :: .int (c / m) :: rest.map .int)] os) := by
  have h1 : (1 : Int) < (rest.length : Int) + 1 + 1 := by omega
  have h2 : (2 : Int) < (rest.length : Int) + 1 + 1 + 1 := by omega
  have h3 : 2 < rest.length + 1 + 1 + 1 := by omega
  simp [runB, b__law_off, execs, exec, ev, evPk, evFz, opd, isVar, hasV, fill1, fillP, asg, asgs, Den.view, rdV, mvV, setS, shal, fz, fzL, bnd, ret, lift, Den.thn, sthn, startS, idxD, opF, addD, mulD, modD, fdivD, cmpD, grd, isLst, setiM, outsOf, biF, lenF, small, hm, hm2, hc, ixN, h1, h2, h3, mutL, muF, smallR]
theorem r_off (Γ : Tb) {d : List Int} (hd : DOk d) (m : Int) (os : List Ob) (hm : 0 < m) (hm2 : m < 1073741824) :
    ∃ r d', runB Γ 3 [.io, .val] b__law_off [.lst .own (d.map .int), .int m] os = some (.ret (.int r) [.lst .own (d'.map .int)] os) ∧ 0 ≤ r ∧ r < m ∧ DOk d' := by
  obtain ⟨a, b, rest, rfl, ha, hb, hr⟩ := hd
  by_cases h0 : b = 0
  · subst h0
    cases rest with
    | nil => exact ⟨_, [_, 0], off_lo Γ a m os hm, Int.emod_nonneg _ (by omega), Int.emod_lt_of_pos _ hm, _, 0, [], rfl, Int.emod_nonneg _ (by omega), by omega, by simp⟩
    | cons c rest =>
      have hc := hr c List.mem_cons_self
      exact ⟨_, _ :: _ :: rest, off_pop Γ a c m rest os hm hm2 hc, Int.emod_nonneg _ (by omega), Int.emod_lt_of_pos _ hm, a, _, rest, rfl, ha, Int.ediv_nonneg (by omega) (by omega), fun x hx => hr x (List.mem_cons_of_mem _ hx)⟩
  · have hb1 : 0 < b := by omega
    exact ⟨_, _ :: _ :: rest, off_hi Γ a b m rest os hm hm2 hb1, Int.emod_nonneg _ (by omega), Int.emod_lt_of_pos _ hm, a, _, rest, rfl, ha, Int.ediv_nonneg hb (by omega), hr⟩
end Den
/-! Mb14: what the program's small defs compute. -/
namespace Den
open PySem PySem.Spec L2
abbrev TT (n : Nat) : Tb := tab gloC defsC n
variable {n : Nat} {os : List Ob}
theorem glo_many (n : Nat) : (TT n).glo "MOST_STATIONS" = some (.int 8) := by cases n <;> rfl
theorem glo_deep (n : Nat) : (TT n).glo "MOST_DEEP" = some (.int 20) := by cases n <;> rfl
theorem glo_end (n : Nat) : (TT n).glo "END" = some (.tup [.str [101, 110, 100]]) := by cases n <;> rfl
theorem s_need_many {m : Int} (h1 : 1 ≤ m) (h8 : m ≤ 8) : runB (TT n) 1 [.val] b_need_many [.int m] os = some (.ret .non [] os) := by
  unfold runB b_need_many startS
  simp [execs, exec, ev, evs, evc, evo, evIt, evOps, fillC, ioSl, putB, evPk, evFz, opd, isVar, hasV, fill1, fillP, asg, asgs, Den.view, rdV, mvV, setS, shal_own, shal_fz, shal_ro, shal_int, shal_bl, shal_str, shal_non, shal_tup, fz, fzL, fzO, bnd, ret, lift, Den.thn, sthn, idxD, opF, addD, subD, mulD, modD, fdivD, negD, notD, isNonD, cmpD, grd, isLst, setiM, biF, lenF, small, mutL, smallR, lim, flatD, glo_many, h1, h8, outsOf]
theorem fn_need_many : (TT (n + 1)).fn "need_many" = some ⟨[.val], runB (TT n) 1 [.val] b_need_many⟩ := rfl
theorem s_need_most {m k : Int} (h1 : 1 ≤ k) (hk : k ≤ m) (h8 : m ≤ 8) : runB (TT (n + 1)) 2 [.val, .val] b_need_most [.int m, .int k] os = some (.ret .non [] os) := by
  unfold runB b_need_most startS
  simp [execs, exec, ev, evs, evc, evo, evIt, evOps, fillC, ioSl, putB, evPk, evFz, opd, isVar, hasV, fill1, fillP, asg, asgs, Den.view, rdV, mvV, setS, shal_own, shal_fz, shal_ro, shal_int, shal_bl, shal_str, shal_non, shal_tup, fz, fzL, fzO, bnd, ret, lift, Den.thn, sthn, idxD, opF, addD, subD, mulD, modD, fdivD, negD, notD, isNonD, cmpD, grd, isLst, setiM, biF, lenF, small, mutL, smallR, lim, flatD, fn_need_many, callF, s_need_many (show (1 : Int) ≤ m by omega) h8, h1, hk, outsOf]
end Den
/-! Mc14: plans. -/
namespace Den
open PySem PySem.Spec L2
variable {n : Nat} {os : List Ob}
def endD : D := .tup [.str [101, 110, 100]]
def askD (ns : List Int) (si : D) (hs : List D) (no : D) : D := .tup [.str [97, 115, 107], .tup (ns.map .int), si, .tup hs, no]
/-- numbers that rise, each below m -/
def Rsg (m : Int) (ns : List Int) : Prop := ns ≠ [] ∧ ns.Pairwise (· < ·) ∧ ∀ x ∈ ns, 0 ≤ x ∧ x < m
/-- a sound plan, at most so deep -/
def VP (m : Int) : Nat → D → Prop
  | 0, p => p = endD
  | k + 1, p => p = endD ∨ ∃ ns si hs no, p = askD ns si hs no ∧ Rsg m ns ∧ hs.length = ns.length ∧ VP m k si ∧ (∀ h ∈ hs, VP m k h) ∧ VP m k no
theorem VP.end_ {m : Int} : ∀ {k : Nat}, VP m k endD
  | 0 => rfl
  | _ + 1 => .inl rfl
theorem VP.up {m : Int} : ∀ {k : Nat} {p : D}, VP m k p → VP m (k + 1) p
  | 0, p, h => .inl h
  | k + 1, p, h => by
    rcases h with h | ⟨ns, si, hs, no, e, r, l, h1, h2, h3⟩
    · exact .inl h
    · exact .inr ⟨ns, si, hs, no, e, r, l, h1.up, fun x hx => (h2 x hx).up, h3.up⟩
theorem VP.mono {m : Int} {k j : Nat} {p : D} (h : VP m k p) (l : k ≤ j) : VP m j p := by
  induction l with
  | refl => exact h
  | step _ ih => exact ih.up
theorem fzL_id : ∀ {ds : List D}, (∀ d ∈ ds, fz d = d) → fzL ds = ds
  | [], _ => rfl
  | d :: ds, h => by
    show fz d :: fzL ds = _
    rw [h d List.mem_cons_self, fzL_id fun x hx => h x (List.mem_cons_of_mem _ hx)]
theorem fz_end : fz endD = endD := rfl
theorem fz_ask {ns : List Int} {si : D} {hs : List D} {no : D} (h1 : fz si = si) (h2 : fzL hs = hs) (h3 : fz no = no) : fz (askD ns si hs no) = askD ns si hs no := by
  unfold askD
  simp only [fz, fzL, ints_fz, h1, h2, h3]
theorem VP.fz {m : Int} : ∀ {k : Nat} {p : D}, VP m k p → Den.fz p = p
  | 0, p, h => by rw [h]; rfl
  | k + 1, p, h => by
    rcases h with h | ⟨ns, si, hs, no, e, r, l, h1, h2, h3⟩
    · rw [h]; rfl
    · rw [e]; exact fz_ask h1.fz (fzL_id fun d hd => (h2 d hd).fz) h3.fz
theorem shp_end {k : Nat} : Shp (k + 1) endD := shp_tup fun x hx => by
  rw [List.mem_singleton.mp hx]; exact shp_str (by decide)
theorem shp_ask {k : Nat} {ns : List Int} {si : D} {hs : List D} {no : D} (h1 : Shp k si) (h2 : ∀ h ∈ hs, Shp k h) (h3 : Shp k no) : Shp (k + 2) (askD ns si hs no) := shp_tup fun x hx => by
  simp only [List.mem_cons, List.not_mem_nil, or_false] at hx
  rcases hx with rfl | rfl | rfl | rfl | rfl
  · exact shp_str (by decide)
  · exact shp_tupI
  · exact h1.mono (by omega)
  · exact shp_tup h2
  · exact h3.mono (by omega)
theorem VP.shp {m : Int} : ∀ {k : Nat} {p : D}, VP m k p → Shp (2 * k + 1) p
  | 0, p, h => by rw [h]; exact shp_end
  | k + 1, p, h => by
    rcases h with h | ⟨ns, si, hs, no, e, r, l, h1, h2, h3⟩
    · rw [h]; exact shp_end
    · rw [e]; exact (shp_ask h1.shp (fun d hd => (h2 d hd).shp) h3.shp).mono (by omega)
theorem eq_end_end : eqD endD (.tup [.str [101, 110, 100]]) = some true := by decide +kernel
theorem eq_ask_end {ns : List Int} {si : D} {hs : List D} {no : D} {k : Nat} (h : Shp k (askD ns si hs no)) (hk : k ≤ 64) : eqD (askD ns si hs no) (.tup [.str [101, 110, 100]]) = some false := by
  show eqD _ endD = _
  rw [eqD_of h (shp_end (k := 0))]
  simp only [askD, endD, toP, toPs, PyData.eqv, PyData.eqvAll, Bool.and_false]
theorem rsg_lt {m : Int} : ∀ {ns : List Int} {a : Int}, ns.Pairwise (· < ·) → (∀ x ∈ ns, a ≤ x ∧ x < m) → (ns.length : Int) ≤ m - a ∨ ns = []
  | [], _, _, _ => .inr rfl
  | x :: ns, a, h, hb => by
    obtain ⟨h1, h2⟩ := List.pairwise_cons.mp h
    have hx := hb x List.mem_cons_self
    rcases rsg_lt (a := x + 1) h2 (fun y hy => ⟨by have := h1 y hy; omega, (hb y (List.mem_cons_of_mem _ hy)).2⟩) with q | rfl
    · refine .inl ?_
      simp only [List.length_cons]
      omega
    · refine .inl ?_
      simp only [List.length_cons, List.length_nil]
      omega
theorem Rsg.len {m : Int} {ns : List Int} (r : Rsg m ns) : (ns.length : Int) ≤ m := by
  rcases rsg_lt (a := 0) r.2.1 r.2.2 with h | h
  · omega
  · exact absurd h r.1
theorem shal_end : shal endD = endD := rfl
theorem shal_ask {ns : List Int} {si : D} {hs : List D} {no : D} (h : fz (askD ns si hs no) = askD ns si hs no) : shal (askD ns si hs no) = askD ns si hs no := h
theorem VP.shal {m : Int} : ∀ {k : Nat} {p : D}, VP m k p → Den.shal p = p
  | 0, p, h => by rw [h]; rfl
  | k + 1, p, h => by
    have hz := VP.fz h
    rcases h with h' | ⟨ns, si, hs, no, e, r, l, h1, h2, h3⟩
    · rw [h']; rfl
    · rw [e] at hz ⊢; exact hz
/-! ### the parts of a plan -/
theorem s_parts_end : runB (TT n) 1 [.val] b_parts_of [endD] os = some (.ret (.lst .own []) [] os) := by
  unfold runB b_parts_of startS
  simp [execs, exec, ev, evs, evc, evo, evIt, evOps, fillC, ioSl, putB, evPk, evFz, opd, isVar, hasV, fill1, fillP, asg, asgs, Den.view, rdV, mvV, setS, shal_own, shal_fz, shal_ro, shal_int, shal_bl, shal_str, shal_non, shal_tup, fz, fzL, fzO, bnd, ret, lift, Den.thn, sthn, idxD, opF, addD, subD, mulD, modD, fdivD, negD, notD, isNonD, cmpD, grd, isLst, setiM, biF, lenF, small, mutL, smallR, lim, flatD, glo_end, endD, show eqD (.tup [.str [101, 110, 100]]) (.tup [.str [101, 110, 100]]) = some true from eq_end_end, outsOf]
theorem s_parts_ask {ns : List Int} {si : D} {hs : List D} {no : D} {k : Nat} (h : Shp k (askD ns si hs no)) (hk : k ≤ 64) (h1 : fz si = si) (h2 : fzL hs = hs) (h3 : fz no = no) (hl : hs.length ≤ 8) :
    runB (TT n) 1 [.val] b_parts_of [askD ns si hs no] os = some (.ret (.lst .own (si :: hs ++ [no])) [] os) := by
  have e := eq_ask_end h hk
  have f := fz_ask (ns := ns) h1 h2 h3
  unfold runB b_parts_of startS
  unfold askD at *
  have l1 : 1 + hs.length ≤ 1000000 := by omega
  have l2 : hs.length + 1 + 1 ≤ 1000000 := by omega
  simp [execs, exec, ev, evs, evc, evo, evIt, evOps, fillC, ioSl, putB, evPk, evFz, opd, isVar, hasV, fill1, fillP, asg, asgs, Den.view, rdV, mvV, setS, shal_own, shal_fz, shal_ro, shal_int, shal_bl, shal_str, shal_non, shal_tup, fz, fzL, fzO, bnd, ret, lift, Den.thn, sthn, idxD, opF, addD, subD, mulD, modD, fdivD, negD, notD, isNonD, cmpD, grd, isLst, setiM, biF, lenF, small, mutL, smallR, lim, flatD, glo_end, e, f, h1, h2, h3, addD, listF, l1, l2, outsOf, ints_fz]
theorem fn_parts_of : (TT (n + 1)).fn "parts_of" = some ⟨[.val], runB (TT n) 1 [.val] b_parts_of⟩ := rfl
end Den
/-! Md14: how deep a plan is, and that it has no fault. -/
namespace Den
open PySem PySem.Spec L2
variable {n : Nat} {os : List Ob}
/-- a comprehension that keeps each item -/
theorem lcGo_all {own : List Nat} {f : D → M (Option D)} (I : S → Prop) (P : D → D → Prop) : ∀ (xs acc : List D) (s : S), (∀ x ∈ xs, ∀ s, I s → ∃ d s', f x { s with sl := wipeD s.sl own } = some (.val (some d) s') ∧ I s' ∧ P x d) → I s → acc.length + xs.length ≤ lim →
    ∃ ds s', lcGo own f xs acc s = some (.val (acc ++ ds) s') ∧ I s' ∧ ds.length = xs.length ∧ ∀ d ∈ ds, ∃ x ∈ xs, P x d
  | [], acc, s, _, h, _ => ⟨[], s, by rw [List.append_nil]; rfl, h, rfl, fun d hd => by cases hd⟩
  | x :: xs, acc, s, hf, h, hl => by
    obtain ⟨d, s1, e1, h1, p1⟩ := hf x List.mem_cons_self s h
    rw [List.length_cons] at hl
    obtain ⟨ds, s2, e2, h2, l2, p2⟩ := lcGo_all I P xs (acc ++ [d]) s1 (fun y hy => hf y (List.mem_cons_of_mem _ hy)) h1 (by rw [List.length_append, List.length_singleton]; omega)
    refine ⟨d :: ds, s2, ?_, h2, by rw [List.length_cons, List.length_cons, l2], fun e he => ?_⟩
    · unfold lcGo
      rw [e1]
      dsimp only
      rw [if_pos (by omega), e2, List.append_assoc]
      rfl
    · rcases List.mem_cons.mp he with rfl | he
      · exact ⟨x, List.mem_cons_self, p1⟩
      · obtain ⟨y, hy, py⟩ := p2 e he
        exact ⟨y, List.mem_cons_of_mem _ hy, py⟩
theorem intsOf_ex {k : Int} : ∀ {ds : List D}, (∀ d ∈ ds, ∃ i, d = .int i ∧ 0 ≤ i ∧ i ≤ k) → ∃ is : List Int, ds = is.map .int ∧ ∀ i ∈ is, 0 ≤ i ∧ i ≤ k
  | [], _ => ⟨[], rfl, fun i hi => by cases hi⟩
  | d :: ds, h => by
    obtain ⟨i, rfl, h1⟩ := h d List.mem_cons_self
    obtain ⟨is, rfl, h2⟩ := intsOf_ex fun e he => h e (List.mem_cons_of_mem _ he)
    exact ⟨i :: is, rfl, fun j hj => (List.mem_cons.mp hj).elim (fun e => e ▸ h1) (h2 j)⟩
theorem maxI_le {k : Int} : ∀ {is : List Int} {m : Int}, 0 ≤ m → m ≤ k → (∀ i ∈ is, 0 ≤ i ∧ i ≤ k) → 0 ≤ maxI m is ∧ maxI m is ≤ k
  | [], m, h0, h1, _ => ⟨h0, h1⟩
  | x :: is, m, h0, h1, h => by
    have hx := h x List.mem_cons_self
    unfold maxI
    split
    · exact maxI_le hx.1 hx.2 fun i hi => h i (List.mem_cons_of_mem _ hi)
    · exact maxI_le h0 h1 fun i hi => h i (List.mem_cons_of_mem _ hi)
theorem fn_deepness : (TT (n + 1)).fn "deepness" = some ⟨[.val], runB (TT n) 2 [.val] b_deepness⟩ := rfl
theorem s_deep {m : Int} : ∀ (k n : Nat) {p : D}, VP m k p → m ≤ 8 → k ≤ 20 → k < n → ∃ d : Int, 0 ≤ d ∧ d ≤ k ∧ runB (TT n) 2 [.val] b_deepness [p] os = some (.ret (.int d) [] os) := by
  have hend : ∀ n, runB (TT n) 2 [.val] b_deepness [endD] os = some (.ret (.int 0) [] os) := fun n => by
    unfold runB b_deepness startS
    simp [execs, exec, ev, evs, evc, evo, evIt, evOps, fillC, ioSl, putB, evPk, evFz, opd, isVar, hasV, fill1, fillP, asg, asgs, Den.view, rdV, mvV, setS, shal_own, shal_fz, shal_ro, shal_int, shal_bl, shal_str, shal_non, shal_tup, fz, fzL, fzO, bnd, ret, lift, Den.thn, sthn, idxD, opF, addD, subD, mulD, modD, fdivD, negD, notD, isNonD, cmpD, grd, isLst, setiM, biF, lenF, small, mutL, smallR, lim, flatD, glo_end, endD, show eqD (.tup [.str [101, 110, 100]]) (.tup [.str [101, 110, 100]]) = some true from eq_end_end, outsOf]
  intro k
  induction k with
  | zero => intro n p h _ _ _; rw [h]; exact ⟨0, by omega, by omega, hend n⟩
  | succ k ih =>
    intro n p h hm hk hn
    rcases h with h | ⟨ns, si, hs, no, e, r, l, h1, h2, h3⟩
    · rw [h]; exact ⟨0, by omega, by omega, hend n⟩
    · obtain ⟨n, rfl⟩ : ∃ j, n = j + 1 := ⟨n - 1, by omega⟩
      have hl : hs.length ≤ 8 := by have := r.len; omega
      have sp := shp_ask (ns := ns) h1.shp (fun d hd => (h2 d hd).shp) h3.shp
      have f1 := h1.fz
      have f2 := fzL_id fun d hd => (h2 d hd).fz
      have f3 := h3.fz
      have fa := fz_ask (ns := ns) f1 f2 f3
      have ea := eq_ask_end sp (by omega)
      have ep := s_parts_ask (n := n) (os := os) sp (by omega) f1 f2 f3 hl
      have hv : ∀ x ∈ si :: hs ++ [no], VP m k x := fun x hx => by
        simp only [List.cons_append, List.mem_cons, List.mem_append, List.not_mem_nil, or_false] at hx
        rcases hx with rfl | hx | rfl
        · exact h1
        · exact h2 x hx
        · exact h3
      subst e
      have sa := shal_ask fa
      have hpz : fzL (si :: hs ++ [no]) = si :: hs ++ [no] := fzL_id fun x hx => (hv x hx).fz
      have hpl : (si :: hs ++ [no]).length ≤ 10 := by simp; omega
      have hp0 : si :: hs ++ [no] ≠ [] := by simp
      generalize si :: hs ++ [no] = ps at *
      generalize askD ns si hs no = p at *
      unfold runB b_deepness startS
      simp [execs, exec, ev, evs, evc, evo, evIt, evOps, fillC, ioSl, putB, evPk, evFz, opd, isVar, hasV, fill1, fillP, asg, asgs, Den.view, rdV, mvV, setS, shal_own, shal_fz, shal_ro, shal_int, shal_bl, shal_str, shal_non, shal_tup, fz, fzL, fzO, bnd, ret, lift, Den.thn, sthn, idxD, opF, addD, subD, mulD, modD, fdivD, negD, notD, isNonD, cmpD, grd, isLst, setiM, biF, lenF, small, mutL, smallR, lim, flatD, glo_end, fa, sa, ea, fn_parts_of, fn_deepness, callF, ep, hpz, wipeD]
      generalize hg : lcGo _ _ _ _ _ = r
      obtain ⟨ds, s', rfl, ⟨o, rfl⟩, len, hd⟩ : ∃ ds s', r = some (.val ([] ++ ds) s') ∧ (fun s => ∃ o, s = (⟨[some p, o], os⟩ : S)) s' ∧ ds.length = ps.length ∧ ∀ d ∈ ds, ∃ x ∈ ps, (fun _ d => ∃ i, d = .int i ∧ 0 ≤ i ∧ i ≤ (k : Int)) x d := by
        rw [← hg]
        refine lcGo_all _ _ ps [] _ (fun x hx s hs => ?_) ⟨none, rfl⟩ (by simp [lim]; omega)
        obtain ⟨o, rfl⟩ := hs
        obtain ⟨d, d0, d1, e⟩ := ih n (hv x hx) hm (by omega) (by omega)
        have fx := (hv x hx).fz
        exact ⟨.int d, ⟨[some p, some x], os⟩, by simp [execs, exec, ev, evs, evc, evo, evIt, evOps, fillC, ioSl, putB, evPk, evFz, opd, isVar, hasV, fill1, fillP, asg, asgs, Den.view, rdV, mvV, setS, shal_own, shal_fz, shal_ro, shal_int, shal_bl, shal_str, shal_non, shal_tup, fz, fzL, fzO, bnd, ret, lift, Den.thn, sthn, idxD, opF, addD, subD, mulD, modD, fdivD, negD, notD, isNonD, cmpD, grd, isLst, setiM, biF, lenF, small, mutL, smallR, lim, flatD, wipeD, callF, e, fx], ⟨_, rfl⟩, d, rfl, d0, d1⟩
      obtain ⟨is, rfl, hi⟩ := intsOf_ex fun d hd' => let ⟨_, _, h⟩ := hd d hd'; h
      cases is with
      | nil => exact absurd (List.length_eq_zero_iff.mp len.symm) hp0
      | cons i is =>
        have h0 := hi i List.mem_cons_self
        have hm := maxI_le h0.1 h0.2 fun j hj => hi j (List.mem_cons_of_mem _ hj)
        refine ⟨1 + maxI i is, by omega, by omega, ?_⟩
        have q := intsOf_map (i :: is)
        rw [List.map_cons] at q
        simp [execs, exec, ev, evs, evc, evo, evIt, evOps, fillC, ioSl, putB, evPk, evFz, opd, isVar, hasV, fill1, fillP, asg, asgs, Den.view, rdV, mvV, setS, shal_own, shal_fz, shal_ro, shal_int, shal_bl, shal_str, shal_non, shal_tup, fz, fzL, fzO, bnd, ret, lift, Den.thn, sthn, idxD, opF, addD, subD, mulD, modD, fdivD, negD, notD, isNonD, cmpD, grd, isLst, setiM, biF, lenF, small, mutL, smallR, lim, flatD, restD, maxLF, q, outsOf]
end Den
/-! Me14: a sound plan has no fault. -/
namespace Den
open PySem PySem.Spec L2
variable {n : Nat} {os : List Ob}
theorem setI_of : ∀ {ns : List Int}, ns.Pairwise (· < ·) → setI ns = ns
  | [], _ => rfl
  | x :: ns, h => by
    obtain ⟨h1, h2⟩ := List.pairwise_cons.mp h
    unfold setI
    rw [setI_of h2]
    cases ns with
    | nil => rfl
    | cons y ns =>
      have := h1 y List.mem_cons_self
      unfold insS
      rw [if_pos this]
theorem atI_lastI {l : List Int} (h : l ≠ []) : ∃ x ∈ l, atI (l.map D.int) (-1) = some (.int x) := by
  refine ⟨l.getLast h, List.getLast_mem h, ?_⟩
  have := List.dropLast_concat_getLast h
  rw [← congrArg (List.map D.int) this]
  simp only [List.map_append, List.map_cons, List.map_nil]
  rw [atI_last]
theorem s_are {m : Int} {ns : List Int} (r : Rsg m ns) (hm : m ≤ 8) : runB (TT n) 2 [.val, .val] b_are_numbers [.tup (ns.map .int), .int m] os = some (.ret (.bl true) [] os) := by
  have hl := r.len
  have h0 : ns.length ≠ 0 := fun e => r.1 (List.length_eq_zero_iff.mp e)
  have hl5 : ns.length ≤ 50 := by omega
  have hs := setI_of r.2.1
  obtain ⟨x, hx, ex⟩ := atI_lastI r.1
  have hx' := (r.2.2 x hx).2
  obtain ⟨y, hy, ey⟩ : ∃ y ∈ ns, atI (ns.map D.int) 0 = some (.int y) := by
    obtain ⟨h1, h2, h3⟩ := r
    cases ns with
    | nil => exact absurd rfl h1
    | cons y ns => exact ⟨y, List.mem_cons_self, atI_nat (j := 0) rfl⟩
  have hy' := (r.2.2 y hy).1
  have h1 := r.1
  unfold runB b_are_numbers startS
  simp [execs, exec, ev, evs, evc, evo, evIt, evOps, fillC, ioSl, putB, evPk, evFz, opd, isVar, hasV, fill1, fillP, asg, asgs, Den.view, rdV, mvV, setS, shal_own, shal_fz, shal_ro, shal_int, shal_bl, shal_str, shal_non, shal_tup, fz, fzL, fzO, bnd, ret, lift, Den.thn, sthn, idxD, opF, addD, subD, mulD, modD, fdivD, negD, notD, isNonD, cmpD, grd, isLst, setiM, biF, lenF, small, mutL, smallR, lim, flatD, h0, h1, listF, setSrt, intsOf_map, hl5, hs, ex, ey, hx', hy', outsOf]
theorem fn_are : (TT (n + 1)).fn "are_numbers" = some ⟨[.val, .val], runB (TT n) 2 [.val, .val] b_are_numbers⟩ := rfl
theorem fn_fault : (TT (n + 1)).fn "fault_of" = some ⟨[.val, .val], runB (TT n) 4 [.val, .val] b_fault_of⟩ := rfl
theorem eq_ask_ask : eqD (.str [97, 115, 107]) (.str [97, 115, 107]) = some true := by decide +kernel
theorem s_fault {m : Int} : ∀ (k n : Nat) {p : D}, VP m k p → m ≤ 8 → k ≤ 20 → k < n → runB (TT n) 4 [.val, .val] b_fault_of [p, .int m] os = some (.ret .non [] os) := by
  have hend : ∀ n, runB (TT n) 4 [.val, .val] b_fault_of [endD, .int m] os = some (.ret .non [] os) := fun n => by
    unfold runB b_fault_of startS
    simp [execs, exec, ev, evs, evc, evo, evIt, evOps, fillC, ioSl, putB, evPk, evFz, opd, isVar, hasV, fill1, fillP, asg, asgs, Den.view, rdV, mvV, setS, shal_own, shal_fz, shal_ro, shal_int, shal_bl, shal_str, shal_non, shal_tup, fz, fzL, fzO, bnd, ret, lift, Den.thn, sthn, idxD, opF, addD, subD, mulD, modD, fdivD, negD, notD, isNonD, cmpD, grd, isLst, setiM, biF, lenF, small, mutL, smallR, lim, flatD, glo_end, endD, show eqD (.tup [.str [101, 110, 100]]) (.tup [.str [101, 110, 100]]) = some true from eq_end_end, outsOf]
  intro k
  induction k with
  | zero => intro n p h _ _ _; rw [h]; exact hend n
  | succ k ih =>
    intro n p h hm hk hn
    rcases h with h | ⟨ns, si, hs, no, e, r, l, h1, h2, h3⟩
    · rw [h]; exact hend n
    · obtain ⟨n, rfl⟩ : ∃ j, n = j + 1 := ⟨n - 1, by omega⟩
      have hl : hs.length ≤ 8 := by have := r.len; omega
      have sp := shp_ask (ns := ns) h1.shp (fun d hd => (h2 d hd).shp) h3.shp
      have f1 := h1.fz
      have f2 := fzL_id fun d hd => (h2 d hd).fz
      have f3 := h3.fz
      have fa := fz_ask (ns := ns) f1 f2 f3
      have ea := eq_ask_end sp (by omega)
      have ep := s_parts_ask (n := n) (os := os) sp (by omega) f1 f2 f3 hl
      have hv : ∀ x ∈ si :: hs ++ [no], VP m k x := fun x hx => by
        simp only [List.cons_append, List.mem_cons, List.mem_append, List.not_mem_nil, or_false] at hx
        rcases hx with rfl | hx | rfl
        · exact h1
        · exact h2 x hx
        · exact h3
      subst e
      have sa := shal_ask fa
      have hpz : fzL (si :: hs ++ [no]) = si :: hs ++ [no] := fzL_id fun x hx => (hv x hx).fz
      have i0 : idxD (askD ns si hs no) (.int 0) = some (.str [97, 115, 107]) := rfl
      have i1 : idxD (askD ns si hs no) (.int 1) = some (.tup (ns.map .int)) := rfl
      have i3 : idxD (askD ns si hs no) (.int 3) = some (.tup hs) := rfl
      have le : lenF [askD ns si hs no] = some (.int 5) := rfl
      have er := s_are (n := n) (os := os) r hm
      generalize si :: hs ++ [no] = ps at *
      generalize askD ns si hs no = p at *
      unfold runB b_fault_of startS
      simp [execs, exec, ev, evs, evc, evo, evIt, evOps, fillC, ioSl, putB, evPk, evFz, opd, isVar, hasV, fill1, fillP, asg, asgs, Den.view, rdV, mvV, setS, shal_own, shal_fz, shal_ro, shal_int, shal_bl, shal_str, shal_non, shal_tup, fz, fzL, fzO, bnd, ret, lift, Den.thn, sthn, idxD, opF, addD, subD, mulD, modD, fdivD, negD, notD, isNonD, cmpD, grd, isLst, setiM, biF, lenF, small, mutL, smallR, lim, flatD, -idxD, -lenF, i0, i1, i3, le, glo_end, fa, sa, ea, fn_parts_of, fn_fault, fn_are, er, eq_ask_ask, callF, ep, hpz, l, f2]
      generalize hg : forGo _ _ _ = r
      obtain ⟨s', rfl, o2, o3, rfl⟩ : ∃ s', r = some (.nx s') ∧ (fun (_ : Nat) s => ∃ o2 o3, s = (⟨[some p, some (.int m), o2, o3], os⟩ : S)) (0 + ps.length) s' := by
        rw [← hg]
        refine forGo_ex (fun _ s => ∃ o2 o3, s = (⟨[some p, some (.int m), o2, o3], os⟩ : S)) ps 0 (fun i x s hx hs => ?_) _ ⟨none, none, rfl⟩
        obtain ⟨o2, o3, rfl⟩ := hs
        have hx := List.mem_of_getElem? hx
        have e := ih n (hv x hx) hm (by omega) (by omega)
        have fx := (hv x hx).fz
        exact ⟨⟨[some p, some (.int m), some x, some .non], os⟩, by simp [execs, exec, ev, evs, evc, evo, evIt, evOps, fillC, ioSl, putB, evPk, evFz, opd, isVar, hasV, fill1, fillP, asg, asgs, Den.view, rdV, mvV, setS, shal_own, shal_fz, shal_ro, shal_int, shal_bl, shal_str, shal_non, shal_tup, fz, fzL, fzO, bnd, ret, lift, Den.thn, sthn, idxD, opF, addD, subD, mulD, modD, fdivD, negD, notD, isNonD, cmpD, grd, isLst, setiM, biF, lenF, small, mutL, smallR, lim, flatD, lb_fault_of_0, fn_fault, callF, e, fx], _, _, rfl⟩
      simp [outsOf, fz]
theorem fn_need_plan : (TT (n + 1)).fn "need_plan" = some ⟨[.val, .val], runB (TT n) 3 [.val, .val] b_need_plan⟩ := rfl
theorem s_need_plan {m : Int} {k : Nat} {p : D} (h : VP m k p) (h1 : 1 ≤ m) (hm : m ≤ 8) (hk : k ≤ 20) (hn : k < n) : runB (TT (n + 1)) 3 [.val, .val] b_need_plan [p, .int m] os = some (.ret .non [] os) := by
  obtain ⟨d, d0, d1, ed⟩ := s_deep (os := os) k n h hm hk hn
  have ef := s_fault (os := os) k n h hm hk hn
  have fp := h.fz
  have sp := h.shal
  have d2 : ¬ 20 < d := by omega
  unfold runB b_need_plan startS
  simp [execs, exec, ev, evs, evc, evo, evIt, evOps, fillC, ioSl, putB, evPk, evFz, opd, isVar, hasV, fill1, fillP, asg, asgs, Den.view, rdV, mvV, setS, shal_own, shal_fz, shal_ro, shal_int, shal_bl, shal_str, shal_non, shal_tup, fz, fzL, fzO, bnd, ret, lift, Den.thn, sthn, idxD, opF, addD, subD, mulD, modD, fdivD, negD, notD, isNonD, cmpD, grd, isLst, setiM, biF, lenF, small, mutL, smallR, lim, flatD, glo_deep, fp, sp, fn_need_many, fn_fault, fn_deepness, callF, s_need_many h1 hm, ed, ef, d2, outsOf]
end Den
/-! Mf14: a plan followed, by the program and by the law. -/
namespace Den
open PySem PySem.Spec L2
variable {n : Nat} {os : List Ob}
theorem fn_step : (TT (n + 1)).fn "step" = some ⟨[.val, .val], runB (TT n) 5 [.val, .val] b_step⟩ := rfl
/-- a comprehension over ints that keeps some -/
theorem lcGo_filt {own : List Nat} {f : D → M (Option D)} (I : S → Prop) (q : Int → Bool) : ∀ (xs : List Int) (acc : List D) (s : S), (∀ x ∈ xs, ∀ s, I s → ∃ s', f (.int x) { s with sl := wipeD s.sl own } = some (.val (if q x then some (.int x) else none) s') ∧ I s') → I s → acc.length + xs.length ≤ lim →
    ∃ s', lcGo own f (xs.map .int) acc s = some (.val (acc ++ (xs.filter q).map .int) s') ∧ I s'
  | [], acc, s, _, h, _ => ⟨s, by simp [lcGo, ret], h⟩
  | x :: xs, acc, s, hf, h, hl => by
    obtain ⟨s1, e1, h1⟩ := hf x List.mem_cons_self s h
    rw [List.length_cons] at hl
    by_cases hq : q x = true
    · obtain ⟨s2, e2, h2⟩ := lcGo_filt I q xs (acc ++ [.int x]) s1 (fun y hy => hf y (List.mem_cons_of_mem _ hy)) h1 (by rw [List.length_append, List.length_singleton]; omega)
      refine ⟨s2, ?_, h2⟩
      rw [if_pos hq] at e1
      rw [List.map_cons]
      unfold lcGo
      rw [e1]
      dsimp only
      rw [if_pos (by omega), e2, List.append_assoc, List.filter_cons, if_pos hq]
      rfl
    · obtain ⟨s2, e2, h2⟩ := lcGo_filt I q xs acc s1 (fun y hy => hf y (List.mem_cons_of_mem _ hy)) h1 (by omega)
      refine ⟨s2, ?_, h2⟩
      rw [if_neg hq] at e1
      rw [List.map_cons]
      unfold lcGo
      rw [e1]
      dsimp only
      rw [e2, List.filter_cons, if_neg hq]
theorem fzL_mem : ∀ {ds : List D}, fzL ds = ds → ∀ d ∈ ds, fz d = d
  | [], _, d, h => by cases h
  | e :: ds, h, d, hd => by
    injection h with h1 h2
    rcases List.mem_cons.mp hd with rfl | hd
    · exact h1
    · exact fzL_mem h2 d hd
/-- what comes behind one asking -/
def nextD (ns : List Int) (si : D) (hs : List D) (no : D) (left : List Int) : Option (D × List Int) := match ns.filter (fun x => decide (x ∈ left)) with
  | [] => some (si, left)
  | [x] => (hs[ns.idxOf x]?).map fun p => (p, left.filter (fun y => !decide (y = x)))
  | _ => some (no, left)
theorem s_step {ns left l' : List Int} {si : D} {hs : List D} {no p' : D} (h1 : fz si = si) (h2 : fzL hs = hs) (h3 : fz no = no) (hl : ns.length ≤ 8) (hl2 : left.length ≤ 8) (hf : nextD ns si hs no left = some (p', l')) :
    runB (TT n) 5 [.val, .val] b_step [askD ns si hs no, .tup (left.map .int)] os = some (.ret (.tup [p', .tup (l'.map .int)]) [] os) := by
  have fa := fz_ask (ns := ns) h1 h2 h3
  have sa := shal_ask fa
  have i1 : idxD (askD ns si hs no) (.int 1) = some (.tup (ns.map .int)) := rfl
  have i2 : idxD (askD ns si hs no) (.int 2) = some si := rfl
  have i3 : idxD (askD ns si hs no) (.int 3) = some (.tup hs) := rfl
  have i4 : idxD (askD ns si hs no) (.int 4) = some no := rfl
  generalize askD ns si hs no = p at *
  unfold runB b_step startS
  simp [execs, exec, ev, evs, evc, evo, evIt, evOps, fillC, ioSl, putB, evPk, evFz, opd, isVar, hasV, fill1, fillP, asg, asgs, Den.view, rdV, mvV, setS, shal_own, shal_fz, shal_ro, shal_int, shal_bl, shal_str, shal_non, shal_tup, fz, fzL, fzO, bnd, ret, lift, Den.thn, sthn, idxD, opF, addD, subD, mulD, modD, fdivD, negD, notD, isNonD, cmpD, grd, isLst, setiM, biF, lenF, small, mutL, smallR, lim, flatD, -idxD, i1, fa, sa, wipeD]
  generalize hg : lcGo _ _ _ _ _ = r
  obtain ⟨s', rfl, o, rfl⟩ : ∃ s', r = some (.val ([] ++ (ns.filter (fun x => decide (x ∈ left))).map .int) s') ∧ (fun s => ∃ o, s = (⟨[some p, some (.tup (left.map .int)), none, o, none], os⟩ : S)) s' := by
    rw [← hg]
    refine lcGo_filt (fun s => ∃ o, s = (⟨[some p, some (.tup (left.map .int)), none, o, none], os⟩ : S)) (fun x => decide (x ∈ left)) ns [] _ (fun x hx s hs => ?_) ⟨none, rfl⟩ (by simp [lim]; omega)
    obtain ⟨o, rfl⟩ := hs
    refine ⟨⟨[some p, some (.tup (left.map .int)), none, some (.int x), none], os⟩, ?_, _, rfl⟩
    by_cases hq : x ∈ left <;> simp [execs, exec, ev, evs, evc, evo, evIt, evOps, fillC, ioSl, putB, evPk, evFz, opd, isVar, hasV, fill1, fillP, asg, asgs, Den.view, rdV, mvV, setS, shal_own, shal_fz, shal_ro, shal_int, shal_bl, shal_str, shal_non, shal_tup, fz, fzL, fzO, bnd, ret, lift, Den.thn, sthn, idxD, opF, addD, subD, mulD, modD, fdivD, negD, notD, isNonD, cmpD, grd, isLst, setiM, biF, lenF, small, mutL, smallR, lim, flatD, wipeD, hq]
  unfold nextD at hf
  have hmem : ∀ x ∈ ns.filter (fun x => decide (x ∈ left)), x ∈ ns := fun x hx => (List.mem_filter.mp hx).1
  generalize ns.filter (fun x => decide (x ∈ left)) = sp at hf hmem
  have hz := ints_fz left
  match sp, hf, hmem with
  | [], hf, _ =>
    injection hf with hf
    injection hf with e1 e2
    subst e1 e2
    simp [execs, exec, ev, evs, evc, evo, evIt, evOps, fillC, ioSl, putB, evPk, evFz, opd, isVar, hasV, fill1, fillP, asg, asgs, Den.view, rdV, mvV, setS, shal_own, shal_fz, shal_ro, shal_int, shal_bl, shal_str, shal_non, shal_tup, fz, fzL, fzO, bnd, ret, lift, Den.thn, sthn, idxD, opF, addD, subD, mulD, modD, fdivD, negD, notD, isNonD, cmpD, grd, isLst, setiM, biF, lenF, small, mutL, smallR, lim, flatD, -idxD, restD, i2, fa, sa, h1, eqD_lst0 (o := .fz) (o' := .fz) [], show eqD (.lst .fz []) (.lst .fz []) = some true from eqD_lst0 [], outsOf]
  | [x], hf, hm =>
    have hx := hm x List.mem_cons_self
    obtain ⟨q, hq, e⟩ := Option.map_eq_some_iff.mp hf
    injection e with e1 e2
    subst e1 e2
    have hfz : fz q = q := by
      have hm := List.mem_of_getElem? hq
      rw [← h2] at hm
      exact fzL_mem h2 q (by rw [h2] at hm; exact hm)
    have e1 : eqD (.lst .fz [.int x]) (.lst .fz []) = some false := by
      have := eqD_lst0 (o := .fz) (o' := .fz) [x]
      simpa using this
    simp [execs, exec, ev, evs, evc, evo, evIt, evOps, fillC, ioSl, putB, evPk, evFz, opd, isVar, hasV, fill1, fillP, asg, asgs, Den.view, rdV, mvV, setS, shal_own, shal_fz, shal_ro, shal_int, shal_bl, shal_str, shal_non, shal_tup, fz, fzL, fzO, bnd, ret, lift, Den.thn, sthn, idxD, opF, addD, subD, mulD, modD, fdivD, negD, notD, isNonD, cmpD, grd, isLst, setiM, biF, lenF, small, mutL, smallR, lim, flatD, -idxD, restD, i3, fa, sa, e1, wipeD]
    generalize hg2 : lcGo _ _ _ _ _ = r2
    obtain ⟨s2, rfl, o2, rfl⟩ : ∃ s', r2 = some (.val ([] ++ (left.filter (fun y => !decide (y = x))).map .int) s') ∧ (fun s => ∃ o, s = (⟨[some p, some (.tup (left.map .int)), some (.lst .own [.int x]), o, none], os⟩ : S)) s' := by
      rw [← hg2]
      refine lcGo_filt (fun s => ∃ o, s = (⟨[some p, some (.tup (left.map .int)), some (.lst .own [.int x]), o, none], os⟩ : S)) (fun y => !decide (y = x)) left [] _ (fun y hy s hs => ?_) ⟨none, rfl⟩ (by simp [lim]; omega)
      obtain ⟨o, rfl⟩ := hs
      refine ⟨⟨[some p, some (.tup (left.map .int)), some (.lst .own [.int x]), some (.int y), none], os⟩, ?_, _, rfl⟩
      by_cases hq : y = x <;> simp [execs, exec, ev, evs, evc, evo, evIt, evOps, fillC, ioSl, putB, evPk, evFz, opd, isVar, hasV, fill1, fillP, asg, asgs, Den.view, rdV, mvV, setS, shal_own, shal_fz, shal_ro, shal_int, shal_bl, shal_str, shal_non, shal_tup, fz, fzL, fzO, bnd, ret, lift, Den.thn, sthn, idxD, opF, addD, subD, mulD, modD, fdivD, negD, notD, isNonD, cmpD, grd, isLst, setiM, biF, lenF, small, mutL, smallR, lim, flatD, wipeD, hq]
    have e3 := findD_int x ns 0 hx
    have e4 : SeqAt.shaped (.list (toPs (ns.map D.int))) = true := shaped_of (shp_lst (o := .own) (k := 0) (shp_ints (l := ns)))
    have e5 : atI hs ((ns.idxOf x : Nat) : Int) = some q := atI_nat hq
    simp [execs, exec, ev, evs, evc, evo, evIt, evOps, fillC, ioSl, putB, evPk, evFz, opd, isVar, hasV, fill1, fillP, asg, asgs, Den.view, rdV, mvV, setS, shal_own, shal_fz, shal_ro, shal_int, shal_bl, shal_str, shal_non, shal_tup, fz, fzL, fzO, bnd, ret, lift, Den.thn, sthn, idxD, opF, addD, subD, mulD, modD, fdivD, negD, notD, isNonD, cmpD, grd, isLst, setiM, biF, lenF, small, mutL, smallR, lim, flatD, -idxD, restD, i1, i3, fa, sa, wipeD, tupleF, listF, kindIs, mtT, tyOf, mtF, toP, shaped_int, e3, e4, h2, e5, hfz, outsOf]
  | x :: y :: r, hf, _ =>
    injection hf with hf
    injection hf with e1 e2
    subst e1 e2
    have e1 : eqD (.lst .fz (.int x :: .int y :: r.map .int)) (.lst .fz []) = some false := by
      have := eqD_lst0 (o := .fz) (o' := .fz) (x :: y :: r)
      simpa using this
    have e2 : (1 : Int) < (r.length : Int) + 1 + 1 := by omega
    simp [execs, exec, ev, evs, evc, evo, evIt, evOps, fillC, ioSl, putB, evPk, evFz, opd, isVar, hasV, fill1, fillP, asg, asgs, Den.view, rdV, mvV, setS, shal_own, shal_fz, shal_ro, shal_int, shal_bl, shal_str, shal_non, shal_tup, fz, fzL, fzO, bnd, ret, lift, Den.thn, sthn, idxD, opF, addD, subD, mulD, modD, fdivD, negD, notD, isNonD, cmpD, grd, isLst, setiM, biF, lenF, small, mutL, smallR, lim, flatD, -idxD, restD, i4, fa, sa, h3, e1, e2, outsOf]
end Den
/-! Mg14: a plan followed. -/
namespace Den
open PySem PySem.Spec L2
variable {n : Nat} {os : List Ob}
theorem eq_ask_endS : eqD (.str [97, 115, 107]) (.str [101, 110, 100]) = some false := by decide +kernel
theorem eq_end_endS : eqD (.str [101, 110, 100]) (.str [101, 110, 100]) = some true := by decide +kernel
/-- one turn of the program's loop -/
theorem w_fol_step {m : Int} {k : Nat} {ns left l' : List Int} {si : D} {hs : List D} {no p' s0 : D} {c : Int} (h1 : VP m k si) (h2 : ∀ d ∈ hs, VP m k d) (h3 : VP m k no) (hk : k < 20) (hl : ns.length ≤ 8) (hl2 : left.length ≤ 8) (hf : nextD ns si hs no left = some (p', l')) (fuel : Nat) :
    whilGo (ev (TT (n + 1)) lc_followed_0) (execs (TT (n + 1)) lb_followed_0) (fuel + 1) ⟨[some (askD ns si hs no), some s0, some (.int c), some (.tup (left.map .int))], os⟩ = whilGo (ev (TT (n + 1)) lc_followed_0) (execs (TT (n + 1)) lb_followed_0) fuel ⟨[some p', some s0, some (.int (c + 1)), some (.tup (l'.map .int))], os⟩ := by
  have sp := shp_ask (ns := ns) h1.shp (fun d hd => (h2 d hd).shp) h3.shp
  have f2 := fzL_id fun d hd => (h2 d hd).fz
  have ea := eq_ask_end sp (by omega)
  have fa := fz_ask (ns := ns) h1.fz f2 h3.fz
  have sa := shal_ask fa
  have es := s_step (n := n) (os := os) h1.fz f2 h3.fz hl hl2 hf
  generalize askD ns si hs no = p at *
  rw [whil_t (s1 := ⟨[some p, some s0, some (.int c), some (.tup (left.map .int))], os⟩) (by unfold lc_followed_0; simp [execs, exec, ev, evs, evc, evo, evIt, evOps, fillC, ioSl, putB, evPk, evFz, opd, isVar, hasV, fill1, fillP, asg, asgs, Den.view, rdV, mvV, setS, shal_own, shal_fz, shal_ro, shal_int, shal_bl, shal_str, shal_non, shal_tup, fz, fzL, fzO, bnd, ret, lift, Den.thn, sthn, idxD, opF, addD, subD, mulD, modD, fdivD, negD, notD, isNonD, cmpD, grd, isLst, setiM, biF, lenF, small, mutL, smallR, lim, flatD, glo_end, fa, sa, ea])]
  unfold lb_followed_0
  simp [execs, exec, ev, evs, evc, evo, evIt, evOps, fillC, ioSl, putB, evPk, evFz, opd, isVar, hasV, fill1, fillP, asg, asgs, Den.view, rdV, mvV, setS, shal_own, shal_fz, shal_ro, shal_int, shal_bl, shal_str, shal_non, shal_tup, fz, fzL, fzO, bnd, ret, lift, Den.thn, sthn, idxD, opF, addD, subD, mulD, modD, fdivD, negD, notD, isNonD, cmpD, grd, isLst, setiM, biF, lenF, small, mutL, smallR, lim, flatD, fn_step, callF, fa, sa, es]
theorem w_fol_end {left : List Int} {s0 : D} {c : Int} (fuel : Nat) :
    whilGo (ev (TT n) lc_followed_0) (execs (TT n) lb_followed_0) (fuel + 1) ⟨[some endD, some s0, some (.int c), some (.tup (left.map .int))], os⟩ = some (.nx ⟨[some endD, some s0, some (.int c), some (.tup (left.map .int))], os⟩) := by
  have hee : eqD endD (.tup [.str [101, 110, 100]]) = some true := eq_end_end
  rw [whil_f]
  unfold lc_followed_0
  simp [execs, exec, ev, evs, evc, evo, evIt, evOps, fillC, ioSl, putB, evPk, evFz, opd, isVar, hasV, fill1, fillP, asg, asgs, Den.view, rdV, mvV, setS, shal_own, shal_fz, shal_ro, shal_int, shal_bl, shal_str, shal_non, shal_tup, fz, fzL, fzO, bnd, ret, lift, Den.thn, sthn, idxD, opF, addD, subD, mulD, modD, fdivD, negD, notD, isNonD, cmpD, grd, isLst, setiM, biF, lenF, small, mutL, smallR, lim, flatD, glo_end, fz_end, shal_end, hee]
end Den
/-! Mh14: a plan followed by the law. -/
namespace Den
open PySem PySem.Spec L2
variable {n : Nat} {os : List Ob}
theorem erase_filt {l : List Int} {x : Int} (h : l.Nodup) : l.erase x = l.filter (fun y => !decide (y = x)) := by
  rw [List.Nodup.erase_eq_filter h]
  congr 1
theorem w_law_step {m : Int} {k : Nat} {ns left l' : List Int} {si : D} {hs : List D} {no p' s0 : D} {met : List D} {o4 o5 : Option D} (h1 : VP m k si) (h2 : ∀ d ∈ hs, VP m k d) (h3 : VP m k no) (hk : k < 20) (hl : ns.length ≤ 8) (hl2 : left.length ≤ 8) (hn : left.Nodup) (hm : met.length < 1000000) (hf : nextD ns si hs no left = some (p', l')) (fuel : Nat) :
    ∃ o4' o5', whilGo (ev (TT n) lc__law_followed_0) (execs (TT n) lb__law_followed_0) (fuel + 1) ⟨[some (askD ns si hs no), some s0, some (.lst .own met), some (.lst .own (left.map .int)), o4, o5], os⟩ = whilGo (ev (TT n) lc__law_followed_0) (execs (TT n) lb__law_followed_0) fuel ⟨[some p', some s0, some (.lst .own (met ++ [.tup [askD ns si hs no, .tup (left.map .int)]])), some (.lst .own (l'.map .int)), o4', o5'], os⟩ := by
  have f2 := fzL_id fun d hd => (h2 d hd).fz
  have fa := fz_ask (ns := ns) h1.fz f2 h3.fz
  have sa := shal_ask fa
  have i0 : idxD (askD ns si hs no) (.int 0) = some (.str [97, 115, 107]) := rfl
  have i1 : idxD (askD ns si hs no) (.int 1) = some (.tup (ns.map .int)) := rfl
  have i2 : idxD (askD ns si hs no) (.int 2) = some si := rfl
  have i3 : idxD (askD ns si hs no) (.int 3) = some (.tup hs) := rfl
  have i4 : idxD (askD ns si hs no) (.int 4) = some no := rfl
  have f1 := h1.fz
  have f3 := h3.fz
  generalize askD ns si hs no = p at *
  rw [whil_t (s1 := ⟨[some p, some s0, some (.lst .own met), some (.lst .own (left.map .int)), o4, o5], os⟩) (by unfold lc__law_followed_0; simp [execs, exec, ev, evs, evc, evo, evIt, evOps, fillC, ioSl, putB, evPk, evFz, opd, isVar, hasV, fill1, fillP, asg, asgs, Den.view, rdV, mvV, setS, shal_own, shal_fz, shal_ro, shal_int, shal_bl, shal_str, shal_non, shal_tup, fz, fzL, fzO, bnd, ret, lift, Den.thn, sthn, idxD, opF, addD, subD, mulD, modD, fdivD, negD, notD, isNonD, cmpD, grd, isLst, setiM, biF, lenF, small, mutL, smallR, lim, flatD, -idxD, i0, fa, sa, eq_ask_endS])]
  unfold lb__law_followed_0
  simp [execs, exec, ev, evs, evc, evo, evIt, evOps, fillC, ioSl, putB, evPk, evFz, opd, isVar, hasV, fill1, fillP, asg, asgs, Den.view, rdV, mvV, setS, shal_own, shal_fz, shal_ro, shal_int, shal_bl, shal_str, shal_non, shal_tup, fz, fzL, fzO, bnd, ret, lift, Den.thn, sthn, idxD, opF, addD, subD, mulD, modD, fdivD, negD, notD, isNonD, cmpD, grd, isLst, setiM, biF, lenF, small, mutL, smallR, lim, flatD, -idxD, i1, fa, sa, tupleF, muF, hm, wipeD]
  generalize hg : lcGo _ _ _ _ _ = r
  obtain ⟨s', rfl, o, rfl⟩ : ∃ s', r = some (.val ([] ++ (ns.filter (fun x => decide (x ∈ left))).map .int) s') ∧ (fun s => ∃ o, s = (⟨[some p, some s0, some (.lst .own (met ++ [.tup [p, .tup (left.map .int)]])), some (.lst .own (left.map .int)), o4, o], os⟩ : S)) s' := by
    rw [← hg]
    refine lcGo_filt (fun s => ∃ o, s = (⟨[some p, some s0, some (.lst .own (met ++ [.tup [p, .tup (left.map .int)]])), some (.lst .own (left.map .int)), o4, o], os⟩ : S)) (fun x => decide (x ∈ left)) ns [] _ (fun x hx s hs => ?_) ⟨none, rfl⟩ (by simp [lim]; omega)
    obtain ⟨o, rfl⟩ := hs
    refine ⟨⟨[some p, some s0, some (.lst .own (met ++ [.tup [p, .tup (left.map .int)]])), some (.lst .own (left.map .int)), o4, some (.int x)], os⟩, ?_, _, rfl⟩
    by_cases hq : x ∈ left <;> simp [execs, exec, ev, evs, evc, evo, evIt, evOps, fillC, ioSl, putB, evPk, evFz, opd, isVar, hasV, fill1, fillP, asg, asgs, Den.view, rdV, mvV, setS, shal_own, shal_fz, shal_ro, shal_int, shal_bl, shal_str, shal_non, shal_tup, fz, fzL, fzO, bnd, ret, lift, Den.thn, sthn, idxD, opF, addD, subD, mulD, modD, fdivD, negD, notD, isNonD, cmpD, grd, isLst, setiM, biF, lenF, small, mutL, smallR, lim, flatD, wipeD, hq]
  unfold nextD at hf
  have hmem : ∀ x ∈ ns.filter (fun x => decide (x ∈ left)), x ∈ ns ∧ x ∈ left := fun x hx => ⟨(List.mem_filter.mp hx).1, by simpa using (List.mem_filter.mp hx).2⟩
  generalize ns.filter (fun x => decide (x ∈ left)) = sp at hf hmem
  match sp, hf, hmem with
  | [], hf, _ =>
    injection hf with hf
    injection hf with e1 e2
    subst e1 e2
    simp [execs, exec, ev, evs, evc, evo, evIt, evOps, fillC, ioSl, putB, evPk, evFz, opd, isVar, hasV, fill1, fillP, asg, asgs, Den.view, rdV, mvV, setS, shal_own, shal_fz, shal_ro, shal_int, shal_bl, shal_str, shal_non, shal_tup, fz, fzL, fzO, bnd, ret, lift, Den.thn, sthn, idxD, opF, addD, subD, mulD, modD, fdivD, negD, notD, isNonD, cmpD, grd, isLst, setiM, biF, lenF, small, mutL, smallR, lim, flatD, -idxD, restD, i2, fa, sa, f1, show eqD (.lst .fz []) (.lst .fz []) = some true from eqD_lst0 [], intF]
    exact ⟨_, _, rfl⟩
  | [x], hf, hm =>
    obtain ⟨hx, hxl⟩ := hm x List.mem_cons_self
    obtain ⟨q, hq, e⟩ := Option.map_eq_some_iff.mp hf
    injection e with e1 e2
    subst e1 e2
    have hfz : fz q = q := fzL_mem f2 q (List.mem_of_getElem? hq)
    have e3 := findD_int x ns 0 hx
    have e5 : atI hs ((ns.idxOf x : Nat) : Int) = some q := atI_nat hq
    simp [execs, exec, ev, evs, evc, evo, evIt, evOps, fillC, ioSl, putB, evPk, evFz, opd, isVar, hasV, fill1, fillP, asg, asgs, Den.view, rdV, mvV, setS, shal_own, shal_fz, shal_ro, shal_int, shal_bl, shal_str, shal_non, shal_tup, fz, fzL, fzO, bnd, ret, lift, Den.thn, sthn, idxD, opF, addD, subD, mulD, modD, fdivD, negD, notD, isNonD, cmpD, grd, isLst, setiM, biF, lenF, small, mutL, smallR, lim, flatD, -idxD, restD, i1, i3, fa, sa, muF, intsOf_map, hxl, kindIs, mtT, tyOf, mtF, toP, flat_ints, e3, f2, e5, hfz, erase_filt hn]
    exact ⟨_, _, rfl⟩
  | x :: y :: r, hf, _ =>
    injection hf with hf
    injection hf with e1 e2
    subst e1 e2
    have e1 : eqD (.lst .fz (.int x :: .int y :: r.map .int)) (.lst .fz []) = some false := by
      have := eqD_lst0 (o := .fz) (o' := .fz) (x :: y :: r)
      simpa using this
    have e2 : ¬ ((r.length : Int) + 1 + 1 = 1) := by omega
    simp [execs, exec, ev, evs, evc, evo, evIt, evOps, fillC, ioSl, putB, evPk, evFz, opd, isVar, hasV, fill1, fillP, asg, asgs, Den.view, rdV, mvV, setS, shal_own, shal_fz, shal_ro, shal_int, shal_bl, shal_str, shal_non, shal_tup, fz, fzL, fzO, bnd, ret, lift, Den.thn, sthn, idxD, opF, addD, subD, mulD, modD, fdivD, negD, notD, isNonD, cmpD, grd, isLst, setiM, biF, lenF, small, mutL, smallR, lim, flatD, -idxD, restD, i4, fa, sa, f3, e1, e2, intF]
    exact ⟨_, _, rfl⟩
end Den
/-! Mi14: both follow a plan alike. -/
namespace Den
open PySem PySem.Spec L2
theorem w_law_end {n : Nat} {os : List Ob} {left : List Int} {s0 : D} {met : List D} {o4 o5 : Option D} (fuel : Nat) :
    whilGo (ev (TT n) lc__law_followed_0) (execs (TT n) lb__law_followed_0) (fuel + 1) ⟨[some endD, some s0, some (.lst .own met), some (.lst .own (left.map .int)), o4, o5], os⟩ = some (.nx ⟨[some endD, some s0, some (.lst .own met), some (.lst .own (left.map .int)), o4, o5], os⟩) := by
  have i0 : idxD endD (.int 0) = some (.str [101, 110, 100]) := rfl
  rw [whil_f]
  unfold lc__law_followed_0
  simp [execs, exec, ev, evs, evc, evo, evIt, evOps, fillC, ioSl, putB, evPk, evFz, opd, isVar, hasV, fill1, fillP, asg, asgs, Den.view, rdV, mvV, setS, shal_own, shal_fz, shal_ro, shal_int, shal_bl, shal_str, shal_non, shal_tup, fz, fzL, fzO, bnd, ret, lift, Den.thn, sthn, idxD, opF, addD, subD, mulD, modD, fdivD, negD, notD, isNonD, cmpD, grd, isLst, setiM, biF, lenF, small, mutL, smallR, lim, flatD, -idxD, fz_end, shal_end, i0, eq_end_endS]
theorem next_ex {m : Int} {k : Nat} {ns left : List Int} {si : D} {hs : List D} {no : D} (h1 : VP m k si) (h2 : ∀ d ∈ hs, VP m k d) (h3 : VP m k no) (hl : hs.length = ns.length) (hn : left.Nodup) :
    ∃ p' l', nextD ns si hs no left = some (p', l') ∧ VP m k p' ∧ l'.Nodup ∧ l'.length ≤ left.length := by
  unfold nextD
  have hm : ∀ x ∈ ns.filter (fun x => decide (x ∈ left)), x ∈ ns := fun x hx => (List.mem_filter.mp hx).1
  generalize ns.filter (fun x => decide (x ∈ left)) = sp at hm
  match sp, hm with
  | [], _ => exact ⟨_, _, rfl, h1, hn, Nat.le_refl _⟩
  | [x], hm =>
    have hx := List.idxOf_lt_length_of_mem (hm x List.mem_cons_self)
    have hx' : ns.idxOf x < hs.length := by omega
    refine ⟨hs[ns.idxOf x], left.filter (fun y => !decide (y = x)), by show Option.map _ (hs[ns.idxOf x]?) = _; rw [List.getElem?_eq_getElem hx']; rfl, h2 _ (List.getElem_mem hx'), hn.filter _, List.length_filter_le _ _⟩
  | x :: y :: r, _ => exact ⟨_, _, rfl, h3, hn, Nat.le_refl _⟩
theorem fol {m : Int} (hm : m ≤ 8) : ∀ (k : Nat) {p : D} {left : List Int}, VP m k p → k ≤ 20 → left.Nodup → left.length ≤ 8 → ∃ (c : Nat) (l' : List Int), c ≤ k ∧ l'.length ≤ 8 ∧
    (∀ (n : Nat) (s0 : D) (c0 : Int) (os : List Ob) (fuel : Nat), c < fuel → whilGo (ev (TT (n + 1)) lc_followed_0) (execs (TT (n + 1)) lb_followed_0) fuel ⟨[some p, some s0, some (.int c0), some (.tup (left.map .int))], os⟩ = some (.nx ⟨[some endD, some s0, some (.int (c0 + c)), some (.tup (l'.map .int))], os⟩)) ∧
    (∀ (n : Nat) (s0 : D) (met : List D) (o4 o5 : Option D) (os : List Ob) (fuel : Nat), c < fuel → met.length + k ≤ 1000 → ∃ met' o4' o5', met'.length = met.length + c ∧ whilGo (ev (TT n) lc__law_followed_0) (execs (TT n) lb__law_followed_0) fuel ⟨[some p, some s0, some (.lst .own met), some (.lst .own (left.map .int)), o4, o5], os⟩ = some (.nx ⟨[some endD, some s0, some (.lst .own met'), some (.lst .own (l'.map .int)), o4', o5'], os⟩)) := by
  have hend : ∀ (k : Nat) (left : List Int), left.length ≤ 8 → ∃ (c : Nat) (l' : List Int), c ≤ k ∧ l'.length ≤ 8 ∧
    (∀ (n : Nat) (s0 : D) (c0 : Int) (os : List Ob) (fuel : Nat), c < fuel → whilGo (ev (TT (n + 1)) lc_followed_0) (execs (TT (n + 1)) lb_followed_0) fuel ⟨[some endD, some s0, some (.int c0), some (.tup (left.map .int))], os⟩ = some (.nx ⟨[some endD, some s0, some (.int (c0 + c)), some (.tup (l'.map .int))], os⟩)) ∧
    (∀ (n : Nat) (s0 : D) (met : List D) (o4 o5 : Option D) (os : List Ob) (fuel : Nat), c < fuel → met.length + k ≤ 1000 → ∃ met' o4' o5', met'.length = met.length + c ∧ whilGo (ev (TT n) lc__law_followed_0) (execs (TT n) lb__law_followed_0) fuel ⟨[some endD, some s0, some (.lst .own met), some (.lst .own (left.map .int)), o4, o5], os⟩ = some (.nx ⟨[some endD, some s0, some (.lst .own met'), some (.lst .own (l'.map .int)), o4', o5'], os⟩)) := fun k left hl => by
    refine ⟨0, left, by omega, hl, fun n s0 c0 os fuel hf => ?_, fun n s0 met o4 o5 os fuel hf _ => ⟨met, o4, o5, rfl, ?_⟩⟩
    · obtain ⟨f, rfl⟩ : ∃ j, fuel = j + 1 := ⟨fuel - 1, by omega⟩
      rw [w_fol_end]; simp
    · obtain ⟨f, rfl⟩ : ∃ j, fuel = j + 1 := ⟨fuel - 1, by omega⟩
      rw [w_law_end]
  intro k
  induction k with
  | zero => intro p left h _ _ hl; rw [h]; exact hend 0 left hl
  | succ k ih =>
    intro p left h hk hn hl
    rcases h with h | ⟨ns, si, hs, no, e, r, l, h1, h2, h3⟩
    · rw [h]; exact hend _ left hl
    · subst e
      have hnl : ns.length ≤ 8 := by have := r.len; omega
      obtain ⟨p', l1, en, hp, hn1, hl1⟩ := next_ex h1 h2 h3 l hn
      obtain ⟨c, l', hc, hl', A, B⟩ := ih hp (by omega) hn1 (by omega)
      refine ⟨c + 1, l', by omega, hl', fun n s0 c0 os fuel hf => ?_, fun n s0 met o4 o5 os fuel hf hm2 => ?_⟩
      · obtain ⟨f, rfl⟩ : ∃ j, fuel = j + 1 := ⟨fuel - 1, by omega⟩
        rw [w_fol_step h1 h2 h3 (by omega) hnl hl en, A n s0 (c0 + 1) os f (by omega)]
        rw [show c0 + 1 + (c : Int) = c0 + ((c + 1 : Nat) : Int) by omega]
      · obtain ⟨f, rfl⟩ : ∃ j, fuel = j + 1 := ⟨fuel - 1, by omega⟩
        obtain ⟨o4', o5', e1⟩ := w_law_step (n := n) (os := os) (s0 := s0) (met := met) (o4 := o4) (o5 := o5) h1 h2 h3 (by omega) hnl hl hn (by omega) en f
        obtain ⟨met', o4'', o5'', hme, e2⟩ := B n s0 (met ++ [.tup [askD ns si hs no, .tup (left.map .int)]]) o4' o5' os f (by omega) (by simp only [List.length_append, List.length_singleton]; omega)
        simp only [List.length_append, List.length_singleton] at hme
        exact ⟨met', o4'', o5'', by omega, e1.trans e2⟩
end Den
/-! Mj14: the two defs that follow a plan. -/
namespace Den
open PySem PySem.Spec L2
theorem fzL_ln : ∀ ds : List D, (fzL ds).length = ds.length
  | [] => rfl
  | d :: ds => by simp only [fzL, List.length_cons, fzL_ln ds]
theorem fn_followed {n : Nat} : (TT (n + 1)).fn "followed" = some ⟨[.val, .val], runB (TT n) 4 [.val, .val] b_followed⟩ := rfl
theorem fn_law_followed {n : Nat} : (TT (n + 1)).fn "_law_followed" = some ⟨[.val, .val], runB (TT n) 6 [.val, .val] b__law_followed⟩ := rfl
theorem s_fol {m : Int} {k : Nat} {p : D} {left : List Int} (hm : m ≤ 8) (h : VP m k p) (hk : k ≤ 20) (hn : left.Nodup) (hl : left.length ≤ 8) : ∃ (c : Nat) (l' : List Int), c ≤ k ∧ l'.length ≤ 8 ∧
    (∀ (n : Nat) (os : List Ob), runB (TT (n + 1)) 4 [.val, .val] b_followed [p, .tup (left.map .int)] os = some (.ret (.tup [.int c, .tup (l'.map .int)]) [] os)) ∧
    (∀ (n : Nat) (os : List Ob), ∃ met : List D, met.length = c ∧ runB (TT n) 6 [.val, .val] b__law_followed [p, .tup (left.map .int)] os = some (.ret (.tup [.lst .fz met, .tup (l'.map .int)]) [] os)) := by
  obtain ⟨c, l', hc, hl', A, B⟩ := fol hm k h hk hn hl
  have fp := h.fz
  have sp := h.shal
  refine ⟨c, l', hc, hl', fun n os => ?_, fun n os => ?_⟩
  · have e := A n (.tup (left.map .int)) 0 os 1000000 (by omega)
    unfold runB b_followed startS
    simp [execs, exec, ev, evs, evc, evo, evIt, evOps, fillC, ioSl, putB, evPk, evFz, opd, isVar, hasV, fill1, fillP, asg, asgs, Den.view, rdV, mvV, setS, shal_own, shal_fz, shal_ro, shal_int, shal_bl, shal_str, shal_non, shal_tup, fz, fzL, fzO, bnd, ret, lift, Den.thn, sthn, idxD, opF, addD, subD, mulD, modD, fdivD, negD, notD, isNonD, cmpD, grd, isLst, setiM, biF, lenF, small, mutL, smallR, lim, flatD, fp, sp, e, outsOf]
  · obtain ⟨met, o4, o5, hme, e⟩ := B n (.tup (left.map .int)) [] none none os 1000000 (by omega) (by simp; omega)
    refine ⟨fzL met, by rw [fzL_ln]; simpa using hme, ?_⟩
    unfold runB b__law_followed startS
    simp [execs, exec, ev, evs, evc, evo, evIt, evOps, fillC, ioSl, putB, evPk, evFz, opd, isVar, hasV, fill1, fillP, asg, asgs, Den.view, rdV, mvV, setS, shal_own, shal_fz, shal_ro, shal_int, shal_bl, shal_str, shal_non, shal_tup, fz, fzL, fzO, bnd, ret, lift, Den.thn, sthn, idxD, opF, addD, subD, mulD, modD, fdivD, negD, notD, isNonD, cmpD, grd, isLst, setiM, biF, lenF, small, mutL, smallR, lim, flatD, listF, tupleF, fp, sp, e, outsOf]
end Den
/-! Mk14: what is diced. -/
namespace Den
open PySem PySem.Spec L2
theorem fn_off {n : Nat} : (TT (n + 1)).fn "_law_off" = some ⟨[.io, .val], runB (TT n) 3 [.io, .val] b__law_off⟩ := rfl
theorem s_many {n : Nat} {os : List Ob} {d : List Int} (h : DOk d) : ∃ (m : Int) (d' : List Int), 1 ≤ m ∧ m ≤ 8 ∧ DOk d' ∧ runB (TT (n + 1)) 1 [.io] b__law_many [.lst .own (d.map .int)] os = some (.ret (.int m) [.lst .own (d'.map .int)] os) := by
  obtain ⟨r, d1, e1, r0, r1, h1⟩ := r_off (TT n) h 8 os (by omega) (by omega)
  obtain ⟨q, d2, e2, q0, q1, h2⟩ := r_off (TT n) h1 4 os (by omega) (by omega)
  have hq : q = 0 ∨ q = 1 ∨ q = 2 ∨ q = 3 := by omega
  have key : ∀ m : Int, atI [D.int 8, .int 5, .int 4, .int (1 + r)] q = some (.int m) → runB (TT (n + 1)) 1 [.io] b__law_many [.lst .own (d.map .int)] os = some (.ret (.int m) [.lst .own (d2.map .int)] os) := fun m hm => by
    unfold runB b__law_many startS
    simp [execs, exec, ev, evs, evc, evo, evIt, evOps, fillC, ioSl, putB, evPk, evFz, opd, isVar, hasV, fill1, fillP, asg, asgs, Den.view, rdV, mvV, setS, shal_own, shal_fz, shal_ro, shal_int, shal_bl, shal_str, shal_non, shal_tup, fz, fzL, fzO, bnd, ret, lift, Den.thn, sthn, idxD, opF, addD, subD, mulD, modD, fdivD, negD, notD, isNonD, cmpD, grd, isLst, setiM, biF, lenF, small, mutL, smallR, lim, flatD, fn_off, callF, e1, e2, hm, outsOf]
  rcases hq with rfl | rfl | rfl | rfl
  · exact ⟨8, d2, by omega, by omega, h2, key 8 (by simp)⟩
  · exact ⟨5, d2, by omega, by omega, h2, key 5 (by simp)⟩
  · exact ⟨4, d2, by omega, by omega, h2, key 4 (by simp)⟩
  · exact ⟨1 + r, d2, by omega, by omega, h2, key (1 + r) (by simp)⟩
end Den
/-! Ml14: a diced plan is sound. -/
namespace Den
open PySem PySem.Spec L2
def tN : Ts → Nat → T
  | .nil, _ => .bad
  | .cons t _, 0 => t
  | .cons _ ts, n + 1 => tN ts n
/-- a comprehension over ints that keeps some, one does not know which -/
theorem lcGo_some {own : List Nat} {f : D → M (Option D)} (I : S → Prop) : ∀ (xs : List Int) (acc : List D) (s : S), (∀ x ∈ xs, ∀ s, I s → ∃ b s', f (.int x) { s with sl := wipeD s.sl own } = some (.val (if b = true then some (.int x) else none) s') ∧ I s') → I s → acc.length + xs.length ≤ lim →
    ∃ is s', List.Sublist is xs ∧ lcGo own f (xs.map .int) acc s = some (.val (acc ++ is.map .int) s') ∧ I s'
  | [], acc, s, _, h, _ => ⟨[], s, .slnil, by simp [lcGo, ret], h⟩
  | x :: xs, acc, s, hf, h, hl => by
    obtain ⟨b, s1, e1, h1⟩ := hf x List.mem_cons_self s h
    rw [List.length_cons] at hl
    cases b with
    | true =>
      obtain ⟨is, s2, sb, e2, h2⟩ := lcGo_some I xs (acc ++ [.int x]) s1 (fun y hy => hf y (List.mem_cons_of_mem _ hy)) h1 (by rw [List.length_append, List.length_singleton]; omega)
      refine ⟨x :: is, s2, sb.cons₂ _, ?_, h2⟩
      rw [if_pos rfl] at e1
      rw [List.map_cons]
      unfold lcGo
      rw [e1]
      dsimp only
      rw [if_pos (by omega), e2, List.append_assoc]
      rfl
    | false =>
      obtain ⟨is, s2, sb, e2, h2⟩ := lcGo_some I xs acc s1 (fun y hy => hf y (List.mem_cons_of_mem _ hy)) h1 (by omega)
      refine ⟨is, s2, sb.cons _, ?_, h2⟩
      rw [if_neg (by decide)] at e1
      rw [List.map_cons]
      unfold lcGo
      rw [e1]
      dsimp only
      rw [e2]
/-- 0, 1, .. -/
def iota (m : Int) : List Int := (List.range m.toNat).map fun i => ((i : Nat) : Int)
theorem rngL_iota (m : Int) : rngL 0 m = (iota m).map .int := by
  unfold rngL iota
  simp
theorem iota_pw (m : Int) : (iota m).Pairwise (· < ·) := by
  unfold iota
  rw [List.pairwise_map]
  exact List.pairwise_lt_range.imp (by intro a b h; omega)
theorem iota_mem {m x : Int} : x ∈ iota m ↔ 0 ≤ x ∧ x < m := by
  unfold iota
  simp only [List.mem_map, List.mem_range]
  constructor
  · rintro ⟨i, h, rfl⟩; omega
  · intro h; exact ⟨x.toNat, by omega, by omega⟩
theorem iota_len {m : Int} (h : 0 ≤ m) : ((iota m).length : Int) = m := by
  unfold iota; simp; omega
theorem rsg_sub {m : Int} {is : List Int} (h : List.Sublist is (iota m)) (h0 : is ≠ []) : Rsg m is := ⟨h0, (iota_pw m).sublist h, fun x hx => iota_mem.mp (h.subset hx)⟩
theorem plan_t1 {n : Nat} {os : List Ob} {d : List Int} {m k : Int} {o3 o4 o5 : Option D} (h : DOk d) (hm : 1 ≤ m) (h8 : m ≤ 8) :
    ∃ is d' o, List.Sublist is (iota m) ∧ DOk d' ∧ exec (TT (n + 1)) (tN b__law_plan 1) ⟨[some (.lst .own (d.map .int)), some (.int m), some (.int k), o3, o4, o5], os⟩ = some (.nx ⟨[some (.lst .own (d'.map .int)), some (.int m), some (.int k), some (.lst .own (is.map .int)), o, o5], os⟩) := by
  unfold b__law_plan
  have hs : (-4611686018427387904 ≤ m) := by omega
  have hs2 : m ≤ 1000000 := by omega
  simp [tN, execs, exec, ev, evs, evc, evo, evIt, evOps, fillC, ioSl, putB, evPk, evFz, opd, isVar, hasV, fill1, fillP, asg, asgs, Den.view, rdV, mvV, setS, shal_own, shal_fz, shal_ro, shal_int, shal_bl, shal_str, shal_non, shal_tup, fz, fzL, fzO, bnd, ret, lift, Den.thn, sthn, idxD, opF, addD, subD, mulD, modD, fdivD, negD, notD, isNonD, cmpD, grd, isLst, setiM, biF, lenF, small, mutL, smallR, lim, flatD, hs, hs2, wipeD, rngL_iota]
  generalize hg : lcGo _ _ _ _ _ = r
  obtain ⟨is, s', hsub, rfl, d', o, hd', rfl⟩ : ∃ is s', List.Sublist is (iota m) ∧ r = some (.val ([] ++ is.map .int) s') ∧ (fun s => ∃ d' o, DOk d' ∧ s = (⟨[some (.lst .own (d'.map .int)), some (.int m), some (.int k), o3, o, o5], os⟩ : S)) s' := by
    rw [← hg]
    refine lcGo_some (fun s => ∃ d' o, DOk d' ∧ s = (⟨[some (.lst .own (d'.map .int)), some (.int m), some (.int k), o3, o, o5], os⟩ : S)) (iota m) [] _ (fun x hx s hs => ?_) ⟨d, none, h, rfl⟩ (by have := iota_len (m := m) (by omega); simp [lim]; omega)
    obtain ⟨d', o, hd', rfl⟩ := hs
    obtain ⟨r, d1, e1, r0, r1, h1⟩ := r_off (TT n) hd' 2 os (by omega) (by omega)
    refine ⟨decide (r = 0), ⟨[some (.lst .own (d1.map .int)), some (.int m), some (.int k), o3, some (.int x), o5], os⟩, ?_, d1, _, h1, rfl⟩
    by_cases hq : r = 0 <;> simp [execs, exec, ev, evs, evc, evo, evIt, evOps, fillC, ioSl, putB, evPk, evFz, opd, isVar, hasV, fill1, fillP, asg, asgs, Den.view, rdV, mvV, setS, shal_own, shal_fz, shal_ro, shal_int, shal_bl, shal_str, shal_non, shal_tup, fz, fzL, fzO, bnd, ret, lift, Den.thn, sthn, idxD, opF, addD, subD, mulD, modD, fdivD, negD, notD, isNonD, cmpD, grd, isLst, setiM, biF, lenF, small, mutL, smallR, lim, flatD, wipeD, fn_off, callF, e1, hq]
  refine ⟨is, hsub, d', hd', o4, ?_⟩
  simp [restD]
end Den
/-! Mm14: a diced plan is sound, continued. -/
namespace Den
open PySem PySem.Spec L2
theorem plan_t2 {n : Nat} {os : List Ob} {d is : List Int} {m k : Int} {o4 o5 : Option D} (h : DOk d) (hm : 1 ≤ m) (h8 : m ≤ 8) (hs : List.Sublist is (iota m)) :
    ∃ is' d', Rsg m is' ∧ DOk d' ∧ exec (TT (n + 1)) (tN b__law_plan 2) ⟨[some (.lst .own (d.map .int)), some (.int m), some (.int k), some (.lst .own (is.map .int)), o4, o5], os⟩ = some (.nx ⟨[some (.lst .own (d'.map .int)), some (.int m), some (.int k), some (.lst .own (is'.map .int)), o4, o5], os⟩) := by
  by_cases h0 : is = []
  · subst h0
    obtain ⟨r, d1, e1, r0, r1, h1⟩ := r_off (TT n) h m os (by omega) (by omega)
    refine ⟨[r], d1, ⟨by simp, by simp, by simp; omega⟩, h1, ?_⟩
    have e0 : eqD (.lst .fz []) (.lst .fz []) = some true := eqD_lst0 []
    unfold b__law_plan
    simp [tN, execs, exec, ev, evs, evc, evo, evIt, evOps, fillC, ioSl, putB, evPk, evFz, opd, isVar, hasV, fill1, fillP, asg, asgs, Den.view, rdV, mvV, setS, shal_own, shal_fz, shal_ro, shal_int, shal_bl, shal_str, shal_non, shal_tup, fz, fzL, fzO, bnd, ret, lift, Den.thn, sthn, idxD, opF, addD, subD, mulD, modD, fdivD, negD, notD, isNonD, cmpD, grd, isLst, setiM, biF, lenF, small, mutL, smallR, lim, flatD, e0, fn_off, callF, e1]
  · refine ⟨is, d, rsg_sub hs h0, h, ?_⟩
    unfold b__law_plan
    simp [tN, execs, exec, ev, evs, evc, evo, evIt, evOps, fillC, ioSl, putB, evPk, evFz, opd, isVar, hasV, fill1, fillP, asg, asgs, Den.view, rdV, mvV, setS, shal_own, shal_fz, shal_ro, shal_int, shal_bl, shal_str, shal_non, shal_tup, fz, fzL, fzO, bnd, ret, lift, Den.thn, sthn, idxD, opF, addD, subD, mulD, modD, fdivD, negD, notD, isNonD, cmpD, grd, isLst, setiM, biF, lenF, small, mutL, smallR, lim, flatD, h0]
theorem cut_take {α : Type} (l : List α) {r : Int} (h0 : 0 ≤ r) : cutL l none (some r) = l.take r.toNat := by
  have e : HT.sIx l.length l.length (some r) = min r.toNat l.length := if_neg (by omega)
  have e0 : HT.sIx l.length 0 none = 0 := rfl
  unfold cutL
  rw [e, e0, List.drop_zero, Nat.sub_zero]
  by_cases h : r.toNat ≤ l.length
  · rw [Nat.min_eq_left h]
  · rw [Nat.min_eq_right (by omega), List.take_length, List.take_of_length_le (by omega)]
theorem rsg_take {m : Int} {is : List Int} {j : Nat} (r : Rsg m is) (h : 0 < j) : Rsg m (is.take j) := by
  obtain ⟨h1, h2, h3⟩ := r
  refine ⟨?_, h2.sublist (List.take_sublist _ _), fun x hx => h3 x (List.mem_of_mem_take hx)⟩
  cases is with
  | nil => exact absurd rfl h1
  | cons x is => cases j with
    | zero => omega
    | succ j => simp
theorem plan_t3 {n : Nat} {os : List Ob} {d is : List Int} {m k : Int} {o4 o5 : Option D} (h : DOk d) (hs : Rsg m is) :
    ∃ is' d', Rsg m is' ∧ DOk d' ∧ exec (TT (n + 1)) (tN b__law_plan 3) ⟨[some (.lst .own (d.map .int)), some (.int m), some (.int k), some (.lst .own (is.map .int)), o4, o5], os⟩ = some (.nx ⟨[some (.lst .own (d'.map .int)), some (.int m), some (.int k), some (.lst .own (is'.map .int)), o4, o5], os⟩) := by
  by_cases h0 : 3 < (is.length : Int)
  · obtain ⟨r, d1, e1, r0, r1, h1⟩ := r_off (TT n) h 3 os (by omega) (by omega)
    refine ⟨is.take (1 + r).toNat, d1, rsg_take hs (by omega), h1, ?_⟩
    have ec := cut_take (is.map D.int) (r := 1 + r) (by omega)
    unfold b__law_plan
    simp [tN, execs, exec, ev, evs, evc, evo, evIt, evOps, fillC, ioSl, putB, evPk, evFz, opd, isVar, hasV, fill1, fillP, asg, asgs, Den.view, rdV, mvV, setS, shal_own, shal_fz, shal_ro, shal_int, shal_bl, shal_str, shal_non, shal_tup, fz, fzL, fzO, bnd, ret, lift, Den.thn, sthn, idxD, opF, addD, subD, mulD, modD, fdivD, negD, notD, isNonD, cmpD, grd, isLst, setiM, biF, lenF, small, mutL, smallR, lim, flatD, h0, fn_off, callF, e1, slcI, ec]
  · refine ⟨is, d, hs, h, ?_⟩
    unfold b__law_plan
    simp [tN, execs, exec, ev, evs, evc, evo, evIt, evOps, fillC, ioSl, putB, evPk, evFz, opd, isVar, hasV, fill1, fillP, asg, asgs, Den.view, rdV, mvV, setS, shal_own, shal_fz, shal_ro, shal_int, shal_bl, shal_str, shal_non, shal_tup, fz, fzL, fzO, bnd, ret, lift, Den.thn, sthn, idxD, opF, addD, subD, mulD, modD, fdivD, negD, notD, isNonD, cmpD, grd, isLst, setiM, biF, lenF, small, mutL, smallR, lim, flatD, h0]
end Den
/-! Mn14: a diced plan is sound, the end. -/
namespace Den
open PySem PySem.Spec L2
theorem fn_plan {n : Nat} : (TT (n + 1)).fn "_law_plan" = some ⟨[.io, .val, .val], runB (TT n) 6 [.io, .val, .val] b__law_plan⟩ := rfl
theorem s_plan {m : Int} (hm : 1 ≤ m) (h8 : m ≤ 8) : ∀ (k n : Nat) {d : List Int} {os : List Ob}, DOk d → k ≤ 20 → k < n → ∃ p d', VP m k p ∧ DOk d' ∧ runB (TT n) 6 [.io, .val, .val] b__law_plan [.lst .own (d.map .int), .int m, .int k] os = some (.ret p [.lst .own (d'.map .int)] os) := by
  intro k
  induction k with
  | zero =>
    intro n d os h _ _
    refine ⟨endD, d, rfl, h, ?_⟩
    unfold runB b__law_plan startS
    simp [execs, exec, ev, evs, evc, evo, evIt, evOps, fillC, ioSl, putB, evPk, evFz, opd, isVar, hasV, fill1, fillP, asg, asgs, Den.view, rdV, mvV, setS, shal_own, shal_fz, shal_ro, shal_int, shal_bl, shal_str, shal_non, shal_tup, fz, fzL, fzO, bnd, ret, lift, Den.thn, sthn, idxD, opF, addD, subD, mulD, modD, fdivD, negD, notD, isNonD, cmpD, grd, isLst, setiM, biF, lenF, small, mutL, smallR, lim, flatD, outsOf, endD]
  | succ k ih =>
    intro n d os h hk hn
    obtain ⟨n, rfl⟩ : ∃ j, n = j + 1 := ⟨n - 1, by omega⟩
    obtain ⟨r, d0, e0, r0, r1, hd0⟩ := r_off (TT n) h 5 os (by omega) (by omega)
    by_cases hr : r = 0
    · subst hr
      refine ⟨endD, d0, VP.end_, hd0, ?_⟩
      have hk0 : ¬ ((k : Int) + 1 = 0) := by omega
      unfold runB b__law_plan startS
      simp [execs, exec, ev, evs, evc, evo, evIt, evOps, fillC, ioSl, putB, evPk, evFz, opd, isVar, hasV, fill1, fillP, asg, asgs, Den.view, rdV, mvV, setS, shal_own, shal_fz, shal_ro, shal_int, shal_bl, shal_str, shal_non, shal_tup, fz, fzL, fzO, bnd, ret, lift, Den.thn, sthn, idxD, opF, addD, subD, mulD, modD, fdivD, negD, notD, isNonD, cmpD, grd, isLst, setiM, biF, lenF, small, mutL, smallR, lim, flatD, outsOf, endD, fn_off, callF, e0, hk0]
    · obtain ⟨is1, d1, o1, hs1, hd1, t1⟩ := plan_t1 (n := n) (os := os) (k := (k : Int) + 1) (o3 := none) (o4 := none) (o5 := none) hd0 hm h8
      obtain ⟨is2, d2, hs2, hd2, t2⟩ := plan_t2 (n := n) (os := os) (k := (k : Int) + 1) (o4 := o1) (o5 := none) hd1 hm h8 hs1
      obtain ⟨is3, d3, hs3, hd3, t3⟩ := plan_t3 (n := n) (os := os) (k := (k : Int) + 1) (o4 := o1) (o5 := none) hd2 hs2
      have hl3 : is3.length ≤ 8 := by have := hs3.len; omega
      -- what is heard
      have t4 : ∃ hs d4, hs.length = is3.length ∧ (∀ p ∈ hs, VP m k p) ∧ DOk d4 ∧ exec (TT (n + 1)) (tN b__law_plan 4) ⟨[some (.lst .own (d3.map .int)), some (.int m), some (.int ((k : Int) + 1)), some (.lst .own (is3.map .int)), o1, none], os⟩ = some (.nx ⟨[some (.lst .own (d4.map .int)), some (.int m), some (.int ((k : Int) + 1)), some (.lst .fz (is3.map .int)), o1, some (.tup hs)], os⟩) := by
        unfold b__law_plan
        simp [tN, execs, exec, ev, evs, evc, evo, evIt, evOps, fillC, ioSl, putB, evPk, evFz, opd, isVar, hasV, fill1, fillP, asg, asgs, Den.view, rdV, mvV, setS, shal_own, shal_fz, shal_ro, shal_int, shal_bl, shal_str, shal_non, shal_tup, fz, fzL, fzO, bnd, ret, lift, Den.thn, sthn, idxD, opF, addD, subD, mulD, modD, fdivD, negD, notD, isNonD, cmpD, grd, isLst, setiM, biF, lenF, small, mutL, smallR, lim, flatD, wipeD]
        generalize hg : lcGo _ _ _ _ _ = r
        obtain ⟨hs, s', rfl, ⟨d4, o, hd4, rfl⟩, hl, hv⟩ : ∃ ds s', r = some (.val ([] ++ ds) s') ∧ (fun s => ∃ d' o, DOk d' ∧ s = (⟨[some (.lst .own (d'.map .int)), some (.int m), some (.int ((k : Int) + 1)), some (.lst .fz (is3.map .int)), o, none], os⟩ : S)) s' ∧ ds.length = (is3.map D.int).length ∧ ∀ d ∈ ds, ∃ x ∈ is3.map D.int, (fun _ d => VP m k d) x d := by
          rw [← hg]
          refine lcGo_all (fun s => ∃ d' o, DOk d' ∧ s = (⟨[some (.lst .own (d'.map .int)), some (.int m), some (.int ((k : Int) + 1)), some (.lst .fz (is3.map .int)), o, none], os⟩ : S)) (fun _ d => VP m k d) (is3.map .int) [] _ (fun x hx s hs => ?_) ⟨d3, none, hd3, rfl⟩ (by simp [lim]; omega)
          obtain ⟨d', o, hd', rfl⟩ := hs
          obtain ⟨p, d'', hp, hd'', e⟩ := ih n (os := os) hd' (by omega) (by omega)
          have ek : (k : Int) + 1 - 1 = k := by omega
          exact ⟨p, ⟨[some (.lst .own (d''.map .int)), some (.int m), some (.int ((k : Int) + 1)), some (.lst .fz (is3.map .int)), some x, none], os⟩, by simp [execs, exec, ev, evs, evc, evo, evIt, evOps, fillC, ioSl, putB, evPk, evFz, opd, isVar, hasV, fill1, fillP, asg, asgs, Den.view, rdV, mvV, setS, shal_own, shal_fz, shal_ro, shal_int, shal_bl, shal_str, shal_non, shal_tup, fz, fzL, fzO, bnd, ret, lift, Den.thn, sthn, idxD, opF, addD, subD, mulD, modD, fdivD, negD, notD, isNonD, cmpD, grd, isLst, setiM, biF, lenF, small, mutL, smallR, lim, flatD, wipeD, fn_plan, callF, ek, e], ⟨d'', _, hd'', rfl⟩, hp⟩
        have hvp : ∀ p ∈ hs, VP m k p := fun p hp => let ⟨_, _, h⟩ := hv p hp; h
        have hz := fzL_id fun p hp => (hvp p hp).fz
        refine ⟨hs, by simpa using hl, hvp, d4, hd4, ?_⟩
        simp [execs, exec, ev, evs, evc, evo, evIt, evOps, fillC, ioSl, putB, evPk, evFz, opd, isVar, hasV, fill1, fillP, asg, asgs, Den.view, rdV, mvV, setS, shal_own, shal_fz, shal_ro, shal_int, shal_bl, shal_str, shal_non, shal_tup, fz, fzL, fzO, bnd, ret, lift, Den.thn, sthn, idxD, opF, addD, subD, mulD, modD, fdivD, negD, notD, isNonD, cmpD, grd, isLst, setiM, biF, lenF, small, mutL, smallR, lim, flatD, restD, tupleF, hz]
      obtain ⟨hs, d4, hhl, hhv, hd4, t4⟩ := t4
      obtain ⟨p1, d5, hp1, hd5, e5⟩ := ih n (os := os) hd4 (by omega) (by omega)
      obtain ⟨p2, d6, hp2, hd6, e6⟩ := ih n (os := os) hd5 (by omega) (by omega)
      refine ⟨askD is3 p1 hs p2, d6, .inr ⟨is3, p1, hs, p2, rfl, hs3, hhl, hp1, hhv, hp2⟩, hd6, ?_⟩
      have ek : (k : Int) + 1 - 1 = k := by omega
      have hk0 : ¬ ((k : Int) + 1 = 0) := by omega
      have hz := fzL_id fun p hp => (hhv p hp).fz
      have t0 : exec (TT (n + 1)) (tN b__law_plan 0) ⟨[some (.lst .own (d.map .int)), some (.int m), some (.int ((k : Int) + 1)), none, none, none], os⟩ = some (.nx ⟨[some (.lst .own (d0.map .int)), some (.int m), some (.int ((k : Int) + 1)), none, none, none], os⟩) := by
        unfold b__law_plan
        simp [tN, execs, exec, ev, evs, evc, evo, evIt, evOps, fillC, ioSl, putB, evPk, evFz, opd, isVar, hasV, fill1, fillP, asg, asgs, Den.view, rdV, mvV, setS, shal_own, shal_fz, shal_ro, shal_int, shal_bl, shal_str, shal_non, shal_tup, fz, fzL, fzO, bnd, ret, lift, Den.thn, sthn, idxD, opF, addD, subD, mulD, modD, fdivD, negD, notD, isNonD, cmpD, grd, isLst, setiM, biF, lenF, small, mutL, smallR, lim, flatD, fn_off, callF, e0, hk0, hr]
      have t5 : exec (TT (n + 1)) (tN b__law_plan 5) ⟨[some (.lst .own (d4.map .int)), some (.int m), some (.int ((k : Int) + 1)), some (.lst .fz (is3.map .int)), o1, some (.tup hs)], os⟩ = some (.rt (askD is3 p1 hs p2) ⟨[some (.lst .own (d6.map .int)), some (.int m), some (.int ((k : Int) + 1)), some (.lst .fz (is3.map .int)), o1, some (.tup hs)], os⟩) := by
        unfold b__law_plan
        simp [tN, execs, exec, ev, evs, evc, evo, evIt, evOps, fillC, ioSl, putB, evPk, evFz, opd, isVar, hasV, fill1, fillP, asg, asgs, Den.view, rdV, mvV, setS, shal_own, shal_fz, shal_ro, shal_int, shal_bl, shal_str, shal_non, shal_tup, fz, fzL, fzO, bnd, ret, lift, Den.thn, sthn, idxD, opF, addD, subD, mulD, modD, fdivD, negD, notD, isNonD, cmpD, grd, isLst, setiM, biF, lenF, small, mutL, smallR, lim, flatD, fn_plan, callF, ek, e5, e6, tupleF, hz, askD]
      have eb : b__law_plan = .cons (tN b__law_plan 0) (.cons (tN b__law_plan 1) (.cons (tN b__law_plan 2) (.cons (tN b__law_plan 3) (.cons (tN b__law_plan 4) (.cons (tN b__law_plan 5) .nil))))) := rfl
      unfold runB startS
      rw [eb]
      simp [execs, t0, t1, t2, t3, t4, t5, outsOf]
end Den
/-! Mo14: numbers mixed. -/
namespace Den
open PySem PySem.Spec L2
theorem fn_mixed {n : Nat} : (TT (n + 1)).fn "_law_mixed" = some ⟨[.io, .val], runB (TT n) 4 [.io, .val] b__law_mixed⟩ := rfl
theorem perm_eraseIdx {α : Type} : ∀ {l : List α} {j : Nat} (h : j < l.length), (l.eraseIdx j ++ [l[j]]).Perm l
  | x :: l, 0, h => by
    simp only [List.eraseIdx_zero, List.tail_cons, List.getElem_cons_zero]
    exact List.perm_append_singleton x l
  | x :: l, j + 1, h => by
    simp only [List.eraseIdx_cons_succ, List.getElem_cons_succ, List.cons_append]
    exact (perm_eraseIdx (by simpa using h)).cons x
theorem map_eraseIdx' {α β : Type} {f : α → β} : ∀ (l : List α) (j : Nat), (l.map f).eraseIdx j = (l.eraseIdx j).map f
  | [], _ => rfl
  | x :: l, 0 => by simp
  | x :: l, j + 1 => by simp [map_eraseIdx' l j]
theorem w_mixed {n : Nat} {os : List Ob} {row : D} : ∀ (c fuel : Nat) {left found d : List Int}, left.length = c → c < fuel → found.length + c ≤ 1000 → DOk d → ∃ (out d' : List Int), DOk d' ∧ out.Perm (left ++ found) ∧
    whilGo (ev (TT (n + 1)) lc__law_mixed_0) (execs (TT (n + 1)) lb__law_mixed_0) fuel ⟨[some (.lst .own (d.map .int)), some row, some (.lst .own (left.map .int)), some (.lst .own (found.map .int))], os⟩ = some (.nx ⟨[some (.lst .own (d'.map .int)), some row, some (.lst .own []), some (.lst .own (out.map .int))], os⟩)
  | 0, fuel, left, found, d, hl, hf, _, h => by
    obtain ⟨f, rfl⟩ : ∃ j, fuel = j + 1 := ⟨fuel - 1, by omega⟩
    obtain rfl := List.length_eq_zero_iff.mp hl
    refine ⟨found, d, h, by simp, ?_⟩
    have e0 : eqD (.lst .fz []) (.lst .fz []) = some true := eqD_lst0 []
    rw [whil_f]
    unfold lc__law_mixed_0
    simp [execs, exec, ev, evs, evc, evo, evIt, evOps, fillC, ioSl, putB, evPk, evFz, opd, isVar, hasV, fill1, fillP, asg, asgs, Den.view, rdV, mvV, setS, shal_own, shal_fz, shal_ro, shal_int, shal_bl, shal_str, shal_non, shal_tup, fz, fzL, fzO, bnd, ret, lift, Den.thn, sthn, idxD, opF, addD, subD, mulD, modD, fdivD, negD, notD, isNonD, cmpD, grd, isLst, setiM, biF, lenF, small, mutL, smallR, lim, flatD, e0]
  | c + 1, fuel, left, found, d, hl, hf, hb, h => by
    obtain ⟨f, rfl⟩ : ∃ j, fuel = j + 1 := ⟨fuel - 1, by omega⟩
    have h0 : left ≠ [] := fun e => by rw [e] at hl; cases hl
    obtain ⟨r, d1, e1, r0, r1, h1⟩ := r_off (TT n) h (c + 1) os (by omega) (by omega)
    have hj : r.toNat < left.length := by omega
    obtain ⟨out, d', hd', hp, e⟩ := w_mixed (n := n) (os := os) (row := row) c f (left := left.eraseIdx r.toNat) (found := found ++ [left[r.toNat]]) (d := d1) (by rw [List.length_eraseIdx, if_pos hj]; omega) (by omega) (by simp; omega) h1
    refine ⟨out, d', hd', hp.trans ?_, ?_⟩
    · have := (perm_eraseIdx hj).append_right found
      refine List.Perm.trans ?_ this
      rw [List.append_assoc]
      exact List.Perm.append_left _ (List.perm_append_comm)
    rw [whil_t (s1 := ⟨[some (.lst .own (d.map .int)), some row, some (.lst .own (left.map .int)), some (.lst .own (found.map .int))], os⟩) (by unfold lc__law_mixed_0; simp [execs, exec, ev, evs, evc, evo, evIt, evOps, fillC, ioSl, putB, evPk, evFz, opd, isVar, hasV, fill1, fillP, asg, asgs, Den.view, rdV, mvV, setS, shal_own, shal_fz, shal_ro, shal_int, shal_bl, shal_str, shal_non, shal_tup, fz, fzL, fzO, bnd, ret, lift, Den.thn, sthn, idxD, opF, addD, subD, mulD, modD, fdivD, negD, notD, isNonD, cmpD, grd, isLst, setiM, biF, lenF, small, mutL, smallR, lim, flatD, h0])]
    have hx : ixN (left.map D.int).length r = some r.toNat := by
      have := ixN_of (n := (left.map D.int).length) (i := r.toNat) (by simpa using hj)
      rw [show ((r.toNat : Nat) : Int) = r by omega] at this
      exact this
    have hg : (left.map D.int)[r.toNat]? = some (.int left[r.toNat]) := by
      rw [List.getElem?_map, List.getElem?_eq_getElem hj]; rfl
    have he : (left.map D.int).eraseIdx r.toNat = (left.eraseIdx r.toNat).map .int := map_eraseIdx' _ _
    have hr : -4611686018427387904 ≤ r := by omega
    have hr2 : r ≤ 1000000 := by omega
    have hfl : found.length < 1000000 := by omega
    have hll : (left.length : Int) = (c : Int) + 1 := by omega
    rw [List.map_append] at e
    generalize left[r.toNat] = x at *
    generalize hX : left.eraseIdx r.toNat = lx at *
    rw [List.length_map] at hx
    have es : execs (TT (n + 1)) lb__law_mixed_0 ⟨[some (.lst .own (d.map .int)), some row, some (.lst .own (left.map .int)), some (.lst .own (found.map .int))], os⟩ = some (.nx ⟨[some (.lst .own (d1.map .int)), some row, some (.lst .own (lx.map .int)), some (.lst .own (found.map .int ++ [.int x]))], os⟩) := by
      unfold lb__law_mixed_0
      simp [execs, exec, ev, evs, evc, evo, evIt, evOps, fillC, ioSl, putB, evPk, evFz, opd, isVar, hasV, fill1, fillP, asg, asgs, Den.view, rdV, mvV, setS, shal_own, shal_fz, shal_ro, shal_int, shal_bl, shal_str, shal_non, shal_tup, fz, fzL, fzO, bnd, ret, lift, Den.thn, sthn, idxD, opF, addD, subD, mulD, modD, fdivD, negD, notD, isNonD, cmpD, grd, isLst, setiM, biF, lenF, small, mutL, smallR, lim, flatD, fn_off, callF, hll, e1, muF, hx, hg, he, hr, hr2, hfl]
    rw [es]
    exact e
theorem s_mixed {n : Nat} {os : List Ob} {d row : List Int} (h : DOk d) (hl : row.length ≤ 8) : ∃ (out d' : List Int), DOk d' ∧ out.Perm row ∧ runB (TT (n + 1)) 4 [.io, .val] b__law_mixed [.lst .own (d.map .int), .lst .fz (row.map .int)] os = some (.ret (.lst .own (out.map .int)) [.lst .own (d'.map .int)] os) := by
  obtain ⟨out, d', hd', hp, e⟩ := w_mixed (n := n) (os := os) (row := .lst .fz (row.map .int)) row.length 1000000 (left := row) (found := []) rfl (by omega) (by simp; omega) h
  rw [List.append_nil] at hp
  refine ⟨out, d', hd', hp, ?_⟩
  rw [List.map_nil] at e
  unfold runB b__law_mixed startS
  simp [execs, exec, ev, evs, evc, evo, evIt, evOps, fillC, ioSl, putB, evPk, evFz, opd, isVar, hasV, fill1, fillP, asg, asgs, Den.view, rdV, mvV, setS, shal_own, shal_fz, shal_ro, shal_int, shal_bl, shal_str, shal_non, shal_tup, fz, fzL, fzO, bnd, ret, lift, Den.thn, sthn, idxD, opF, addD, subD, mulD, modD, fdivD, negD, notD, isNonD, cmpD, grd, isLst, setiM, biF, lenF, small, mutL, smallR, lim, flatD, listF, e, outsOf]
end Den
/-! Mp14: one by one. -/
namespace Den
open PySem PySem.Spec L2
theorem fn_each {n : Nat} : (TT (n + 1)).fn "_law_each" = some ⟨[.io, .val], runB (TT n) 5 [.io, .val] b__law_each⟩ := rfl
theorem srt2 (a b : Int) : srtI [a, b] = if a ≤ b then [a, b] else [b, a] := by
  unfold srtI srtI srtI insI insI
  rfl
theorem vp_ask1 {m : Int} {k : Nat} {x : Int} {p q : D} (h0 : 0 ≤ x) (h1 : x < m) (hp : VP m k p) (hq : VP m k q) : VP m (k + 1) (askD [x] p [p] q) := .inr ⟨[x], p, [p], q, rfl, ⟨by simp, by simp, by simp; omega⟩, rfl, hp, by simpa using hp, hq⟩
theorem vp_ask2 {m : Int} {k : Nat} {x y : Int} {p : D} (h0 : 0 ≤ x) (h1 : y < m) (h : x < y) (hp : VP m k p) : VP m (k + 1) (askD [x, y] p [p, p] p) := .inr ⟨[x, y], p, [p, p], p, rfl, ⟨by simp, by simpa using h, by simp; omega⟩, rfl, hp, by simpa using hp, hp⟩
theorem each_turn {n : Nat} {os : List Ob} {m : Int} {k : Nat} {d nums : List Int} {p : D} {x : Int} {o4 : Option D} (hd : DOk d) (hm : m ≤ 8) (hn : ∀ y ∈ nums, 0 ≤ y ∧ y < m) (hx : x ∈ nums) (hl : nums.length ≤ 8) (hp : VP m k p) :
    ∃ d' p' o4', DOk d' ∧ VP m (k + 2) p' ∧ execs (TT (n + 1)) lb__law_each_0 ⟨[some (.lst .own (d.map .int)), some (.lst .fz (nums.map .int)), some p, some (.int x), o4], os⟩ = some (.nx ⟨[some (.lst .own (d'.map .int)), some (.lst .fz (nums.map .int)), some p', some (.int x), o4'], os⟩) := by
  obtain ⟨x0, x1⟩ := hn x hx
  have hnl : 0 < nums.length := List.length_pos_of_mem hx
  obtain ⟨r, d1, e1, r0, r1, h1⟩ := r_off (TT n) hd 4 os (by omega) (by omega)
  have fp := hp.fz
  have v1 := vp_ask1 x0 x1 hp (VP.end_ (m := m) (k := k))
  have fe : fz endD = endD := rfl
  by_cases hr : r = 0
  · subst hr
    obtain ⟨q, d2, e2, q0, q1, h2⟩ := r_off (TT n) h1 nums.length os (by omega) (by omega)
    have hj : q.toNat < nums.length := by omega
    obtain ⟨y0, y1⟩ := hn nums[q.toNat] (List.getElem_mem hj)
    have ea : atI (nums.map D.int) q = some (.int nums[q.toNat]) := by
      have : (nums.map D.int)[q.toNat]? = some (.int nums[q.toNat]) := by rw [List.getElem?_map, List.getElem?_eq_getElem hj]; rfl
      have := atI_nat this
      rw [show ((q.toNat : Nat) : Int) = q by omega] at this
      exact this
    generalize nums[q.toNat] = y at *
    have es := srt2 x y
    have fv := v1.fz
    by_cases hxy : x < y
    · rw [if_pos (by omega)] at es
      refine ⟨d2, _, some (.lst .own [.int x, .int y]), h2, vp_ask2 (x := x) (y := y) x0 y1 hxy v1, ?_⟩
      unfold lb__law_each_0 askD endD at *
      simp [execs, exec, ev, evs, evc, evo, evIt, evOps, fillC, ioSl, putB, evPk, evFz, opd, isVar, hasV, fill1, fillP, asg, asgs, Den.view, rdV, mvV, setS, shal_own, shal_fz, shal_ro, shal_int, shal_bl, shal_str, shal_non, shal_tup, fz, fzL, fzO, bnd, ret, lift, Den.thn, sthn, idxD, opF, addD, subD, mulD, modD, fdivD, negD, notD, isNonD, cmpD, grd, isLst, setiM, biF, lenF, small, mutL, smallR, lim, flatD, fn_off, callF, e1, e2, ea, sortedF, intsOf, es, hxy, tupleF, fp]
    · have v2 := vp_ask1 x0 x1 v1 v1
      by_cases hyx : y < x
      · rw [if_neg (by omega)] at es
        refine ⟨d2, _, some (.lst .own [.int y, .int x]), h2, vp_ask2 (x := y) (y := x) y0 x1 hyx v1, ?_⟩
        unfold lb__law_each_0 askD endD at *
        simp [execs, exec, ev, evs, evc, evo, evIt, evOps, fillC, ioSl, putB, evPk, evFz, opd, isVar, hasV, fill1, fillP, asg, asgs, Den.view, rdV, mvV, setS, shal_own, shal_fz, shal_ro, shal_int, shal_bl, shal_str, shal_non, shal_tup, fz, fzL, fzO, bnd, ret, lift, Den.thn, sthn, idxD, opF, addD, subD, mulD, modD, fdivD, negD, notD, isNonD, cmpD, grd, isLst, setiM, biF, lenF, small, mutL, smallR, lim, flatD, fn_off, callF, e1, e2, ea, sortedF, intsOf, es, hyx, tupleF, fp]
      · obtain rfl : x = y := by omega
        rw [if_pos (by omega)] at es
        refine ⟨d2, _, some (.lst .own [.int x, .int x]), h2, v2, ?_⟩
        unfold lb__law_each_0 askD endD at *
        simp [execs, exec, ev, evs, evc, evo, evIt, evOps, fillC, ioSl, putB, evPk, evFz, opd, isVar, hasV, fill1, fillP, asg, asgs, Den.view, rdV, mvV, setS, shal_own, shal_fz, shal_ro, shal_int, shal_bl, shal_str, shal_non, shal_tup, fz, fzL, fzO, bnd, ret, lift, Den.thn, sthn, idxD, opF, addD, subD, mulD, modD, fdivD, negD, notD, isNonD, cmpD, grd, isLst, setiM, biF, lenF, small, mutL, smallR, lim, flatD, fn_off, callF, e1, e2, ea, sortedF, intsOf, es, tupleF, fp]
  · refine ⟨d1, _, o4, h1, v1.up, ?_⟩
    unfold lb__law_each_0 askD endD
    simp [execs, exec, ev, evs, evc, evo, evIt, evOps, fillC, ioSl, putB, evPk, evFz, opd, isVar, hasV, fill1, fillP, asg, asgs, Den.view, rdV, mvV, setS, shal_own, shal_fz, shal_ro, shal_int, shal_bl, shal_str, shal_non, shal_tup, fz, fzL, fzO, bnd, ret, lift, Den.thn, sthn, idxD, opF, addD, subD, mulD, modD, fdivD, negD, notD, isNonD, cmpD, grd, isLst, setiM, biF, lenF, small, mutL, smallR, lim, flatD, fn_off, callF, e1, hr, fp]
theorem s_each {n : Nat} {os : List Ob} {m : Int} {d nums : List Int} (hd : DOk d) (hm : m ≤ 8) (hn : ∀ y ∈ nums, 0 ≤ y ∧ y < m) (hl : nums.length ≤ 8) :
    ∃ p d', DOk d' ∧ VP m (2 * nums.length) p ∧ runB (TT (n + 1)) 5 [.io, .val] b__law_each [.lst .own (d.map .int), .lst .fz (nums.map .int)] os = some (.ret p [.lst .own (d'.map .int)] os) := by
  unfold runB b__law_each startS
  simp [execs, exec, ev, evs, evc, evo, evIt, evOps, fillC, ioSl, putB, evPk, evFz, opd, isVar, hasV, fill1, fillP, asg, asgs, Den.view, rdV, mvV, setS, shal_own, shal_fz, shal_ro, shal_int, shal_bl, shal_str, shal_non, shal_tup, fz, fzL, fzO, bnd, ret, lift, Den.thn, sthn, idxD, opF, addD, subD, mulD, modD, fdivD, negD, notD, isNonD, cmpD, grd, isLst, setiM, biF, lenF, small, mutL, smallR, lim, flatD]
  generalize hg : forGo _ _ _ = r
  obtain ⟨s', rfl, d', p, o3, o4, hd', hp, rfl⟩ : ∃ s', r = some (.nx s') ∧ (fun (i : Nat) s => ∃ d' p o3 o4, DOk d' ∧ VP m (2 * i) p ∧ s = (⟨[some (.lst .own (d'.map .int)), some (.lst .fz (nums.map .int)), some p, o3, o4], os⟩ : S)) (0 + ((nums.map D.int).reverse).length) s' := by
    rw [← hg]
    refine forGo_ex (fun (i : Nat) s => ∃ d' p o3 o4, DOk d' ∧ VP m (2 * i) p ∧ s = (⟨[some (.lst .own (d'.map .int)), some (.lst .fz (nums.map .int)), some p, o3, o4], os⟩ : S)) (nums.map D.int).reverse 0 (fun i x s hx hs => ?_) _ ⟨d, endD, none, none, hd, rfl, rfl⟩
    obtain ⟨d', p, o3, o4, hd', hp, rfl⟩ := hs
    have hx := List.mem_of_getElem? hx
    rw [List.mem_reverse] at hx
    obtain ⟨y, hy, rfl⟩ := List.mem_map.mp hx
    obtain ⟨d2, p2, o42, hd2, hp2, e⟩ := each_turn (n := n) (os := os) (o4 := o4) hd' hm hn hy hl hp
    refine ⟨⟨[some (.lst .own (d2.map .int)), some (.lst .fz (nums.map .int)), some p2, some (.int y), o42], os⟩, ?_, d2, p2, some (.int y), o42, hd2, ?_, rfl⟩
    · simp [execs, exec, ev, evs, evc, evo, evIt, evOps, fillC, ioSl, putB, evPk, evFz, opd, isVar, hasV, fill1, fillP, asg, asgs, Den.view, rdV, mvV, setS, shal_own, shal_fz, shal_ro, shal_int, shal_bl, shal_str, shal_non, shal_tup, fz, fzL, fzO, bnd, ret, lift, Den.thn, sthn, idxD, opF, addD, subD, mulD, modD, fdivD, negD, notD, isNonD, cmpD, grd, isLst, setiM, biF, lenF, small, mutL, smallR, lim, flatD, e]
    · rw [show 2 * (0 + i + 1) = 2 * (0 + i) + 2 by omega]; exact hp2
  simp at hp
  refine ⟨p, d', hd', hp, ?_⟩
  simp [execs, exec, ev, evs, evc, evo, evIt, evOps, fillC, ioSl, putB, evPk, evFz, opd, isVar, hasV, fill1, fillP, asg, asgs, Den.view, rdV, mvV, setS, shal_own, shal_fz, shal_ro, shal_int, shal_bl, shal_str, shal_non, shal_tup, fz, fzL, fzO, bnd, ret, lift, Den.thn, sthn, idxD, opF, addD, subD, mulD, modD, fdivD, negD, notD, isNonD, cmpD, grd, isLst, setiM, biF, lenF, small, mutL, smallR, lim, flatD, outsOf]
end Den
/-! Mq14: groups that split. -/
namespace Den
open PySem PySem.Spec L2
theorem fn_groups {n : Nat} : (TT (n + 1)).fn "_law_groups" = some ⟨[.val], runB (TT n) 6 [.val] b__law_groups⟩ := rfl
theorem tups_fz (l : List (List Int)) : fzL (l.map tupI) = l.map tupI := fzL_id fun d hd => by
  obtain ⟨x, _, rfl⟩ := List.mem_map.mp hd
  simp only [tupI, fz, ints_fz]
theorem shp_tups {k : Nat} {l : List (List Int)} : ∀ x ∈ l.map tupI, Shp (k + 1) x := fun x hx => by
  obtain ⟨i, _, rfl⟩ := List.mem_map.mp hx
  exact shp_tupI
theorem cut_drop {α : Type} (l : List α) {r : Int} (h0 : 0 ≤ r) : cutL l (some r) none = l.drop r.toNat := by
  have e : HT.sIx l.length 0 (some r) = min r.toNat l.length := if_neg (by omega)
  have e0 : HT.sIx l.length l.length none = l.length := rfl
  unfold cutL
  rw [e, e0]
  by_cases h : r.toNat ≤ l.length
  · rw [Nat.min_eq_left h, List.take_of_length_le (by rw [List.length_drop]; omega)]
  · rw [Nat.min_eq_right (by omega), List.drop_of_length_le (by omega), List.drop_of_length_le (by omega)]
    simp
theorem cut_tail {α : Type} (x : α) (l : List α) : cutL (x :: l) (some 1) none = l := by
  rw [cut_drop _ (by omega)]
  rfl
def wgt (gs : List (List Int)) : Nat := (gs.map fun g => 2 * g.length - 1).sum
theorem wgt_len {m : Int} : ∀ {gs : List (List Int)}, (∀ g ∈ gs, Rsg m g) → gs.length ≤ wgt gs
  | [], _ => Nat.le_refl _
  | g :: gs, h => by
    have h1 := List.length_pos_iff.mpr (h g List.mem_cons_self).1
    have h2 := wgt_len fun x hx => h x (List.mem_cons_of_mem _ hx)
    simp only [wgt, List.map_cons, List.sum_cons, List.length_cons] at h2 ⊢
    omega
theorem rsg_drop {m : Int} {is : List Int} {j : Nat} (r : Rsg m is) (h : j < is.length) : Rsg m (is.drop j) := by
  obtain ⟨h1, h2, h3⟩ := r
  refine ⟨fun e => ?_, h2.sublist (List.drop_sublist _ _), fun x hx => h3 x (List.mem_of_mem_drop hx)⟩
  have := congrArg List.length e
  rw [List.length_drop, List.length_nil] at this
  omega
theorem groups_turn {n k : Nat} {os : List Ob} {m : Int} {g : List Int} {gs : List (List Int)} {p q : D} (hm : m ≤ 8) (hg : Rsg m g) (hl : gs.length ≤ 100) (hp : VP m k p) (hq : VP m k q)
    (ep : runB (TT n) 6 [.val] b__law_groups [.lst .fz (gs.map tupI)] os = some (.ret p [] os))
    (eq : 1 < g.length → runB (TT n) 6 [.val] b__law_groups [.lst .fz ((g.take ((g.length : Int) - (g.length : Int) / 2).toNat :: g.drop ((g.length : Int) - (g.length : Int) / 2).toNat :: gs).map tupI)] os = some (.ret q [] os)) (eq0 : ¬ 1 < g.length → q = endD) :
    ∃ hs, hs.length = g.length ∧ (∀ h ∈ hs, VP m k h) ∧ runB (TT (n + 1)) 6 [.val] b__law_groups [.lst .fz ((g :: gs).map tupI)] os = some (.ret (askD g p hs q) [] os) := by
  have hgl := hg.len
  have e0 : eqD (.lst .fz ((g :: gs).map tupI)) (.lst .fz []) = some false := by
    rw [eqD_of (shp_lst (k := 1) (shp_tups (k := 0))) (shp_lst (k := 0) (fun x hx => by cases hx))]
    simp [toP, toPs, PyData.eqv, PyData.eqvAll]
  have fa : fzL ((g :: gs).map tupI) = (g :: gs).map tupI := tups_fz _
  have fp := hp.fz
  have fq := hq.fz
  have i0 : idxD (.lst .fz ((g :: gs).map tupI)) (.int 0) = some (.tup (g.map .int)) := atI_0
  have ec : slcI (.lst .fz ((g :: gs).map tupI)) (some 1) none = some (.lst .own (gs.map tupI)) := by
    simp only [slcI, List.map_cons, cut_tail]
  have fgs := tups_fz gs
  have c0 : 0 ≤ (g.length : Int) - (g.length : Int) / 2 := by omega
  have c1 := cut_take (g.map D.int) c0
  have c2 := cut_drop (g.map D.int) c0
  have eb : b__law_groups = .cons (tN b__law_groups 0) (.cons (tN b__law_groups 1) (.cons (tN b__law_groups 2) (.cons (tN b__law_groups 3) (.cons (tN b__law_groups 4) (.cons (tN b__law_groups 5) (.cons (tN b__law_groups 6) .nil)))))) := rfl
  have sa : Den.shal (.lst .fz ((g :: gs).map tupI)) = .lst .fz ((g :: gs).map tupI) := by rw [shal_fz, fa]
  have fl : fz (.lst .fz ((g :: gs).map tupI)) = .lst .fz ((g :: gs).map tupI) := by simp only [fz, fa, fzO]
  generalize hX : D.lst Ow.fz ((g :: gs).map tupI) = X at *
  have t0 : exec (TT (n + 1)) (tN b__law_groups 0) ⟨[some X, none, none, none, none, none], os⟩ = some (.nx ⟨[some X, none, none, none, none, none], os⟩) := by
    unfold b__law_groups
    simp [tN, execs, exec, ev, evs, evc, evo, evIt, evOps, fillC, ioSl, putB, evPk, evFz, opd, isVar, hasV, fill1, fillP, asg, asgs, Den.view, rdV, mvV, setS, shal_own, shal_fz, shal_ro, shal_int, shal_bl, shal_str, shal_non, shal_tup, fz, fzL, fzO, bnd, ret, lift, Den.thn, sthn, idxD, opF, addD, subD, mulD, modD, fdivD, negD, notD, isNonD, cmpD, grd, isLst, setiM, biF, lenF, small, mutL, smallR, lim, flatD, -idxD, fl, sa, e0]
  have t1 : exec (TT (n + 1)) (tN b__law_groups 1) ⟨[some X, none, none, none, none, none], os⟩ = some (.nx ⟨[some X, some (.tup (g.map .int)), none, none, none, none], os⟩) := by
    unfold b__law_groups
    simp [tN, execs, exec, ev, evs, evc, evo, evIt, evOps, fillC, ioSl, putB, evPk, evFz, opd, isVar, hasV, fill1, fillP, asg, asgs, Den.view, rdV, mvV, setS, shal_own, shal_fz, shal_ro, shal_int, shal_bl, shal_str, shal_non, shal_tup, fz, fzL, fzO, bnd, ret, lift, Den.thn, sthn, idxD, opF, addD, subD, mulD, modD, fdivD, negD, notD, isNonD, cmpD, grd, isLst, setiM, biF, lenF, small, mutL, smallR, lim, flatD, -idxD, fl, sa, i0]
  have t2 : exec (TT (n + 1)) (tN b__law_groups 2) ⟨[some X, some (.tup (g.map .int)), none, none, none, none], os⟩ = some (.nx ⟨[some X, some (.tup (g.map .int)), some p, none, none, none], os⟩) := by
    unfold b__law_groups
    simp [tN, execs, exec, ev, evs, evc, evo, evIt, evOps, fillC, ioSl, putB, evPk, evFz, opd, isVar, hasV, fill1, fillP, asg, asgs, Den.view, rdV, mvV, setS, shal_own, shal_fz, shal_ro, shal_int, shal_bl, shal_str, shal_non, shal_tup, fz, fzL, fzO, bnd, ret, lift, Den.thn, sthn, idxD, opF, addD, subD, mulD, modD, fdivD, negD, notD, isNonD, cmpD, grd, isLst, setiM, biF, lenF, small, mutL, smallR, lim, flatD, -idxD, fl, sa, ec, fgs, fn_groups, callF, ep]
  have t3 : exec (TT (n + 1)) (tN b__law_groups 3) ⟨[some X, some (.tup (g.map .int)), some p, none, none, none], os⟩ = some (.nx ⟨[some X, some (.tup (g.map .int)), some p, some (.int ((g.length : Int) - (g.length : Int) / 2)), none, none], os⟩) := by
    unfold b__law_groups
    simp [tN, execs, exec, ev, evs, evc, evo, evIt, evOps, fillC, ioSl, putB, evPk, evFz, opd, isVar, hasV, fill1, fillP, asg, asgs, Den.view, rdV, mvV, setS, shal_own, shal_fz, shal_ro, shal_int, shal_bl, shal_str, shal_non, shal_tup, fz, fzL, fzO, bnd, ret, lift, Den.thn, sthn, idxD, opF, addD, subD, mulD, modD, fdivD, negD, notD, isNonD, cmpD, grd, isLst, setiM, biF, lenF, small, mutL, smallR, lim, flatD, -idxD]
  have t4 : exec (TT (n + 1)) (tN b__law_groups 4) ⟨[some X, some (.tup (g.map .int)), some p, some (.int ((g.length : Int) - (g.length : Int) / 2)), none, none], os⟩ = some (.nx ⟨[some X, some (.tup (g.map .int)), some p, some (.int ((g.length : Int) - (g.length : Int) / 2)), some endD, none], os⟩) := by
    unfold b__law_groups
    simp [tN, execs, exec, ev, evs, evc, evo, evIt, evOps, fillC, ioSl, putB, evPk, evFz, opd, isVar, hasV, fill1, fillP, asg, asgs, Den.view, rdV, mvV, setS, shal_own, shal_fz, shal_ro, shal_int, shal_bl, shal_str, shal_non, shal_tup, fz, fzL, fzO, bnd, ret, lift, Den.thn, sthn, idxD, opF, addD, subD, mulD, modD, fdivD, negD, notD, isNonD, cmpD, grd, isLst, setiM, biF, lenF, small, mutL, smallR, lim, flatD, -idxD, endD]
  have t5 : exec (TT (n + 1)) (tN b__law_groups 5) ⟨[some X, some (.tup (g.map .int)), some p, some (.int ((g.length : Int) - (g.length : Int) / 2)), some endD, none], os⟩ = some (.nx ⟨[some X, some (.tup (g.map .int)), some p, some (.int ((g.length : Int) - (g.length : Int) / 2)), some q, none], os⟩) := by
    by_cases h1 : 1 < g.length
    · have e := eq h1
      have h1' : (1 : Int) < (g.length : Int) := by omega
      have hl2 : 1 + 1 + gs.length ≤ 1000000 := by omega
      have hl3 : gs.length + 1 + 1 ≤ 1000000 := by omega
      generalize ((g.length : Int) - (g.length : Int) / 2) = c at *
      simp only [List.map_cons, tupI] at e
      simp only [← List.map_take, ← List.map_drop] at c1 c2
      have s1 : slcI (.tup (g.map .int)) none (some c) = some (.tup ((g.take c.toNat).map .int)) := by simp only [slcI, c1]
      have s2 : slcI (.tup (g.map .int)) (some c) none = some (.tup ((g.drop c.toNat).map .int)) := by simp only [slcI, c2]
      generalize g.take c.toNat = ga at *
      generalize g.drop c.toNat = gb at *
      unfold b__law_groups
      simp [tN, execs, exec, ev, evs, evc, evo, evIt, evOps, fillC, ioSl, putB, evPk, evFz, opd, isVar, hasV, fill1, fillP, asg, asgs, Den.view, rdV, mvV, setS, shal_own, shal_fz, shal_ro, shal_int, shal_bl, shal_str, shal_non, shal_tup, fz, fzL, fzO, bnd, ret, lift, Den.thn, sthn, idxD, opF, addD, subD, mulD, modD, fdivD, negD, notD, isNonD, cmpD, grd, isLst, setiM, biF, lenF, small, mutL, smallR, lim, flatD, -idxD, h1', fl, sa, ec, fgs, s1, s2, fn_groups, callF, hl2, hl3, e]
    · have e := eq0 h1
      have h1' : ¬ (1 : Int) < (g.length : Int) := by omega
      subst e
      unfold b__law_groups
      simp [tN, execs, exec, ev, evs, evc, evo, evIt, evOps, fillC, ioSl, putB, evPk, evFz, opd, isVar, hasV, fill1, fillP, asg, asgs, Den.view, rdV, mvV, setS, shal_own, shal_fz, shal_ro, shal_int, shal_bl, shal_str, shal_non, shal_tup, fz, fzL, fzO, bnd, ret, lift, Den.thn, sthn, idxD, opF, addD, subD, mulD, modD, fdivD, negD, notD, isNonD, cmpD, grd, isLst, setiM, biF, lenF, small, mutL, smallR, lim, flatD, -idxD, h1']
  have t6 : ∃ (hs : List D) (o1 o5 : Option D), hs.length = g.length ∧ (∀ h ∈ hs, VP m k h) ∧ exec (TT (n + 1)) (tN b__law_groups 6) ⟨[some X, some (.tup (g.map .int)), some p, some (.int ((g.length : Int) - (g.length : Int) / 2)), some q, none], os⟩ = some (.rt (askD g p hs q) ⟨[some X, o1, some p, some (.int ((g.length : Int) - (g.length : Int) / 2)), some q, o5], os⟩) := by
    generalize ((g.length : Int) - (g.length : Int) / 2) = c at *
    unfold b__law_groups
    simp [tN, execs, exec, ev, evs, evc, evo, evIt, evOps, fillC, ioSl, putB, evPk, evFz, opd, isVar, hasV, fill1, fillP, asg, asgs, Den.view, rdV, mvV, setS, shal_own, shal_fz, shal_ro, shal_int, shal_bl, shal_str, shal_non, shal_tup, fz, fzL, fzO, bnd, ret, lift, Den.thn, sthn, idxD, opF, addD, subD, mulD, modD, fdivD, negD, notD, isNonD, cmpD, grd, isLst, setiM, biF, lenF, small, mutL, smallR, lim, flatD, -idxD, fp, wipeD]
    generalize hgg : lcGo _ _ _ _ _ = r
    obtain ⟨hs, s', rfl, ⟨o, rfl⟩, hl, hv⟩ : ∃ ds s', r = some (.val ([] ++ ds) s') ∧ (fun s => ∃ o, s = (⟨[some X, some (.tup (g.map .int)), some p, some (.int c), some q, o], os⟩ : S)) s' ∧ ds.length = (g.map D.int).length ∧ ∀ d ∈ ds, ∃ x ∈ g.map D.int, (fun _ d => VP m k d) x d := by
      rw [← hgg]
      refine lcGo_all (fun s => ∃ o, s = (⟨[some X, some (.tup (g.map .int)), some p, some (.int c), some q, o], os⟩ : S)) (fun _ d => VP m k d) (g.map .int) [] _ (fun x hx s hs => ?_) ⟨none, rfl⟩ (by simp [lim]; omega)
      obtain ⟨o, rfl⟩ := hs
      exact ⟨p, ⟨[some X, some (.tup (g.map .int)), some p, some (.int c), some q, some x], os⟩, by simp [execs, exec, ev, evs, evc, evo, evIt, evOps, fillC, ioSl, putB, evPk, evFz, opd, isVar, hasV, fill1, fillP, asg, asgs, Den.view, rdV, mvV, setS, shal_own, shal_fz, shal_ro, shal_int, shal_bl, shal_str, shal_non, shal_tup, fz, fzL, fzO, bnd, ret, lift, Den.thn, sthn, idxD, opF, addD, subD, mulD, modD, fdivD, negD, notD, isNonD, cmpD, grd, isLst, setiM, biF, lenF, small, mutL, smallR, lim, flatD, wipeD, fp], ⟨_, rfl⟩, hp⟩
    have hvp : ∀ p ∈ hs, VP m k p := fun p hp => let ⟨_, _, h⟩ := hv p hp; h
    have hz := fzL_id fun p hp => (hvp p hp).fz
    refine ⟨hs, by simpa using hl, hvp, ?_⟩
    simp [execs, exec, ev, evs, evc, evo, evIt, evOps, fillC, ioSl, putB, evPk, evFz, opd, isVar, hasV, fill1, fillP, asg, asgs, Den.view, rdV, mvV, setS, shal_own, shal_fz, shal_ro, shal_int, shal_bl, shal_str, shal_non, shal_tup, fz, fzL, fzO, bnd, ret, lift, Den.thn, sthn, idxD, opF, addD, subD, mulD, modD, fdivD, negD, notD, isNonD, cmpD, grd, isLst, setiM, biF, lenF, small, mutL, smallR, lim, flatD, restD, tupleF, hz, fq, askD]
  obtain ⟨hs, o1, o5, hl6, hv, t6⟩ := t6
  refine ⟨hs, hl6, hv, ?_⟩
  unfold runB startS
  rw [eb]
  simp [execs, t0, t1, t2, t3, t4, t5, t6, outsOf]
theorem s_groups {os : List Ob} {m : Int} (h8 : m ≤ 8) : ∀ (k n : Nat) (gs : List (List Int)), (∀ g ∈ gs, Rsg m g) → wgt gs ≤ k → k ≤ 20 → k < n → ∃ p, VP m k p ∧ runB (TT n) 6 [.val] b__law_groups [.lst .fz (gs.map tupI)] os = some (.ret p [] os) := by
  have hend : ∀ n, runB (TT n) 6 [.val] b__law_groups [.lst .fz []] os = some (.ret endD [] os) := fun n => by
    have e0 : eqD (.lst .fz []) (.lst .fz []) = some true := eqD_lst0 []
    unfold runB b__law_groups startS
    simp [execs, exec, ev, evs, evc, evo, evIt, evOps, fillC, ioSl, putB, evPk, evFz, opd, isVar, hasV, fill1, fillP, asg, asgs, Den.view, rdV, mvV, setS, shal_own, shal_fz, shal_ro, shal_int, shal_bl, shal_str, shal_non, shal_tup, fz, fzL, fzO, bnd, ret, lift, Den.thn, sthn, idxD, opF, addD, subD, mulD, modD, fdivD, negD, notD, isNonD, cmpD, grd, isLst, setiM, biF, lenF, small, mutL, smallR, lim, flatD, e0, outsOf, endD]
  intro k
  induction k with
  | zero =>
    intro n gs h hw _ _
    cases gs with
    | nil => exact ⟨endD, rfl, hend n⟩
    | cons g gs =>
      have := wgt_len h
      rw [List.length_cons] at this
      omega
  | succ k ih =>
    intro n gs h hw hk hn
    cases gs with
    | nil => exact ⟨endD, VP.end_, hend n⟩
    | cons g gs =>
      obtain ⟨n, rfl⟩ : ∃ j, n = j + 1 := ⟨n - 1, by omega⟩
      have hl := wgt_len h
      have hg := h g List.mem_cons_self
      have hgs : ∀ x ∈ gs, Rsg m x := fun x hx => h x (List.mem_cons_of_mem _ hx)
      have hg0 := List.length_pos_iff.mpr hg.1
      simp only [List.length_cons] at hl
      have hw2 : 2 * g.length - 1 + wgt gs ≤ k + 1 := by simpa [wgt] using hw
      obtain ⟨p, hp, ep⟩ := ih n gs hgs (by omega) (by omega) (by omega)
      by_cases h1 : 1 < g.length
      · have hj : ((g.length : Int) - (g.length : Int) / 2).toNat < g.length := by omega
        have hj0 : 0 < ((g.length : Int) - (g.length : Int) / 2).toNat := by omega
        obtain ⟨q, hq, eq⟩ := ih n (g.take ((g.length : Int) - (g.length : Int) / 2).toNat :: g.drop ((g.length : Int) - (g.length : Int) / 2).toNat :: gs) (fun x hx => by
          rcases List.mem_cons.mp hx with rfl | hx
          · exact rsg_take hg hj0
          · rcases List.mem_cons.mp hx with rfl | hx
            · exact rsg_drop hg hj
            · exact hgs x hx) (by
          generalize ((g.length : Int) - (g.length : Int) / 2).toNat = j at *
          simp only [wgt, List.map_cons, List.sum_cons, List.length_take, List.length_drop] at hw2 ⊢
          omega) (by omega) (by omega)
        obtain ⟨hs, l1, l2, e⟩ := groups_turn h8 hg (by omega) hp hq ep (fun _ => eq) (fun h => absurd h1 h)
        exact ⟨_, .inr ⟨g, p, hs, q, rfl, hg, l1, hp, l2, hq⟩, e⟩
      · obtain ⟨hs, l1, l2, e⟩ := groups_turn (q := endD) h8 hg (by omega) hp VP.end_ ep (fun h => absurd h h1) (fun _ => rfl)
        exact ⟨_, .inr ⟨g, p, hs, endD, rfl, hg, l1, hp, l2, VP.end_⟩, e⟩
end Den
/-! Mr14: a plan of one of several sorts. -/
namespace Den
open PySem PySem.Spec L2
theorem fn_some_plan {n : Nat} : (TT (n + 1)).fn "_law_some_plan" = some ⟨[.io, .val], runB (TT n) 6 [.io, .val] b__law_some_plan⟩ := rfl
theorem insI_srt (x : Int) : ∀ l : List Int, l.Pairwise (· ≤ ·) → (insI x l).Pairwise (· ≤ ·)
  | [], _ => List.pairwise_singleton _ _
  | y :: ys, h => by
    obtain ⟨h1, h2⟩ := List.pairwise_cons.mp h
    unfold insI
    split
    · rename_i hx
      refine List.pairwise_cons.mpr ⟨fun z hz => ?_, h⟩
      rcases List.mem_cons.mp hz with rfl | hz
      · exact hx
      · have := h1 z hz; omega
    · rename_i hx
      refine List.pairwise_cons.mpr ⟨fun z hz => ?_, insI_srt x ys h2⟩
      rcases List.mem_cons.mp ((insI_perm x ys).mem_iff.mp hz) with rfl | hz
      · omega
      · exact h1 z hz
theorem srtI_srt : ∀ l : List Int, (srtI l).Pairwise (· ≤ ·)
  | [] => List.Pairwise.nil
  | x :: xs => insI_srt x _ (srtI_srt xs)
theorem srtI_lt {l : List Int} (h : l.Nodup) : (srtI l).Pairwise (· < ·) := by
  have h1 := srtI_srt l
  have h2 : (srtI l).Pairwise (· ≠ ·) := (srtI_perm l).nodup_iff.mpr h
  exact (h1.and h2).imp fun ⟨a, b⟩ => by omega
theorem iota_nodup (m : Int) : (iota m).Nodup := (iota_pw m).imp fun h => by omega
theorem rsg_iota {m : Int} (h : 1 ≤ m) : Rsg m (iota m) := ⟨fun e => by
  have := iota_len (m := m) (by omega)
  rw [e] at this
  simp at this
  omega, iota_pw m, fun x hx => iota_mem.mp hx⟩
theorem ix_ex {l : List Int} {q : Int} (h0 : 0 ≤ q) (h1 : q < l.length) : ∃ x ∈ l, atI (l.map D.int) q = some (.int x) := by
  have hj : q.toNat < l.length := by omega
  refine ⟨l[q.toNat], List.getElem_mem hj, ?_⟩
  have : (l.map D.int)[q.toNat]? = some (.int l[q.toNat]) := by rw [List.getElem?_map, List.getElem?_eq_getElem hj]; rfl
  have := atI_nat this
  rw [show ((q.toNat : Nat) : Int) = q by omega] at this
  exact this
theorem s_some_plan {n : Nat} {os : List Ob} {d : List Int} {m : Int} (hd : DOk d) (hm : 1 ≤ m) (h8 : m ≤ 8) (hn : 25 ≤ n) :
    ∃ p d', VP m 9 p ∧ DOk d' ∧ runB (TT n) 6 [.io, .val] b__law_some_plan [.lst .own (d.map .int), .int m] os = some (.ret p [.lst .own (d'.map .int)] os) := by
  obtain ⟨n, rfl⟩ : ∃ j, n = j + 2 := ⟨n - 2, by omega⟩
  obtain ⟨r, d1, e1, r0, r1, h1⟩ := r_off (TT (n + 1)) hd 4 os (by omega) (by omega)
  have hq : r = 0 ∨ r = 1 ∨ r = 2 ∨ r = 3 := by omega
  have mr1 : -4611686018427387904 ≤ m := by omega
  have mr2 : m ≤ 1000000 := by omega
  have mr3 : m < 1073741824 := by omega
  have hil := iota_len (m := m) (by omega)
  obtain ⟨out, d2, h2, hp2, e2⟩ := s_mixed (n := n) (os := os) (row := iota m) h1 (by omega)
  have hol : out.length = (iota m).length := hp2.length_eq
  have hom : ∀ x ∈ out, 0 ≤ x ∧ x < m := fun x hx => iota_mem.mp (hp2.mem_iff.mp hx)
  have hnd : out.Nodup := hp2.nodup_iff.mpr (iota_nodup m)
  have hot : ∀ j, ∀ x ∈ out.take j, 0 ≤ x ∧ x < m := fun j x hx => hom x (List.mem_of_mem_take hx)
  have eb : b__law_some_plan = .cons (tN b__law_some_plan 0) (.cons (tN b__law_some_plan 1) (.cons (tN b__law_some_plan 2) (.cons (tN b__law_some_plan 3) (.cons (tN b__law_some_plan 4) (.cons (tN b__law_some_plan 5) (.cons (tN b__law_some_plan 6) (.cons (tN b__law_some_plan 7) .nil))))))) := rfl
  have t0 : exec (TT (n + 2)) (tN b__law_some_plan 0) ⟨[some (.lst .own (d.map .int)), some (.int m), none, none, none, none], os⟩ = some (.nx ⟨[some (.lst .own (d1.map .int)), some (.int m), some (.int r), none, none, none], os⟩) := by
    unfold b__law_some_plan
    simp [tN, execs, exec, ev, evs, evc, evo, evIt, evOps, fillC, ioSl, putB, evPk, evFz, opd, isVar, hasV, fill1, fillP, asg, asgs, Den.view, rdV, mvV, setS, shal_own, shal_fz, shal_ro, shal_int, shal_bl, shal_str, shal_non, shal_tup, fz, fzL, fzO, bnd, ret, lift, Den.thn, sthn, idxD, opF, addD, subD, mulD, modD, fdivD, negD, notD, isNonD, cmpD, grd, isLst, setiM, biF, lenF, small, mutL, smallR, lim, flatD, fn_off, callF, e1]
  have t1 : r ≠ 0 → exec (TT (n + 2)) (tN b__law_some_plan 1) ⟨[some (.lst .own (d1.map .int)), some (.int m), some (.int r), none, none, none], os⟩ = some (.nx ⟨[some (.lst .own (d1.map .int)), some (.int m), some (.int r), none, none, none], os⟩) := fun h => by
    unfold b__law_some_plan
    simp [tN, execs, exec, ev, evs, evc, evo, evIt, evOps, fillC, ioSl, putB, evPk, evFz, opd, isVar, hasV, fill1, fillP, asg, asgs, Den.view, rdV, mvV, setS, shal_own, shal_fz, shal_ro, shal_int, shal_bl, shal_str, shal_non, shal_tup, fz, fzL, fzO, bnd, ret, lift, Den.thn, sthn, idxD, opF, addD, subD, mulD, modD, fdivD, negD, notD, isNonD, cmpD, grd, isLst, setiM, biF, lenF, small, mutL, smallR, lim, flatD, h]
  have t2 : exec (TT (n + 2)) (tN b__law_some_plan 2) ⟨[some (.lst .own (d1.map .int)), some (.int m), some (.int r), none, none, none], os⟩ = some (.nx ⟨[some (.lst .own (d2.map .int)), some (.int m), some (.int r), some (.lst .own (out.map .int)), none, none], os⟩) := by
    unfold b__law_some_plan
    simp [tN, execs, exec, ev, evs, evc, evo, evIt, evOps, fillC, ioSl, putB, evPk, evFz, opd, isVar, hasV, fill1, fillP, asg, asgs, Den.view, rdV, mvV, setS, shal_own, shal_fz, shal_ro, shal_int, shal_bl, shal_str, shal_non, shal_tup, fz, fzL, fzO, bnd, ret, lift, Den.thn, sthn, idxD, opF, addD, subD, mulD, modD, fdivD, negD, notD, isNonD, cmpD, grd, isLst, setiM, biF, lenF, small, mutL, smallR, lim, flatD, fn_mixed, callF, mr1, mr2, rngL_iota, e2]
  have t3 : r ≠ 1 → exec (TT (n + 2)) (tN b__law_some_plan 3) ⟨[some (.lst .own (d2.map .int)), some (.int m), some (.int r), some (.lst .own (out.map .int)), none, none], os⟩ = some (.nx ⟨[some (.lst .own (d2.map .int)), some (.int m), some (.int r), some (.lst .own (out.map .int)), none, none], os⟩) := fun h => by
    unfold b__law_some_plan
    simp [tN, execs, exec, ev, evs, evc, evo, evIt, evOps, fillC, ioSl, putB, evPk, evFz, opd, isVar, hasV, fill1, fillP, asg, asgs, Den.view, rdV, mvV, setS, shal_own, shal_fz, shal_ro, shal_int, shal_bl, shal_str, shal_non, shal_tup, fz, fzL, fzO, bnd, ret, lift, Den.thn, sthn, idxD, opF, addD, subD, mulD, modD, fdivD, negD, notD, isNonD, cmpD, grd, isLst, setiM, biF, lenF, small, mutL, smallR, lim, flatD, h]
  have t4 : r ≠ 2 → exec (TT (n + 2)) (tN b__law_some_plan 4) ⟨[some (.lst .own (d2.map .int)), some (.int m), some (.int r), some (.lst .own (out.map .int)), none, none], os⟩ = some (.nx ⟨[some (.lst .own (d2.map .int)), some (.int m), some (.int r), some (.lst .own (out.map .int)), none, none], os⟩) := fun h => by
    unfold b__law_some_plan
    simp [tN, execs, exec, ev, evs, evc, evo, evIt, evOps, fillC, ioSl, putB, evPk, evFz, opd, isVar, hasV, fill1, fillP, asg, asgs, Den.view, rdV, mvV, setS, shal_own, shal_fz, shal_ro, shal_int, shal_bl, shal_str, shal_non, shal_tup, fz, fzL, fzO, bnd, ret, lift, Den.thn, sthn, idxD, opF, addD, subD, mulD, modD, fdivD, negD, notD, isNonD, cmpD, grd, isLst, setiM, biF, lenF, small, mutL, smallR, lim, flatD, h]
  rcases hq with rfl | rfl | rfl | rfl
  · obtain ⟨p, d2, hp, h2, e2⟩ := s_plan hm h8 4 (n + 1) (os := os) h1 (by omega) (by omega)
    have e2 : runB (TT (n + 1)) 6 [.io, .val, .val] b__law_plan [.lst .own (d1.map .int), .int m, .int 4] os = some (.ret p [.lst .own (d2.map .int)] os) := e2
    have t1 : exec (TT (n + 2)) (tN b__law_some_plan 1) ⟨[some (.lst .own (d1.map .int)), some (.int m), some (.int 0), none, none, none], os⟩ = some (.rt p ⟨[some (.lst .own (d2.map .int)), some (.int m), some (.int 0), none, none, none], os⟩) := by
      unfold b__law_some_plan
      simp [tN, execs, exec, ev, evs, evc, evo, evIt, evOps, fillC, ioSl, putB, evPk, evFz, opd, isVar, hasV, fill1, fillP, asg, asgs, Den.view, rdV, mvV, setS, shal_own, shal_fz, shal_ro, shal_int, shal_bl, shal_str, shal_non, shal_tup, fz, fzL, fzO, bnd, ret, lift, Den.thn, sthn, idxD, opF, addD, subD, mulD, modD, fdivD, negD, notD, isNonD, cmpD, grd, isLst, setiM, biF, lenF, small, mutL, smallR, lim, flatD, fn_plan, callF, e2]
    refine ⟨p, d2, hp.mono (by omega), h2, ?_⟩
    unfold runB startS
    rw [eb]
    simp [execs, t0, t1, outsOf]
  · obtain ⟨q, d3, e3, q0, q1, h3⟩ := r_off (TT (n + 1)) h2 m os (by omega) mr3
    have c0 : 0 ≤ (if 1 + q < 4 then 1 + q else 4) := by split <;> omega
    have c1 : (if 1 + q < 4 then 1 + q else 4) ≤ 4 := by split <;> omega
    have hmin : min2F [.int 4, .int (1 + q)] = some (.int (if 1 + q < 4 then 1 + q else 4)) := rfl
    generalize (if 1 + q < 4 then 1 + q else 4) = c at *
    obtain ⟨p, d4, h4, hp, e4⟩ := s_each (n := n) (os := os) (nums := out.take c.toNat) h3 h8 (hot _) (by rw [List.length_take]; omega)
    have ec := cut_take (out.map D.int) c0
    rw [← List.map_take] at ec
    have s1 : slcI (.lst .fz (out.map .int)) none (some c) = some (.lst .own ((out.take c.toNat).map .int)) := by simp only [slcI, ec]
    have hlt : (out.take c.toNat).length ≤ 4 := by rw [List.length_take]; omega
    generalize out.take c.toNat = l4 at *
    have t3 : exec (TT (n + 2)) (tN b__law_some_plan 3) ⟨[some (.lst .own (d2.map .int)), some (.int m), some (.int 1), some (.lst .own (out.map .int)), none, none], os⟩ = some (.rt p ⟨[some (.lst .own (d4.map .int)), some (.int m), some (.int 1), some (.lst .own (out.map .int)), none, none], os⟩) := by
      unfold b__law_some_plan
      simp [tN, execs, exec, ev, evs, evc, evo, evIt, evOps, fillC, ioSl, putB, evPk, evFz, opd, isVar, hasV, fill1, fillP, asg, asgs, Den.view, rdV, mvV, setS, shal_own, shal_fz, shal_ro, shal_int, shal_bl, shal_str, shal_non, shal_tup, fz, fzL, fzO, bnd, ret, lift, Den.thn, sthn, idxD, opF, addD, subD, mulD, modD, fdivD, negD, notD, isNonD, cmpD, grd, isLst, setiM, biF, lenF, small, mutL, smallR, lim, flatD, fn_each, fn_off, callF, e3, hmin, s1, e4]
    refine ⟨p, d4, hp.mono (by omega), h4, ?_⟩
    unfold runB startS
    rw [eb]
    simp [execs, t0, t1, t2, t3, outsOf]
  · by_cases h6 : m < 6
    · have hi := rsg_iota hm
      obtain ⟨p, hp, e3⟩ := s_groups (os := os) h8 9 (n + 1) [iota m] (by simpa using hi) (by simp [wgt]; omega) (by omega) (by omega)
      simp only [List.map_cons, List.map_nil, tupI] at e3
      have t4 : exec (TT (n + 2)) (tN b__law_some_plan 4) ⟨[some (.lst .own (d2.map .int)), some (.int m), some (.int 2), some (.lst .own (out.map .int)), none, none], os⟩ = some (.rt p ⟨[some (.lst .own (d2.map .int)), some (.int m), some (.int 2), some (.lst .own (out.map .int)), none, none], os⟩) := by
        unfold b__law_some_plan
        simp [tN, execs, exec, ev, evs, evc, evo, evIt, evOps, fillC, ioSl, putB, evPk, evFz, opd, isVar, hasV, fill1, fillP, asg, asgs, Den.view, rdV, mvV, setS, shal_own, shal_fz, shal_ro, shal_int, shal_bl, shal_str, shal_non, shal_tup, fz, fzL, fzO, bnd, ret, lift, Den.thn, sthn, idxD, opF, addD, subD, mulD, modD, fdivD, negD, notD, isNonD, cmpD, grd, isLst, setiM, biF, lenF, small, mutL, smallR, lim, flatD, h6, mr1, mr2, rngL_iota, fn_groups, callF, e3]
      refine ⟨p, d2, hp, h2, ?_⟩
      unfold runB startS
      rw [eb]
      simp [execs, t0, t1, t2, t3, t4, outsOf]
    · obtain ⟨p, d', hd', hp, e⟩ := s_each (n := n) (os := os) (nums := out.take 4) h2 h8 (hot _) (by rw [List.length_take]; omega)
      have ec := cut_take (out.map D.int) (r := 4) (by omega)
      rw [← List.map_take] at ec
      have ec : cutL (out.map D.int) none (some 4) = (out.take 4).map .int := ec
      have s1 : slcI (.lst .fz (out.map .int)) none (some 4) = some (.lst .own ((out.take 4).map .int)) := by simp only [slcI, ec]
      have hlt : (out.take 4).length ≤ 4 := by rw [List.length_take]; omega
      generalize out.take 4 = l4 at *
      have t4 : exec (TT (n + 2)) (tN b__law_some_plan 4) ⟨[some (.lst .own (d2.map .int)), some (.int m), some (.int 2), some (.lst .own (out.map .int)), none, none], os⟩ = some (.rt p ⟨[some (.lst .own (d'.map .int)), some (.int m), some (.int 2), some (.lst .own (out.map .int)), none, none], os⟩) := by
        unfold b__law_some_plan
        simp [tN, execs, exec, ev, evs, evc, evo, evIt, evOps, fillC, ioSl, putB, evPk, evFz, opd, isVar, hasV, fill1, fillP, asg, asgs, Den.view, rdV, mvV, setS, shal_own, shal_fz, shal_ro, shal_int, shal_bl, shal_str, shal_non, shal_tup, fz, fzL, fzO, bnd, ret, lift, Den.thn, sthn, idxD, opF, addD, subD, mulD, modD, fdivD, negD, notD, isNonD, cmpD, grd, isLst, setiM, biF, lenF, small, mutL, smallR, lim, flatD, h6, s1, fn_each, callF, e]
      refine ⟨p, d', hp.mono (by omega), hd', ?_⟩
      unfold runB startS
      rw [eb]
      simp [execs, t0, t1, t2, t3, t4, outsOf]
  · have ec := cut_take (out.map D.int) (r := 3) (by omega)
    rw [← List.map_take] at ec
    have ec : cutL (out.map D.int) none (some 3) = (out.take 3).map .int := ec
    have s1 : slcI (.lst .fz (out.map .int)) none (some 3) = some (.lst .own ((out.take 3).map .int)) := by simp only [slcI, ec]
    have hs3 : Rsg m (srtI (out.take 3)) := by
      have pm := srtI_perm (out.take 3)
      refine ⟨fun e => ?_, srtI_lt (hnd.sublist (List.take_sublist _ _)), fun x hx => hot 3 x (pm.mem_iff.mp hx)⟩
      have := pm.length_eq
      rw [e, List.length_take, List.length_nil] at this
      omega
    have hsl : (srtI (out.take 3)).length ≤ 3 := by
      rw [(srtI_perm _).length_eq, List.length_take]; omega
    obtain ⟨p, hp, e3⟩ := s_groups (os := os) h8 8 (n + 1) [srtI (out.take 3)] (by simpa using hs3) (by simp [wgt]; omega) (by omega) (by omega)
    simp only [List.map_cons, List.map_nil, tupI] at e3
    obtain ⟨q, d3, e4, q0, q1, h3⟩ := r_off (TT (n + 1)) h2 m os (by omega) mr3
    obtain ⟨x, hx, ex⟩ := ix_ex (l := out) q0 (by omega)
    obtain ⟨x0, x1⟩ := hom x hx
    obtain ⟨u, d4, hu, h4, e5⟩ := s_plan hm h8 3 (n + 1) (os := os) h3 (by omega) (by omega)
    have e5 : runB (TT (n + 1)) 6 [.io, .val, .val] b__law_plan [.lst .own (d3.map .int), .int m, .int 3] os = some (.ret u [.lst .own (d4.map .int)] os) := e5
    have fp := hp.fz
    have fu := hu.fz
    have q3 := intsOf_map (out.take 3)
    generalize out.take 3 = l3 at *
    have t5 : exec (TT (n + 2)) (tN b__law_some_plan 5) ⟨[some (.lst .own (d2.map .int)), some (.int m), some (.int 3), some (.lst .own (out.map .int)), none, none], os⟩ = some (.nx ⟨[some (.lst .own (d2.map .int)), some (.int m), some (.int 3), some (.lst .own (out.map .int)), some p, none], os⟩) := by
      unfold b__law_some_plan
      simp [tN, execs, exec, ev, evs, evc, evo, evIt, evOps, fillC, ioSl, putB, evPk, evFz, opd, isVar, hasV, fill1, fillP, asg, asgs, Den.view, rdV, mvV, setS, shal_own, shal_fz, shal_ro, shal_int, shal_bl, shal_str, shal_non, shal_tup, fz, fzL, fzO, bnd, ret, lift, Den.thn, sthn, idxD, opF, addD, subD, mulD, modD, fdivD, negD, notD, isNonD, cmpD, grd, isLst, setiM, biF, lenF, small, mutL, smallR, lim, flatD, s1, sortedF, q3, tupleF, fn_groups, callF, e3]
    have t6 : exec (TT (n + 2)) (tN b__law_some_plan 6) ⟨[some (.lst .own (d2.map .int)), some (.int m), some (.int 3), some (.lst .own (out.map .int)), some p, none], os⟩ = some (.nx ⟨[some (.lst .own (d3.map .int)), some (.int m), some (.int 3), some (.lst .own (out.map .int)), some p, some (.int x)], os⟩) := by
      unfold b__law_some_plan
      simp [tN, execs, exec, ev, evs, evc, evo, evIt, evOps, fillC, ioSl, putB, evPk, evFz, opd, isVar, hasV, fill1, fillP, asg, asgs, Den.view, rdV, mvV, setS, shal_own, shal_fz, shal_ro, shal_int, shal_bl, shal_str, shal_non, shal_tup, fz, fzL, fzO, bnd, ret, lift, Den.thn, sthn, idxD, opF, addD, subD, mulD, modD, fdivD, negD, notD, isNonD, cmpD, grd, isLst, setiM, biF, lenF, small, mutL, smallR, lim, flatD, fn_off, callF, e4, ex]
    have t7 : ∃ s', s'.os = os ∧ outsOf [.io, .val] s'.sl = some [.lst .own (d4.map .int)] ∧ exec (TT (n + 2)) (tN b__law_some_plan 7) ⟨[some (.lst .own (d3.map .int)), some (.int m), some (.int 3), some (.lst .own (out.map .int)), some p, some (.int x)], os⟩ = some (.rt (askD [x] p [u] endD) s') := by
      refine ⟨⟨[some (.lst .own (d4.map .int)), some (.int m), some (.int 3), some (.lst .own (out.map .int)), some p, some (.int x)], os⟩, rfl, rfl, ?_⟩
      unfold b__law_some_plan
      simp [tN, execs, exec, ev, evs, evc, evo, evIt, evOps, fillC, ioSl, putB, evPk, evFz, opd, isVar, hasV, fill1, fillP, asg, asgs, Den.view, rdV, mvV, setS, shal_own, shal_fz, shal_ro, shal_int, shal_bl, shal_str, shal_non, shal_tup, fz, fzL, fzO, bnd, ret, lift, Den.thn, sthn, idxD, opF, addD, subD, mulD, modD, fdivD, negD, notD, isNonD, cmpD, grd, isLst, setiM, biF, lenF, small, mutL, smallR, lim, flatD, fn_plan, callF, e5, fp, fu, askD, endD]
    obtain ⟨s', g1, g2, t7⟩ := t7
    refine ⟨askD [x] p [u] endD, d4, .inr ⟨[x], p, [u], endD, rfl, ⟨by simp, by simp, by simp; omega⟩, rfl, hp, by simpa using hu.mono (by omega), VP.end_⟩, h4, ?_⟩
    unfold runB startS
    rw [eb]
    simp [execs, t0, t1, t2, t3, t4, t5, t6, t7, g1, g2]
end Den
/-! Ms14: the sets. -/
namespace Den
open PySem PySem.Spec L2
/-- a comprehension over what is written so -/
theorem lcGo_t {β : Type} (enc : β → D) {own : List Nat} {f : D → M (Option D)} (I : S → Prop) (q : β → Bool) (r : β → D) : ∀ (xs : List β) (acc : List D) (s : S), (∀ x ∈ xs, ∀ s, I s → ∃ s', f (enc x) { s with sl := wipeD s.sl own } = some (.val (if q x then some (r x) else none) s') ∧ I s') → I s → acc.length + xs.length ≤ lim →
    ∃ s', lcGo own f (xs.map enc) acc s = some (.val (acc ++ (xs.filter q).map r) s') ∧ I s'
  | [], acc, s, _, h, _ => ⟨s, by simp [lcGo, ret], h⟩
  | x :: xs, acc, s, hf, h, hl => by
    obtain ⟨s1, e1, h1⟩ := hf x List.mem_cons_self s h
    rw [List.length_cons] at hl
    by_cases hq : q x = true
    · obtain ⟨s2, e2, h2⟩ := lcGo_t enc I q r xs (acc ++ [r x]) s1 (fun y hy => hf y (List.mem_cons_of_mem _ hy)) h1 (by rw [List.length_append, List.length_singleton]; omega)
      refine ⟨s2, ?_, h2⟩
      rw [if_pos hq] at e1
      rw [List.map_cons]
      unfold lcGo
      rw [e1]
      dsimp only
      rw [if_pos (by omega), e2, List.append_assoc, List.filter_cons, if_pos hq]
      rfl
    · obtain ⟨s2, e2, h2⟩ := lcGo_t enc I q r xs acc s1 (fun y hy => hf y (List.mem_cons_of_mem _ hy)) h1 (by omega)
      refine ⟨s2, ?_, h2⟩
      rw [if_neg hq] at e1
      rw [List.map_cons]
      unfold lcGo
      rw [e1]
      dsimp only
      rw [e2, List.filter_cons, if_neg hq]
theorem lcGo_m {β : Type} (enc : β → D) {own : List Nat} {f : D → M (Option D)} (I : S → Prop) (r : β → D) (xs : List β) (acc : List D) (s : S) (hf : ∀ x ∈ xs, ∀ s, I s → ∃ s', f (enc x) { s with sl := wipeD s.sl own } = some (.val (some (r x)) s') ∧ I s') (h : I s) (hl : acc.length + xs.length ≤ lim) :
    ∃ s', lcGo own f (xs.map enc) acc s = some (.val (acc ++ xs.map r) s') ∧ I s' := by
  have := lcGo_t enc I (fun _ => true) r xs acc s (by simpa using hf) h hl
  rw [List.filter_eq_self.mpr (fun _ _ => rfl)] at this
  exact this
/-- all rising tuples, and those that are not too long -/
def subs : Nat → List (List Int)
  | 0 => [[]]
  | i + 1 => subs i ++ (subs i).map fun s => s ++ [((i : Nat) : Int)]
def subsK (k : Int) : Nat → List (List Int)
  | 0 => [[]]
  | i + 1 => subsK k i ++ ((subsK k i).filter fun s => decide ((s.length : Int) < k)).map fun s => s ++ [((i : Nat) : Int)]
theorem subsK_eq {k : Int} (hk : 0 ≤ k) : ∀ i, subsK k i = (subs i).filter fun s => decide ((s.length : Int) ≤ k)
  | 0 => by simp [subsK, subs, hk]
  | i + 1 => by
    simp only [subsK, subs, List.filter_append, subsK_eq hk i, List.filter_map, List.filter_filter]
    congr 2
    refine List.filter_congr fun s _ => ?_
    simp only [Function.comp, List.length_append, List.length_singleton]
    by_cases h : (s.length : Int) < k
    · have h1 : (s.length : Int) ≤ k := by omega
      have h2 : ((s.length + 1 : Nat) : Int) ≤ k := by omega
      simp [h, h1]
      omega
    · have h2 : ¬ ((s.length + 1 : Nat) : Int) ≤ k := by omega
      simp [h]
      omega
theorem subs_len : ∀ i, (subs i).length = 2 ^ i
  | 0 => rfl
  | i + 1 => by
    simp only [subs, List.length_append, List.length_map, subs_len i, Nat.pow_succ]
    omega
theorem subs_ok : ∀ (i : Nat), ∀ s ∈ subs i, s.Pairwise (· < ·) ∧ ∀ x ∈ s, 0 ≤ x ∧ x < (i : Int)
  | 0, s, h => by
    rw [subs, List.mem_singleton] at h
    subst h
    exact ⟨.nil, fun x hx => by cases hx⟩
  | i + 1, s, h => by
    simp only [subs, List.mem_append, List.mem_map] at h
    rcases h with h | ⟨t, h, rfl⟩
    · obtain ⟨h1, h2⟩ := subs_ok i s h
      exact ⟨h1, fun x hx => by have := h2 x hx; omega⟩
    · obtain ⟨h1, h2⟩ := subs_ok i t h
      refine ⟨List.pairwise_append.mpr ⟨h1, List.pairwise_singleton _ _, fun x hx y hy => ?_⟩, fun x hx => ?_⟩
      · rw [List.mem_singleton.mp hy]
        exact (h2 x hx).2
      · rcases List.mem_append.mp hx with hx | hx
        · have := h2 x hx; omega
        · rw [List.mem_singleton.mp hx]; omega
theorem subs_hd : ∀ i, ∃ t, subs i = [] :: t ∧ ∀ s ∈ t, 1 ≤ (s.length : Int)
  | 0 => ⟨[], rfl, fun s h => by cases h⟩
  | i + 1 => by
    obtain ⟨t, e, h⟩ := subs_hd i
    refine ⟨t ++ (subs i).map (fun s => s ++ [((i : Nat) : Int)]), by simp only [subs]; rw [e]; rfl, fun s hs => ?_⟩
    rcases List.mem_append.mp hs with hs | hs
    · exact h s hs
    · obtain ⟨u, _, rfl⟩ := List.mem_map.mp hs
      simp
      omega
/-- the sets as they are told -/
def setsL (m k : Int) : List (List Int) := (srtP (((subsK k m.toNat).drop 1).map keyOf)).map (·.2)
theorem sets_eq {m k : Int} (hk : 0 ≤ k) : ((srtP ((subs m.toNat).map keyOf)).filter (fun p => decide (1 ≤ p.1) && decide (p.1 ≤ k))).map (·.2) = setsL m k := by
  unfold setsL
  congr 1
  refine srtd_uniq ((srtP_srt _).filter _) (srtP_srt _) (((srtP_perm _).filter _).trans (List.Perm.trans ?_ (srtP_perm _).symm))
  rw [subsK_eq hk]
  obtain ⟨t, e, h⟩ := subs_hd m.toNat
  rw [e, List.filter_map, List.filter_cons, if_neg (by simp [keyOf]), List.filter_cons, if_pos (by simp [hk])]
  rw [List.drop_one, List.tail_cons]
  refine List.Perm.of_eq ?_
  congr 1
  refine List.filter_congr fun s hs => ?_
  have := h s hs
  show (decide (1 ≤ (s.length : Int)) && decide ((s.length : Int) ≤ k)) = decide ((s.length : Int) ≤ k)
  simp [this]
theorem setsL_ok {m k : Int} (hm : 0 ≤ m) (hk : 0 ≤ k) : ∀ s ∈ setsL m k, s.Pairwise (· < ·) ∧ (∀ x ∈ s, 0 ≤ x ∧ x < m) := fun s hs => by
  unfold setsL at hs
  obtain ⟨p, hp, rfl⟩ := List.mem_map.mp hs
  obtain ⟨u, hu, rfl⟩ := List.mem_map.mp ((srtP_perm _).mem_iff.mp hp)
  have hu := List.mem_of_mem_drop hu
  rw [subsK_eq hk] at hu
  have := subs_ok _ _ (List.mem_filter.mp hu).1
  exact ⟨this.1, fun x hx => by have := this.2 x hx; omega⟩
theorem subsK_len {m k : Int} (hk : 0 ≤ k) (h8 : m ≤ 8) {i : Nat} (hi : i ≤ m.toNat) : (subsK k i).length ≤ 256 := by
  rw [subsK_eq hk]
  refine Nat.le_trans (List.length_filter_le _ _) ?_
  rw [subs_len]
  exact Nat.le_trans (Nat.pow_le_pow_right (by omega) (show i ≤ 8 by omega)) (by decide)
theorem setsL_len {m k : Int} (hk : 0 ≤ k) (h8 : m ≤ 8) : (setsL m k).length ≤ 256 := by
  unfold setsL
  have := subsK_len hk h8 (Nat.le_refl m.toNat)
  rw [List.length_map, (srtP_perm _).length_eq, List.length_map, List.length_drop]
  omega
theorem subs_len8 {m : Int} (h8 : m ≤ 8) {i : Nat} (hi : i ≤ m.toNat) : (subs i).length ≤ 256 := by
  rw [subs_len]
  exact Nat.le_trans (Nat.pow_le_pow_right (by omega) (show i ≤ 8 by omega)) (by decide)
theorem subs_l8 {m : Int} (h8 : m ≤ 8) {i : Nat} (hi : i ≤ m.toNat) {s : List Int} (hs : s ∈ subs i) : s.length ≤ 8 := by
  obtain ⟨h1, h2⟩ := subs_ok i s hs
  rcases rsg_lt (m := i) (a := 0) h1 h2 with h | h
  · omega
  · rw [h]; simp
theorem iota_get {m : Int} {i : Nat} {x : D} (h : ((iota m).map D.int)[i]? = some x) : x = .int i ∧ i < m.toNat := by
  unfold iota at h
  rw [List.map_map, List.getElem?_map] at h
  cases e : (List.range m.toNat)[i]? with
  | none => rw [e] at h; cases h
  | some j =>
    rw [e] at h
    obtain ⟨h1, h2⟩ := List.getElem?_eq_some_iff.mp e
    rw [List.length_range] at h1
    rw [List.getElem_range] at h2
    cases h
    exact ⟨by rw [← h2]; rfl, h1⟩
theorem tupsOf_map : ∀ l : List (List Int), tupsOf (l.map tupI) = some l
  | [] => rfl
  | a :: l => by
    show tupsOf (.tup (a.map .int) :: l.map tupI) = _
    simp only [tupsOf, intsOf_map, tupsOf_map l]
theorem pairOf_map : ∀ l : List (Int × List Int), pairOf (l.map pairD) = some l
  | [] => rfl
  | a :: l => by
    show pairOf (.tup [.int a.1, .tup (a.2.map .int)] :: l.map pairD) = _
    simp only [pairOf, intsOf_map, pairOf_map l]
theorem fn_all_sets {n : Nat} : (TT (n + 3)).fn "all_sets" = some ⟨[.val, .val], runB (TT (n + 2)) 5 [.val, .val] b_all_sets⟩ := rfl
theorem fn_law_sets {n : Nat} : (TT (n + 1)).fn "_law_sets" = some ⟨[.val, .val], runB (TT n) 6 [.val, .val] b__law_sets⟩ := rfl
theorem cut_drop1 {l : List (List Int)} : cutL (l.map tupI) (some 1) none = (l.drop 1).map tupI := by
  rw [cut_drop _ (by omega), ← List.map_drop]
  rfl
theorem s_all_sets {n : Nat} {os : List Ob} {m k : Int} (hm : 0 ≤ m) (h8 : m ≤ 8) (hk : 0 ≤ k) : runB (TT n) 5 [.val, .val] b_all_sets [.int m, .int k] os = some (.ret (.lst .own ((setsL m k).map tupI)) [] os) := by
  have mr1 : -4611686018427387904 ≤ m := by omega
  have mr2 : m ≤ 1000000 := by omega
  unfold runB b_all_sets startS
  simp [execs, exec, ev, evs, evc, evo, evIt, evOps, fillC, ioSl, putB, evPk, evFz, opd, isVar, hasV, fill1, fillP, asg, asgs, Den.view, rdV, mvV, setS, shal_own, shal_fz, shal_ro, shal_int, shal_bl, shal_str, shal_non, shal_tup, fz, fzL, fzO, bnd, ret, lift, Den.thn, sthn, idxD, opF, addD, subD, mulD, modD, fdivD, negD, notD, isNonD, cmpD, grd, isLst, setiM, biF, lenF, small, mutL, smallR, lim, flatD, mr1, mr2, rngL_iota]
  generalize hg : forGo _ _ _ = r
  obtain ⟨s', rfl, o3, o4, rfl⟩ : ∃ s', r = some (.nx s') ∧ (fun (i : Nat) s => ∃ o3 o4, s = (⟨[some (.int m), some (.int k), some (.lst .own ((subsK k i).map tupI)), o3, o4], os⟩ : S)) (0 + ((iota m).map D.int).length) s' := by
    rw [← hg]
    refine forGo_ex (fun (i : Nat) s => ∃ o3 o4, s = (⟨[some (.int m), some (.int k), some (.lst .own ((subsK k i).map tupI)), o3, o4], os⟩ : S)) ((iota m).map D.int) 0 (fun i x s hx hs => ?_) _ ⟨none, none, rfl⟩
    obtain ⟨o3, o4, rfl⟩ := hs
    obtain ⟨rfl, hi⟩ := iota_get hx
    simp only [Nat.zero_add]
    have hl := subsK_len hk h8 (i := i) (by omega)
    have hz := tups_fz (subsK k i)
    simp [execs, exec, ev, evs, evc, evo, evIt, evOps, fillC, ioSl, putB, evPk, evFz, opd, isVar, hasV, fill1, fillP, asg, asgs, Den.view, rdV, mvV, setS, shal_own, shal_fz, shal_ro, shal_int, shal_bl, shal_str, shal_non, shal_tup, fz, fzL, fzO, bnd, ret, lift, Den.thn, sthn, idxD, opF, addD, subD, mulD, modD, fdivD, negD, notD, isNonD, cmpD, grd, isLst, setiM, biF, lenF, small, mutL, smallR, lim, flatD, lb_all_sets_0, wipeD, hz]
    generalize hg2 : lcGo _ _ _ _ _ = r2
    obtain ⟨s2, rfl, o, rfl⟩ : ∃ s', r2 = some (.val ([] ++ ((subsK k i).filter fun s => decide ((s.length : Int) < k)).map fun s => tupI (s ++ [((i : Nat) : Int)])) s') ∧ (fun s => ∃ o, s = (⟨[some (.int m), some (.int k), some (.lst .fz ((subsK k i).map tupI)), some (.int i), o], os⟩ : S)) s' := by
      rw [← hg2]
      refine lcGo_t tupI (fun s => ∃ o, s = (⟨[some (.int m), some (.int k), some (.lst .fz ((subsK k i).map tupI)), some (.int i), o], os⟩ : S)) (fun s => decide ((s.length : Int) < k)) (fun s => tupI (s ++ [((i : Nat) : Int)])) (subsK k i) [] _ (fun x hx s hs => ?_) ⟨none, rfl⟩ (by simp [lim]; omega)
      obtain ⟨o, rfl⟩ := hs
      have hx8 : x.length ≤ 8 := by
        rw [subsK_eq hk] at hx
        exact subs_l8 h8 (i := i) (by omega) (List.mem_filter.mp hx).1
      have hx9 : x.length + 1 ≤ 1000000 := by omega
      refine ⟨⟨[some (.int m), some (.int k), some (.lst .fz ((subsK k i).map tupI)), some (.int i), some (tupI x)], os⟩, ?_, _, rfl⟩
      by_cases hq : (x.length : Int) < k <;> simp [execs, exec, ev, evs, evc, evo, evIt, evOps, fillC, ioSl, putB, evPk, evFz, opd, isVar, hasV, fill1, fillP, asg, asgs, Den.view, rdV, mvV, setS, shal_own, shal_fz, shal_ro, shal_int, shal_bl, shal_str, shal_non, shal_tup, fz, fzL, fzO, bnd, ret, lift, Den.thn, sthn, idxD, opF, addD, subD, mulD, modD, fdivD, negD, notD, isNonD, cmpD, grd, isLst, setiM, biF, lenF, small, mutL, smallR, lim, flatD, wipeD, tupI, hq, hx9]
    have hz2 : fzL (((subsK k i).filter fun s => decide ((s.length : Int) < k)).map fun s => tupI (s ++ [((i : Nat) : Int)])) = ((subsK k i).filter fun s => decide ((s.length : Int) < k)).map fun s => tupI (s ++ [((i : Nat) : Int)]) := by
      have := tups_fz (((subsK k i).filter fun s => decide ((s.length : Int) < k)).map fun s => s ++ [((i : Nat) : Int)])
      rw [List.map_map] at this
      exact this
    have hl2 : (subsK k i).length + ((subsK k i).filter fun s => decide ((s.length : Int) < k)).length ≤ 1000000 := by
      have := List.length_filter_le (fun s : List Int => decide ((s.length : Int) < k)) (subsK k i)
      omega
    simp [execs, exec, ev, evs, evc, evo, evIt, evOps, fillC, ioSl, putB, evPk, evFz, opd, isVar, hasV, fill1, fillP, asg, asgs, Den.view, rdV, mvV, setS, shal_own, shal_fz, shal_ro, shal_int, shal_bl, shal_str, shal_non, shal_tup, fz, fzL, fzO, bnd, ret, lift, Den.thn, sthn, idxD, opF, addD, subD, mulD, modD, fdivD, negD, notD, isNonD, cmpD, grd, isLst, setiM, biF, lenF, small, mutL, smallR, lim, flatD, restD, hz, hz2, hl2, subsK]
  simp only [Nat.zero_add, List.length_map, show (iota m).length = m.toNat by have := iota_len hm; omega]
  have hz := tups_fz (subsK k m.toNat)
  have hz1 := tups_fz ((subsK k m.toNat).drop 1)
  have s1 : slcI (.lst .fz ((subsK k m.toNat).map tupI)) (some 1) none = some (.lst .own (((subsK k m.toNat).drop 1).map tupI)) := by
    simp only [slcI, cut_drop1]
  have hS : ((srtP (((subsK k m.toNat).drop 1).map fun a => ((a.length : Int), a))).map fun p => tupI p.2) = (setsL m k).map tupI := by
    unfold setsL
    rw [List.map_map]
    rfl
  generalize (subsK k m.toNat).drop 1 = L at *
  generalize subsK k m.toNat = L0 at *
  simp [execs, exec, ev, evs, evc, evo, evIt, evOps, fillC, ioSl, putB, evPk, evFz, opd, isVar, hasV, fill1, fillP, asg, asgs, Den.view, rdV, mvV, setS, shal_own, shal_fz, shal_ro, shal_int, shal_bl, shal_str, shal_non, shal_tup, fz, fzL, fzO, bnd, ret, lift, Den.thn, sthn, idxD, opF, addD, subD, mulD, modD, fdivD, negD, notD, isNonD, cmpD, grd, isLst, setiM, biF, lenF, small, mutL, smallR, lim, flatD, hz, s1, hz1, keySrt, tupsOf_map, hS, outsOf]
theorem s_law_sets {n : Nat} {os : List Ob} {m k : Int} (hm : 0 ≤ m) (h8 : m ≤ 8) (hk : 0 ≤ k) : runB (TT n) 6 [.val, .val] b__law_sets [.int m, .int k] os = some (.ret (.lst .own ((setsL m k).map tupI)) [] os) := by
  have mr1 : -4611686018427387904 ≤ m := by omega
  have mr2 : m ≤ 1000000 := by omega
  unfold runB b__law_sets startS
  simp [execs, exec, ev, evs, evc, evo, evIt, evOps, fillC, ioSl, putB, evPk, evFz, opd, isVar, hasV, fill1, fillP, asg, asgs, Den.view, rdV, mvV, setS, shal_own, shal_fz, shal_ro, shal_int, shal_bl, shal_str, shal_non, shal_tup, fz, fzL, fzO, bnd, ret, lift, Den.thn, sthn, idxD, opF, addD, subD, mulD, modD, fdivD, negD, notD, isNonD, cmpD, grd, isLst, setiM, biF, lenF, small, mutL, smallR, lim, flatD, mr1, mr2, rngL_iota]
  generalize hg : forGo _ _ _ = r
  obtain ⟨s', rfl, o3, o4, rfl⟩ : ∃ s', r = some (.nx s') ∧ (fun (i : Nat) s => ∃ o3 o4, s = (⟨[some (.int m), some (.int k), some (.lst .own ((subs i).map tupI)), o3, o4, none], os⟩ : S)) (0 + ((iota m).map D.int).length) s' := by
    rw [← hg]
    refine forGo_ex (fun (i : Nat) s => ∃ o3 o4, s = (⟨[some (.int m), some (.int k), some (.lst .own ((subs i).map tupI)), o3, o4, none], os⟩ : S)) ((iota m).map D.int) 0 (fun i x s hx hs => ?_) _ ⟨none, none, rfl⟩
    obtain ⟨o3, o4, rfl⟩ := hs
    obtain ⟨rfl, hi⟩ := iota_get hx
    simp only [Nat.zero_add]
    have hl := subs_len8 h8 (i := i) (by omega)
    have hz := tups_fz (subs i)
    simp [execs, exec, ev, evs, evc, evo, evIt, evOps, fillC, ioSl, putB, evPk, evFz, opd, isVar, hasV, fill1, fillP, asg, asgs, Den.view, rdV, mvV, setS, shal_own, shal_fz, shal_ro, shal_int, shal_bl, shal_str, shal_non, shal_tup, fz, fzL, fzO, bnd, ret, lift, Den.thn, sthn, idxD, opF, addD, subD, mulD, modD, fdivD, negD, notD, isNonD, cmpD, grd, isLst, setiM, biF, lenF, small, mutL, smallR, lim, flatD, lb__law_sets_0, wipeD, hz]
    generalize hg2 : lcGo _ _ _ _ _ = r2
    obtain ⟨s2, rfl, o, rfl⟩ : ∃ s', r2 = some (.val ([] ++ (subs i).map fun s => tupI (s ++ [((i : Nat) : Int)])) s') ∧ (fun s => ∃ o, s = (⟨[some (.int m), some (.int k), some (.lst .fz ((subs i).map tupI)), some (.int i), o, none], os⟩ : S)) s' := by
      rw [← hg2]
      refine lcGo_m tupI (fun s => ∃ o, s = (⟨[some (.int m), some (.int k), some (.lst .fz ((subs i).map tupI)), some (.int i), o, none], os⟩ : S)) (fun s => tupI (s ++ [((i : Nat) : Int)])) (subs i) [] _ (fun x hx s hs => ?_) ⟨none, rfl⟩ (by simp [lim]; omega)
      obtain ⟨o, rfl⟩ := hs
      have hx8 : x.length ≤ 8 := subs_l8 h8 (i := i) (by omega) hx
      have hx9 : x.length + 1 ≤ 1000000 := by omega
      refine ⟨⟨[some (.int m), some (.int k), some (.lst .fz ((subs i).map tupI)), some (.int i), some (tupI x), none], os⟩, ?_, _, rfl⟩
      simp [execs, exec, ev, evs, evc, evo, evIt, evOps, fillC, ioSl, putB, evPk, evFz, opd, isVar, hasV, fill1, fillP, asg, asgs, Den.view, rdV, mvV, setS, shal_own, shal_fz, shal_ro, shal_int, shal_bl, shal_str, shal_non, shal_tup, fz, fzL, fzO, bnd, ret, lift, Den.thn, sthn, idxD, opF, addD, subD, mulD, modD, fdivD, negD, notD, isNonD, cmpD, grd, isLst, setiM, biF, lenF, small, mutL, smallR, lim, flatD, wipeD, tupI, hx9]
    have hz2 : fzL ((subs i).map fun s => tupI (s ++ [((i : Nat) : Int)])) = (subs i).map fun s => tupI (s ++ [((i : Nat) : Int)]) := by
      have := tups_fz ((subs i).map fun s => s ++ [((i : Nat) : Int)])
      rw [List.map_map] at this
      exact this
    have hl2 : (subs i).length + (subs i).length ≤ 1000000 := by omega
    simp [execs, exec, ev, evs, evc, evo, evIt, evOps, fillC, ioSl, putB, evPk, evFz, opd, isVar, hasV, fill1, fillP, asg, asgs, Den.view, rdV, mvV, setS, shal_own, shal_fz, shal_ro, shal_int, shal_bl, shal_str, shal_non, shal_tup, fz, fzL, fzO, bnd, ret, lift, Den.thn, sthn, idxD, opF, addD, subD, mulD, modD, fdivD, negD, notD, isNonD, cmpD, grd, isLst, setiM, biF, lenF, small, mutL, smallR, lim, flatD, restD, hz, hz2, hl2, subs]
  simp only [Nat.zero_add, List.length_map, show (iota m).length = m.toNat by have := iota_len hm; omega]
  have hz := tups_fz (subs m.toNat)
  have hl := subs_len8 h8 (Nat.le_refl m.toNat)
  simp [execs, exec, ev, evs, evc, evo, evIt, evOps, fillC, ioSl, putB, evPk, evFz, opd, isVar, hasV, fill1, fillP, asg, asgs, Den.view, rdV, mvV, setS, shal_own, shal_fz, shal_ro, shal_int, shal_bl, shal_str, shal_non, shal_tup, fz, fzL, fzO, bnd, ret, lift, Den.thn, sthn, idxD, opF, addD, subD, mulD, modD, fdivD, negD, notD, isNonD, cmpD, grd, isLst, setiM, biF, lenF, small, mutL, smallR, lim, flatD, hz, wipeD]
  generalize hg2 : lcGo [4] _ _ _ _ = r2
  obtain ⟨s2, rfl, o, rfl⟩ : ∃ s', r2 = some (.val ([] ++ (subs m.toNat).map fun s => pairD (keyOf s)) s') ∧ (fun s => ∃ o, s = (⟨[some (.int m), some (.int k), some (.lst .fz ((subs m.toNat).map tupI)), o3, o, none], os⟩ : S)) s' := by
    rw [← hg2]
    refine lcGo_m tupI (fun s => ∃ o, s = (⟨[some (.int m), some (.int k), some (.lst .fz ((subs m.toNat).map tupI)), o3, o, none], os⟩ : S)) (fun s => pairD (keyOf s)) (subs m.toNat) [] _ (fun x hx s hs => ?_) ⟨none, rfl⟩ (by simp [lim]; omega)
    obtain ⟨o, rfl⟩ := hs
    refine ⟨⟨[some (.int m), some (.int k), some (.lst .fz ((subs m.toNat).map tupI)), o3, some (tupI x), none], os⟩, ?_, _, rfl⟩
    simp [execs, exec, ev, evs, evc, evo, evIt, evOps, fillC, ioSl, putB, evPk, evFz, opd, isVar, hasV, fill1, fillP, asg, asgs, Den.view, rdV, mvV, setS, shal_own, shal_fz, shal_ro, shal_int, shal_bl, shal_str, shal_non, shal_tup, fz, fzL, fzO, bnd, ret, lift, Den.thn, sthn, idxD, opF, addD, subD, mulD, modD, fdivD, negD, notD, isNonD, cmpD, grd, isLst, setiM, biF, lenF, small, mutL, smallR, lim, flatD, wipeD, tupI, pairD, keyOf]
  have hz3 : ∀ l : List (Int × List Int), fzL (l.map pairD) = l.map pairD := fun l => fzL_id fun d hd => by
    obtain ⟨x, _, rfl⟩ := List.mem_map.mp hd
    simp only [pairD, tupI, fz, fzL, ints_fz]
  have e4 : ((subs m.toNat).map fun s => pairD (keyOf s)) = ((subs m.toNat).map keyOf).map pairD := by rw [List.map_map]; rfl
  obtain ⟨L, hS⟩ : ∃ L, srtP ((subs m.toNat).map keyOf) = L := ⟨_, rfl⟩
  have s5 : sortPF [.lst .fz ((subs m.toNat).map fun s => pairD (keyOf s))] = some (.lst .own (L.map pairD)) := by
    rw [e4]
    simp only [sortPF, pairOf_map, hS]
  have hz4 : fzL ((subs m.toNat).map fun s => pairD (keyOf s)) = (subs m.toNat).map fun s => pairD (keyOf s) := by
    rw [e4, hz3]
  simp [execs, exec, ev, evs, evc, evo, evIt, evOps, fillC, ioSl, putB, evPk, evFz, opd, isVar, hasV, fill1, fillP, asg, asgs, Den.view, rdV, mvV, setS, shal_own, shal_fz, shal_ro, shal_int, shal_bl, shal_str, shal_non, shal_tup, fz, fzL, fzO, bnd, ret, lift, Den.thn, sthn, idxD, opF, addD, subD, mulD, modD, fdivD, negD, notD, isNonD, cmpD, grd, isLst, setiM, biF, lenF, small, mutL, smallR, lim, flatD, restD, hz3, hz4, s5, wipeD]
  have hLl : L.length ≤ 256 := by rw [← hS, (srtP_perm _).length_eq, List.length_map]; exact hl
  generalize hg3 : lcGo _ _ _ _ _ = r3
  obtain ⟨s3, rfl, o5, rfl⟩ : ∃ s', r3 = some (.val ([] ++ (L.filter fun p => decide (1 ≤ p.1) && decide (p.1 ≤ k)).map fun p => tupI p.2) s') ∧ (fun s => ∃ o, s = (⟨[some (.int m), some (.int k), some (.lst .fz ((subs m.toNat).map tupI)), o3, o4, o], os⟩ : S)) s' := by
    rw [← hg3]
    refine lcGo_t pairD (fun s => ∃ o, s = (⟨[some (.int m), some (.int k), some (.lst .fz ((subs m.toNat).map tupI)), o3, o4, o], os⟩ : S)) (fun p => decide (1 ≤ p.1) && decide (p.1 ≤ k)) (fun p => tupI p.2) L [] _ (fun x hx s hs => ?_) ⟨none, rfl⟩ (by simp [lim]; omega)
    obtain ⟨o, rfl⟩ := hs
    refine ⟨⟨[some (.int m), some (.int k), some (.lst .fz ((subs m.toNat).map tupI)), o3, o4, some (pairD x)], os⟩, ?_, _, rfl⟩
    by_cases h1 : 1 ≤ x.1 <;> by_cases h2 : x.1 ≤ k <;> simp [execs, exec, ev, evs, evc, evo, evIt, evOps, fillC, ioSl, putB, evPk, evFz, opd, isVar, hasV, fill1, fillP, asg, asgs, Den.view, rdV, mvV, setS, shal_own, shal_fz, shal_ro, shal_int, shal_bl, shal_str, shal_non, shal_tup, fz, fzL, fzO, bnd, ret, lift, Den.thn, sthn, idxD, opF, addD, subD, mulD, modD, fdivD, negD, notD, isNonD, cmpD, grd, isLst, setiM, biF, lenF, small, mutL, smallR, lim, flatD, wipeD, tupI, pairD, h1, h2]
  have e5 := sets_eq (m := m) hk
  rw [hS] at e5
  simp [execs, exec, ev, evs, evc, evo, evIt, evOps, fillC, ioSl, putB, evPk, evFz, opd, isVar, hasV, fill1, fillP, asg, asgs, Den.view, rdV, mvV, setS, shal_own, shal_fz, shal_ro, shal_int, shal_bl, shal_str, shal_non, shal_tup, fz, fzL, fzO, bnd, ret, lift, Den.thn, sthn, idxD, opF, addD, subD, mulD, modD, fdivD, negD, notD, isNonD, cmpD, grd, isLst, setiM, biF, lenF, small, mutL, smallR, lim, flatD, restD, outsOf, ← e5]
end Den
/-! Mt14: a plan judged. -/
namespace Den
open PySem PySem.Spec L2
theorem fn_who {n : Nat} : (TT (n + 1)).fn "who" = some ⟨[.val, .val], runB (TT n) 2 [.val, .val] b_who⟩ := rfl
theorem fn_need_most {n : Nat} : (TT (n + 1)).fn "need_most" = some ⟨[.val, .val], runB (TT n) 2 [.val, .val] b_need_most⟩ := rfl
theorem fn_judged {n : Nat} : (TT (n + 1)).fn "judged" = some ⟨[.val, .val, .val], runB (TT n) 7 [.val, .val, .val] b_judged⟩ := rfl
def bodyF (Γ : Tb) (tg : Tg) (b : Ts) : D → S → Option Rs := fun x s2 => Den.thn (asg tg x s2) fun _ s3 => execs Γ b s3
theorem exec_for {Γ : Tb} {tg : Tg} {it : It} {b : Ts} {s s1 : S} {xs : List D} (h : evIt Γ it s = some (.val xs s1)) : exec Γ (.forr tg it b) s = forGo (bodyF Γ tg b) xs s1 := by
  show Den.thn (evIt Γ it s) _ = _
  rw [h]
  rfl
theorem s_who {n : Nat} {os : List Ob} {m k : Int} (hm : 0 ≤ m) (h8 : m ≤ 8) (hk : 0 ≤ k) : runB (TT (n + 3)) 2 [.val, .val] b_who [.int m, .int k] os = some (.ret (.lst .own (([] :: setsL m k).map tupI)) [] os) := by
  have e := s_all_sets (n := n + 2) (os := os) hm h8 hk
  have hl := setsL_len hk h8 (m := m)
  have hl2 : 1 + (setsL m k).length ≤ 1000000 := by omega
  have hl3 : (setsL m k).length + 1 ≤ 1000000 := by omega
  have hz := tups_fz (setsL m k)
  unfold runB b_who startS
  simp [execs, exec, ev, evs, evc, evo, evIt, evOps, fillC, ioSl, putB, evPk, evFz, opd, isVar, hasV, fill1, fillP, asg, asgs, Den.view, rdV, mvV, setS, shal_own, shal_fz, shal_ro, shal_int, shal_bl, shal_str, shal_non, shal_tup, fz, fzL, fzO, bnd, ret, lift, Den.thn, sthn, idxD, opF, addD, subD, mulD, modD, fdivD, negD, notD, isNonD, cmpD, grd, isLst, setiM, biF, lenF, small, mutL, smallR, lim, flatD, fn_all_sets, callF, e, hz, hl2, hl3, outsOf]
  rfl
def fndD (c : Int) (w : List Int) : D := .tup [.str [104, 101, 97, 114, 100], .int c, .tup (w.map .int)]
def misD (s l : List Int) : D := .tup [.str [109, 105, 115, 115, 101, 100], .tup (s.map .int), .tup (l.map .int)]
theorem fz_fnd {c : Int} {w : List Int} : fz (fndD c w) = fndD c w := by simp only [fndD, fz, fzL, ints_fz]
theorem shal_fnd {c : Int} {w : List Int} : shal (fndD c w) = fndD c w := fz_fnd
theorem idx_fnd {c : Int} {w : List Int} : idxD (fndD c w) (.int 1) = some (.int c) := rfl
theorem jt_prog {n : Nat} {os : List Ob} {p : D} {mm kk : D} {c cc : Int} {w s l : List Int} {o4 o5 o6 : Option D} (fp : fz p = p) (sp : shal p = p) (e : runB (TT n) 4 [.val, .val] b_followed [p, .tup (s.map .int)] os = some (.ret (.tup [.int cc, .tup (l.map .int)]) [] os)) :
    ∃ a4 a5 a6, bodyF (TT (n + 1)) (.nm 4) lb_judged_0 (tupI s) ⟨[some p, some mm, some kk, some (fndD c w), o4, o5, o6], os⟩ = if l = [] then some (.nx ⟨[some p, some mm, some kk, some (if c < cc then fndD cc s else fndD c w), a4, a5, a6], os⟩) else some (.rt (misD s l) ⟨[some p, some mm, some kk, some (fndD c w), a4, a5, a6], os⟩) := by
  have i1 := idx_fnd (c := c) (w := w)
  have f1 := fz_fnd (c := c) (w := w)
  have f2 := shal_fnd (c := c) (w := w)
  refine ⟨some (.tup (s.map .int)), some (.int cc), some (.tup (l.map .int)), ?_⟩
  by_cases hl : l = []
  · subst hl
    have e0 : eqD (.tup []) (.tup []) = some true := eqD_tup0 []
    by_cases hc : c < cc
    · generalize hF : fndD c w = F at *
      unfold bodyF lb_judged_0
      simp [execs, exec, ev, evs, evc, evo, evIt, evOps, fillC, ioSl, putB, evPk, evFz, opd, isVar, hasV, fill1, fillP, asg, asgs, Den.view, rdV, mvV, setS, shal_own, shal_fz, shal_ro, shal_int, shal_bl, shal_str, shal_non, shal_tup, fz, fzL, fzO, bnd, ret, lift, Den.thn, sthn, idxD, opF, addD, subD, mulD, modD, fdivD, negD, notD, isNonD, cmpD, grd, isLst, setiM, biF, lenF, small, mutL, smallR, lim, flatD, -idxD, tupI, fn_followed, callF, fp, sp, e, e0, i1, f1, f2, hc]
      rfl
    · generalize hF : fndD c w = F at *
      unfold bodyF lb_judged_0
      simp [execs, exec, ev, evs, evc, evo, evIt, evOps, fillC, ioSl, putB, evPk, evFz, opd, isVar, hasV, fill1, fillP, asg, asgs, Den.view, rdV, mvV, setS, shal_own, shal_fz, shal_ro, shal_int, shal_bl, shal_str, shal_non, shal_tup, fz, fzL, fzO, bnd, ret, lift, Den.thn, sthn, idxD, opF, addD, subD, mulD, modD, fdivD, negD, notD, isNonD, cmpD, grd, isLst, setiM, biF, lenF, small, mutL, smallR, lim, flatD, -idxD, tupI, fn_followed, callF, fp, sp, e, e0, i1, f1, f2, hc]
  · generalize hF : fndD c w = F at *
    unfold bodyF lb_judged_0
    simp [execs, exec, ev, evs, evc, evo, evIt, evOps, fillC, ioSl, putB, evPk, evFz, opd, isVar, hasV, fill1, fillP, asg, asgs, Den.view, rdV, mvV, setS, shal_own, shal_fz, shal_ro, shal_int, shal_bl, shal_str, shal_non, shal_tup, fz, fzL, fzO, bnd, ret, lift, Den.thn, sthn, idxD, opF, addD, subD, mulD, modD, fdivD, negD, notD, isNonD, cmpD, grd, isLst, setiM, biF, lenF, small, mutL, smallR, lim, flatD, -idxD, tupI, fn_followed, callF, fp, sp, e, i1, f1, f2, hl]
    rfl
end Den
/-! Mu14: alike. -/
namespace Den
open PySem PySem.Spec L2
theorem fn_alike {n : Nat} : (TT (n + 1)).fn "_law_alike" = some ⟨[.val, .val], runB (TT n) 4 [.val, .val] b__law_alike⟩ := rfl
def AL : Nat → D → Prop
  | 0, d => d = .non ∨ (∃ b, d = .bl b) ∨ (∃ i, d = .int i) ∨ ∃ s, d = .str s ∧ s.all (· < 0x110000) = true
  | k + 1, d => (d = .non ∨ (∃ b, d = .bl b) ∨ (∃ i, d = .int i) ∨ ∃ s, d = .str s ∧ s.all (· < 0x110000) = true) ∨ ∃ ds, (d = .tup ds ∨ d = .lst .fz ds) ∧ ds.length ≤ 1000000 ∧ ∀ x ∈ ds, AL k x
theorem AL.fz : ∀ {k : Nat} {d : D}, AL k d → Den.fz d = d
  | 0, d, h => by
    rcases h with rfl | ⟨b, rfl⟩ | ⟨i, rfl⟩ | ⟨s, rfl, _⟩ <;> rfl
  | k + 1, d, h => by
    rcases h with h | ⟨ds, h, _, ha⟩
    · rcases h with rfl | ⟨b, rfl⟩ | ⟨i, rfl⟩ | ⟨s, rfl, _⟩ <;> rfl
    · have := fzL_id fun x hx => (ha x hx).fz
      rcases h with rfl | rfl
      · simp only [Den.fz, this]
      · simp only [Den.fz, this, fzO]
theorem AL.int {k : Nat} {i : Int} : AL k (.int i) := by
  cases k
  · exact .inr (.inr (.inl ⟨i, rfl⟩))
  · exact .inl (.inr (.inr (.inl ⟨i, rfl⟩)))
theorem AL.str {k : Nat} {s : List Nat} (h : s.all (· < 0x110000) = true) : AL k (.str s) := by
  cases k
  · exact .inr (.inr (.inr ⟨s, rfl, h⟩))
  · exact .inl (.inr (.inr (.inr ⟨s, rfl, h⟩)))
theorem AL.tup {k : Nat} {ds : List D} (h : ∀ x ∈ ds, AL k x) (hl : ds.length ≤ 1000000) : AL (k + 1) (.tup ds) := .inr ⟨ds, .inl rfl, hl, h⟩
theorem AL.tupI {k : Nat} {l : List Int} (hl : l.length ≤ 1000000) : AL (k + 1) (.tup (l.map .int)) := .tup (fun x hx => by
  obtain ⟨i, _, rfl⟩ := List.mem_map.mp hx
  exact .int) (by simpa using hl)
theorem kb1 : kitB "bool" "bool" = some true := by decide +kernel
theorem kb2 : kitB "int" "bool" = some false := by decide +kernel
theorem kb3 : kitB "int" "int" = some true := by decide +kernel
theorem kb4 : kitB "str" "bool" = some false := by decide +kernel
theorem kb5 : kitB "str" "int" = some false := by decide +kernel
theorem kb6 : kitB "str" "str" = some true := by decide +kernel
theorem kb7 : kitB "tuple" "bool" = some false := by decide +kernel
theorem kb8 : kitB "tuple" "int" = some false := by decide +kernel
theorem kb9 : kitB "tuple" "str" = some false := by decide +kernel
theorem kb10 : kitB "tuple" "dict" = some false := by decide +kernel
theorem kb11 : kitB "tuple" "tuple" = some true := by decide +kernel
theorem kb12 : kitB "tuple" "list" = some false := by decide +kernel
theorem kb13 : kitB "list" "bool" = some false := by decide +kernel
theorem kb14 : kitB "list" "int" = some false := by decide +kernel
theorem kb15 : kitB "list" "str" = some false := by decide +kernel
theorem kb16 : kitB "list" "dict" = some false := by decide +kernel
theorem kb17 : kitB "list" "tuple" = some false := by decide +kernel
theorem kb18 : kitB "list" "list" = some true := by decide +kernel
theorem eqD_bl {a : Bool} : eqD (.bl a) (.bl a) = some true := by cases a <;> decide +kernel
theorem alike0 {n : Nat} {os : List Ob} {d : D} (h : AL 0 d) : runB (TT n) 4 [.val, .val] b__law_alike [d, d] os = some (.ret (.bl true) [] os) := by
  rcases h with rfl | ⟨b, rfl⟩ | ⟨i, rfl⟩ | ⟨s, rfl, h⟩
  · unfold runB b__law_alike startS
    simp [execs, exec, ev, evs, evc, evo, evIt, evOps, fillC, ioSl, putB, evPk, evFz, opd, isVar, hasV, fill1, fillP, asg, asgs, Den.view, rdV, mvV, setS, shal_own, shal_fz, shal_ro, shal_int, shal_bl, shal_str, shal_non, shal_tup, fz, fzL, fzO, bnd, ret, lift, Den.thn, sthn, idxD, opF, addD, subD, mulD, modD, fdivD, negD, notD, isNonD, cmpD, grd, isLst, setiM, biF, lenF, small, mutL, smallR, lim, flatD, isiF, isiD, tyOf, outsOf]
  · unfold runB b__law_alike startS
    simp [execs, exec, ev, evs, evc, evo, evIt, evOps, fillC, ioSl, putB, evPk, evFz, opd, isVar, hasV, fill1, fillP, asg, asgs, Den.view, rdV, mvV, setS, shal_own, shal_fz, shal_ro, shal_int, shal_bl, shal_str, shal_non, shal_tup, fz, fzL, fzO, bnd, ret, lift, Den.thn, sthn, idxD, opF, addD, subD, mulD, modD, fdivD, negD, notD, isNonD, cmpD, grd, isLst, setiM, biF, lenF, small, mutL, smallR, lim, flatD, isiF, isiD, tyOf, kb1, eqD_bl, outsOf]
  · unfold runB b__law_alike startS
    simp [execs, exec, ev, evs, evc, evo, evIt, evOps, fillC, ioSl, putB, evPk, evFz, opd, isVar, hasV, fill1, fillP, asg, asgs, Den.view, rdV, mvV, setS, shal_own, shal_fz, shal_ro, shal_int, shal_bl, shal_str, shal_non, shal_tup, fz, fzL, fzO, bnd, ret, lift, Den.thn, sthn, idxD, opF, addD, subD, mulD, modD, fdivD, negD, notD, isNonD, cmpD, grd, isLst, setiM, biF, lenF, small, mutL, smallR, lim, flatD, isiF, isiD, tyOf, kb2, kb3, outsOf]
  · have e := eqD_str h h
    unfold runB b__law_alike startS
    simp [execs, exec, ev, evs, evc, evo, evIt, evOps, fillC, ioSl, putB, evPk, evFz, opd, isVar, hasV, fill1, fillP, asg, asgs, Den.view, rdV, mvV, setS, shal_own, shal_fz, shal_ro, shal_int, shal_bl, shal_str, shal_non, shal_tup, fz, fzL, fzO, bnd, ret, lift, Den.thn, sthn, idxD, opF, addD, subD, mulD, modD, fdivD, negD, notD, isNonD, cmpD, grd, isLst, setiM, biF, lenF, small, mutL, smallR, lim, flatD, isiF, isiD, tyOf, kb4, kb5, kb6, e, outsOf]
theorem rng_get {m i : Nat} {x : D} (h : (rngL 0 (m : Int))[i]? = some x) : x = .int i ∧ i < m := by
  rw [rngL_iota] at h
  have := iota_get h
  simpa using this
theorem blsOf_tt : ∀ {ds : List D}, (∀ d ∈ ds, d = .bl true) → ∃ bs, blsOf ds = some bs ∧ bs.all id = true
  | [], _ => ⟨[], rfl, rfl⟩
  | d :: ds, h => by
    obtain ⟨bs, e, a⟩ := blsOf_tt fun x hx => h x (List.mem_cons_of_mem _ hx)
    rw [h d List.mem_cons_self]
    exact ⟨true :: bs, by simp only [blsOf, e, Option.map_some], by simpa using a⟩
theorem s_alike {os : List Ob} : ∀ (k n : Nat) {d : D}, AL k d → k < n → runB (TT n) 4 [.val, .val] b__law_alike [d, d] os = some (.ret (.bl true) [] os)
  | 0, n, d, h, _ => alike0 h
  | k + 1, n, d, h, hn => by
    obtain ⟨n, rfl⟩ : ∃ j, n = j + 1 := ⟨n - 1, by omega⟩
    rcases h with h | ⟨ds, h, hl, ha⟩
    · exact alike0 h
    · have hz := fzL_id fun x hx => (ha x hx).fz
      have ih := fun x hx => s_alike (os := os) k n (ha x hx) (by omega)
      have mr1 : (ds.length : Int) ≤ 1000000 := by omega
      have mr2 : -4611686018427387904 ≤ (ds.length : Int) := by omega
      have key : ∀ X : D, (X = .tup ds ∨ X = .lst .fz ds) → Den.fz X = X → Den.shal X = X → ∃ bs s', bs.length = ds.length ∧ (∀ b ∈ bs, b = D.bl true) ∧ lcGo [3] (fun x => bnd (asg (.nm 3) x) fun _ => bnd (evc (TT (n + 1)) .no) fun b => if b then bnd (ev (TT (n + 1)) (.cal "_law_alike" (.cons (.idx (.var 0) (.var 3)) (.cons (.idx (.var 1) (.var 3)) .nil)))) fun d => ret (some d) else ret none) (rngL 0 (ds.length : Int)) [] ⟨[some X, some X, none, none], os⟩ = some (.val bs s') ∧ ∃ o, s' = (⟨[some X, some X, none, o], os⟩ : S) := fun X hX fX sX => by
        obtain ⟨bs, s', e, ho, len, hv⟩ := lcGo_all (own := [3]) (f := fun x => bnd (asg (.nm 3) x) fun _ => bnd (evc (TT (n + 1)) .no) fun b => if b then bnd (ev (TT (n + 1)) (.cal "_law_alike" (.cons (.idx (.var 0) (.var 3)) (.cons (.idx (.var 1) (.var 3)) .nil)))) fun d => ret (some d) else ret none) (fun s => ∃ o, s = (⟨[some X, some X, none, o], os⟩ : S)) (fun _ b => b = D.bl true) (rngL 0 (ds.length : Int)) [] ⟨[some X, some X, none, none], os⟩ (fun x hx s hs => by
          obtain ⟨o, rfl⟩ := hs
          obtain ⟨i, hi⟩ := List.getElem?_of_mem hx
          obtain ⟨rfl, hil⟩ := rng_get hi
          have hg : ds[i]? = some ds[i] := List.getElem?_eq_getElem hil
          have ha' := atI_nat hg
          have hii : idxD X (.int i) = some ds[i] := by
            rcases hX with rfl | rfl <;> exact ha'
          have hm := List.getElem_mem hil
          have e := ih _ hm
          have f := (ha _ hm).fz
          refine ⟨.bl true, ⟨[some X, some X, none, some (.int i)], os⟩, ?_, ⟨_, rfl⟩, rfl⟩
          simp [execs, exec, ev, evs, evc, evo, evIt, evOps, fillC, ioSl, putB, evPk, evFz, opd, isVar, hasV, fill1, fillP, asg, asgs, Den.view, rdV, mvV, setS, shal_own, shal_fz, shal_ro, shal_int, shal_bl, shal_str, shal_non, shal_tup, fz, fzL, fzO, bnd, ret, lift, Den.thn, sthn, idxD, opF, addD, subD, mulD, modD, fdivD, negD, notD, isNonD, cmpD, grd, isLst, setiM, biF, lenF, small, mutL, smallR, lim, flatD, -idxD, wipeD, fn_alike, callF, fX, sX, hii, f, e]) ⟨none, rfl⟩ (by simp [lim, rngL]; omega)
        exact ⟨bs, s', by rw [len]; simp [rngL], fun b hb => let ⟨_, _, h⟩ := hv b hb; h, e, ho⟩
      rcases h with rfl | rfl
      · obtain ⟨bs, s', len, hv, e, o, rfl⟩ := key (.tup ds) (.inl rfl) (by simp only [Den.fz, hz]) (by simp only [shal_tup, hz])
        have hbz : fzL bs = bs := fzL_id fun b hb => by rw [hv b hb]; rfl
        obtain ⟨bb, eb, ab⟩ := blsOf_tt hv
        simp only [execs, exec, ev, evs, evc, evo, evIt, evOps, fillC, ioSl, putB, evPk, evFz, opd, isVar, hasV, fill1, fillP, asg, asgs, Den.view, rdV, mvV, setS, shal_own, shal_fz, shal_ro, shal_int, shal_bl, shal_str, shal_non, shal_tup, fz, fzL, fzO, bnd, ret, lift, Den.thn, sthn, idxD, opF, addD, subD, mulD, modD, fdivD, negD, notD, isNonD, cmpD, grd, isLst, setiM, biF, lenF, small, mutL, smallR, lim, flatD] at e
        unfold runB b__law_alike startS
        simp [execs, exec, ev, evs, evc, evo, evIt, evOps, fillC, ioSl, putB, evPk, evFz, opd, isVar, hasV, fill1, fillP, asg, asgs, Den.view, rdV, mvV, setS, shal_own, shal_fz, shal_ro, shal_int, shal_bl, shal_str, shal_non, shal_tup, fz, fzL, fzO, bnd, ret, lift, Den.thn, sthn, idxD, opF, addD, subD, mulD, modD, fdivD, negD, notD, isNonD, cmpD, grd, isLst, setiM, biF, lenF, small, mutL, smallR, lim, flatD, isiF, isiD, tyOf, kb7, kb8, kb9, kb10, kb11, kb12, hz, mr1, mr2, eqD_bl, wipeD]
        simp at e
        rw [e]
        simp [execs, exec, ev, evs, evc, evo, evIt, evOps, fillC, ioSl, putB, evPk, evFz, opd, isVar, hasV, fill1, fillP, asg, asgs, Den.view, rdV, mvV, setS, shal_own, shal_fz, shal_ro, shal_int, shal_bl, shal_str, shal_non, shal_tup, fz, fzL, fzO, bnd, ret, lift, Den.thn, sthn, idxD, opF, addD, subD, mulD, modD, fdivD, negD, notD, isNonD, cmpD, grd, isLst, setiM, biF, lenF, small, mutL, smallR, lim, flatD, restD, hbz, allF, eb, ab, outsOf]
      · obtain ⟨bs, s', len, hv, e, o, rfl⟩ := key (.lst .fz ds) (.inr rfl) (by simp only [Den.fz, hz, fzO]) (by simp only [shal_fz, hz])
        have hbz : fzL bs = bs := fzL_id fun b hb => by rw [hv b hb]; rfl
        obtain ⟨bb, eb, ab⟩ := blsOf_tt hv
        simp only [execs, exec, ev, evs, evc, evo, evIt, evOps, fillC, ioSl, putB, evPk, evFz, opd, isVar, hasV, fill1, fillP, asg, asgs, Den.view, rdV, mvV, setS, shal_own, shal_fz, shal_ro, shal_int, shal_bl, shal_str, shal_non, shal_tup, fz, fzL, fzO, bnd, ret, lift, Den.thn, sthn, idxD, opF, addD, subD, mulD, modD, fdivD, negD, notD, isNonD, cmpD, grd, isLst, setiM, biF, lenF, small, mutL, smallR, lim, flatD] at e
        unfold runB b__law_alike startS
        simp [execs, exec, ev, evs, evc, evo, evIt, evOps, fillC, ioSl, putB, evPk, evFz, opd, isVar, hasV, fill1, fillP, asg, asgs, Den.view, rdV, mvV, setS, shal_own, shal_fz, shal_ro, shal_int, shal_bl, shal_str, shal_non, shal_tup, fz, fzL, fzO, bnd, ret, lift, Den.thn, sthn, idxD, opF, addD, subD, mulD, modD, fdivD, negD, notD, isNonD, cmpD, grd, isLst, setiM, biF, lenF, small, mutL, smallR, lim, flatD, isiF, isiD, tyOf, kb13, kb14, kb15, kb16, kb17, kb18, hz, mr1, mr2, eqD_bl, wipeD]
        simp at e
        rw [e]
        simp [execs, exec, ev, evs, evc, evo, evIt, evOps, fillC, ioSl, putB, evPk, evFz, opd, isVar, hasV, fill1, fillP, asg, asgs, Den.view, rdV, mvV, setS, shal_own, shal_fz, shal_ro, shal_int, shal_bl, shal_str, shal_non, shal_tup, fz, fzL, fzO, bnd, ret, lift, Den.thn, sthn, idxD, opF, addD, subD, mulD, modD, fdivD, negD, notD, isNonD, cmpD, grd, isLst, setiM, biF, lenF, small, mutL, smallR, lim, flatD, restD, hbz, allF, eb, ab, outsOf]
end Den
/-! Mv14: the dice, the law. -/
namespace Den
open PySem PySem.Spec L2
theorem fn_dice {n : Nat} : (TT (n + 1)).fn "_law_dice" = some ⟨[.val, .val], runB (TT n) 4 [.val, .val] b__law_dice⟩ := rfl
theorem fn_many {n : Nat} : (TT (n + 1)).fn "_law_many" = some ⟨[.io], runB (TT n) 1 [.io] b__law_many⟩ := rfl
theorem s_dice {n : Nat} {os : List Ob} {ns : List Int} (hl : ns.length ≤ 63) : ∃ d, DOk d ∧ runB (TT n) 4 [.val, .val] b__law_dice [.lst .ro (ns.map .int), .int 0] os = some (.ret (.lst .own (d.map .int)) [] os) := by
  have eb : b__law_dice = .cons (tN b__law_dice 0) (.cons (tN b__law_dice 1) (.cons (tN b__law_dice 2) .nil)) := rfl
  have t0 : exec (TT n) (tN b__law_dice 0) ⟨[some (.lst .ro (ns.map .int)), some (.int 0), none, none], os⟩ = some (.nx ⟨[some (.lst .ro (ns.map .int)), some (.int 0), some (.int 0), none], os⟩) := by
    unfold b__law_dice
    simp [tN, execs, exec, ev, evs, evc, evo, evIt, evOps, fillC, ioSl, putB, evPk, evFz, opd, isVar, hasV, fill1, fillP, asg, asgs, Den.view, rdV, mvV, setS, shal_own, shal_fz, shal_ro, shal_int, shal_bl, shal_str, shal_non, shal_tup, fz, fzL, fzO, bnd, ret, lift, Den.thn, sthn, idxD, opF, addD, subD, mulD, modD, fdivD, negD, notD, isNonD, cmpD, grd, isLst, setiM, biF, lenF, small, mutL, smallR, lim, flatD]
  have t1 : ∃ (a : Int) (o3 : Option D), 0 ≤ a ∧ exec (TT n) (tN b__law_dice 1) ⟨[some (.lst .ro (ns.map .int)), some (.int 0), some (.int 0), none], os⟩ = some (.nx ⟨[some (.lst .ro (ns.map .int)), some (.int 0), some (.int a), o3], os⟩) := by
    have e := exec_for (Γ := TT n) (tg := .nm 3) (it := .seq (.var 0)) (b := lb__law_dice_0) (s := ⟨[some (.lst .ro (ns.map .int)), some (.int 0), some (.int 0), none], os⟩) (s1 := ⟨[some (.lst .ro (ns.map .int)), some (.int 0), some (.int 0), none], os⟩) (xs := ns.map .int) (by simp [execs, exec, ev, evs, evc, evo, evIt, evOps, fillC, ioSl, putB, evPk, evFz, opd, isVar, hasV, fill1, fillP, asg, asgs, Den.view, rdV, mvV, setS, shal_own, shal_fz, shal_ro, shal_int, shal_bl, shal_str, shal_non, shal_tup, fz, fzL, fzO, bnd, ret, lift, Den.thn, sthn, idxD, opF, addD, subD, mulD, modD, fdivD, negD, notD, isNonD, cmpD, grd, isLst, setiM, biF, lenF, small, mutL, smallR, lim, flatD])
    obtain ⟨s', e2, a, o3, ha, rfl⟩ := forGo_ex (f := bodyF (TT n) (.nm 3) lb__law_dice_0) (fun (_ : Nat) s => ∃ (a : Int) (o3 : Option D), 0 ≤ a ∧ s = (⟨[some (.lst .ro (ns.map .int)), some (.int 0), some (.int a), o3], os⟩ : S)) (ns.map .int) 0 (fun i x s hx hs => by
      obtain ⟨a, o3, ha, rfl⟩ := hs
      obtain ⟨z, _, rfl⟩ := List.mem_map.mp (List.mem_of_getElem? hx)
      refine ⟨⟨[some (.lst .ro (ns.map .int)), some (.int 0), some (.int ((a * 31 + (if z < 0 then -z else z)) % 2147483647)), some (.int z)], os⟩, ?_, _, _, Int.emod_nonneg _ (by omega), rfl⟩
      unfold bodyF lb__law_dice_0
      simp [execs, exec, ev, evs, evc, evo, evIt, evOps, fillC, ioSl, putB, evPk, evFz, opd, isVar, hasV, fill1, fillP, asg, asgs, Den.view, rdV, mvV, setS, shal_own, shal_fz, shal_ro, shal_int, shal_bl, shal_str, shal_non, shal_tup, fz, fzL, fzO, bnd, ret, lift, Den.thn, sthn, idxD, opF, addD, subD, mulD, modD, fdivD, negD, notD, isNonD, cmpD, grd, isLst, setiM, biF, lenF, small, mutL, smallR, lim, flatD, absF]) _ ⟨0, none, by omega, rfl⟩
    exact ⟨a, o3, ha, e.trans e2⟩
  obtain ⟨a, o3, ha, t1⟩ := t1
  have t2 : ∃ (l : List Int) (s' : S), (∀ x ∈ l, 0 < x) ∧ s'.os = os ∧ outsOf [.val, .val] s'.sl = some [] ∧ exec (TT n) (tN b__law_dice 2) ⟨[some (.lst .ro (ns.map .int)), some (.int 0), some (.int a), o3], os⟩ = some (.rt (.lst .own (.int a :: .int 0 :: l.map .int)) s') := by
    unfold b__law_dice
    simp [tN, execs, exec, ev, evs, evc, evo, evIt, evOps, fillC, ioSl, putB, evPk, evFz, opd, isVar, hasV, fill1, fillP, asg, asgs, Den.view, rdV, mvV, setS, shal_own, shal_fz, shal_ro, shal_int, shal_bl, shal_str, shal_non, shal_tup, fz, fzL, fzO, bnd, ret, lift, Den.thn, sthn, idxD, opF, addD, subD, mulD, modD, fdivD, negD, notD, isNonD, cmpD, grd, isLst, setiM, biF, lenF, small, mutL, smallR, lim, flatD, wipeD]
    generalize hg : lcGo _ _ _ _ _ = r
    obtain ⟨s', rfl, o, rfl⟩ : ∃ s', r = some (.val ([] ++ (ns.filter (fun x => decide (1000000000000000000 ≤ x))).map .int) s') ∧ (fun s => ∃ o, s = (⟨[some (.lst .ro (ns.map .int)), some (.int 0), some (.int a), o], os⟩ : S)) s' := by
      rw [← hg]
      refine lcGo_filt (fun s => ∃ o, s = (⟨[some (.lst .ro (ns.map .int)), some (.int 0), some (.int a), o], os⟩ : S)) (fun x => decide (1000000000000000000 ≤ x)) ns [] _ (fun x hx s hs => ?_) ⟨none, rfl⟩ (by simp [lim]; omega)
      obtain ⟨o, rfl⟩ := hs
      refine ⟨⟨[some (.lst .ro (ns.map .int)), some (.int 0), some (.int a), some (.int x)], os⟩, ?_, _, rfl⟩
      by_cases hq : 1000000000000000000 ≤ x <;> simp [execs, exec, ev, evs, evc, evo, evIt, evOps, fillC, ioSl, putB, evPk, evFz, opd, isVar, hasV, fill1, fillP, asg, asgs, Den.view, rdV, mvV, setS, shal_own, shal_fz, shal_ro, shal_int, shal_bl, shal_str, shal_non, shal_tup, fz, fzL, fzO, bnd, ret, lift, Den.thn, sthn, idxD, opF, addD, subD, mulD, modD, fdivD, negD, notD, isNonD, cmpD, grd, isLst, setiM, biF, lenF, small, mutL, smallR, lim, flatD, wipeD, powD, hq]
    have hlf : (ns.filter (fun x => decide (1000000000000000000 ≤ x))).length ≤ 63 := Nat.le_trans (List.length_filter_le _ _) hl
    have hl1 : 1 + 1 + (ns.filter (fun x => decide (1000000000000000000 ≤ x))).length ≤ 1000000 := by omega
    have hl2 : (ns.filter (fun x => decide (1000000000000000000 ≤ x))).length + 1 + 1 ≤ 1000000 := by omega
    have hpos : ∀ x ∈ ns.filter (fun x => decide (1000000000000000000 ≤ x)), 0 < x := fun x hx => by
      have := (List.mem_filter.mp hx).2
      simp only [decide_eq_true_eq] at this
      omega
    generalize ns.filter (fun x => decide (1000000000000000000 ≤ x)) = l at *
    refine ⟨l, hpos, ⟨[some (.lst .ro (ns.map .int)), some (.int 0), some (.int a), o3], os⟩, rfl, rfl, ?_⟩
    simp [execs, exec, ev, evs, evc, evo, evIt, evOps, fillC, ioSl, putB, evPk, evFz, opd, isVar, hasV, fill1, fillP, asg, asgs, Den.view, rdV, mvV, setS, shal_own, shal_fz, shal_ro, shal_int, shal_bl, shal_str, shal_non, shal_tup, fz, fzL, fzO, bnd, ret, lift, Den.thn, sthn, idxD, opF, addD, subD, mulD, modD, fdivD, negD, notD, isNonD, cmpD, grd, isLst, setiM, biF, lenF, small, mutL, smallR, lim, flatD, restD, hl1, hl2]
  obtain ⟨l, s', hl0, hs1, hs2, t2⟩ := t2
  refine ⟨a :: 0 :: l, ⟨a, 0, l, rfl, ha, by omega, hl0⟩, ?_⟩
  unfold runB startS
  rw [eb]
  simp [execs, t0, t1, t2, hs1, hs2]
end Den
/-! Na15: a plan followed, as a function. -/
namespace Den
open PySem PySem.Spec L2
def askOf : D → Option (List Int × D × List D × D)
  | .tup [_, .tup ns, si, .tup hs, no] => (intsOf ns).map fun is => (is, si, hs, no)
  | _ => none
theorem askOf_ask (ns : List Int) (si : D) (hs : List D) (no : D) : askOf (askD ns si hs no) = some (ns, si, hs, no) := by
  unfold askD askOf
  simp only [intsOf_map, Option.map_some]
theorem askOf_end : askOf endD = none := rfl
def folF : Nat → D → List Int → Nat × List Int
  | 0, _, l => (0, l)
  | k + 1, p, l => match askOf p with
    | none => (0, l)
    | some (ns, si, hs, no) => match nextD ns si hs no l with
      | some (p', l') => ((folF k p' l').1 + 1, (folF k p' l').2)
      | none => (0, l)
theorem folF_end (k : Nat) (l : List Int) : folF k endD l = (0, l) := by
  cases k <;> simp [folF, askOf_end]
theorem folF_ask {k : Nat} {ns l l' : List Int} {si p' no : D} {hs : List D} (h : nextD ns si hs no l = some (p', l')) : folF (k + 1) (askD ns si hs no) l = ((folF k p' l').1 + 1, (folF k p' l').2) := by
  simp [folF, askOf_ask, h]
theorem fol2 {m : Int} (hm : m ≤ 8) : ∀ (k : Nat) {p : D} {left : List Int}, VP m k p → k ≤ 20 → left.Nodup → left.length ≤ 8 → (folF k p left).1 ≤ k ∧ (folF k p left).2.length ≤ 8 ∧
    (∀ (n : Nat) (s0 : D) (c0 : Int) (os : List Ob) (fuel : Nat), (folF k p left).1 < fuel → whilGo (ev (TT (n + 1)) lc_followed_0) (execs (TT (n + 1)) lb_followed_0) fuel ⟨[some p, some s0, some (.int c0), some (.tup (left.map .int))], os⟩ = some (.nx ⟨[some endD, some s0, some (.int (c0 + (folF k p left).1)), some (.tup ((folF k p left).2.map .int))], os⟩)) ∧
    (∀ (n : Nat) (s0 : D) (met : List D) (o4 o5 : Option D) (os : List Ob) (fuel : Nat), (folF k p left).1 < fuel → met.length + k ≤ 1000 → ∃ met' o4' o5', met'.length = met.length + (folF k p left).1 ∧ whilGo (ev (TT n) lc__law_followed_0) (execs (TT n) lb__law_followed_0) fuel ⟨[some p, some s0, some (.lst .own met), some (.lst .own (left.map .int)), o4, o5], os⟩ = some (.nx ⟨[some endD, some s0, some (.lst .own met'), some (.lst .own ((folF k p left).2.map .int)), o4', o5'], os⟩)) := by
  have hend : ∀ (k : Nat) (left : List Int), left.length ≤ 8 → (folF k endD left).1 ≤ k ∧ (folF k endD left).2.length ≤ 8 ∧
    (∀ (n : Nat) (s0 : D) (c0 : Int) (os : List Ob) (fuel : Nat), (folF k endD left).1 < fuel → whilGo (ev (TT (n + 1)) lc_followed_0) (execs (TT (n + 1)) lb_followed_0) fuel ⟨[some endD, some s0, some (.int c0), some (.tup (left.map .int))], os⟩ = some (.nx ⟨[some endD, some s0, some (.int (c0 + (folF k endD left).1)), some (.tup ((folF k endD left).2.map .int))], os⟩)) ∧
    (∀ (n : Nat) (s0 : D) (met : List D) (o4 o5 : Option D) (os : List Ob) (fuel : Nat), (folF k endD left).1 < fuel → met.length + k ≤ 1000 → ∃ met' o4' o5', met'.length = met.length + (folF k endD left).1 ∧ whilGo (ev (TT n) lc__law_followed_0) (execs (TT n) lb__law_followed_0) fuel ⟨[some endD, some s0, some (.lst .own met), some (.lst .own (left.map .int)), o4, o5], os⟩ = some (.nx ⟨[some endD, some s0, some (.lst .own met'), some (.lst .own ((folF k endD left).2.map .int)), o4', o5'], os⟩)) := fun k left hl => by
    rw [folF_end]
    refine ⟨by omega, hl, fun n s0 c0 os fuel hf => ?_, fun n s0 met o4 o5 os fuel hf _ => ⟨met, o4, o5, rfl, ?_⟩⟩
    · obtain ⟨f, rfl⟩ : ∃ j, fuel = j + 1 := ⟨fuel - 1, by omega⟩
      rw [w_fol_end]; simp
    · obtain ⟨f, rfl⟩ : ∃ j, fuel = j + 1 := ⟨fuel - 1, by omega⟩
      rw [w_law_end]
  intro k
  induction k with
  | zero => intro p left h _ _ hl; rw [h]; exact hend 0 left hl
  | succ k ih =>
    intro p left h hk hn hl
    rcases h with h | ⟨ns, si, hs, no, e, r, l, h1, h2, h3⟩
    · rw [h]; exact hend _ left hl
    · subst e
      have hnl : ns.length ≤ 8 := by have := r.len; omega
      obtain ⟨p', l1, en, hp, hn1, hl1⟩ := next_ex h1 h2 h3 l hn
      obtain ⟨hc, hl', A, B⟩ := ih hp (by omega) hn1 (by omega)
      rw [folF_ask en]
      generalize (folF k p' l1).1 = c at *
      generalize (folF k p' l1).2 = l' at *
      refine ⟨by omega, hl', fun n s0 c0 os fuel hf => ?_, fun n s0 met o4 o5 os fuel hf hm2 => ?_⟩
      · obtain ⟨f, rfl⟩ : ∃ j, fuel = j + 1 := ⟨fuel - 1, by omega⟩
        rw [w_fol_step h1 h2 h3 (by omega) hnl hl en, A n s0 (c0 + 1) os f (by omega)]
        rw [show c0 + 1 + (c : Int) = c0 + ((c + 1 : Nat) : Int) by omega]
      · obtain ⟨f, rfl⟩ : ∃ j, fuel = j + 1 := ⟨fuel - 1, by omega⟩
        obtain ⟨o4', o5', e1⟩ := w_law_step (n := n) (os := os) (s0 := s0) (met := met) (o4 := o4) (o5 := o5) h1 h2 h3 (by omega) hnl hl hn (by omega) en f
        obtain ⟨met', o4'', o5'', hme, e2⟩ := B n s0 (met ++ [.tup [askD ns si hs no, .tup (left.map .int)]]) o4' o5' os f (by omega) (by simp only [List.length_append, List.length_singleton]; omega)
        simp only [List.length_append, List.length_singleton] at hme
        exact ⟨met', o4'', o5'', by omega, e1.trans e2⟩
theorem s_fol2 {m : Int} {k : Nat} {p : D} {left : List Int} (hm : m ≤ 8) (h : VP m k p) (hk : k ≤ 20) (hn : left.Nodup) (hl : left.length ≤ 8) : (folF k p left).1 ≤ k ∧ (folF k p left).2.length ≤ 8 ∧
    (∀ (n : Nat) (os : List Ob), runB (TT (n + 1)) 4 [.val, .val] b_followed [p, .tup (left.map .int)] os = some (.ret (.tup [.int (folF k p left).1, .tup ((folF k p left).2.map .int)]) [] os)) ∧
    (∀ (n : Nat) (os : List Ob), ∃ met : List D, met.length = (folF k p left).1 ∧ runB (TT n) 6 [.val, .val] b__law_followed [p, .tup (left.map .int)] os = some (.ret (.tup [.lst .fz met, .tup ((folF k p left).2.map .int)]) [] os)) := by
  obtain ⟨hc, hl', A, B⟩ := fol2 hm k h hk hn hl
  have fp := h.fz
  have sp := h.shal
  generalize (folF k p left).1 = c at *
  generalize (folF k p left).2 = l' at *
  refine ⟨hc, hl', fun n os => ?_, fun n os => ?_⟩
  · have e := A n (.tup (left.map .int)) 0 os 1000000 (by omega)
    unfold runB b_followed startS
    simp [execs, exec, ev, evs, evc, evo, evIt, evOps, fillC, ioSl, putB, evPk, evFz, opd, isVar, hasV, fill1, fillP, asg, asgs, Den.view, rdV, mvV, setS, shal_own, shal_fz, shal_ro, shal_int, shal_bl, shal_str, shal_non, shal_tup, fz, fzL, fzO, bnd, ret, lift, Den.thn, sthn, idxD, opF, addD, subD, mulD, modD, fdivD, negD, notD, isNonD, cmpD, grd, isLst, setiM, biF, lenF, small, mutL, smallR, lim, flatD, fp, sp, e, outsOf]
  · obtain ⟨met, o4, o5, hme, e⟩ := B n (.tup (left.map .int)) [] none none os 1000000 (by omega) (by simp; omega)
    refine ⟨fzL met, by rw [fzL_ln]; simpa using hme, ?_⟩
    unfold runB b__law_followed startS
    simp [execs, exec, ev, evs, evc, evo, evIt, evOps, fillC, ioSl, putB, evPk, evFz, opd, isVar, hasV, fill1, fillP, asg, asgs, Den.view, rdV, mvV, setS, shal_own, shal_fz, shal_ro, shal_int, shal_bl, shal_str, shal_non, shal_tup, fz, fzL, fzO, bnd, ret, lift, Den.thn, sthn, idxD, opF, addD, subD, mulD, modD, fdivD, negD, notD, isNonD, cmpD, grd, isLst, setiM, biF, lenF, small, mutL, smallR, lim, flatD, listF, tupleF, fp, sp, e, outsOf]
end Den
/-! Nb15: a plan without idle asks: the mathematics. -/
namespace Den
open PySem PySem.Spec L2
def spk (ns l : List Int) : List Int := ns.filter fun x => decide (x ∈ l)
def keyF (ns l : List Int) : List Int := match spk ns l with
  | [] => [0, 0]
  | [x] => [1, x]
  | _ => [2, 0]
def nxtF (ns l : List Int) : List Int := match spk ns l with
  | [x] => l.filter fun y => !decide (y = x)
  | _ => l
def byK (ns : List Int) (L : List (List Int)) (k : List Int) : List (List Int) := (L.filter fun l => decide (keyF ns l = k)).map (nxtF ns)
def allK (ns : List Int) (L : List (List Int)) (k : List Int) : Bool := L.all fun l => decide (keyF ns l = k)
def trimF : Nat → D → List (List Int) → D
  | 0, _, _ => endD
  | j + 1, p, L => match askOf p with
    | none => endD
    | some (ns, si, hs, no) => if L = [] then endD else if allK ns L [0, 0] = true then trimF j si L else if allK ns L [2, 0] = true then trimF j no L else
        askD ns (trimF j si (byK ns L [0, 0])) ((ns.zip hs).map fun p => trimF j p.2 (byK ns L [1, p.1])) (trimF j no (byK ns L [2, 0]))
def idleF : Nat → D → List (List Int) → Bool
  | 0, _, _ => false
  | j + 1, p, L => match askOf p with
    | none => false
    | some (ns, si, hs, no) => if L = [] ∨ allK ns L [0, 0] = true ∨ allK ns L [2, 0] = true then true else
        idleF j si (byK ns L [0, 0]) || (idleF j no (byK ns L [2, 0]) || (ns.zip hs).any fun p => idleF j p.2 (byK ns L [1, p.1]))
def partsF : Nat → D → Nat
  | 0, _ => 0
  | j + 1, p => match askOf p with
    | none => 0
    | some (_, si, hs, no) => 1 + partsF j si + (hs.map (partsF j)).sum + partsF j no
theorem key_cases (ns l : List Int) (si no : D) (hs : List D) : (keyF ns l = [0, 0] ∧ nxtF ns l = l ∧ nextD ns si hs no l = some (si, l)) ∨
    (∃ x, x ∈ ns ∧ keyF ns l = [1, x] ∧ nextD ns si hs no l = (hs[ns.idxOf x]?).map fun p => (p, nxtF ns l)) ∨ (keyF ns l = [2, 0] ∧ nxtF ns l = l ∧ nextD ns si hs no l = some (no, l)) := by
  unfold keyF nxtF nextD spk
  have hm : ∀ x ∈ ns.filter (fun x => decide (x ∈ l)), x ∈ ns := fun x hx => (List.mem_filter.mp hx).1
  generalize ns.filter (fun x => decide (x ∈ l)) = sp at hm
  match sp, hm with
  | [], _ => exact .inl ⟨rfl, rfl, rfl⟩
  | [x], hm => exact .inr (.inl ⟨x, hm x List.mem_cons_self, rfl, rfl⟩)
  | x :: y :: r, _ => exact .inr (.inr ⟨rfl, rfl, rfl⟩)
theorem mem_byK {ns : List Int} {L : List (List Int)} {l k : List Int} (h : l ∈ L) (e : keyF ns l = k) : nxtF ns l ∈ byK ns L k := List.mem_map.mpr ⟨l, List.mem_filter.mpr ⟨h, decide_eq_true e⟩, rfl⟩
theorem allK_of {ns : List Int} {L : List (List Int)} {l k : List Int} (h : allK ns L k = true) (hl : l ∈ L) : keyF ns l = k := of_decide_eq_true (List.all_eq_true.mp h l hl)
theorem folF_up {m : Int} : ∀ (k : Nat) {p : D} {l : List Int}, VP m k p → folF (k + 1) p l = folF k p l
  | 0, p, l, h => by
    rw [show p = endD from h, folF_end, folF_end]
  | k + 1, p, l, h => by
    rcases h with h | ⟨ns, si, hs, no, e, r, len, h1, h2, h3⟩
    · rw [h, folF_end, folF_end]
    · subst e
      have go : ∀ {p' l'}, nextD ns si hs no l = some (p', l') → VP m k p' → folF (k + 1 + 1) (askD ns si hs no) l = folF (k + 1) (askD ns si hs no) l := fun {p' l'} e v => by
        rw [folF_ask e, folF_ask e, folF_up k v]
      rcases key_cases ns l si no hs with ⟨_, _, e⟩ | ⟨x, hx, _, e⟩ | ⟨_, _, e⟩
      · exact go e h1
      · have hi := List.idxOf_lt_length_of_mem hx
        rw [List.getElem?_eq_getElem (show ns.idxOf x < hs.length by omega)] at e
        exact go e (h2 _ (List.getElem_mem _))
      · exact go e h3
theorem trimF_up {m : Int} : ∀ (k : Nat) {p : D} {L : List (List Int)}, VP m k p → trimF (k + 1) p L = trimF k p L
  | 0, p, L, h => by rw [show p = endD from h]; rfl
  | k + 1, p, L, h => by
    rcases h with h | ⟨ns, si, hs, no, e, r, len, h1, h2, h3⟩
    · rw [h]; rfl
    · subst e
      have u1 : ∀ L, trimF (k + 1) si L = trimF k si L := fun L => trimF_up k h1
      have u2 : ∀ L, trimF (k + 1) no L = trimF k no L := fun L => trimF_up k h3
      have u3 : ((ns.zip hs).map fun p => trimF (k + 1) p.2 (byK ns L [1, p.1])) = (ns.zip hs).map fun p => trimF k p.2 (byK ns L [1, p.1]) := by
        refine List.map_congr_left fun p hp => trimF_up k (h2 _ (List.of_mem_zip hp).2)
      rw [trimF, askOf_ask]
      dsimp only
      rw [u1, u1, u2, u2, u3, trimF, askOf_ask]
theorem idleF_up {m : Int} : ∀ (k : Nat) {p : D} {L : List (List Int)}, VP m k p → idleF (k + 1) p L = idleF k p L
  | 0, p, L, h => by rw [show p = endD from h]; rfl
  | k + 1, p, L, h => by
    rcases h with h | ⟨ns, si, hs, no, e, r, len, h1, h2, h3⟩
    · rw [h]; rfl
    · subst e
      have u3 : ((ns.zip hs).any fun p => idleF (k + 1) p.2 (byK ns L [1, p.1])) = (ns.zip hs).any fun p => idleF k p.2 (byK ns L [1, p.1]) := by
        rw [Bool.eq_iff_iff, List.any_eq_true, List.any_eq_true]
        exact ⟨fun ⟨p, hp, q⟩ => ⟨p, hp, by rw [← idleF_up k (h2 _ (List.of_mem_zip hp).2)]; exact q⟩, fun ⟨p, hp, q⟩ => ⟨p, hp, by rw [idleF_up k (h2 _ (List.of_mem_zip hp).2)]; exact q⟩⟩
      rw [idleF, askOf_ask]
      dsimp only
      rw [idleF_up k h1, idleF_up k h3, u3, idleF, askOf_ask]
theorem partsF_up {m : Int} : ∀ (k : Nat) {p : D}, VP m k p → partsF (k + 1) p = partsF k p
  | 0, p, h => by rw [show p = endD from h]; rfl
  | k + 1, p, h => by
    rcases h with h | ⟨ns, si, hs, no, e, r, len, h1, h2, h3⟩
    · rw [h]; rfl
    · subst e
      have u3 : hs.map (partsF (k + 1)) = hs.map (partsF k) := List.map_congr_left fun p hp => partsF_up k (h2 _ hp)
      rw [partsF, askOf_ask]
      dsimp only
      rw [partsF_up k h1, partsF_up k h3, u3, partsF, askOf_ask]
theorem trimF_vp {m : Int} : ∀ (k : Nat) {p : D} {L : List (List Int)}, VP m k p → VP m k (trimF k p L)
  | 0, p, L, h => rfl
  | k + 1, p, L, h => by
    rcases h with h | ⟨ns, si, hs, no, e, r, len, h1, h2, h3⟩
    · rw [h]; exact VP.end_
    · subst e
      rw [trimF, askOf_ask]
      dsimp only
      split
      · exact VP.end_
      · split
        · exact (trimF_vp k h1).up
        · split
          · exact (trimF_vp k h3).up
          · refine .inr ⟨ns, _, _, _, rfl, r, by rw [List.length_map, List.length_zip, len, Nat.min_self], trimF_vp k h1, fun q hq => ?_, trimF_vp k h3⟩
            obtain ⟨u, hu, rfl⟩ := List.mem_map.mp hq
            exact trimF_vp k (h2 _ (List.of_mem_zip hu).2)
theorem trimF_fol {m : Int} : ∀ (k : Nat) {p : D} {L : List (List Int)} {l : List Int}, VP m k p → l ∈ L → (folF k (trimF k p L) l).2 = (folF k p l).2 ∧ (folF k (trimF k p L) l).1 ≤ (folF k p l).1
  | 0, p, L, l, h, hl => ⟨rfl, Nat.le_refl _⟩
  | k + 1, p, L, l, h, hl => by
    rcases h with h | ⟨ns, si, hs, no, e, r, len, h1, h2, h3⟩
    · rw [h]; exact ⟨rfl, Nat.le_refl _⟩
    · subst e
      have hL : L ≠ [] := fun z => by rw [z] at hl; cases hl
      rw [trimF, askOf_ask]
      dsimp only
      rw [if_neg hL]
      split
      · rename_i ha
        have hk := allK_of ha hl
        obtain ⟨i1, i2⟩ := trimF_fol k (L := L) h1 hl
        rw [folF_up k (trimF_vp k h1)]
        rcases key_cases ns l si no hs with ⟨_, _, e⟩ | ⟨x, hx, q, _⟩ | ⟨q, _⟩
        · rw [folF_ask e]
          exact ⟨i1, Nat.le_succ_of_le i2⟩
        · rw [hk] at q; simp at q
        · rw [hk] at q; simp at q
      · split
        · rename_i ha
          have hk := allK_of ha hl
          obtain ⟨i1, i2⟩ := trimF_fol k (L := L) h3 hl
          rw [folF_up k (trimF_vp k h3)]
          rcases key_cases ns l si no hs with ⟨q, _⟩ | ⟨x, hx, q, _⟩ | ⟨_, _, e⟩
          · rw [hk] at q; simp at q
          · rw [hk] at q; simp at q
          · rw [folF_ask e]
            exact ⟨i1, Nat.le_succ_of_le i2⟩
        · rcases key_cases ns l si no hs with ⟨q, z, e⟩ | ⟨x, hx, q, e⟩ | ⟨q, z, e⟩
          · rcases key_cases ns l (trimF k si (byK ns L [0, 0])) (trimF k no (byK ns L [2, 0])) ((ns.zip hs).map fun p => trimF k p.2 (byK ns L [1, p.1])) with ⟨_, _, e'⟩ | ⟨x, hx, q', _⟩ | ⟨q', _⟩
            · have hm := mem_byK hl q
              rw [z] at hm
              obtain ⟨i1, i2⟩ := trimF_fol k h1 hm
              rw [folF_ask e, folF_ask e']
              exact ⟨i1, Nat.succ_le_succ i2⟩
            · rw [q] at q'; simp at q'
            · rw [q] at q'; simp at q'
          · rcases key_cases ns l (trimF k si (byK ns L [0, 0])) (trimF k no (byK ns L [2, 0])) ((ns.zip hs).map fun p => trimF k p.2 (byK ns L [1, p.1])) with ⟨q', _⟩ | ⟨y, hy, q', e'⟩ | ⟨q', _⟩
            · rw [q] at q'; simp at q'
            · rw [q] at q'
              injection q' with _ q'
              injection q' with q' _
              subst q'
              have hi := List.idxOf_lt_length_of_mem hx
              have hi2 : ns.idxOf x < hs.length := by omega
              have hz : (ns.zip hs)[ns.idxOf x]? = some (x, hs[ns.idxOf x]) := by
                rw [List.getElem?_zip_eq_some]
                exact ⟨by rw [List.getElem?_eq_getElem hi, List.getElem_idxOf], List.getElem?_eq_getElem hi2⟩
              rw [List.getElem?_eq_getElem hi2] at e
              rw [List.getElem?_map, hz] at e'
              obtain ⟨i1, i2⟩ := trimF_fol k (h2 _ (List.getElem_mem hi2)) (mem_byK hl q)
              rw [folF_ask e, folF_ask e']
              exact ⟨i1, Nat.succ_le_succ i2⟩
            · rw [q] at q'; simp at q'
          · rcases key_cases ns l (trimF k si (byK ns L [0, 0])) (trimF k no (byK ns L [2, 0])) ((ns.zip hs).map fun p => trimF k p.2 (byK ns L [1, p.1])) with ⟨q', _⟩ | ⟨x, hx, q', _⟩ | ⟨_, _, e'⟩
            · rw [q] at q'; simp at q'
            · rw [q] at q'; simp at q'
            · have hm := mem_byK hl q
              rw [z] at hm
              obtain ⟨i1, i2⟩ := trimF_fol k h3 hm
              rw [folF_ask e, folF_ask e']
              exact ⟨i1, Nat.succ_le_succ i2⟩
theorem zip_map {α β γ : Type} (f : α × β → γ) : ∀ (ns : List α) (hs : List β), ns.zip ((ns.zip hs).map f) = (ns.zip hs).map fun p => (p.1, f p)
  | [], _ => rfl
  | _ :: _, [] => rfl
  | x :: ns, h :: hs => by simp [zip_map f ns hs]
theorem trimF_idle {m : Int} : ∀ (k : Nat) {p : D} {L : List (List Int)}, VP m k p → idleF k (trimF k p L) L = false
  | 0, p, L, h => rfl
  | k + 1, p, L, h => by
    rcases h with h | ⟨ns, si, hs, no, e, r, len, h1, h2, h3⟩
    · rw [h]; rfl
    · subst e
      rw [trimF, askOf_ask]
      dsimp only
      split
      · rfl
      · rename_i hL
        split
        · rw [idleF_up k (trimF_vp k h1)]; exact trimF_idle k h1
        · rename_i a0
          split
          · rw [idleF_up k (trimF_vp k h3)]; exact trimF_idle k h3
          · rename_i a2
            rw [idleF, askOf_ask]
            dsimp only
            rw [if_neg (fun z => z.elim hL fun z => z.elim a0 a2), trimF_idle k h1, trimF_idle k h3, zip_map, Bool.false_or, Bool.false_or, List.any_eq_false]
            intro q hq
            obtain ⟨u, hu, rfl⟩ := List.mem_map.mp hq
            have := trimF_idle k (L := byK ns L [1, u.1]) (h2 _ (List.of_mem_zip hu).2)
            simp [this]
theorem sum_zip {ns : List Int} {f g : D → Nat} (fz : Int × D → D) : ∀ (ns : List Int) (hs : List D), (∀ p ∈ ns.zip hs, f (fz p) ≤ g p.2) → (((ns.zip hs).map fz).map f).sum ≤ (hs.map g).sum
  | [], hs, _ => by simp
  | _ :: _, [], _ => by simp
  | x :: ns, h :: hs, hh => by
    have h1 := hh (x, h) (by simp)
    have h2 := sum_zip (ns := ns) (f := f) (g := g) fz ns hs fun p hp => hh p (by simp [hp])
    simp only [List.zip_cons_cons, List.map_cons, List.sum_cons] at h1 h2 ⊢
    omega
theorem trimF_parts {m : Int} : ∀ (k : Nat) {p : D} {L : List (List Int)}, VP m k p → partsF k (trimF k p L) ≤ partsF k p
  | 0, p, L, h => Nat.le_refl _
  | k + 1, p, L, h => by
    rcases h with h | ⟨ns, si, hs, no, e, r, len, h1, h2, h3⟩
    · rw [h]; exact Nat.le_refl _
    · subst e
      have i1 := fun L => trimF_parts k (L := L) h1
      have i3 := fun L => trimF_parts k (L := L) h3
      have ep : partsF (k + 1) (askD ns si hs no) = 1 + partsF k si + (hs.map (partsF k)).sum + partsF k no := by rw [partsF, askOf_ask]
      rw [trimF, askOf_ask]
      dsimp only
      split
      · rw [show partsF (k + 1) endD = 0 from rfl]; omega
      · split
        · rw [partsF_up k (trimF_vp k h1)]
          have := i1 L
          omega
        · split
          · rw [partsF_up k (trimF_vp k h3)]
            have := i3 L
            omega
          · rw [partsF, askOf_ask]
            dsimp only
            rw [ep]
            have a1 := i1 (byK ns L [0, 0])
            have a3 := i3 (byK ns L [2, 0])
            have a2 := sum_zip (ns := ns) (f := partsF k) (g := partsF k) (fun p => trimF k p.2 (byK ns L [1, p.1])) ns hs fun p hp => trimF_parts k (h2 _ (List.of_mem_zip hp).2)
            omega
theorem trimF_twice {m : Int} : ∀ (k : Nat) {p : D} {L : List (List Int)}, VP m k p → trimF k (trimF k p L) L = trimF k p L
  | 0, p, L, h => rfl
  | k + 1, p, L, h => by
    rcases h with h | ⟨ns, si, hs, no, e, r, len, h1, h2, h3⟩
    · rw [h]; rfl
    · subst e
      have i1 := fun L => trimF_twice k (L := L) h1
      have i3 := fun L => trimF_twice k (L := L) h3
      have et : trimF (k + 1) (askD ns si hs no) L = (if L = [] then endD else if allK ns L [0, 0] = true then trimF k si L else if allK ns L [2, 0] = true then trimF k no L else
        askD ns (trimF k si (byK ns L [0, 0])) ((ns.zip hs).map fun p => trimF k p.2 (byK ns L [1, p.1])) (trimF k no (byK ns L [2, 0]))) := by rw [trimF, askOf_ask]
      rw [et]
      by_cases hL : L = []
      · rw [if_pos hL]; rfl
      · rw [if_neg hL]
        by_cases a0 : allK ns L [0, 0] = true
        · rw [if_pos a0, trimF_up k (trimF_vp k h1), i1]
        · rw [if_neg a0]
          by_cases a2 : allK ns L [2, 0] = true
          · rw [if_pos a2, trimF_up k (trimF_vp k h3), i3]
          · rw [if_neg a2, trimF, askOf_ask]
            dsimp only
            rw [if_neg hL, if_neg a0, if_neg a2, i1, i3, zip_map, List.map_map]
            congr 1
            refine List.map_congr_left fun u hu => ?_
            exact trimF_twice k (h2 _ (List.of_mem_zip hu).2)
end Den
/-! Nc15: what a dict of lists by keys holds. -/
namespace Den
open PySem PySem.Spec L2
section
variable {κ α : Type} [DecidableEq κ]
theorem valL_none {k : κ} : ∀ (ks : List κ) (ds : List α), k ∉ ks → valL ks ds k = none
  | [], ds, _ => by cases ds <;> rfl
  | k' :: ks, [], _ => rfl
  | k' :: ks, d :: ds, h => by
    unfold valL
    rw [if_neg (fun e => h (by rw [e]; exact List.mem_cons_self))]
    exact valL_none ks ds fun z => h (List.mem_cons_of_mem _ z)
theorem valL_app {k k' : κ} {x : α} : ∀ (ks : List κ) (ds : List α), ks.length = ds.length → k ∉ ks → valL (ks ++ [k]) (ds ++ [x]) k' = if k' = k then some x else valL ks ds k'
  | [], [], _, _ => by
    simp only [List.nil_append, valL]
    by_cases e : k = k'
    · rw [if_pos e, if_pos e.symm]
    · rw [if_neg e, if_neg (Ne.symm e)]
  | [], _ :: _, h, _ => by cases h
  | _ :: _, [], h, _ => by cases h
  | k0 :: ks, d :: ds, h, hk => by
    simp only [List.cons_append, valL]
    by_cases e : k0 = k'
    · rw [if_pos e, if_pos e, if_neg]
      intro z
      exact hk (by rw [← z, ← e]; exact List.mem_cons_self)
    · rw [if_neg e, if_neg e]
      exact valL_app ks ds (by simpa using h) fun z => hk (List.mem_cons_of_mem _ z)
theorem valL_set {k k' : κ} {x : α} : ∀ (ks : List κ) (ds : List α), ks.length = ds.length → k ∈ ks → valL ks (setL ks ds k x) k' = if k' = k then some x else valL ks ds k'
  | [], ds, _, h => by cases h
  | _ :: _, [], h, _ => by cases h
  | k0 :: ks, d :: ds, h, hk => by
    simp only [setL, valL]
    by_cases e : k0 = k'
    · rw [if_pos e, if_pos e]
      by_cases e2 : k0 = k
      · rw [if_pos e2, if_pos (e.symm.trans e2)]
      · rw [if_neg e2, if_neg (fun z => e2 (e.trans z))]
    · rw [if_neg e, if_neg e]
      by_cases hk' : k ∈ ks
      · exact valL_set ks ds (by simpa using h) hk'
      · have e3 : k = k0 := by
          rcases List.mem_cons.mp hk with z | z
          · exact z
          · exact absurd z hk'
        rw [if_neg (fun z => e (e3.symm.trans z.symm))]
        have : ∀ (ks : List κ) (ds : List α), k ∉ ks → setL ks ds k x = ds := by
          intro ks
          induction ks with
          | nil => intro ds _; simp [setL]
          | cons a ks ih =>
            intro ds hn
            cases ds with
            | nil => simp [setL]
            | cons b ds =>
              simp only [setL]
              rw [if_neg (fun z => hn (by rw [z]; exact List.mem_cons_self)), ih ds fun z => hn (List.mem_cons_of_mem _ z)]
        rw [this ks ds hk']
theorem valL_put {k k' : κ} {x : α} {ks : List κ} {ds : List α} (h : ks.length = ds.length) : valL (putL ks ds k x).1 (putL ks ds k x).2 k' = if k' = k then some x else valL ks ds k' := by
  unfold putL
  by_cases e : k ∈ ks
  · rw [if_pos e]; exact valL_set ks ds h e
  · rw [if_neg e]; exact valL_app ks ds h e
theorem setL_ln {k : κ} {x : α} : ∀ (ks : List κ) (ds : List α), (setL ks ds k x).length = ds.length
  | [], _ => by simp [setL]
  | _ :: _, [] => by simp [setL]
  | _ :: ks, _ :: ds => by simp only [setL, List.length_cons, setL_ln ks ds]
theorem putL_ln {k : κ} {x : α} {ks : List κ} {ds : List α} (h : ks.length = ds.length) : (putL ks ds k x).1.length = (putL ks ds k x).2.length := by
  unfold putL
  by_cases e : k ∈ ks
  · rw [if_pos e]; dsimp only; rw [setL_ln]; exact h
  · rw [if_neg e]; simp [h]
theorem putL_mem {k k' : κ} {x : α} {ks : List κ} {ds : List α} : k' ∈ (putL ks ds k x).1 ↔ k' ∈ ks ∨ k' = k := by
  unfold putL
  by_cases e : k ∈ ks
  · rw [if_pos e]; exact ⟨.inl, fun h => h.elim id fun z => z ▸ e⟩
  · rw [if_neg e]; simp
theorem putL_nd {k : κ} {x : α} {ks : List κ} {ds : List α} (h : ks.Nodup) : (putL ks ds k x).1.Nodup := by
  unfold putL
  by_cases e : k ∈ ks
  · rw [if_pos e]; exact h
  · rw [if_neg e]
    exact List.nodup_append.mpr ⟨h, by simp, fun a ha b hb z => e (by rw [← List.mem_singleton.mp hb, ← z]; exact ha)⟩
theorem putL_le {k : κ} {x : α} {ks : List κ} {ds : List α} : (putL ks ds k x).2.length ≤ ds.length + 1 := by
  unfold putL
  by_cases e : k ∈ ks
  · rw [if_pos e]; dsimp only; rw [setL_ln]; omega
  · rw [if_neg e]; simp
end
def itemsD : Option D → List D
  | some (.lst _ ds) => ds
  | _ => []
/-- one more left -/
def bhS (ns : List Int) (st : List (List Int) × List D) (l : List Int) : List (List Int) × List D := putL st.1 st.2 (keyF ns l) (.lst .fz (itemsD (valL st.1 st.2 (keyF ns l)) ++ [tupI (nxtF ns l)]))
def bhF (ns : List Int) (L : List (List Int)) : List (List Int) × List D := L.foldl (bhS ns) ([], [])
theorem bhF_snoc (ns : List Int) (L : List (List Int)) (l : List Int) : bhF ns (L ++ [l]) = bhS ns (bhF ns L) l := by
  unfold bhF; rw [List.foldl_append]; rfl
theorem byK_snoc (ns : List Int) (L : List (List Int)) (l k : List Int) : byK ns (L ++ [l]) k = if keyF ns l = k then byK ns L k ++ [nxtF ns l] else byK ns L k := by
  unfold byK
  rw [List.filter_append, List.map_append]
  by_cases e : keyF ns l = k <;> simp [e]
theorem bhF_ok (ns : List Int) (L : List (List Int)) : (bhF ns L).1.length = (bhF ns L).2.length ∧ (bhF ns L).1.Nodup ∧ (bhF ns L).2.length ≤ L.length ∧ (∀ k, k ∈ (bhF ns L).1 ↔ ∃ l ∈ L, keyF ns l = k) ∧
    ∀ k, valL (bhF ns L).1 (bhF ns L).2 k = if byK ns L k = [] then none else some (.lst .fz ((byK ns L k).map tupI)) := by
  have key : ∀ n (L : List (List Int)), L.length = n → (bhF ns L).1.length = (bhF ns L).2.length ∧ (bhF ns L).1.Nodup ∧ (bhF ns L).2.length ≤ L.length ∧ (∀ k, k ∈ (bhF ns L).1 ↔ ∃ l ∈ L, keyF ns l = k) ∧
    ∀ k, valL (bhF ns L).1 (bhF ns L).2 k = if byK ns L k = [] then none else some (.lst .fz ((byK ns L k).map tupI)) := by
    intro n
    induction n with
    | zero =>
      intro L h
      obtain rfl := List.length_eq_zero_iff.mp h
      exact ⟨rfl, .nil, Nat.le_refl _, fun k => by simp [bhF], fun k => by simp [bhF, valL, byK]⟩
    | succ n ih =>
      intro L h
      obtain ⟨L0, l, rfl⟩ : ∃ L0 l, L = L0 ++ [l] := ⟨L.dropLast, L.getLast (fun z => by rw [z] at h; cases h), (List.dropLast_concat_getLast _).symm⟩
      obtain ⟨h1, h2, h3, h4, h5⟩ := ih L0 (by simpa using h)
      rw [bhF_snoc]
      unfold bhS
      refine ⟨putL_ln h1, putL_nd h2, ?_, fun k => ?_, fun k => ?_⟩
      · have := putL_le (k := keyF ns l) (x := D.lst .fz (itemsD (valL (bhF ns L0).1 (bhF ns L0).2 (keyF ns l)) ++ [tupI (nxtF ns l)])) (ks := (bhF ns L0).1) (ds := (bhF ns L0).2)
        simp only [List.length_append, List.length_singleton]
        omega
      · rw [putL_mem, h4]
        constructor
        · rintro (⟨l', hl', e⟩ | rfl)
          · exact ⟨l', by simp [hl'], e⟩
          · exact ⟨l, by simp, rfl⟩
        · rintro ⟨l', hl', e⟩
          rcases List.mem_append.mp hl' with hl' | hl'
          · exact .inl ⟨l', hl', e⟩
          · rw [List.mem_singleton.mp hl'] at e
            exact .inr e.symm
      · rw [valL_put h1, byK_snoc]
        by_cases e : k = keyF ns l
        · rw [if_pos e, if_pos e.symm, if_neg (by simp), h5, ← e]
          by_cases z : byK ns L0 k = []
          · rw [if_pos z, z]; rfl
          · rw [if_neg z]
            simp [itemsD]
        · rw [if_neg e, if_neg (Ne.symm e), h5]
  exact key L.length L rfl
theorem bhF_one {ns : List Int} {L : List (List Int)} {k : List Int} (hL : L ≠ []) : (bhF ns L).1 = [k] ↔ allK ns L k = true := by
  obtain ⟨_, hn, _, hk, _⟩ := bhF_ok ns L
  constructor
  · intro e
    refine List.all_eq_true.mpr fun l hl => decide_eq_true ?_
    have := (hk (keyF ns l)).mpr ⟨l, hl, rfl⟩
    rw [e] at this
    exact List.mem_singleton.mp this
  · intro ha
    have m1 : ∀ k' ∈ (bhF ns L).1, k' = k := fun k' h => by
      obtain ⟨l, hl, e⟩ := (hk k').mp h
      rw [← e]
      exact allK_of ha hl
    obtain ⟨l, hl⟩ := List.exists_mem_of_ne_nil L hL
    have m2 : k ∈ (bhF ns L).1 := (hk k).mpr ⟨l, hl, allK_of ha hl⟩
    generalize (bhF ns L).1 = ks at *
    match ks, hn, m1, m2 with
    | [], _, _, m2 => cases m2
    | [a], _, m1, _ => rw [m1 a (by simp)]
    | a :: b :: r, hn, m1, _ =>
      have e1 := m1 a (by simp)
      have e2 := m1 b (by simp)
      rw [e1, e2] at hn
      simp at hn
theorem bhF_nil {ns : List Int} {L : List (List Int)} : (bhF ns L).1 = [] ↔ L = [] := by
  obtain ⟨_, _, _, hk, _⟩ := bhF_ok ns L
  constructor
  · intro e
    cases L with
    | nil => rfl
    | cons l L =>
      have := (hk (keyF ns l)).mpr ⟨l, by simp, rfl⟩
      rw [e] at this
      cases this
  · rintro rfl; rfl
theorem allK_byK {ns : List Int} {L : List (List Int)} {k : List Int} (h : allK ns L k = true) (hk : k = [0, 0] ∨ k = [2, 0]) : byK ns L k = L := by
  unfold byK
  have hf : L.filter (fun l => decide (keyF ns l = k)) = L := List.filter_eq_self.mpr fun l hl => decide_eq_true (allK_of h hl)
  rw [hf]
  have : ∀ l ∈ L, nxtF ns l = id l := fun l hl => by
    have e := allK_of h hl
    rcases key_cases ns l endD endD [] with ⟨_, z, _⟩ | ⟨x, _, q, _⟩ | ⟨_, z, _⟩
    · exact z
    · rw [e] at q
      rcases hk with rfl | rfl <;> simp at q
    · exact z
  rw [List.map_congr_left this, List.map_id]
/-! ### lists of keys compared -/
theorem toPs_tups : ∀ ks : List (List Int), toPs (ks.map tupI) = ks.map fun k => .tuple (k.map .int)
  | [] => rfl
  | k :: ks => by
    have : ∀ k : List Int, toPs (k.map D.int) = k.map .int := fun k => by
      induction k with
      | nil => rfl
      | cons a k ih => simp only [List.map_cons, toPs, toP, ih]
    simp only [List.map_cons, toPs, toP, tupI, this, toPs_tups ks]
theorem keysP_D (ks : List (List Int)) : keysP ks = toP (.lst .fz (ks.map tupI)) := by
  simp only [toP, toPs_tups, keysP]
theorem shaped_keys (ks : List (List Int)) : SeqAt.shaped (keysP ks) = true := by
  rw [keysP_D]
  exact shaped_of (shp_lst (k := 1) (shp_tups (k := 0)))
theorem eqv_keys : ∀ a b : List (List Int), PyData.eqv (keysP a) (keysP b) = decide (a = b) := by
  have key : ∀ a b : List (List Int), PyData.eqvAll (toPs (a.map tupI)) (toPs (b.map tupI)) = decide (a = b) := by
    intro a
    induction a with
    | nil => intro b; cases b <;> simp [toPs, PyData.eqvAll, tupI, toP]
    | cons x a ih =>
      intro b
      cases b with
      | nil => simp [toPs, PyData.eqvAll, tupI, toP]
      | cons y b =>
        simp only [List.map_cons, toPs, PyData.eqvAll, ih b]
        simp only [tupI, toP, PyData.eqv, eqv_ints]
        by_cases h : x = y <;> simp [h]
  intro a b
  rw [keysP_D, keysP_D]
  simp only [toP, PyData.eqv, key]
theorem eqKeys_eq (a b : List (List Int)) : eqKeys a b = some (decide (a = b)) := by
  unfold eqKeys
  rw [if_pos ⟨shaped_keys a, shaped_keys b⟩, eqv_keys]
theorem inKeys_eq (a : List (List Int)) (r : List (List (List Int))) : inKeys a r = some (decide (a ∈ r)) := by
  have hs : SeqAt.shaped (.list (r.map keysP)) = true := by
    have e : PyData.list (r.map keysP) = toP (.lst .fz (r.map fun ks => .lst .fz (ks.map tupI))) := by
      simp only [toP]
      congr 1
      induction r with
      | nil => rfl
      | cons x r ih => simp only [List.map_cons, toPs, ih, keysP_D]
    rw [e]
    refine shaped_of (shp_lst (k := 2) fun x hx => ?_)
    obtain ⟨y, _, rfl⟩ := List.mem_map.mp hx
    exact shp_lst (k := 1) (shp_tups (k := 0))
  unfold inKeys
  rw [if_pos ⟨shaped_keys a, hs⟩]
  congr 1
  induction r with
  | nil => simp
  | cons x r ih =>
    have ih := ih (by
      have e : PyData.list (r.map keysP) = toP (.lst .fz (r.map fun ks => .lst .fz (ks.map tupI))) := by
        simp only [toP]
        congr 1
        clear ih hs
        induction r with
        | nil => rfl
        | cons x r ih => simp only [List.map_cons, toPs, ih, keysP_D]
      rw [e]
      refine shaped_of (shp_lst (k := 2) fun x hx => ?_)
      obtain ⟨y, _, rfl⟩ := List.mem_map.mp hx
      exact shp_lst (k := 1) (shp_tups (k := 0)))
    simp only [List.map_cons, List.any_cons, ih, eqv_keys]
    by_cases h : x = a
    · subst h; simp
    · have h' : ¬ a = x := fun z => h z.symm
      simp [h, h']
end Den
/-! Nd15: the program's trimming: one left after another. -/
namespace Den
open PySem PySem.Spec L2
variable {n : Nat} {os : List Ob}
theorem min2_key (s : List Int) : min2F [.int 2, .int (s.length : Int)] = some (.int (if (s.length : Int) < 2 then s.length else 2)) := rfl
theorem fzL_app : ∀ a b : List D, fzL (a ++ b) = fzL a ++ fzL b
  | [], _ => rfl
  | d :: a, b => by simp only [List.cons_append, fzL, fzL_app a b]
theorem pr_turn {m : Int} {k : Nat} {ns l : List Int} {si no p : D} {hs : List D} {lf : D} {st : List (List Int) × List D} {o3 o4 o5 o6 o7 o8 o9 : Option D} (ep : p = askD ns si hs no) (h1 : VP m k si) (h2 : ∀ d ∈ hs, VP m k d) (h3 : VP m k no) (len : hs.length = ns.length) (hl : ns.length ≤ 8) (hl2 : l.length ≤ 8)
    (hst : ∀ k, ∃ K, (valL st.1 st.2 k = none ∨ valL st.1 st.2 k = some (.lst .fz K)) ∧ (itemsD (valL st.1 st.2 k)).length < 1000) (hfz : ∀ k, fzL (itemsD (valL st.1 st.2 k)) = itemsD (valL st.1 st.2 k)) (hz : st.2.length < 1000) :
    ∃ a3 a4 a5 a6, bodyF (TT (n + 1)) (.nm 3) lb_pruned_0 (tupI l) ⟨[some p, some lf, some (.dc .own (.t st.1) st.2), o3, o4, o5, o6, o7, o8, o9], os⟩ = some (.nx ⟨[some p, some lf, some (.dc .own (.t (bhS ns st l).1) (bhS ns st l).2), a3, a4, a5, a6, o7, o8, o9], os⟩) := by
  have f2 := fzL_id fun d hd => (h2 d hd).fz
  have fa := fz_ask (ns := ns) h1.fz f2 h3.fz
  have sa := shal_ask fa
  have i1 : idxD (askD ns si hs no) (.int 1) = some (.tup (ns.map .int)) := rfl
  obtain ⟨p', hn⟩ : ∃ p', nextD ns si hs no l = some (p', nxtF ns l) := by
    rcases key_cases ns l si no hs with ⟨_, z, e⟩ | ⟨x, hx, _, e⟩ | ⟨_, z, e⟩
    · exact ⟨si, by rw [z]; exact e⟩
    · have hi := List.idxOf_lt_length_of_mem hx
      rw [List.getElem?_eq_getElem (show ns.idxOf x < hs.length by omega)] at e
      exact ⟨_, e⟩
    · exact ⟨no, by rw [z]; exact e⟩
  have es := s_step (n := n) (os := os) h1.fz f2 h3.fz hl hl2 hn
  subst ep
  generalize askD ns si hs no = p at *
  have eb : lb_pruned_0 = .cons (tN lb_pruned_0 0) (.cons (tN lb_pruned_0 1) (.cons (tN lb_pruned_0 2) .nil)) := rfl
  have t0 : exec (TT (n + 1)) (tN lb_pruned_0 0) ⟨[some p, some lf, some (.dc .own (.t st.1) st.2), some (tupI l), o4, o5, o6, o7, o8, o9], os⟩ = some (.nx ⟨[some p, some lf, some (.dc .own (.t st.1) st.2), some (tupI l), some (.lst .own ((spk ns l).map .int)), o5, o6, o7, o8, o9], os⟩) := by
    unfold lb_pruned_0
    simp [tN, execs, exec, ev, evs, evc, evo, evIt, evOps, fillC, ioSl, putB, evPk, evFz, opd, isVar, hasV, fill1, fillP, asg, asgs, Den.view, rdV, mvV, setS, shal_own, shal_fz, shal_ro, shal_int, shal_bl, shal_str, shal_non, shal_tup, fz, fzL, fzO, bnd, ret, lift, Den.thn, sthn, idxD, opF, addD, subD, mulD, modD, fdivD, negD, notD, isNonD, cmpD, grd, isLst, setiM, biF, lenF, small, mutL, smallR, lim, flatD, -idxD, i1, fa, sa, wipeD]
    generalize hg : lcGo _ _ _ _ _ = r
    obtain ⟨s', rfl, o, rfl⟩ : ∃ s', r = some (.val ([] ++ (ns.filter (fun x => decide (x ∈ l))).map .int) s') ∧ (fun s => ∃ o, s = (⟨[some p, some lf, some (.dc .own (.t st.1) st.2), some (tupI l), o4, o5, o, o7, o8, o9], os⟩ : S)) s' := by
      rw [← hg]
      refine lcGo_filt (fun s => ∃ o, s = (⟨[some p, some lf, some (.dc .own (.t st.1) st.2), some (tupI l), o4, o5, o, o7, o8, o9], os⟩ : S)) (fun x => decide (x ∈ l)) ns [] _ (fun x hx s hs => ?_) ⟨none, rfl⟩ (by simp [lim]; omega)
      obtain ⟨o, rfl⟩ := hs
      refine ⟨⟨[some p, some lf, some (.dc .own (.t st.1) st.2), some (tupI l), o4, o5, some (.int x), o7, o8, o9], os⟩, ?_, _, rfl⟩
      by_cases hq : x ∈ l <;> simp [execs, exec, ev, evs, evc, evo, evIt, evOps, fillC, ioSl, putB, evPk, evFz, opd, isVar, hasV, fill1, fillP, asg, asgs, Den.view, rdV, mvV, setS, shal_own, shal_fz, shal_ro, shal_int, shal_bl, shal_str, shal_non, shal_tup, fz, fzL, fzO, bnd, ret, lift, Den.thn, sthn, idxD, opF, addD, subD, mulD, modD, fdivD, negD, notD, isNonD, cmpD, grd, isLst, setiM, biF, lenF, small, mutL, smallR, lim, flatD, wipeD, tupI, hq]
    simp [restD]
    rfl
  have t1 : ∃ a4, exec (TT (n + 1)) (tN lb_pruned_0 1) ⟨[some p, some lf, some (.dc .own (.t st.1) st.2), some (tupI l), some (.lst .own ((spk ns l).map .int)), o5, o6, o7, o8, o9], os⟩ = some (.nx ⟨[some p, some lf, some (.dc .own (.t st.1) st.2), some (tupI l), a4, some (.kt (keyF ns l)), o6, o7, o8, o9], os⟩) := by
    unfold keyF
    generalize spk ns l = sp
    refine ⟨some (.lst .own (sp.map .int)), ?_⟩
    unfold lb_pruned_0
    match sp with
    | [] => simp [tN, execs, exec, ev, evs, evc, evo, evIt, evOps, fillC, ioSl, putB, evPk, evFz, opd, isVar, hasV, fill1, fillP, asg, asgs, Den.view, rdV, mvV, setS, shal_own, shal_fz, shal_ro, shal_int, shal_bl, shal_str, shal_non, shal_tup, fz, fzL, fzO, bnd, ret, lift, Den.thn, sthn, idxD, opF, addD, subD, mulD, modD, fdivD, negD, notD, isNonD, cmpD, grd, isLst, setiM, biF, lenF, small, mutL, smallR, lim, flatD, min2F, intsOf]
    | [x] => simp [tN, execs, exec, ev, evs, evc, evo, evIt, evOps, fillC, ioSl, putB, evPk, evFz, opd, isVar, hasV, fill1, fillP, asg, asgs, Den.view, rdV, mvV, setS, shal_own, shal_fz, shal_ro, shal_int, shal_bl, shal_str, shal_non, shal_tup, fz, fzL, fzO, bnd, ret, lift, Den.thn, sthn, idxD, opF, addD, subD, mulD, modD, fdivD, negD, notD, isNonD, cmpD, grd, isLst, setiM, biF, lenF, small, mutL, smallR, lim, flatD, min2F, intsOf]
    | x :: y :: r =>
      have e1 : ¬ ((r.length : Int) + 1 + 1 < 2) := by omega
      have e2 : ¬ ((r.length : Int) + 1 + 1 = 1) := by omega
      simp [tN, execs, exec, ev, evs, evc, evo, evIt, evOps, fillC, ioSl, putB, evPk, evFz, opd, isVar, hasV, fill1, fillP, asg, asgs, Den.view, rdV, mvV, setS, shal_own, shal_fz, shal_ro, shal_int, shal_bl, shal_str, shal_non, shal_tup, fz, fzL, fzO, bnd, ret, lift, Den.thn, sthn, idxD, opF, addD, subD, mulD, modD, fdivD, negD, notD, isNonD, cmpD, grd, isLst, setiM, biF, lenF, small, mutL, smallR, lim, flatD, min2F, intsOf, e1, e2]
  obtain ⟨a4, t1⟩ := t1
  have t2 : exec (TT (n + 1)) (tN lb_pruned_0 2) ⟨[some p, some lf, some (.dc .own (.t st.1) st.2), some (tupI l), a4, some (.kt (keyF ns l)), o6, o7, o8, o9], os⟩ = some (.nx ⟨[some p, some lf, some (.dc .own (.t (bhS ns st l).1) (bhS ns st l).2), some (tupI l), a4, some (.kt (keyF ns l)), o6, o7, o8, o9], os⟩) := by
    obtain ⟨K, hK, hKl⟩ := hst (keyF ns l)
    have hf := hfz (keyF ns l)
    unfold bhS
    generalize keyF ns l = kk at *
    have hz2 : st.2.length < 1000000 := by omega
    unfold lb_pruned_0
    rcases hK with hK | hK
    · simp [tN, execs, exec, ev, evs, evc, evo, evIt, evOps, fillC, ioSl, putB, evPk, evFz, opd, isVar, hasV, fill1, fillP, asg, asgs, Den.view, rdV, mvV, setS, shal_own, shal_fz, shal_ro, shal_int, shal_bl, shal_str, shal_non, shal_tup, fz, fzL, fzO, bnd, ret, lift, Den.thn, sthn, idxD, opF, addD, subD, mulD, modD, fdivD, negD, notD, isNonD, cmpD, grd, isLst, setiM, biF, lenF, small, mutL, smallR, lim, flatD, isDc, dgetM, didxM, keysM, dsetM, dcGet, dcPut, keyT, eqKeys_eq, inKeys_eq, hK, itemsD, fn_step, callF, fa, sa, tupI, es, hz2, dcPut]
    · rw [hK] at hf hKl
      have hf' : fzL K = K := hf
      have hKl' : K.length < 1000 := hKl
      have l1 : K.length + 1 ≤ 1000000 := by omega
      have ha : fzL (K ++ [D.tup ((nxtF ns l).map .int)]) = K ++ [D.tup ((nxtF ns l).map .int)] := by
        rw [fzL_app, hf']
        simp [fzL, fz]
      simp [tN, execs, exec, ev, evs, evc, evo, evIt, evOps, fillC, ioSl, putB, evPk, evFz, opd, isVar, hasV, fill1, fillP, asg, asgs, Den.view, rdV, mvV, setS, shal_own, shal_fz, shal_ro, shal_int, shal_bl, shal_str, shal_non, shal_tup, fz, fzL, fzO, bnd, ret, lift, Den.thn, sthn, idxD, opF, addD, subD, mulD, modD, fdivD, negD, notD, isNonD, cmpD, grd, isLst, setiM, biF, lenF, small, mutL, smallR, lim, flatD, isDc, dgetM, didxM, keysM, dsetM, dcGet, dcPut, keyT, eqKeys_eq, inKeys_eq, hK, itemsD, fn_step, callF, fa, sa, tupI, es, hz2, dcPut, hf', l1, ha]
  refine ⟨some (tupI l), a4, some (.kt (keyF ns l)), o6, ?_⟩
  unfold bodyF
  rw [eb]
  simp [asg, setS, execs, t0, t1, t2]
end Den
/-! Ne15: the program's trimming. -/
namespace Den
open PySem PySem.Spec L2
variable {n : Nat} {os : List Ob}
theorem fn_pruned {n : Nat} : (TT (n + 1)).fn "pruned" = some ⟨[.val, .val], runB (TT n) 10 [.val, .val] b_pruned⟩ := rfl
theorem eqD_tupsL (L : List (List Int)) : eqD (.lst .fz (L.map tupI)) (.lst .fz []) = some (decide (L = [])) := by
  cases L with
  | nil => exact eqD_lst0 []
  | cons g gs =>
    rw [eqD_of (shp_lst (k := 1) (shp_tups (k := 0))) (shp_lst (k := 0) (fun x hx => by cases hx))]
    simp [toP, toPs, PyData.eqv, PyData.eqvAll]
theorem nxt_len (ns l : List Int) : (nxtF ns l).length ≤ l.length := by
  unfold nxtF
  split
  · exact List.length_filter_le _ _
  · exact Nat.le_refl _
theorem byK_len {ns : List Int} {L : List (List Int)} {k : List Int} : (byK ns L k).length ≤ L.length := by
  unfold byK
  rw [List.length_map]
  exact List.length_filter_le _ _
theorem byK_mem {ns : List Int} {L : List (List Int)} {k l : List Int} (h : l ∈ byK ns L k) (hl : ∀ l ∈ L, l.length ≤ 8) : l.length ≤ 8 := by
  obtain ⟨u, hu, rfl⟩ := List.mem_map.mp h
  exact Nat.le_trans (nxt_len ns u) (hl u (List.mem_filter.mp hu).1)
/-- what get tells, shared -/
def getD_ (ns : List Int) (L : List (List Int)) (k : List Int) : D := match valL (bhF ns L).1 (bhF ns L).2 k with
  | some d => d
  | none => .lst .own []
theorem getD_fz (ns : List Int) (L : List (List Int)) (k : List Int) : fz (getD_ ns L k) = .lst .fz ((byK ns L k).map tupI) := by
  obtain ⟨_, _, _, _, h5⟩ := bhF_ok ns L
  unfold getD_
  rw [h5]
  by_cases z : byK ns L k = []
  · rw [if_pos z, z]; rfl
  · rw [if_neg z]
    simp only [fz, fzO, tups_fz]
theorem dget_val {ns : List Int} {L : List (List Int)} {k : List Int} {o0 o1 o3 o4 o5 o6 o7 o8 o9 : Option D} : dgetM 2 (.kt k) (.lst .own []) ⟨[o0, o1, some (.dc .own (.t (bhF ns L).1) (bhF ns L).2), o3, o4, o5, o6, o7, o8, o9], os⟩ = some (.val (getD_ ns L k) ⟨[o0, o1, some (.dc .own (.t (bhF ns L).1) (bhF ns L).2), o3, o4, o5, o6, o7, o8, o9], os⟩) := by
  unfold getD_
  cases h : valL (bhF ns L).1 (bhF ns L).2 k <;> simp [dgetM, dcGet, keyT, h]
theorem pr_loop {m : Int} {k : Nat} {ns : List Int} {si no p : D} {hs : List D} {L : List (List Int)} (ep : p = askD ns si hs no) (h1 : VP m k si) (h2 : ∀ d ∈ hs, VP m k d) (h3 : VP m k no) (len : hs.length = ns.length) (hl : ns.length ≤ 8) (hl2 : ∀ l ∈ L, l.length ≤ 8) (hL : L.length ≤ 300) :
    ∃ a3 a4 a5 a6, forGo (bodyF (TT (n + 1)) (.nm 3) lb_pruned_0) (L.map tupI) ⟨[some p, some (.lst .fz (L.map tupI)), some (.dc .own (.t []) []), none, none, none, none, none, none, none], os⟩ = some (.nx ⟨[some p, some (.lst .fz (L.map tupI)), some (.dc .own (.t (bhF ns L).1) (bhF ns L).2), a3, a4, a5, a6, none, none, none], os⟩) := by
  obtain ⟨s', e, a3, a4, a5, a6, rfl⟩ := forGo_ex (f := bodyF (TT (n + 1)) (.nm 3) lb_pruned_0) (fun (i : Nat) s => ∃ a3 a4 a5 a6, s = (⟨[some p, some (.lst .fz (L.map tupI)), some (.dc .own (.t (bhF ns (L.take i)).1) (bhF ns (L.take i)).2), a3, a4, a5, a6, none, none, none], os⟩ : S)) (L.map tupI) 0 (fun i x s hx hs => by
    obtain ⟨a3, a4, a5, a6, rfl⟩ := hs
    rw [List.getElem?_map] at hx
    obtain ⟨l, hxl, rfl⟩ := Option.map_eq_some_iff.mp hx
    have hlm := List.mem_of_getElem? hxl
    obtain ⟨b1, b2, b3, b4, b5⟩ := bhF_ok ns (L.take (0 + i))
    have hbl : ∀ k, (byK ns (L.take (0 + i)) k).length ≤ 300 := fun k => by
      have := byK_len (ns := ns) (L := L.take (0 + i)) (k := k)
      rw [List.length_take] at this
      omega
    obtain ⟨c3, c4, c5, c6, e⟩ := pr_turn (n := n) (os := os) (l := l) (lf := .lst .fz (L.map tupI)) (st := bhF ns (L.take (0 + i))) (o3 := a3) (o4 := a4) (o5 := a5) (o6 := a6) (o7 := none) (o8 := none) (o9 := none) ep h1 h2 h3 len hl (hl2 l hlm) (fun k => by
      refine ⟨(byK ns (L.take (0 + i)) k).map tupI, ?_, ?_⟩
      · rw [b5]
        by_cases z : byK ns (L.take (0 + i)) k = []
        · rw [if_pos z]; exact .inl rfl
        · rw [if_neg z]; exact .inr rfl
      · rw [b5]
        have := hbl k
        by_cases z : byK ns (L.take (0 + i)) k = []
        · rw [if_pos z]; simp [itemsD]
        · rw [if_neg z]; simp [itemsD]; simp only [Nat.zero_add] at this; omega) (fun k => by
      rw [b5]
      by_cases z : byK ns (L.take (0 + i)) k = []
      · rw [if_pos z]; rfl
      · rw [if_neg z]; exact tups_fz _) (by rw [List.length_take] at b3; omega)
    refine ⟨_, e, c3, c4, c5, c6, ?_⟩
    rw [← bhF_snoc]
    have ht : L.take (0 + i) ++ [l] = L.take (0 + i + 1) := by
      rw [Nat.zero_add, List.take_add_one, hxl]; rfl
    rw [ht]) ⟨[some p, some (.lst .fz (L.map tupI)), some (.dc .own (.t []) []), none, none, none, none, none, none, none], os⟩ ⟨none, none, none, none, by simp [bhF]⟩
  simp only [Nat.zero_add, List.length_map, List.take_length] at e
  exact ⟨a3, a4, a5, a6, e⟩
theorem s_pruned {m : Int} (hm : m ≤ 8) : ∀ (k n : Nat) {p : D} {L : List (List Int)}, VP m k p → k ≤ 20 → k < n → (∀ l ∈ L, l.length ≤ 8) → L.length ≤ 300 → runB (TT n) 10 [.val, .val] b_pruned [p, .lst .fz (L.map tupI)] os = some (.ret (trimF k p L) [] os) := by
  have hend : ∀ (n : Nat) (L : List (List Int)), runB (TT n) 10 [.val, .val] b_pruned [endD, .lst .fz (L.map tupI)] os = some (.ret endD [] os) := fun n L => by
    have hee : eqD endD (.tup [.str [101, 110, 100]]) = some true := eq_end_end
    unfold runB b_pruned startS
    simp [execs, exec, ev, evs, evc, evo, evIt, evOps, fillC, ioSl, putB, evPk, evFz, opd, isVar, hasV, fill1, fillP, asg, asgs, Den.view, rdV, mvV, setS, shal_own, shal_fz, shal_ro, shal_int, shal_bl, shal_str, shal_non, shal_tup, fz, fzL, fzO, bnd, ret, lift, Den.thn, sthn, idxD, opF, addD, subD, mulD, modD, fdivD, negD, notD, isNonD, cmpD, grd, isLst, setiM, biF, lenF, small, mutL, smallR, lim, flatD, glo_end, fz_end, shal_end, hee, outsOf]
    rfl
  intro k
  induction k with
  | zero => intro n p L h _ _ _ _; rw [h]; exact hend n L
  | succ k ih =>
    intro n p L h hk hn hl2 hL
    rcases h with h | ⟨ns, si, hs, no, e, r, len, h1, h2, h3⟩
    · rw [h, hend]; rfl
    · obtain ⟨n, rfl⟩ : ∃ j, n = j + 1 := ⟨n - 1, by omega⟩
      have hnl : ns.length ≤ 8 := by have := r.len; omega
      have sp := shp_ask (ns := ns) h1.shp (fun d hd => (h2 d hd).shp) h3.shp
      have f1 := h1.fz
      have f2 := fzL_id fun d hd => (h2 d hd).fz
      have f3 := h3.fz
      have fa := fz_ask (ns := ns) f1 f2 f3
      have ea := eq_ask_end sp (by omega)
      have eL := eqD_tupsL L
      have i1 : idxD (askD ns si hs no) (.int 1) = some (.tup (ns.map .int)) := rfl
      have i2 : idxD (askD ns si hs no) (.int 2) = some si := rfl
      have i3 : idxD (askD ns si hs no) (.int 3) = some (.tup hs) := rfl
      have i4 : idxD (askD ns si hs no) (.int 4) = some no := rfl
      have fL := tups_fz L
      have et : trimF (k + 1) p L = (if L = [] then endD else if allK ns L [0, 0] = true then trimF k si L else if allK ns L [2, 0] = true then trimF k no L else
        askD ns (trimF k si (byK ns L [0, 0])) ((ns.zip hs).map fun p => trimF k p.2 (byK ns L [1, p.1])) (trimF k no (byK ns L [2, 0]))) := by rw [e, trimF, askOf_ask]
      obtain ⟨a3, a4, a5, a6, eloop⟩ := pr_loop (n := n) (os := os) e h1 h2 h3 len hnl hl2 hL
      have sa := shal_ask fa
      rw [et]
      clear et
      rw [← e] at *
      have eb : b_pruned = .cons (tN b_pruned 0) (.cons (tN b_pruned 1) (.cons (tN b_pruned 2) (.cons (tN b_pruned 3) (.cons (tN b_pruned 4) (.cons (tN b_pruned 5) (.cons (tN b_pruned 6) (.cons (tN b_pruned 7) .nil))))))) := rfl
      by_cases hLn : L = []
      · rw [if_pos hLn]
        subst hLn
        have eL0 : eqD (.lst .fz []) (.lst .fz []) = some true := eqD_lst0 []
        unfold runB b_pruned startS
        simp [execs, exec, ev, evs, evc, evo, evIt, evOps, fillC, ioSl, putB, evPk, evFz, opd, isVar, hasV, fill1, fillP, asg, asgs, Den.view, rdV, mvV, setS, shal_own, shal_fz, shal_ro, shal_int, shal_bl, shal_str, shal_non, shal_tup, fz, fzL, fzO, bnd, ret, lift, Den.thn, sthn, idxD, opF, addD, subD, mulD, modD, fdivD, negD, notD, isNonD, cmpD, grd, isLst, setiM, biF, lenF, small, mutL, smallR, lim, flatD, glo_end, fa, sa, ea, eL0, outsOf]
        rfl
      · rw [if_neg hLn]
        rw [decide_eq_false hLn] at eL
        have t0 : exec (TT (n + 1)) (tN b_pruned 0) ⟨[some p, some (.lst .fz (L.map tupI)), none, none, none, none, none, none, none, none], os⟩ = some (.nx ⟨[some p, some (.lst .fz (L.map tupI)), none, none, none, none, none, none, none, none], os⟩) := by
          unfold b_pruned
          simp [tN, execs, exec, ev, evs, evc, evo, evIt, evOps, fillC, ioSl, putB, evPk, evFz, opd, isVar, hasV, fill1, fillP, asg, asgs, Den.view, rdV, mvV, setS, shal_own, shal_fz, shal_ro, shal_int, shal_bl, shal_str, shal_non, shal_tup, fz, fzL, fzO, bnd, ret, lift, Den.thn, sthn, idxD, opF, addD, subD, mulD, modD, fdivD, negD, notD, isNonD, cmpD, grd, isLst, setiM, biF, lenF, small, mutL, smallR, lim, flatD, glo_end, fa, sa, ea, eL, fL]
        have t1 : exec (TT (n + 1)) (tN b_pruned 1) ⟨[some p, some (.lst .fz (L.map tupI)), none, none, none, none, none, none, none, none], os⟩ = some (.nx ⟨[some p, some (.lst .fz (L.map tupI)), some (.dc .own (.t []) []), none, none, none, none, none, none, none], os⟩) := by
          unfold b_pruned
          simp [tN, execs, exec, ev, evs, evc, evo, evIt, evOps, fillC, ioSl, putB, evPk, evFz, opd, isVar, hasV, fill1, fillP, asg, asgs, Den.view, rdV, mvV, setS, shal_own, shal_fz, shal_ro, shal_int, shal_bl, shal_str, shal_non, shal_tup, fz, fzL, fzO, bnd, ret, lift, Den.thn, sthn, idxD, opF, addD, subD, mulD, modD, fdivD, negD, notD, isNonD, cmpD, grd, isLst, setiM, biF, lenF, small, mutL, smallR, lim, flatD]
        have t2 : exec (TT (n + 1)) (tN b_pruned 2) ⟨[some p, some (.lst .fz (L.map tupI)), some (.dc .own (.t []) []), none, none, none, none, none, none, none], os⟩ = some (.nx ⟨[some p, some (.lst .fz (L.map tupI)), some (.dc .own (.t (bhF ns L).1) (bhF ns L).2), a3, a4, a5, a6, none, none, none], os⟩) := by
          refine (exec_for ?_).trans eloop
          simp [execs, exec, ev, evs, evc, evo, evIt, evOps, fillC, ioSl, putB, evPk, evFz, opd, isVar, hasV, fill1, fillP, asg, asgs, Den.view, rdV, mvV, setS, shal_own, shal_fz, shal_ro, shal_int, shal_bl, shal_str, shal_non, shal_tup, fz, fzL, fzO, bnd, ret, lift, Den.thn, sthn, idxD, opF, addD, subD, mulD, modD, fdivD, negD, notD, isNonD, cmpD, grd, isLst, setiM, biF, lenF, small, mutL, smallR, lim, flatD, fL]
        obtain ⟨b1, b2, b3, b4, b5⟩ := bhF_ok ns L
        have k0 := bhF_one (ns := ns) (k := [0, 0]) hLn
        have k2 := bhF_one (ns := ns) (k := [2, 0]) hLn
        by_cases a0 : allK ns L [0, 0] = true
        · rw [if_pos a0]
          have e0 : eqKeys (bhF ns L).1 [[0, 0]] = some true := by rw [eqKeys_eq, k0.mpr a0]; simp
          have v0 := b5 [0, 0]
          rw [allK_byK a0 (.inl rfl), if_neg hLn] at v0
          have ei := ih n (L := L) h1 (by omega) (by omega) hl2 hL
          have t3 : exec (TT (n + 1)) (tN b_pruned 3) ⟨[some p, some (.lst .fz (L.map tupI)), some (.dc .own (.t (bhF ns L).1) (bhF ns L).2), a3, a4, a5, a6, none, none, none], os⟩ = some (.rt (trimF k si L) ⟨[some p, some (.lst .fz (L.map tupI)), some (.dc .own (.t (bhF ns L).1) (bhF ns L).2), a3, a4, a5, a6, none, none, none], os⟩) := by
            generalize bhF ns L = st at *
            unfold b_pruned
            simp [tN, execs, exec, ev, evs, evc, evo, evIt, evOps, fillC, ioSl, putB, evPk, evFz, opd, isVar, hasV, fill1, fillP, asg, asgs, Den.view, rdV, mvV, setS, shal_own, shal_fz, shal_ro, shal_int, shal_bl, shal_str, shal_non, shal_tup, fz, fzL, fzO, bnd, ret, lift, Den.thn, sthn, idxD, opF, addD, subD, mulD, modD, fdivD, negD, notD, isNonD, cmpD, grd, isLst, setiM, biF, lenF, small, mutL, smallR, lim, flatD, -idxD, keysM, e0, fa, sa, i2, f1, isDc, didxM, dcGet, keyT, intsOf, v0, fL, fn_pruned, callF, ei]
          unfold runB startS
          rw [eb]
          simp [execs, t0, t1, t2, t3, outsOf]
        · rw [if_neg a0]
          have e0 : eqKeys (bhF ns L).1 [[0, 0]] = some false := by
            rw [eqKeys_eq, decide_eq_false (fun z => a0 (k0.mp z))]
          have t3 : exec (TT (n + 1)) (tN b_pruned 3) ⟨[some p, some (.lst .fz (L.map tupI)), some (.dc .own (.t (bhF ns L).1) (bhF ns L).2), a3, a4, a5, a6, none, none, none], os⟩ = some (.nx ⟨[some p, some (.lst .fz (L.map tupI)), some (.dc .own (.t (bhF ns L).1) (bhF ns L).2), a3, a4, a5, a6, none, none, none], os⟩) := by
            generalize bhF ns L = st at *
            unfold b_pruned
            simp [tN, execs, exec, ev, evs, evc, evo, evIt, evOps, fillC, ioSl, putB, evPk, evFz, opd, isVar, hasV, fill1, fillP, asg, asgs, Den.view, rdV, mvV, setS, shal_own, shal_fz, shal_ro, shal_int, shal_bl, shal_str, shal_non, shal_tup, fz, fzL, fzO, bnd, ret, lift, Den.thn, sthn, idxD, opF, addD, subD, mulD, modD, fdivD, negD, notD, isNonD, cmpD, grd, isLst, setiM, biF, lenF, small, mutL, smallR, lim, flatD, keysM, e0]
          by_cases a2 : allK ns L [2, 0] = true
          · rw [if_pos a2]
            have e2 : eqKeys (bhF ns L).1 [[2, 0]] = some true := by rw [eqKeys_eq, k2.mpr a2]; simp
            have v2 := b5 [2, 0]
            rw [allK_byK a2 (.inr rfl), if_neg hLn] at v2
            have ei := ih n (L := L) h3 (by omega) (by omega) hl2 hL
            have t4 : exec (TT (n + 1)) (tN b_pruned 4) ⟨[some p, some (.lst .fz (L.map tupI)), some (.dc .own (.t (bhF ns L).1) (bhF ns L).2), a3, a4, a5, a6, none, none, none], os⟩ = some (.rt (trimF k no L) ⟨[some p, some (.lst .fz (L.map tupI)), some (.dc .own (.t (bhF ns L).1) (bhF ns L).2), a3, a4, a5, a6, none, none, none], os⟩) := by
              generalize bhF ns L = st at *
              unfold b_pruned
              simp [tN, execs, exec, ev, evs, evc, evo, evIt, evOps, fillC, ioSl, putB, evPk, evFz, opd, isVar, hasV, fill1, fillP, asg, asgs, Den.view, rdV, mvV, setS, shal_own, shal_fz, shal_ro, shal_int, shal_bl, shal_str, shal_non, shal_tup, fz, fzL, fzO, bnd, ret, lift, Den.thn, sthn, idxD, opF, addD, subD, mulD, modD, fdivD, negD, notD, isNonD, cmpD, grd, isLst, setiM, biF, lenF, small, mutL, smallR, lim, flatD, -idxD, keysM, e2, fa, sa, i4, f3, isDc, didxM, dcGet, keyT, intsOf, v2, fL, fn_pruned, callF, ei]
            unfold runB startS
            rw [eb]
            simp [execs, t0, t1, t2, t3, t4, outsOf]
          · rw [if_neg a2]
            have e2 : eqKeys (bhF ns L).1 [[2, 0]] = some false := by
              rw [eqKeys_eq, decide_eq_false (fun z => a2 (k2.mp z))]
            have t4 : exec (TT (n + 1)) (tN b_pruned 4) ⟨[some p, some (.lst .fz (L.map tupI)), some (.dc .own (.t (bhF ns L).1) (bhF ns L).2), a3, a4, a5, a6, none, none, none], os⟩ = some (.nx ⟨[some p, some (.lst .fz (L.map tupI)), some (.dc .own (.t (bhF ns L).1) (bhF ns L).2), a3, a4, a5, a6, none, none, none], os⟩) := by
              generalize bhF ns L = st at *
              unfold b_pruned
              simp [tN, execs, exec, ev, evs, evc, evo, evIt, evOps, fillC, ioSl, putB, evPk, evFz, opd, isVar, hasV, fill1, fillP, asg, asgs, Den.view, rdV, mvV, setS, shal_own, shal_fz, shal_ro, shal_int, shal_bl, shal_str, shal_non, shal_tup, fz, fzL, fzO, bnd, ret, lift, Den.thn, sthn, idxD, opF, addD, subD, mulD, modD, fdivD, negD, notD, isNonD, cmpD, grd, isLst, setiM, biF, lenF, small, mutL, smallR, lim, flatD, keysM, e2]
            have ei : ∀ {q : D} (kk : List Int), VP m k q → runB (TT n) 10 [.val, .val] b_pruned [q, .lst .fz ((byK ns L kk).map tupI)] os = some (.ret (trimF k q (byK ns L kk)) [] os) := fun {q} kk v => ih n v (by omega) (by omega) (fun l hl => byK_mem hl hl2) (Nat.le_trans byK_len hL)
            have hzip : ((ns.map D.int).zip hs).map (fun p => D.tup [p.1, p.2]) = (ns.zip hs).map fun p => D.tup [.int p.1, p.2] := by
              rw [List.zip_map_left, List.map_map]; rfl
            have t5 : exec (TT (n + 1)) (tN b_pruned 5) ⟨[some p, some (.lst .fz (L.map tupI)), some (.dc .own (.t (bhF ns L).1) (bhF ns L).2), a3, a4, a5, a6, none, none, none], os⟩ = some (.nx ⟨[some p, some (.lst .fz (L.map tupI)), some (.dc .own (.t (bhF ns L).1) (bhF ns L).2), a3, a4, a5, a6, some (.tup ((ns.zip hs).map fun p => trimF k p.2 (byK ns L [1, p.1]))), none, none], os⟩) := by
              unfold b_pruned
              simp [tN, execs, exec, ev, evs, evc, evo, evIt, evOps, fillC, ioSl, putB, evPk, evFz, opd, isVar, hasV, fill1, fillP, asg, asgs, Den.view, rdV, mvV, setS, shal_own, shal_fz, shal_ro, shal_int, shal_bl, shal_str, shal_non, shal_tup, fz, fzL, fzO, bnd, ret, lift, Den.thn, sthn, idxD, opF, addD, subD, mulD, modD, fdivD, negD, notD, isNonD, cmpD, grd, isLst, setiM, biF, lenF, small, mutL, smallR, lim, flatD, -idxD, fa, sa, i1, i3, f2, zipD, hzip, wipeD]
              generalize hg : lcGo _ _ _ _ _ = r
              obtain ⟨s', rfl, o6, o8, rfl⟩ : ∃ s', r = some (.val ([] ++ (ns.zip hs).map fun p => trimF k p.2 (byK ns L [1, p.1])) s') ∧ (fun s => ∃ o6 o8, s = (⟨[some p, some (.lst .fz (L.map tupI)), some (.dc .own (.t (bhF ns L).1) (bhF ns L).2), a3, a4, a5, o6, none, o8, none], os⟩ : S)) s' := by
                rw [← hg]
                refine lcGo_m (fun p : Int × D => D.tup [.int p.1, p.2]) (fun s => ∃ o6 o8, s = (⟨[some p, some (.lst .fz (L.map tupI)), some (.dc .own (.t (bhF ns L).1) (bhF ns L).2), a3, a4, a5, o6, none, o8, none], os⟩ : S)) (fun p => trimF k p.2 (byK ns L [1, p.1])) (ns.zip hs) [] _ (fun x hx s hs' => ?_) ⟨none, none, rfl⟩ (by simp [lim]; omega)
                obtain ⟨o6, o8, rfl⟩ := hs'
                have hv := h2 x.2 (List.of_mem_zip hx).2
                have eh := ei [1, x.1] hv
                have fg := getD_fz ns L [1, x.1]
                have fx := hv.fz
                refine ⟨⟨[some p, some (.lst .fz (L.map tupI)), some (.dc .own (.t (bhF ns L).1) (bhF ns L).2), a3, a4, a5, some (.int x.1), none, some x.2, none], os⟩, ?_, _, _, rfl⟩
                have hdg := dget_val (os := os) (ns := ns) (L := L) (k := [1, x.1]) (o0 := some p) (o1 := some (.lst .fz (L.map tupI))) (o3 := a3) (o4 := a4) (o5 := a5) (o6 := some (.int x.1)) (o7 := none) (o8 := some x.2) (o9 := none)
                generalize getD_ ns L [1, x.1] = gg at *
                generalize bhF ns L = st at *
                simp [execs, exec, ev, evs, evc, evo, evIt, evOps, fillC, ioSl, putB, evPk, evFz, opd, isVar, hasV, fill1, fillP, asg, asgs, Den.view, rdV, mvV, setS, shal_own, shal_fz, shal_ro, shal_int, shal_bl, shal_str, shal_non, shal_tup, fz, fzL, fzO, bnd, ret, lift, Den.thn, sthn, idxD, opF, addD, subD, mulD, modD, fdivD, negD, notD, isNonD, cmpD, grd, isLst, setiM, biF, lenF, small, mutL, smallR, lim, flatD, wipeD, fx, isDc, intsOf, hdg, fn_pruned, callF, fg, eh]
              have hz := fzL_id (ds := (ns.zip hs).map fun p => trimF k p.2 (byK ns L [1, p.1])) fun d hd => by
                obtain ⟨u, hu, rfl⟩ := List.mem_map.mp hd
                exact (trimF_vp k (h2 _ (List.of_mem_zip hu).2)).fz
              simp [execs, exec, ev, evs, evc, evo, evIt, evOps, fillC, ioSl, putB, evPk, evFz, opd, isVar, hasV, fill1, fillP, asg, asgs, Den.view, rdV, mvV, setS, shal_own, shal_fz, shal_ro, shal_int, shal_bl, shal_str, shal_non, shal_tup, fz, fzL, fzO, bnd, ret, lift, Den.thn, sthn, idxD, opF, addD, subD, mulD, modD, fdivD, negD, notD, isNonD, cmpD, grd, isLst, setiM, biF, lenF, small, mutL, smallR, lim, flatD, restD, tupleF, hz]
            have v1 := trimF_vp k (L := byK ns L [0, 0]) h1
            have v3 := trimF_vp k (L := byK ns L [2, 0]) h3
            have hz := fzL_id (ds := (ns.zip hs).map fun p => trimF k p.2 (byK ns L [1, p.1])) fun d hd => by
              obtain ⟨u, hu, rfl⟩ := List.mem_map.mp hd
              exact (trimF_vp k (h2 _ (List.of_mem_zip hu).2)).fz
            generalize (ns.zip hs).map (fun p => trimF k p.2 (byK ns L [1, p.1])) = hs' at *
            have t6 : exec (TT (n + 1)) (tN b_pruned 6) ⟨[some p, some (.lst .fz (L.map tupI)), some (.dc .own (.t (bhF ns L).1) (bhF ns L).2), a3, a4, a5, a6, some (.tup hs'), none, none], os⟩ = some (.nx ⟨[some p, some (.lst .fz (L.map tupI)), some (.dc .own (.t (bhF ns L).1) (bhF ns L).2), a3, a4, a5, a6, some (.tup hs'), none, some (trimF k si (byK ns L [0, 0]))], os⟩) := by
              have eh := ei [0, 0] h1
              have fg := getD_fz ns L [0, 0]
              have hdg := dget_val (os := os) (ns := ns) (L := L) (k := [0, 0]) (o0 := some p) (o1 := some (.lst .fz (L.map tupI))) (o3 := a3) (o4 := a4) (o5 := a5) (o6 := a6) (o7 := some (.tup hs')) (o8 := none) (o9 := none)
              generalize getD_ ns L [0, 0] = gg at *
              generalize bhF ns L = st at *
              unfold b_pruned
              simp [tN, execs, exec, ev, evs, evc, evo, evIt, evOps, fillC, ioSl, putB, evPk, evFz, opd, isVar, hasV, fill1, fillP, asg, asgs, Den.view, rdV, mvV, setS, shal_own, shal_fz, shal_ro, shal_int, shal_bl, shal_str, shal_non, shal_tup, fz, fzL, fzO, bnd, ret, lift, Den.thn, sthn, idxD, opF, addD, subD, mulD, modD, fdivD, negD, notD, isNonD, cmpD, grd, isLst, setiM, biF, lenF, small, mutL, smallR, lim, flatD, -idxD, fa, sa, i2, f1, isDc, intsOf, hdg, fn_pruned, callF, fg, eh]
            have t7 : exec (TT (n + 1)) (tN b_pruned 7) ⟨[some p, some (.lst .fz (L.map tupI)), some (.dc .own (.t (bhF ns L).1) (bhF ns L).2), a3, a4, a5, a6, some (.tup hs'), none, some (trimF k si (byK ns L [0, 0]))], os⟩ = some (.rt (askD ns (trimF k si (byK ns L [0, 0])) hs' (trimF k no (byK ns L [2, 0]))) ⟨[some p, some (.lst .fz (L.map tupI)), some (.dc .own (.t (bhF ns L).1) (bhF ns L).2), a3, a4, a5, a6, some (.tup hs'), none, some (trimF k si (byK ns L [0, 0]))], os⟩) := by
              have eh := ei [2, 0] h3
              have fg := getD_fz ns L [2, 0]
              have w1 := v1.fz
              have hdg := dget_val (os := os) (ns := ns) (L := L) (k := [2, 0]) (o0 := some p) (o1 := some (.lst .fz (L.map tupI))) (o3 := a3) (o4 := a4) (o5 := a5) (o6 := a6) (o7 := some (.tup hs')) (o8 := none) (o9 := some (trimF k si (byK ns L [0, 0])))
              generalize getD_ ns L [2, 0] = gg at *
              generalize trimF k si (byK ns L [0, 0]) = q1 at *
              generalize bhF ns L = st at *
              unfold b_pruned
              simp [tN, execs, exec, ev, evs, evc, evo, evIt, evOps, fillC, ioSl, putB, evPk, evFz, opd, isVar, hasV, fill1, fillP, asg, asgs, Den.view, rdV, mvV, setS, shal_own, shal_fz, shal_ro, shal_int, shal_bl, shal_str, shal_non, shal_tup, fz, fzL, fzO, bnd, ret, lift, Den.thn, sthn, idxD, opF, addD, subD, mulD, modD, fdivD, negD, notD, isNonD, cmpD, grd, isLst, setiM, biF, lenF, small, mutL, smallR, lim, flatD, -idxD, fa, sa, i1, i4, f3, isDc, intsOf, hdg, fn_pruned, callF, fg, eh, w1, hz, askD]
            unfold runB startS
            rw [eb]
            simp [execs, t0, t1, t2, t3, t4, t5, t6, t7, outsOf]
end Den
/-! Nf15: the law's own trimming: one left after another. -/
namespace Den
open PySem PySem.Spec L2
variable {n : Nat} {os : List Ob}
theorem fn_law_trim {n : Nat} : (TT (n + 1)).fn "_law_trim" = some ⟨[.val, .val], runB (TT n) 9 [.val, .val] b__law_trim⟩ := rfl
theorem execs_mutA {Γ : Tb} {i : Nat} {ix a : C} {s s' : S} {j : Nat} {es fs : List D} {d : D} (h0 : isLst i s = true) (hx : ev Γ ix s = some (.val (.int (j : Nat)) s)) (h1 : s.sl[i]? = some (some (.lst .own es))) (h2 : es[j]? = some (.lst .own fs)) (h3 : fs.length < lim) (h4 : ev Γ a (setS s i none) = some (.val d s')) :
    execs Γ (.cons (.expr (.mutA i ix a)) .nil) s = some (.nx (setS s' i (some (.lst .own (es.set j (.lst .own (fs ++ [Den.fz d]))))))) := by
  obtain ⟨hj, _⟩ := List.getElem?_eq_some_iff.mp h2
  have e1 := ixN_of hj
  unfold execs exec
  simp [ev, bnd, grd, h0, hx, mutAM, innL, h1, e1, h2, h3, h4, Den.thn, sthn, execs]
theorem exec_ife {Γ : Tb} {c : C} {a b : Ts} {s s1 : S} {q : Bool} (h : ev Γ c s = some (.val (.bl q) s1)) : exec Γ (.ife c a b) s = if q = true then execs Γ a s1 else execs Γ b s1 := by
  unfold exec
  rw [h]
  cases q <;> rfl
def bD (ns : List Int) (L : List (List Int)) : D := .lst .own (ns.map fun x => .lst .own ((byK ns L [1, x]).map tupI))
def oD (ns : List Int) (L : List (List Int)) : D := .lst .own [.lst .own ((byK ns L [0, 0]).map tupI), .lst .own ((byK ns L [2, 0]).map tupI)]
theorem set_map {f g : Int → D} {ns : List Int} {x : Int} (hx : x ∈ ns) (nd : ns.Nodup) (h : ∀ y ∈ ns, y ≠ x → g y = f y) : (ns.map f).set (ns.idxOf x) (g x) = ns.map g := by
  have hi := List.idxOf_lt_length_of_mem hx
  refine List.ext_getElem (by simp) fun i h1 h2 => ?_
  simp only [List.length_map] at h2
  rw [List.getElem_set, List.getElem_map, List.getElem_map]
  by_cases e : ns.idxOf x = i
  · subst e
    rw [if_pos rfl, List.getElem_idxOf]
  · rw [if_neg e, h _ (List.getElem_mem _)]
    intro z
    have hz : ns[ns.idxOf x] = x := List.getElem_idxOf hi
    rcases Nat.lt_trichotomy (ns.idxOf x) i with g | g | g
    · exact List.pairwise_iff_getElem.mp nd _ _ hi h2 g (hz.trans z.symm)
    · exact e g
    · exact List.pairwise_iff_getElem.mp nd _ _ h2 hi g (z.trans hz.symm)
theorem lt_turn {m : Int} {k : Nat} {ns l : List Int} {L : List (List Int)} {si no p : D} {hs : List D} {lf : D} {o3 o5 o6 o7 o8 : Option D} (ep : p = askD ns si hs no) (h1 : VP m k si) (h2 : ∀ d ∈ hs, VP m k d) (h3 : VP m k no) (nd : ns.Nodup) (hl : ns.length ≤ 8) (hl2 : l.length ≤ 8) (hL : L.length < 1000) :
    ∃ a3 a6, bodyF (TT n) (.nm 5) lb__law_trim_1 (tupI l) ⟨[some p, some lf, some (bD ns L), o3, some (oD ns L), o5, o6, o7, o8], os⟩ = some (.nx ⟨[some p, some lf, some (bD ns (L ++ [l])), a3, some (oD ns (L ++ [l])), some (tupI l), a6, o7, o8], os⟩) := by
  have f2 := fzL_id fun d hd => (h2 d hd).fz
  have fa := fz_ask (ns := ns) h1.fz f2 h3.fz
  have sa := shal_ask fa
  have i1 : idxD (askD ns si hs no) (.int 1) = some (.tup (ns.map .int)) := rfl
  have hm : ∀ x ∈ spk ns l, x ∈ ns ∧ x ∈ l := fun x hx => ⟨(List.mem_filter.mp hx).1, by simpa using (List.mem_filter.mp hx).2⟩
  have hb : ∀ k, (byK ns L k).length < 1000000 := fun k => by have := byK_len (ns := ns) (L := L) (k := k); omega
  subst ep
  generalize askD ns si hs no = p at *
  have eb : lb__law_trim_1 = .cons (tN lb__law_trim_1 0) (.cons (tN lb__law_trim_1 1) .nil) := rfl
  have t0 : exec (TT n) (tN lb__law_trim_1 0) ⟨[some p, some lf, some (bD ns L), o3, some (oD ns L), some (tupI l), o6, o7, o8], os⟩ = some (.nx ⟨[some p, some lf, some (bD ns L), o3, some (oD ns L), some (tupI l), some (.lst .own ((spk ns l).map .int)), o7, o8], os⟩) := by
    generalize bD ns L = B
    generalize oD ns L = O
    unfold lb__law_trim_1
    simp [tN, execs, exec, ev, evs, evc, evo, evIt, evOps, fillC, ioSl, putB, evPk, evFz, opd, isVar, hasV, fill1, fillP, asg, asgs, Den.view, rdV, mvV, setS, shal_own, shal_fz, shal_ro, shal_int, shal_bl, shal_str, shal_non, shal_tup, fz, fzL, fzO, bnd, ret, lift, Den.thn, sthn, idxD, opF, addD, subD, mulD, modD, fdivD, negD, notD, isNonD, cmpD, grd, isLst, setiM, biF, lenF, small, mutL, smallR, lim, flatD, -idxD, i1, fa, sa, wipeD]
    generalize hg : lcGo _ _ _ _ _ = r
    obtain ⟨s', rfl, o, rfl⟩ : ∃ s', r = some (.val ([] ++ (ns.filter (fun x => decide (x ∈ l))).map .int) s') ∧ (fun s => ∃ o, s = (⟨[some p, some lf, some B, o, some O, some (tupI l), o6, o7, o8], os⟩ : S)) s' := by
      rw [← hg]
      refine lcGo_filt (fun s => ∃ o, s = (⟨[some p, some lf, some B, o, some O, some (tupI l), o6, o7, o8], os⟩ : S)) (fun x => decide (x ∈ l)) ns [] _ (fun x hx s hs => ?_) ⟨none, rfl⟩ (by simp [lim]; omega)
      obtain ⟨o, rfl⟩ := hs
      refine ⟨⟨[some p, some lf, some B, some (.int x), some O, some (tupI l), o6, o7, o8], os⟩, ?_, _, rfl⟩
      by_cases hq : x ∈ l <;> simp [execs, exec, ev, evs, evc, evo, evIt, evOps, fillC, ioSl, putB, evPk, evFz, opd, isVar, hasV, fill1, fillP, asg, asgs, Den.view, rdV, mvV, setS, shal_own, shal_fz, shal_ro, shal_int, shal_bl, shal_str, shal_non, shal_tup, fz, fzL, fzO, bnd, ret, lift, Den.thn, sthn, idxD, opF, addD, subD, mulD, modD, fdivD, negD, notD, isNonD, cmpD, grd, isLst, setiM, biF, lenF, small, mutL, smallR, lim, flatD, wipeD, tupI, hq]
    simp [restD]
    rfl
  have t1 : exec (TT n) (tN lb__law_trim_1 1) ⟨[some p, some lf, some (bD ns L), o3, some (oD ns L), some (tupI l), some (.lst .own ((spk ns l).map .int)), o7, o8], os⟩ = some (.nx ⟨[some p, some lf, some (bD ns (L ++ [l])), o3, some (oD ns (L ++ [l])), some (tupI l), some (.lst .own ((spk ns l).map .int)), o7, o8], os⟩) := by
    have hkk : keyF ns l = match spk ns l with | [] => [0, 0] | [x] => [1, x] | _ => [2, 0] := rfl
    have hnn : nxtF ns l = match spk ns l with | [x] => l.filter (fun y => !decide (y = x)) | _ => l := rfl
    unfold lb__law_trim_1
    simp only [tN]
    have other : ∀ (sp : List Int) (j : Nat) (K : List Int), spk ns l = sp → nxtF ns l = l → keyF ns l = K → ((j = 0 ∧ K = [0, 0]) ∨ (j = 1 ∧ K = [2, 0])) → ((sp.length : Int) ≠ 1) → ev (TT n) (.bi .int1 (.cons (.op2 .ne (.var 6) (.lst .nil)) .nil)) ⟨[some p, some lf, some (bD ns L), o3, some (oD ns L), some (tupI l), some (.lst .own (sp.map .int)), o7, o8], os⟩ = some (.val (.int (j : Nat)) ⟨[some p, some lf, some (bD ns L), o3, some (oD ns L), some (tupI l), some (.lst .own (sp.map .int)), o7, o8], os⟩) → exec (TT n) (tN lb__law_trim_1 1) ⟨[some p, some lf, some (bD ns L), o3, some (oD ns L), some (tupI l), some (.lst .own (sp.map .int)), o7, o8], os⟩ = some (.nx ⟨[some p, some lf, some (bD ns (L ++ [l])), o3, some (oD ns (L ++ [l])), some (tupI l), some (.lst .own (sp.map .int)), o7, o8], os⟩) := fun sp j K e1 e2 e3 e4 e5 e6 => by
      have ebd : bD ns (L ++ [l]) = bD ns L := by
        unfold bD
        congr 1
        refine List.map_congr_left fun y hy => ?_
        rw [byK_snoc, if_neg]
        rw [e3]
        rcases e4 with ⟨_, rfl⟩ | ⟨_, rfl⟩ <;> simp
      unfold lb__law_trim_1
      simp only [tN]
      rw [exec_ife (q := false) (s1 := ⟨[some p, some lf, some (bD ns L), o3, some (oD ns L), some (tupI l), some (.lst .own (sp.map .int)), o7, o8], os⟩) (by simp [execs, exec, ev, evs, evc, evo, evIt, evOps, fillC, ioSl, putB, evPk, evFz, opd, isVar, hasV, fill1, fillP, asg, asgs, Den.view, rdV, mvV, setS, shal_own, shal_fz, shal_ro, shal_int, shal_bl, shal_str, shal_non, shal_tup, fz, fzL, fzO, bnd, ret, lift, Den.thn, sthn, idxD, opF, addD, subD, mulD, modD, fdivD, negD, notD, isNonD, cmpD, grd, isLst, setiM, biF, lenF, small, mutL, smallR, lim, flatD, e5]), if_neg (by simp), ebd]
      rcases e4 with ⟨rfl, rfl⟩ | ⟨rfl, rfl⟩
      · rw [execs_mutA (j := 0) (es := [.lst .own ((byK ns L [0,0]).map tupI), .lst .own ((byK ns L [2,0]).map tupI)]) (fs := (byK ns L [0,0]).map tupI) (d := tupI l) (s' := ⟨[some p, some lf, some (bD ns L), o3, none, some (tupI l), some (.lst .own (sp.map .int)), o7, o8], os⟩) rfl e6 rfl rfl (by have := hb [0, 0]; simp [lim]; omega) (by simp [execs, exec, ev, evs, evc, evo, evIt, evOps, fillC, ioSl, putB, evPk, evFz, opd, isVar, hasV, fill1, fillP, asg, asgs, Den.view, rdV, mvV, setS, shal_own, shal_fz, shal_ro, shal_int, shal_bl, shal_str, shal_non, shal_tup, fz, fzL, fzO, bnd, ret, lift, Den.thn, sthn, idxD, opF, addD, subD, mulD, modD, fdivD, negD, notD, isNonD, cmpD, grd, isLst, setiM, biF, lenF, small, mutL, smallR, lim, flatD, tupI])]
        have q1 : fz (tupI l) = tupI l := by simp [tupI, fz]
        simp [setS, oD, byK_snoc, e2, e3, q1]
      · rw [execs_mutA (j := 1) (es := [.lst .own ((byK ns L [0,0]).map tupI), .lst .own ((byK ns L [2,0]).map tupI)]) (fs := (byK ns L [2,0]).map tupI) (d := tupI l) (s' := ⟨[some p, some lf, some (bD ns L), o3, none, some (tupI l), some (.lst .own (sp.map .int)), o7, o8], os⟩) rfl e6 rfl rfl (by have := hb [2, 0]; simp [lim]; omega) (by simp [execs, exec, ev, evs, evc, evo, evIt, evOps, fillC, ioSl, putB, evPk, evFz, opd, isVar, hasV, fill1, fillP, asg, asgs, Den.view, rdV, mvV, setS, shal_own, shal_fz, shal_ro, shal_int, shal_bl, shal_str, shal_non, shal_tup, fz, fzL, fzO, bnd, ret, lift, Den.thn, sthn, idxD, opF, addD, subD, mulD, modD, fdivD, negD, notD, isNonD, cmpD, grd, isLst, setiM, biF, lenF, small, mutL, smallR, lim, flatD, tupI])]
        have q1 : fz (tupI l) = tupI l := by simp [tupI, fz]
        simp [setS, oD, byK_snoc, e2, e3, q1]
    rcases hsp : spk ns l with _ | ⟨x, _ | ⟨y, r⟩⟩
    · rw [hsp] at hkk hnn
      exact other [] 0 [0, 0] hsp hnn hkk (.inl ⟨rfl, rfl⟩) (by simp) (by simp [execs, exec, ev, evs, evc, evo, evIt, evOps, fillC, ioSl, putB, evPk, evFz, opd, isVar, hasV, fill1, fillP, asg, asgs, Den.view, rdV, mvV, setS, shal_own, shal_fz, shal_ro, shal_int, shal_bl, shal_str, shal_non, shal_tup, fz, fzL, fzO, bnd, ret, lift, Den.thn, sthn, idxD, opF, addD, subD, mulD, modD, fdivD, negD, notD, isNonD, cmpD, grd, isLst, setiM, biF, lenF, small, mutL, smallR, lim, flatD, show eqD (.lst .fz []) (.lst .fz []) = some true from eqD_lst0 [], intF])
    · rw [hsp] at hkk hnn
      simp only at hkk hnn
      obtain ⟨hx, hxl⟩ := hm x (by rw [hsp]; exact List.mem_cons_self)
      have e3 := findD_int x ns 0 hx
      rw [Nat.zero_add] at e3
      have hi := List.idxOf_lt_length_of_mem hx
      rw [exec_ife (q := true) (s1 := ⟨[some p, some lf, some (bD ns L), o3, some (oD ns L), some (tupI l), some (.lst .own ([x].map .int)), o7, o8], os⟩) (by simp [execs, exec, ev, evs, evc, evo, evIt, evOps, fillC, ioSl, putB, evPk, evFz, opd, isVar, hasV, fill1, fillP, asg, asgs, Den.view, rdV, mvV, setS, shal_own, shal_fz, shal_ro, shal_int, shal_bl, shal_str, shal_non, shal_tup, fz, fzL, fzO, bnd, ret, lift, Den.thn, sthn, idxD, opF, addD, subD, mulD, modD, fdivD, negD, notD, isNonD, cmpD, grd, isLst, setiM, biF, lenF, small, mutL, smallR, lim, flatD]), if_pos rfl]
      have eod : oD ns (L ++ [l]) = oD ns L := by
        unfold oD
        rw [byK_snoc, byK_snoc, hkk, if_neg (by simp), if_neg (by simp)]
      rw [eod]
      have key := set_map (f := fun y => .lst .own ((byK ns L [1, y]).map tupI)) (g := fun y => .lst .own ((byK ns (L ++ [l]) [1, y]).map tupI)) hx nd (fun y hy hyx => by
        rw [byK_snoc, hkk, if_neg (by simp; exact fun z => hyx z.symm)])
      rw [execs_mutA (j := ns.idxOf x) (es := ns.map fun x => .lst .own ((byK ns L [1, x]).map tupI)) (fs := (byK ns L [1, x]).map tupI) (d := tupI (nxtF ns l)) (s' := ⟨[some p, some lf, none, o3, some (oD ns L), some (tupI l), some (.lst .own ([x].map .int)), o7, o8], os⟩) rfl ?_ rfl ?_ ?_ ?_]
      · have q1 : fz (tupI (nxtF ns l)) = tupI (nxtF ns l) := by simp [tupI, fz]
        rw [byK_snoc, if_pos hkk, List.map_append] at key
        rw [q1]
        simp only [List.map_cons, List.map_nil] at key ⊢
        rw [key]
        rfl
      · generalize bD ns L = B
        generalize oD ns L = O
        simp [execs, exec, ev, evs, evc, evo, evIt, evOps, fillC, ioSl, putB, evPk, evFz, opd, isVar, hasV, fill1, fillP, asg, asgs, Den.view, rdV, mvV, setS, shal_own, shal_fz, shal_ro, shal_int, shal_bl, shal_str, shal_non, shal_tup, fz, fzL, fzO, bnd, ret, lift, Den.thn, sthn, idxD, opF, addD, subD, mulD, modD, fdivD, negD, notD, isNonD, cmpD, grd, isLst, setiM, biF, lenF, small, mutL, smallR, lim, flatD, -idxD, i1, fa, sa, kindIs, mtT, tyOf, mtF, toP, flat_ints, e3]
      · rw [List.getElem?_map, List.getElem?_eq_getElem hi, List.getElem_idxOf]
        rfl
      · have := hb [1, x]; simp [lim]; omega
      · rw [hnn]
        simp only [setS]
        generalize oD ns L = O
        simp [execs, exec, ev, evs, evc, evo, evIt, evOps, fillC, ioSl, putB, evPk, evFz, opd, isVar, hasV, fill1, fillP, asg, asgs, Den.view, rdV, mvV, setS, shal_own, shal_fz, shal_ro, shal_int, shal_bl, shal_str, shal_non, shal_tup, fz, fzL, fzO, bnd, ret, lift, Den.thn, sthn, idxD, opF, addD, subD, mulD, modD, fdivD, negD, notD, isNonD, cmpD, grd, isLst, setiM, biF, lenF, small, mutL, smallR, lim, flatD, wipeD, tupI]
        generalize hg : lcGo _ _ _ _ _ = r
        obtain ⟨s', rfl, o, rfl⟩ : ∃ s', r = some (.val ([] ++ (l.filter (fun y => !decide (y = x))).map .int) s') ∧ (fun s => ∃ o, s = (⟨[some p, some lf, none, o, some O, some (tupI l), some (.lst .own [.int x]), o7, o8], os⟩ : S)) s' := by
          rw [← hg]
          refine lcGo_filt (fun s => ∃ o, s = (⟨[some p, some lf, none, o, some O, some (tupI l), some (.lst .own [.int x]), o7, o8], os⟩ : S)) (fun y => !decide (y = x)) l [] _ (fun y hy s hs => ?_) ⟨none, rfl⟩ (by simp [lim]; omega)
          obtain ⟨o, rfl⟩ := hs
          refine ⟨⟨[some p, some lf, none, some (.int y), some O, some (tupI l), some (.lst .own [.int x]), o7, o8], os⟩, ?_, _, rfl⟩
          by_cases hq : y = x <;> simp [execs, exec, ev, evs, evc, evo, evIt, evOps, fillC, ioSl, putB, evPk, evFz, opd, isVar, hasV, fill1, fillP, asg, asgs, Den.view, rdV, mvV, setS, shal_own, shal_fz, shal_ro, shal_int, shal_bl, shal_str, shal_non, shal_tup, fz, fzL, fzO, bnd, ret, lift, Den.thn, sthn, idxD, opF, addD, subD, mulD, modD, fdivD, negD, notD, isNonD, cmpD, grd, isLst, setiM, biF, lenF, small, mutL, smallR, lim, flatD, wipeD, hq]
        simp [execs, exec, ev, evs, evc, evo, evIt, evOps, fillC, ioSl, putB, evPk, evFz, opd, isVar, hasV, fill1, fillP, asg, asgs, Den.view, rdV, mvV, setS, shal_own, shal_fz, shal_ro, shal_int, shal_bl, shal_str, shal_non, shal_tup, fz, fzL, fzO, bnd, ret, lift, Den.thn, sthn, idxD, opF, addD, subD, mulD, modD, fdivD, negD, notD, isNonD, cmpD, grd, isLst, setiM, biF, lenF, small, mutL, smallR, lim, flatD, restD, tupleF]
        rfl
    · rw [hsp] at hkk hnn
      have eqN : eqD (.lst .fz (.int x :: .int y :: r.map .int)) (.lst .fz []) = some false := by
        have := eqD_lst0 (o := .fz) (o' := .fz) (x :: y :: r)
        simpa using this
      exact other (x :: y :: r) 1 [2, 0] hsp hnn hkk (.inr ⟨rfl, rfl⟩) (by simp; omega) (by simp [execs, exec, ev, evs, evc, evo, evIt, evOps, fillC, ioSl, putB, evPk, evFz, opd, isVar, hasV, fill1, fillP, asg, asgs, Den.view, rdV, mvV, setS, shal_own, shal_fz, shal_ro, shal_int, shal_bl, shal_str, shal_non, shal_tup, fz, fzL, fzO, bnd, ret, lift, Den.thn, sthn, idxD, opF, addD, subD, mulD, modD, fdivD, negD, notD, isNonD, cmpD, grd, isLst, setiM, biF, lenF, small, mutL, smallR, lim, flatD, eqN, intF])
  refine ⟨o3, some (.lst .own ((spk ns l).map .int)), ?_⟩
  unfold bodyF
  rw [eb]
  simp [asg, setS, execs, t0, t1]
end Den
/-! Ng15: the law's own trimming. -/
namespace Den
open PySem PySem.Spec L2
variable {n : Nat} {os : List Ob}
theorem byK_all {ns : List Int} {L : List (List Int)} {k : List Int} : (byK ns L k).length = L.length ↔ allK ns L k = true := by
  unfold byK allK
  rw [List.length_map, List.length_filter_eq_length_iff, List.all_eq_true]
theorem rng_zix {α : Type} (l : List α) : rngL 0 (l.length : Int) = l.zipIdx.map fun q => .int ((q.2 : Nat) : Int) := by
  have e : (l.zipIdx.map fun q => D.int ((q.2 : Nat) : Int)) = (l.zipIdx.map Prod.snd).map fun i => D.int ((i : Nat) : Int) := by
    rw [List.map_map]; rfl
  rw [e, List.zipIdx_map_snd, List.range_eq_range'.symm]
  unfold rngL
  simp
theorem fzL_mapf {α : Type} (f : α → D) : ∀ l : List α, fzL (l.map f) = l.map fun x => fz (f x)
  | [] => rfl
  | x :: l => by simp only [List.map_cons, fzL, fzL_mapf f l]
def bB (ns : List Int) (L : List (List Int)) : List D := ns.map fun x => .lst .fz ((byK ns L [1, x]).map tupI)
theorem bB_fz (ns : List Int) (L : List (List Int)) : fzL (bB ns L) = bB ns L := by
  unfold bB
  rw [fzL_mapf]
  simp only [fz, fzO, tups_fz]
theorem bD_fz (ns : List Int) (L : List (List Int)) : fz (bD ns L) = .lst .fz (bB ns L) := by
  unfold bD bB
  simp only [fz, fzO]
  rw [fzL_mapf]
  simp only [fz, fzO, tups_fz]
theorem bD_shal (ns : List Int) (L : List (List Int)) : shal (bD ns L) = .lst .own (bB ns L) := by
  unfold bD bB
  rw [shal_own, fzL_mapf]
  simp only [fz, fzO, tups_fz]
def oB (ns : List Int) (L : List (List Int)) : List D := [.lst .fz ((byK ns L [0, 0]).map tupI), .lst .fz ((byK ns L [2, 0]).map tupI)]
theorem oB_fz (ns : List Int) (L : List (List Int)) : fzL (oB ns L) = oB ns L := by
  unfold oB
  simp only [fzL, fz, fzO, tups_fz]
theorem oD_fz (ns : List Int) (L : List (List Int)) : fz (oD ns L) = .lst .fz (oB ns L) := by
  unfold oD oB
  simp only [fzL, fz, fzO, tups_fz]
theorem oD_shal (ns : List Int) (L : List (List Int)) : shal (oD ns L) = .lst .own (oB ns L) := by
  unfold oD oB
  rw [shal_own]
  simp only [fzL, fz, fzO, tups_fz]
theorem lt_loop {m : Int} {k : Nat} {ns : List Int} {si no p : D} {hs : List D} {L : List (List Int)} {o3 o6 o7 o8 : Option D} (ep : p = askD ns si hs no) (h1 : VP m k si) (h2 : ∀ d ∈ hs, VP m k d) (h3 : VP m k no) (nd : ns.Nodup) (hl : ns.length ≤ 8) (hl2 : ∀ l ∈ L, l.length ≤ 8) (hL : L.length ≤ 300) :
    ∃ a3 a5 a6, forGo (bodyF (TT n) (.nm 5) lb__law_trim_1) (L.map tupI) ⟨[some p, some (.lst .fz (L.map tupI)), some (bD ns []), o3, some (oD ns []), none, o6, o7, o8], os⟩ = some (.nx ⟨[some p, some (.lst .fz (L.map tupI)), some (bD ns L), a3, some (oD ns L), a5, a6, o7, o8], os⟩) := by
  obtain ⟨s', e, a3, a5, a6, rfl⟩ := forGo_ex (f := bodyF (TT n) (.nm 5) lb__law_trim_1) (fun (i : Nat) s => ∃ a3 a5 a6, s = (⟨[some p, some (.lst .fz (L.map tupI)), some (bD ns (L.take i)), a3, some (oD ns (L.take i)), a5, a6, o7, o8], os⟩ : S)) (L.map tupI) 0 (fun i x s hx hs => by
    obtain ⟨a3, a5, a6, rfl⟩ := hs
    rw [List.getElem?_map] at hx
    obtain ⟨l, hxl, rfl⟩ := Option.map_eq_some_iff.mp hx
    have hlm := List.mem_of_getElem? hxl
    obtain ⟨c3, c6, e⟩ := lt_turn (n := n) (os := os) (l := l) (L := L.take (0 + i)) (lf := .lst .fz (L.map tupI)) (o3 := a3) (o5 := a5) (o6 := a6) (o7 := o7) (o8 := o8) ep h1 h2 h3 nd hl (hl2 l hlm) (by rw [List.length_take]; omega)
    have ht : L.take (0 + i) ++ [l] = L.take (0 + i + 1) := by
      rw [Nat.zero_add, List.take_add_one, hxl]; rfl
    rw [ht] at e
    exact ⟨_, e, c3, _, c6, rfl⟩) ⟨[some p, some (.lst .fz (L.map tupI)), some (bD ns []), o3, some (oD ns []), none, o6, o7, o8], os⟩ ⟨o3, none, o6, by simp⟩
  simp only [Nat.zero_add, List.length_map, List.take_length] at e
  exact ⟨a3, a5, a6, e⟩
/-- one look at whether all went one way -/
theorem lt_look {m : Int} {k : Nat} {ns : List Int} {si no p q : D} {hs : List D} {L : List (List Int)} {X : D} {o2 o3 o5 o6 o7 o8 : Option D} {i : Int} {K : List Int} (ep : p = askD ns si hs no) (fa : fz p = p) (sa : shal p = p) (hX : fz X = .lst .fz (oB ns L) ∧ shal X = .lst .own (oB ns L)) (hi : (i = 0 ∧ K = [0, 0] ∧ q = si) ∨ (i = 1 ∧ K = [2, 0] ∧ q = no)) (fq : fz q = q) (hb : L.length < 1000000)
    (e : allK ns L K = true → runB (TT n) 9 [.val, .val] b__law_trim [q, .lst .fz (L.map tupI)] os = some (.ret (trimF k q L) [] os)) :
    bodyF (TT (n + 1)) (.nm 7) lb__law_trim_0 (.int i) ⟨[some p, some (.lst .fz (L.map tupI)), o2, o3, some X, o5, o6, o7, o8], os⟩ =
      if allK ns L K = true then some (.rt (trimF k q L) ⟨[some p, some (.lst .fz (L.map tupI)), o2, o3, some (.lst .own (oB ns L)), o5, o6, some (.int i), o8], os⟩) else some (.nx ⟨[some p, some (.lst .fz (L.map tupI)), o2, o3, some (.lst .own (oB ns L)), o5, o6, some (.int i), o8], os⟩) := by
  have i2 : idxD (askD ns si hs no) (.int 2) = some si := rfl
  have i4 : idxD (askD ns si hs no) (.int 4) = some no := rfl
  rw [← ep] at i2 i4
  obtain ⟨x1, x2⟩ := hX
  have fL := tups_fz L
  have fo := oB_fz ns L
  have j0 : ∀ a b : D, idxD (.lst .own [a, b]) (.int 0) = some a := fun _ _ => rfl
  have j1 : ∀ a b : D, idxD (.lst .own [a, b]) (.int 1) = some b := fun _ _ => rfl
  have ho : idxD (.lst .fz (oB ns L)) (.int i) = some (.lst .fz ((byK ns L K).map tupI)) := by
    rcases hi with ⟨rfl, rfl, _⟩ | ⟨rfl, rfl, _⟩ <;> rfl
  have hk := byK_all (ns := ns) (L := L) (k := K)
  have hbl : (byK ns L K).length ≤ L.length := byK_len
  have fbk := tups_fz (byK ns L K)
  generalize oB ns L = O at *
  generalize byK ns L K = BK at *
  by_cases a : allK ns L K = true
  · have er := e a
    clear e
    have hbk := hk.mpr a
    rw [if_pos a]
    rcases hi with ⟨rfl, rfl, rfl⟩ | ⟨rfl, rfl, rfl⟩
    · unfold bodyF lb__law_trim_0
      simp [execs, exec, ev, evs, evc, evo, evIt, evOps, fillC, ioSl, putB, evPk, evFz, opd, isVar, hasV, fill1, fillP, asg, asgs, Den.view, rdV, mvV, setS, shal_own, shal_fz, shal_ro, shal_int, shal_bl, shal_str, shal_non, shal_tup, fz, fzL, fzO, bnd, ret, lift, Den.thn, sthn, idxD, opF, addD, subD, mulD, modD, fdivD, negD, notD, isNonD, cmpD, grd, isLst, setiM, biF, lenF, small, mutL, smallR, lim, flatD, -idxD, x1, x2, ho, hbk, fbk, fa, sa, i2, fq, j0, j1, fL, fn_law_trim, callF, er]
    · unfold bodyF lb__law_trim_0
      simp [execs, exec, ev, evs, evc, evo, evIt, evOps, fillC, ioSl, putB, evPk, evFz, opd, isVar, hasV, fill1, fillP, asg, asgs, Den.view, rdV, mvV, setS, shal_own, shal_fz, shal_ro, shal_int, shal_bl, shal_str, shal_non, shal_tup, fz, fzL, fzO, bnd, ret, lift, Den.thn, sthn, idxD, opF, addD, subD, mulD, modD, fdivD, negD, notD, isNonD, cmpD, grd, isLst, setiM, biF, lenF, small, mutL, smallR, lim, flatD, -idxD, x1, x2, ho, hbk, fbk, fa, sa, i4, fq, j0, j1, fL, fn_law_trim, callF, er]
  · have hbk : ¬ BK.length = L.length := fun z => a (hk.mp z)
    have hbk' : ¬ ((BK.length : Int) = L.length) := by omega
    rw [if_neg a]
    rcases hi with ⟨rfl, rfl, rfl⟩ | ⟨rfl, rfl, rfl⟩
    · unfold bodyF lb__law_trim_0
      simp [execs, exec, ev, evs, evc, evo, evIt, evOps, fillC, ioSl, putB, evPk, evFz, opd, isVar, hasV, fill1, fillP, asg, asgs, Den.view, rdV, mvV, setS, shal_own, shal_fz, shal_ro, shal_int, shal_bl, shal_str, shal_non, shal_tup, fz, fzL, fzO, bnd, ret, lift, Den.thn, sthn, idxD, opF, addD, subD, mulD, modD, fdivD, negD, notD, isNonD, cmpD, grd, isLst, setiM, biF, lenF, small, mutL, smallR, lim, flatD, -idxD, x1, x2, ho, hbk, hbk', fbk, fa, sa, fL]
    · unfold bodyF lb__law_trim_0
      simp [execs, exec, ev, evs, evc, evo, evIt, evOps, fillC, ioSl, putB, evPk, evFz, opd, isVar, hasV, fill1, fillP, asg, asgs, Den.view, rdV, mvV, setS, shal_own, shal_fz, shal_ro, shal_int, shal_bl, shal_str, shal_non, shal_tup, fz, fzL, fzO, bnd, ret, lift, Den.thn, sthn, idxD, opF, addD, subD, mulD, modD, fdivD, negD, notD, isNonD, cmpD, grd, isLst, setiM, biF, lenF, small, mutL, smallR, lim, flatD, -idxD, x1, x2, ho, hbk, hbk', fbk, fa, sa, fL]
end Den
/-! Nh15: the law's own trimming, whole. -/
namespace Den
open PySem PySem.Spec L2
variable {n : Nat} {os : List Ob}
theorem Rsg.nd {m : Int} {ns : List Int} (r : Rsg m ns) : ns.Nodup := r.2.1.imp fun h => by omega
theorem rng2 : rngL 0 2 = [.int 0, .int 1] := rfl
theorem s_law_trim {m : Int} (hm : m ≤ 8) : ∀ (k n : Nat) {p : D} {L : List (List Int)}, VP m k p → k ≤ 20 → k < n → (∀ l ∈ L, l.length ≤ 8) → L.length ≤ 300 → runB (TT n) 9 [.val, .val] b__law_trim [p, .lst .fz (L.map tupI)] os = some (.ret (trimF k p L) [] os) := by
  have hend : ∀ (n : Nat) (L : List (List Int)), runB (TT n) 9 [.val, .val] b__law_trim [endD, .lst .fz (L.map tupI)] os = some (.ret endD [] os) := fun n L => by
    have i0 : idxD endD (.int 0) = some (.str [101, 110, 100]) := rfl
    unfold runB b__law_trim startS
    simp [execs, exec, ev, evs, evc, evo, evIt, evOps, fillC, ioSl, putB, evPk, evFz, opd, isVar, hasV, fill1, fillP, asg, asgs, Den.view, rdV, mvV, setS, shal_own, shal_fz, shal_ro, shal_int, shal_bl, shal_str, shal_non, shal_tup, fz, fzL, fzO, bnd, ret, lift, Den.thn, sthn, idxD, opF, addD, subD, mulD, modD, fdivD, negD, notD, isNonD, cmpD, grd, isLst, setiM, biF, lenF, small, mutL, smallR, lim, flatD, -idxD, fz_end, shal_end, i0, eq_end_endS, outsOf]
    rfl
  intro k
  induction k with
  | zero => intro n p L h _ _ _ _; rw [h]; exact hend n L
  | succ k ih =>
    intro n p L h hk hn hl2 hL
    rcases h with h | ⟨ns, si, hs, no, e, r, len, h1, h2, h3⟩
    · rw [h, hend]; rfl
    · obtain ⟨n, rfl⟩ : ∃ j, n = j + 1 := ⟨n - 1, by omega⟩
      have hnl : ns.length ≤ 8 := by have := r.len; omega
      have nd := r.nd
      have f1 := h1.fz
      have f2 := fzL_id fun d hd => (h2 d hd).fz
      have f3 := h3.fz
      have fa := fz_ask (ns := ns) f1 f2 f3
      have eL := eqD_tupsL L
      have i0 : idxD (askD ns si hs no) (.int 0) = some (.str [97, 115, 107]) := rfl
      have i1 : idxD (askD ns si hs no) (.int 1) = some (.tup (ns.map .int)) := rfl
      have i2 : idxD (askD ns si hs no) (.int 2) = some si := rfl
      have i3 : idxD (askD ns si hs no) (.int 3) = some (.tup hs) := rfl
      have i4 : idxD (askD ns si hs no) (.int 4) = some no := rfl
      have fL := tups_fz L
      have et : trimF (k + 1) p L = (if L = [] then endD else if allK ns L [0, 0] = true then trimF k si L else if allK ns L [2, 0] = true then trimF k no L else
        askD ns (trimF k si (byK ns L [0, 0])) ((ns.zip hs).map fun p => trimF k p.2 (byK ns L [1, p.1])) (trimF k no (byK ns L [2, 0]))) := by rw [e, trimF, askOf_ask]
      obtain ⟨a3, a5, a6, eloop⟩ := lt_loop (n := n + 1) (os := os) (o3 := none) (o6 := none) (o7 := none) (o8 := none) e h1 h2 h3 nd hnl hl2 hL
      have sa := shal_ask fa
      rw [et]
      clear et
      have w0 : ∀ X, fz X = .lst .fz (oB ns L) ∧ shal X = .lst .own (oB ns L) → ∀ {o2 o3 o5 o6 o7 o8}, _ := fun X hX {o2 o3 o5 o6 o7 o8} => lt_look (n := n) (os := os) (m := m) (k := k) (i := 0) (K := [0, 0]) (q := si) (L := L) (X := X) (o2 := o2) (o3 := o3) (o5 := o5) (o6 := o6) (o7 := o7) (o8 := o8) e (by rw [e]; exact fa) (by rw [e]; exact sa) hX (.inl ⟨rfl, rfl, rfl⟩) f1 (by omega) fun _ => ih n h1 (by omega) (by omega) hl2 hL
      have w1 : ∀ X, fz X = .lst .fz (oB ns L) ∧ shal X = .lst .own (oB ns L) → ∀ {o2 o3 o5 o6 o7 o8}, _ := fun X hX {o2 o3 o5 o6 o7 o8} => lt_look (n := n) (os := os) (m := m) (k := k) (i := 1) (K := [2, 0]) (q := no) (L := L) (X := X) (o2 := o2) (o3 := o3) (o5 := o5) (o6 := o6) (o7 := o7) (o8 := o8) e (by rw [e]; exact fa) (by rw [e]; exact sa) hX (.inr ⟨rfl, rfl, rfl⟩) f3 (by omega) fun _ => ih n h3 (by omega) (by omega) hl2 hL
      have hX0 : fz (oD ns L) = .lst .fz (oB ns L) ∧ shal (oD ns L) = .lst .own (oB ns L) := ⟨oD_fz ns L, oD_shal ns L⟩
      have hX1 : fz (.lst .own (oB ns L)) = .lst .fz (oB ns L) ∧ shal (.lst .own (oB ns L)) = .lst .own (oB ns L) := ⟨by simp only [fz, fzO, oB_fz], by rw [shal_own, oB_fz]⟩
      rw [← e] at *
      have eb : b__law_trim = .cons (tN b__law_trim 0) (.cons (tN b__law_trim 1) (.cons (tN b__law_trim 2) (.cons (tN b__law_trim 3) (.cons (tN b__law_trim 4) (.cons (tN b__law_trim 5) (.cons (tN b__law_trim 6) .nil)))))) := rfl
      by_cases hLn : L = []
      · rw [if_pos hLn]
        subst hLn
        have eL0 : eqD (.lst .fz []) (.lst .fz []) = some true := eqD_lst0 []
        unfold runB b__law_trim startS
        simp [execs, exec, ev, evs, evc, evo, evIt, evOps, fillC, ioSl, putB, evPk, evFz, opd, isVar, hasV, fill1, fillP, asg, asgs, Den.view, rdV, mvV, setS, shal_own, shal_fz, shal_ro, shal_int, shal_bl, shal_str, shal_non, shal_tup, fz, fzL, fzO, bnd, ret, lift, Den.thn, sthn, idxD, opF, addD, subD, mulD, modD, fdivD, negD, notD, isNonD, cmpD, grd, isLst, setiM, biF, lenF, small, mutL, smallR, lim, flatD, -idxD, fa, sa, i0, eq_ask_endS, eL0, outsOf]
        rfl
      · rw [if_neg hLn]
        rw [decide_eq_false hLn] at eL
        have t0 : exec (TT (n + 1)) (tN b__law_trim 0) ⟨[some p, some (.lst .fz (L.map tupI)), none, none, none, none, none, none, none], os⟩ = some (.nx ⟨[some p, some (.lst .fz (L.map tupI)), none, none, none, none, none, none, none], os⟩) := by
          unfold b__law_trim
          simp [tN, execs, exec, ev, evs, evc, evo, evIt, evOps, fillC, ioSl, putB, evPk, evFz, opd, isVar, hasV, fill1, fillP, asg, asgs, Den.view, rdV, mvV, setS, shal_own, shal_fz, shal_ro, shal_int, shal_bl, shal_str, shal_non, shal_tup, fz, fzL, fzO, bnd, ret, lift, Den.thn, sthn, idxD, opF, addD, subD, mulD, modD, fdivD, negD, notD, isNonD, cmpD, grd, isLst, setiM, biF, lenF, small, mutL, smallR, lim, flatD, -idxD, fa, sa, i0, eq_ask_endS, eL, fL]
        have t1 : exec (TT (n + 1)) (tN b__law_trim 1) ⟨[some p, some (.lst .fz (L.map tupI)), none, none, none, none, none, none, none], os⟩ = some (.nx ⟨[some p, some (.lst .fz (L.map tupI)), some (bD ns []), none, none, none, none, none, none], os⟩) := by
          unfold b__law_trim
          simp [tN, execs, exec, ev, evs, evc, evo, evIt, evOps, fillC, ioSl, putB, evPk, evFz, opd, isVar, hasV, fill1, fillP, asg, asgs, Den.view, rdV, mvV, setS, shal_own, shal_fz, shal_ro, shal_int, shal_bl, shal_str, shal_non, shal_tup, fz, fzL, fzO, bnd, ret, lift, Den.thn, sthn, idxD, opF, addD, subD, mulD, modD, fdivD, negD, notD, isNonD, cmpD, grd, isLst, setiM, biF, lenF, small, mutL, smallR, lim, flatD, -idxD, fa, sa, i1, wipeD]
          generalize hg : lcGo _ _ _ _ _ = r
          obtain ⟨s', rfl, o, rfl⟩ : ∃ s', r = some (.val ([] ++ ns.map fun _ => .lst .own []) s') ∧ (fun s => ∃ o, s = (⟨[some p, some (.lst .fz (L.map tupI)), none, o, none, none, none, none, none], os⟩ : S)) s' := by
            rw [← hg]
            refine lcGo_m D.int (fun s => ∃ o, s = (⟨[some p, some (.lst .fz (L.map tupI)), none, o, none, none, none, none, none], os⟩ : S)) (fun _ => .lst .own []) ns [] _ (fun x hx s hs' => ?_) ⟨none, rfl⟩ (by simp [lim]; omega)
            obtain ⟨o, rfl⟩ := hs'
            exact ⟨⟨[some p, some (.lst .fz (L.map tupI)), none, some (.int x), none, none, none, none, none], os⟩, by simp [execs, exec, ev, evs, evc, evo, evIt, evOps, fillC, ioSl, putB, evPk, evFz, opd, isVar, hasV, fill1, fillP, asg, asgs, Den.view, rdV, mvV, setS, shal_own, shal_fz, shal_ro, shal_int, shal_bl, shal_str, shal_non, shal_tup, fz, fzL, fzO, bnd, ret, lift, Den.thn, sthn, idxD, opF, addD, subD, mulD, modD, fdivD, negD, notD, isNonD, cmpD, grd, isLst, setiM, biF, lenF, small, mutL, smallR, lim, flatD, wipeD], _, rfl⟩
          simp [restD]
          rfl
        have t2 : exec (TT (n + 1)) (tN b__law_trim 2) ⟨[some p, some (.lst .fz (L.map tupI)), some (bD ns []), none, none, none, none, none, none], os⟩ = some (.nx ⟨[some p, some (.lst .fz (L.map tupI)), some (bD ns []), none, some (oD ns []), none, none, none, none], os⟩) := by
          unfold b__law_trim
          simp [tN, execs, exec, ev, evs, evc, evo, evIt, evOps, fillC, ioSl, putB, evPk, evFz, opd, isVar, hasV, fill1, fillP, asg, asgs, Den.view, rdV, mvV, setS, shal_own, shal_fz, shal_ro, shal_int, shal_bl, shal_str, shal_non, shal_tup, fz, fzL, fzO, bnd, ret, lift, Den.thn, sthn, idxD, opF, addD, subD, mulD, modD, fdivD, negD, notD, isNonD, cmpD, grd, isLst, setiM, biF, lenF, small, mutL, smallR, lim, flatD]
          rfl
        have t3 : exec (TT (n + 1)) (tN b__law_trim 3) ⟨[some p, some (.lst .fz (L.map tupI)), some (bD ns []), none, some (oD ns []), none, none, none, none], os⟩ = some (.nx ⟨[some p, some (.lst .fz (L.map tupI)), some (bD ns L), a3, some (oD ns L), a5, a6, none, none], os⟩) := by
          refine (exec_for ?_).trans eloop
          simp [execs, exec, ev, evs, evc, evo, evIt, evOps, fillC, ioSl, putB, evPk, evFz, opd, isVar, hasV, fill1, fillP, asg, asgs, Den.view, rdV, mvV, setS, shal_own, shal_fz, shal_ro, shal_int, shal_bl, shal_str, shal_non, shal_tup, fz, fzL, fzO, bnd, ret, lift, Den.thn, sthn, idxD, opF, addD, subD, mulD, modD, fdivD, negD, notD, isNonD, cmpD, grd, isLst, setiM, biF, lenF, small, mutL, smallR, lim, flatD, fL]
        have t4 : exec (TT (n + 1)) (tN b__law_trim 4) ⟨[some p, some (.lst .fz (L.map tupI)), some (bD ns L), a3, some (oD ns L), a5, a6, none, none], os⟩ = forGo (bodyF (TT (n + 1)) (.nm 7) lb__law_trim_0) [.int 0, .int 1] ⟨[some p, some (.lst .fz (L.map tupI)), some (bD ns L), a3, some (oD ns L), a5, a6, none, none], os⟩ :=
          exec_for (by rw [← rng2]; simp [execs, exec, ev, evs, evc, evo, evIt, evOps, fillC, ioSl, putB, evPk, evFz, opd, isVar, hasV, fill1, fillP, asg, asgs, Den.view, rdV, mvV, setS, shal_own, shal_fz, shal_ro, shal_int, shal_bl, shal_str, shal_non, shal_tup, fz, fzL, fzO, bnd, ret, lift, Den.thn, sthn, idxD, opF, addD, subD, mulD, modD, fdivD, negD, notD, isNonD, cmpD, grd, isLst, setiM, biF, lenF, small, mutL, smallR, lim, flatD])
        unfold forGo at t4
        rw [w0 _ hX0] at t4
        by_cases a0 : allK ns L [0, 0] = true
        · rw [if_pos a0] at t4 ⊢
          unfold runB startS
          rw [eb]
          simp [execs, t0, t1, t2, t3, t4, outsOf]
        · rw [if_neg a0] at t4 ⊢
          simp only [sthn] at t4
          unfold forGo at t4
          rw [w1 _ hX1] at t4
          by_cases a2 : allK ns L [2, 0] = true
          · rw [if_pos a2] at t4 ⊢
            unfold runB startS
            rw [eb]
            simp [execs, t0, t1, t2, t3, t4, outsOf]
          · rw [if_neg a2] at t4 ⊢
            simp only [sthn, forGo] at t4
            have ei : ∀ {q : D} (kk : List Int), VP m k q → runB (TT n) 9 [.val, .val] b__law_trim [q, .lst .fz ((byK ns L kk).map tupI)] os = some (.ret (trimF k q (byK ns L kk)) [] os) := fun {q} kk v => ih n v (by omega) (by omega) (fun l hl => byK_mem hl hl2) (Nat.le_trans byK_len hL)
            have zl : (ns.zip hs).length = ns.length := by rw [List.length_zip]; omega
            have bl : (bB ns L).length = ns.length := by simp [bB]
            have fb := bB_fz ns L
            have b1 := bD_fz ns L
            have b2 := bD_shal ns L
            have bg : ∀ {i : Nat} {x : Int}, ns[i]? = some x → (bB ns L)[i]? = some (.lst .fz ((byK ns L [1, x]).map tupI)) := fun {i x} h => by
              unfold bB
              rw [List.getElem?_map, h]; rfl
            have t5 : exec (TT (n + 1)) (tN b__law_trim 5) ⟨[some p, some (.lst .fz (L.map tupI)), some (bD ns L), a3, some (.lst .own (oB ns L)), a5, a6, some (.int 1), none], os⟩ = some (.nx ⟨[some p, some (.lst .fz (L.map tupI)), some (.lst .own (bB ns L)), a3, some (.lst .own (oB ns L)), a5, a6, some (.int 1), some (.tup ((ns.zip hs).map fun p => trimF k p.2 (byK ns L [1, p.1])))], os⟩) := by
              generalize bD ns L = B at *
              generalize bB ns L = BB at *
              generalize oB ns L = O at *
              have s1 : (ns.length : Int) ≤ 1000000 := by omega
              have s2 : -4611686018427387904 ≤ (ns.length : Int) := by omega
              have er : rngL 0 (ns.length : Int) = (ns.zip hs).zipIdx.map fun q => D.int ((q.2 : Nat) : Int) := by rw [← rng_zix, zl]
              unfold b__law_trim
              simp [tN, execs, exec, ev, evs, evc, evo, evIt, evOps, fillC, ioSl, putB, evPk, evFz, opd, isVar, hasV, fill1, fillP, asg, asgs, Den.view, rdV, mvV, setS, shal_own, shal_fz, shal_ro, shal_int, shal_bl, shal_str, shal_non, shal_tup, fz, fzL, fzO, bnd, ret, lift, Den.thn, sthn, idxD, opF, addD, subD, mulD, modD, fdivD, negD, notD, isNonD, cmpD, grd, isLst, setiM, biF, lenF, small, mutL, smallR, lim, flatD, -idxD, b1, b2, bl, s1, s2, wipeD]
              rw [er]
              generalize hg : lcGo _ _ _ _ _ = r
              obtain ⟨s', rfl, o, rfl⟩ : ∃ s', r = some (.val ([] ++ (ns.zip hs).zipIdx.map fun q => trimF k q.1.2 (byK ns L [1, q.1.1])) s') ∧ (fun s => ∃ o, s = (⟨[some p, some (.lst .fz (L.map tupI)), some (.lst .own BB), a3, some (.lst .own O), a5, a6, o, none], os⟩ : S)) s' := by
                rw [← hg]
                refine lcGo_m (fun q : (Int × D) × Nat => D.int ((q.2 : Nat) : Int)) (fun s => ∃ o, s = (⟨[some p, some (.lst .fz (L.map tupI)), some (.lst .own BB), a3, some (.lst .own O), a5, a6, o, none], os⟩ : S)) (fun q => trimF k q.1.2 (byK ns L [1, q.1.1])) (ns.zip hs).zipIdx [] _ (fun x hx s hs' => ?_) ⟨none, rfl⟩ (by simp [lim]; omega)
                obtain ⟨o, rfl⟩ := hs'
                have hx2 := List.mem_zipIdx_iff_getElem?.mp hx
                obtain ⟨g1, g2⟩ := List.getElem?_zip_eq_some.mp hx2
                have hv := h2 x.1.2 (List.mem_of_getElem? g2)
                have eh := ei [1, x.1.1] hv
                have fx := hv.fz
                have j1 : idxD (.lst .fz BB) (.int (x.2 : Nat)) = some (.lst .fz ((byK ns L [1, x.1.1]).map tupI)) := atI_nat (bg g1)
                have j2 : idxD (.tup hs) (.int (x.2 : Nat)) = some x.1.2 := atI_nat g2
                have ft := tups_fz (byK ns L [1, x.1.1])
                refine ⟨⟨[some p, some (.lst .fz (L.map tupI)), some (.lst .own BB), a3, some (.lst .own O), a5, a6, some (.int (x.2 : Nat)), none], os⟩, ?_, _, rfl⟩
                simp [execs, exec, ev, evs, evc, evo, evIt, evOps, fillC, ioSl, putB, evPk, evFz, opd, isVar, hasV, fill1, fillP, asg, asgs, Den.view, rdV, mvV, setS, shal_own, shal_fz, shal_ro, shal_int, shal_bl, shal_str, shal_non, shal_tup, fz, fzL, fzO, bnd, ret, lift, Den.thn, sthn, idxD, opF, addD, subD, mulD, modD, fdivD, negD, notD, isNonD, cmpD, grd, isLst, setiM, biF, lenF, small, mutL, smallR, lim, flatD, -idxD, wipeD, fx, fa, sa, fb, i3, f2, j1, j2, ft, fn_law_trim, callF, eh]
              have hz0 : ((ns.zip hs).zipIdx.map fun q => trimF k q.1.2 (byK ns L [1, q.1.1])) = (ns.zip hs).map fun p => trimF k p.2 (byK ns L [1, p.1]) := by
                have : ((ns.zip hs).zipIdx.map fun q => trimF k q.1.2 (byK ns L [1, q.1.1])) = ((ns.zip hs).zipIdx.map Prod.fst).map fun p => trimF k p.2 (byK ns L [1, p.1]) := by rw [List.map_map]; rfl
                rw [this, List.zipIdx_map_fst]
              have hz := fzL_id (ds := (ns.zip hs).map fun p => trimF k p.2 (byK ns L [1, p.1])) fun d hd => by
                obtain ⟨u, hu, rfl⟩ := List.mem_map.mp hd
                exact (trimF_vp k (h2 _ (List.of_mem_zip hu).2)).fz
              rw [hz0]
              simp [execs, exec, ev, evs, evc, evo, evIt, evOps, fillC, ioSl, putB, evPk, evFz, opd, isVar, hasV, fill1, fillP, asg, asgs, Den.view, rdV, mvV, setS, shal_own, shal_fz, shal_ro, shal_int, shal_bl, shal_str, shal_non, shal_tup, fz, fzL, fzO, bnd, ret, lift, Den.thn, sthn, idxD, opF, addD, subD, mulD, modD, fdivD, negD, notD, isNonD, cmpD, grd, isLst, setiM, biF, lenF, small, mutL, smallR, lim, flatD, restD, tupleF, hz]
            have v1 := trimF_vp k (L := byK ns L [0, 0]) h1
            have v3 := trimF_vp k (L := byK ns L [2, 0]) h3
            have hz := fzL_id (ds := (ns.zip hs).map fun p => trimF k p.2 (byK ns L [1, p.1])) fun d hd => by
              obtain ⟨u, hu, rfl⟩ := List.mem_map.mp hd
              exact (trimF_vp k (h2 _ (List.of_mem_zip hu).2)).fz
            generalize (ns.zip hs).map (fun p => trimF k p.2 (byK ns L [1, p.1])) = hs' at *
            have t6 : ∃ s', s'.os = os ∧ outsOf [.val, .val] s'.sl = some [] ∧ exec (TT (n + 1)) (tN b__law_trim 6) ⟨[some p, some (.lst .fz (L.map tupI)), some (.lst .own (bB ns L)), a3, some (.lst .own (oB ns L)), a5, a6, some (.int 1), some (.tup hs')], os⟩ = some (.rt (askD ns (trimF k si (byK ns L [0, 0])) hs' (trimF k no (byK ns L [2, 0]))) s') := by
              refine ⟨⟨[some p, some (.lst .fz (L.map tupI)), some (.lst .own (bB ns L)), a3, some (.lst .own (oB ns L)), a5, a6, some (.int 1), some (.tup hs')], os⟩, rfl, rfl, ?_⟩
              have e1 := ei [0, 0] h1
              have e2 := ei [2, 0] h3
              have w1 := v1.fz
              have w3 := v3.fz
              have g1 : idxD (.lst .fz (oB ns L)) (.int 0) = some (.lst .fz ((byK ns L [0, 0]).map tupI)) := rfl
              have g2 : idxD (.lst .fz (oB ns L)) (.int 1) = some (.lst .fz ((byK ns L [2, 0]).map tupI)) := rfl
              have fo := oB_fz ns L
              have ft1 := tups_fz (byK ns L [0, 0])
              have ft2 := tups_fz (byK ns L [2, 0])
              generalize oB ns L = O at *
              generalize bB ns L = BB at *
              generalize trimF k si (byK ns L [0, 0]) = q1 at *
              unfold b__law_trim
              simp [tN, execs, exec, ev, evs, evc, evo, evIt, evOps, fillC, ioSl, putB, evPk, evFz, opd, isVar, hasV, fill1, fillP, asg, asgs, Den.view, rdV, mvV, setS, shal_own, shal_fz, shal_ro, shal_int, shal_bl, shal_str, shal_non, shal_tup, fz, fzL, fzO, bnd, ret, lift, Den.thn, sthn, idxD, opF, addD, subD, mulD, modD, fdivD, negD, notD, isNonD, cmpD, grd, isLst, setiM, biF, lenF, small, mutL, smallR, lim, flatD, -idxD, fa, sa, i1, i2, i4, f1, f3, fo, g1, g2, ft1, ft2, fn_law_trim, callF, e1, e2, w1, hz, askD]
            obtain ⟨s', q1, q2, t6⟩ := t6
            unfold runB startS
            rw [eb]
            simp [execs, t0, t1, t2, t3, t4, t5, t6, q1, q2]
end Den
/-! Ni15: the look for idle asks: one left after another. -/
namespace Den
open PySem PySem.Spec L2
variable {n : Nat} {os : List Ob}
theorem inD_bls {o : Ow} (l : List Bool) : inD (.bl true) (.lst o (l.map .bl)) = some (l.any id) := by
  have h : SeqAt.shaped (.list (toPs (l.map D.bl))) = true := shaped_of (shp_lst (o := .own) (k := 0) (fun x hx => by
    obtain ⟨b, _, rfl⟩ := List.mem_map.mp hx
    exact shp_bl))
  have h2 : SeqAt.shaped (toP (.bl true)) = true := shaped_of (shp_bl (k := 0))
  simp only [inD, h, h2, and_self, if_true]
  clear h h2
  congr 1
  induction l with
  | nil => rfl
  | cons b l ih =>
    unfold inL at ih ⊢
    simp only [List.map_cons, toPs, List.any_cons, ih, toP, PyData.eqv]
    cases b
    · simp only [Bool.false_eq_true, beq_iff_eq, id, Bool.or_false, Bool.false_or]
      exact ih
    · rfl
theorem id_turn {m : Int} {k : Nat} {ns l : List Int} {si no p : D} {hs : List D} {lf : D} {st : List (List Int) × List D} {o3 o4 o5 o6 o7 o8 o9 : Option D} (ep : p = askD ns si hs no) (h1 : VP m k si) (h2 : ∀ d ∈ hs, VP m k d) (h3 : VP m k no) (len : hs.length = ns.length) (hl : ns.length ≤ 8) (hl2 : l.length ≤ 8)
    (hst : ∀ k, ∃ K, (valL st.1 st.2 k = none ∨ valL st.1 st.2 k = some (.lst .fz K)) ∧ (itemsD (valL st.1 st.2 k)).length < 1000) (hfz : ∀ k, fzL (itemsD (valL st.1 st.2 k)) = itemsD (valL st.1 st.2 k)) (hz : st.2.length < 1000) :
    ∃ a3 a4 a5 a6 a7, bodyF (TT n) (.nm 3) lb__law_idle_1 (tupI l) ⟨[some p, some lf, some (.dc .own (.t st.1) st.2), o3, o4, o5, o6, o7, o8, o9], os⟩ = some (.nx ⟨[some p, some lf, some (.dc .own (.t (bhS ns st l).1) (bhS ns st l).2), a3, a4, a5, a6, a7, o8, o9], os⟩) := by
  have f2 := fzL_id fun d hd => (h2 d hd).fz
  have fa := fz_ask (ns := ns) h1.fz f2 h3.fz
  have sa := shal_ask fa
  have i1 : idxD (askD ns si hs no) (.int 1) = some (.tup (ns.map .int)) := rfl
  subst ep
  generalize askD ns si hs no = p at *
  have eb : lb__law_idle_1 = .cons (tN lb__law_idle_1 0) (.cons (tN lb__law_idle_1 1) (.cons (tN lb__law_idle_1 2) .nil)) := rfl
  have t0 : exec (TT n) (tN lb__law_idle_1 0) ⟨[some p, some lf, some (.dc .own (.t st.1) st.2), some (tupI l), o4, o5, o6, o7, o8, o9], os⟩ = some (.nx ⟨[some p, some lf, some (.dc .own (.t st.1) st.2), some (tupI l), some (.lst .own ((spk ns l).map .int)), o5, o6, o7, o8, o9], os⟩) := by
    unfold lb__law_idle_1
    simp [tN, execs, exec, ev, evs, evc, evo, evIt, evOps, fillC, ioSl, putB, evPk, evFz, opd, isVar, hasV, fill1, fillP, asg, asgs, Den.view, rdV, mvV, setS, shal_own, shal_fz, shal_ro, shal_int, shal_bl, shal_str, shal_non, shal_tup, fz, fzL, fzO, bnd, ret, lift, Den.thn, sthn, idxD, opF, addD, subD, mulD, modD, fdivD, negD, notD, isNonD, cmpD, grd, isLst, setiM, biF, lenF, small, mutL, smallR, lim, flatD, -idxD, i1, fa, sa, wipeD]
    generalize hg : lcGo _ _ _ _ _ = r
    obtain ⟨s', rfl, o, rfl⟩ : ∃ s', r = some (.val ([] ++ (ns.filter (fun x => decide (x ∈ l))).map .int) s') ∧ (fun s => ∃ o, s = (⟨[some p, some lf, some (.dc .own (.t st.1) st.2), some (tupI l), o4, o5, o, o7, o8, o9], os⟩ : S)) s' := by
      rw [← hg]
      refine lcGo_filt (fun s => ∃ o, s = (⟨[some p, some lf, some (.dc .own (.t st.1) st.2), some (tupI l), o4, o5, o, o7, o8, o9], os⟩ : S)) (fun x => decide (x ∈ l)) ns [] _ (fun x hx s hs => ?_) ⟨none, rfl⟩ (by simp [lim]; omega)
      obtain ⟨o, rfl⟩ := hs
      refine ⟨⟨[some p, some lf, some (.dc .own (.t st.1) st.2), some (tupI l), o4, o5, some (.int x), o7, o8, o9], os⟩, ?_, _, rfl⟩
      by_cases hq : x ∈ l <;> simp [execs, exec, ev, evs, evc, evo, evIt, evOps, fillC, ioSl, putB, evPk, evFz, opd, isVar, hasV, fill1, fillP, asg, asgs, Den.view, rdV, mvV, setS, shal_own, shal_fz, shal_ro, shal_int, shal_bl, shal_str, shal_non, shal_tup, fz, fzL, fzO, bnd, ret, lift, Den.thn, sthn, idxD, opF, addD, subD, mulD, modD, fdivD, negD, notD, isNonD, cmpD, grd, isLst, setiM, biF, lenF, small, mutL, smallR, lim, flatD, wipeD, tupI, hq]
    simp [restD]
    rfl
  have hkk : keyF ns l = match spk ns l with | [] => [0, 0] | [x] => [1, x] | _ => [2, 0] := rfl
  have hnn : nxtF ns l = match spk ns l with | [x] => l.filter (fun y => !decide (y = x)) | _ => l := rfl
  have t12 : ∃ a4 a5, execs (TT n) (.cons (tN lb__law_idle_1 1) (.cons (tN lb__law_idle_1 2) .nil)) ⟨[some p, some lf, some (.dc .own (.t st.1) st.2), some (tupI l), some (.lst .own ((spk ns l).map .int)), o5, o6, o7, o8, o9], os⟩ = some (.nx ⟨[some p, some lf, some (.dc .own (.t (bhS ns st l).1) (bhS ns st l).2), some (tupI l), a4, a5, o6, o7, o8, o9], os⟩) := by
    obtain ⟨K, hK, hKl⟩ := hst (keyF ns l)
    have hf := hfz (keyF ns l)
    have hz2 : st.2.length < 1000000 := by omega
    refine ⟨some (.lst .own ((spk ns l).map .int)), some (.kt (keyF ns l)), ?_⟩
    unfold bhS
    rw [hkk] at hK hKl hf ⊢
    rw [hnn]
    clear hkk hnn t0
    have hft : l.filter (fun _ => true) = l := List.filter_eq_self.mpr fun _ _ => rfl
    generalize spk ns l = sp at *
    unfold lb__law_idle_1
    match sp, hK, hKl, hf with
    | [], hK, hKl, hf =>
      simp only at hK hKl hf ⊢
      rcases hK with hK | hK
      · simp [tN, execs, exec, ev, evs, evc, evo, evIt, evOps, fillC, ioSl, putB, evPk, evFz, opd, isVar, hasV, fill1, fillP, asg, asgs, Den.view, rdV, mvV, setS, shal_own, shal_fz, shal_ro, shal_int, shal_bl, shal_str, shal_non, shal_tup, fz, fzL, fzO, bnd, ret, lift, Den.thn, sthn, idxD, opF, addD, subD, mulD, modD, fdivD, negD, notD, isNonD, cmpD, grd, isLst, setiM, biF, lenF, small, mutL, smallR, lim, flatD, isDc, dgetM, didxM, keysM, dsetM, dcGet, dcPut, keyT, eqKeys_eq, inKeys_eq, tupI, wipeD, hK, itemsD, min2F, intsOf]
        generalize hg : lcGo _ _ _ _ _ = r
        obtain ⟨s', rfl, o, rfl⟩ : ∃ s', r = some (.val ([] ++ (l.filter (fun _ => true)).map .int) s') ∧ (fun s => ∃ o, s = (⟨[some p, some lf, some (.dc .own (.t st.1) st.2), some (.tup (l.map .int)), some (.lst .own []), some (.kt [0, 0]), o6, o, o8, o9], os⟩ : S)) s' := by
          rw [← hg]
          refine lcGo_filt (fun s => ∃ o, s = (⟨[some p, some lf, some (.dc .own (.t st.1) st.2), some (.tup (l.map .int)), some (.lst .own []), some (.kt [0, 0]), o6, o, o8, o9], os⟩ : S)) (fun _ => true) l [] _ (fun y hy s hs => ?_) ⟨none, rfl⟩ (by simp [lim]; omega)
          obtain ⟨o, rfl⟩ := hs
          refine ⟨⟨[some p, some lf, some (.dc .own (.t st.1) st.2), some (.tup (l.map .int)), some (.lst .own []), some (.kt [0, 0]), o6, some (.int y), o8, o9], os⟩, ?_, _, rfl⟩
          simp [execs, exec, ev, evs, evc, evo, evIt, evOps, fillC, ioSl, putB, evPk, evFz, opd, isVar, hasV, fill1, fillP, asg, asgs, Den.view, rdV, mvV, setS, shal_own, shal_fz, shal_ro, shal_int, shal_bl, shal_str, shal_non, shal_tup, fz, fzL, fzO, bnd, ret, lift, Den.thn, sthn, idxD, opF, addD, subD, mulD, modD, fdivD, negD, notD, isNonD, cmpD, grd, isLst, setiM, biF, lenF, small, mutL, smallR, lim, flatD, wipeD]
        simp [execs, exec, ev, evs, evc, evo, evIt, evOps, fillC, ioSl, putB, evPk, evFz, opd, isVar, hasV, fill1, fillP, asg, asgs, Den.view, rdV, mvV, setS, shal_own, shal_fz, shal_ro, shal_int, shal_bl, shal_str, shal_non, shal_tup, fz, fzL, fzO, bnd, ret, lift, Den.thn, sthn, idxD, opF, addD, subD, mulD, modD, fdivD, negD, notD, isNonD, cmpD, grd, isLst, setiM, biF, lenF, small, mutL, smallR, lim, flatD, isDc, dgetM, didxM, keysM, dsetM, dcGet, dcPut, keyT, eqKeys_eq, inKeys_eq, restD, tupleF, hz2, hK, itemsD, dcPut, hft]
      · rw [hK] at hf hKl
        have hf' : fzL K = K := hf
        have hKl' : K.length < 1000 := hKl
        have l1 : K.length + 1 ≤ 1000000 := by omega
        have ha : ∀ l' : List Int, fzL (K ++ [D.tup (l'.map .int)]) = K ++ [D.tup (l'.map .int)] := fun l' => by
          rw [fzL_app, hf']
          simp [fzL, fz]
        simp [tN, execs, exec, ev, evs, evc, evo, evIt, evOps, fillC, ioSl, putB, evPk, evFz, opd, isVar, hasV, fill1, fillP, asg, asgs, Den.view, rdV, mvV, setS, shal_own, shal_fz, shal_ro, shal_int, shal_bl, shal_str, shal_non, shal_tup, fz, fzL, fzO, bnd, ret, lift, Den.thn, sthn, idxD, opF, addD, subD, mulD, modD, fdivD, negD, notD, isNonD, cmpD, grd, isLst, setiM, biF, lenF, small, mutL, smallR, lim, flatD, isDc, dgetM, didxM, keysM, dsetM, dcGet, dcPut, keyT, eqKeys_eq, inKeys_eq, tupI, wipeD, hK, itemsD, min2F, intsOf, hf', l1, ha]
        generalize hg : lcGo _ _ _ _ _ = r
        obtain ⟨s', rfl, o, rfl⟩ : ∃ s', r = some (.val ([] ++ (l.filter (fun _ => true)).map .int) s') ∧ (fun s => ∃ o, s = (⟨[some p, some lf, some (.dc .own (.t st.1) st.2), some (.tup (l.map .int)), some (.lst .own []), some (.kt [0, 0]), o6, o, o8, o9], os⟩ : S)) s' := by
          rw [← hg]
          refine lcGo_filt (fun s => ∃ o, s = (⟨[some p, some lf, some (.dc .own (.t st.1) st.2), some (.tup (l.map .int)), some (.lst .own []), some (.kt [0, 0]), o6, o, o8, o9], os⟩ : S)) (fun _ => true) l [] _ (fun y hy s hs => ?_) ⟨none, rfl⟩ (by simp [lim]; omega)
          obtain ⟨o, rfl⟩ := hs
          refine ⟨⟨[some p, some lf, some (.dc .own (.t st.1) st.2), some (.tup (l.map .int)), some (.lst .own []), some (.kt [0, 0]), o6, some (.int y), o8, o9], os⟩, ?_, _, rfl⟩
          simp [execs, exec, ev, evs, evc, evo, evIt, evOps, fillC, ioSl, putB, evPk, evFz, opd, isVar, hasV, fill1, fillP, asg, asgs, Den.view, rdV, mvV, setS, shal_own, shal_fz, shal_ro, shal_int, shal_bl, shal_str, shal_non, shal_tup, fz, fzL, fzO, bnd, ret, lift, Den.thn, sthn, idxD, opF, addD, subD, mulD, modD, fdivD, negD, notD, isNonD, cmpD, grd, isLst, setiM, biF, lenF, small, mutL, smallR, lim, flatD, wipeD]
        simp [execs, exec, ev, evs, evc, evo, evIt, evOps, fillC, ioSl, putB, evPk, evFz, opd, isVar, hasV, fill1, fillP, asg, asgs, Den.view, rdV, mvV, setS, shal_own, shal_fz, shal_ro, shal_int, shal_bl, shal_str, shal_non, shal_tup, fz, fzL, fzO, bnd, ret, lift, Den.thn, sthn, idxD, opF, addD, subD, mulD, modD, fdivD, negD, notD, isNonD, cmpD, grd, isLst, setiM, biF, lenF, small, mutL, smallR, lim, flatD, isDc, dgetM, didxM, keysM, dsetM, dcGet, dcPut, keyT, eqKeys_eq, inKeys_eq, restD, tupleF, hz2, hK, itemsD, dcPut, hft, hf', l1, ha]
    | [x], hK, hKl, hf =>
      simp only at hK hKl hf ⊢
      rcases hK with hK | hK
      · simp [tN, execs, exec, ev, evs, evc, evo, evIt, evOps, fillC, ioSl, putB, evPk, evFz, opd, isVar, hasV, fill1, fillP, asg, asgs, Den.view, rdV, mvV, setS, shal_own, shal_fz, shal_ro, shal_int, shal_bl, shal_str, shal_non, shal_tup, fz, fzL, fzO, bnd, ret, lift, Den.thn, sthn, idxD, opF, addD, subD, mulD, modD, fdivD, negD, notD, isNonD, cmpD, grd, isLst, setiM, biF, lenF, small, mutL, smallR, lim, flatD, isDc, dgetM, didxM, keysM, dsetM, dcGet, dcPut, keyT, eqKeys_eq, inKeys_eq, tupI, wipeD, hK, itemsD, min2F, intsOf]
        generalize hg : lcGo _ _ _ _ _ = r
        obtain ⟨s', rfl, o, rfl⟩ : ∃ s', r = some (.val ([] ++ (l.filter (fun y => !decide (y = x))).map .int) s') ∧ (fun s => ∃ o, s = (⟨[some p, some lf, some (.dc .own (.t st.1) st.2), some (.tup (l.map .int)), some (.lst .own [.int x]), some (.kt [1, x]), o6, o, o8, o9], os⟩ : S)) s' := by
          rw [← hg]
          refine lcGo_filt (fun s => ∃ o, s = (⟨[some p, some lf, some (.dc .own (.t st.1) st.2), some (.tup (l.map .int)), some (.lst .own [.int x]), some (.kt [1, x]), o6, o, o8, o9], os⟩ : S)) (fun y => !decide (y = x)) l [] _ (fun y hy s hs => ?_) ⟨none, rfl⟩ (by simp [lim]; omega)
          obtain ⟨o, rfl⟩ := hs
          refine ⟨⟨[some p, some lf, some (.dc .own (.t st.1) st.2), some (.tup (l.map .int)), some (.lst .own [.int x]), some (.kt [1, x]), o6, some (.int y), o8, o9], os⟩, ?_, _, rfl⟩
          by_cases hq : y = x <;> simp [execs, exec, ev, evs, evc, evo, evIt, evOps, fillC, ioSl, putB, evPk, evFz, opd, isVar, hasV, fill1, fillP, asg, asgs, Den.view, rdV, mvV, setS, shal_own, shal_fz, shal_ro, shal_int, shal_bl, shal_str, shal_non, shal_tup, fz, fzL, fzO, bnd, ret, lift, Den.thn, sthn, idxD, opF, addD, subD, mulD, modD, fdivD, negD, notD, isNonD, cmpD, grd, isLst, setiM, biF, lenF, small, mutL, smallR, lim, flatD, wipeD, hq]
        simp [execs, exec, ev, evs, evc, evo, evIt, evOps, fillC, ioSl, putB, evPk, evFz, opd, isVar, hasV, fill1, fillP, asg, asgs, Den.view, rdV, mvV, setS, shal_own, shal_fz, shal_ro, shal_int, shal_bl, shal_str, shal_non, shal_tup, fz, fzL, fzO, bnd, ret, lift, Den.thn, sthn, idxD, opF, addD, subD, mulD, modD, fdivD, negD, notD, isNonD, cmpD, grd, isLst, setiM, biF, lenF, small, mutL, smallR, lim, flatD, isDc, dgetM, didxM, keysM, dsetM, dcGet, dcPut, keyT, eqKeys_eq, inKeys_eq, restD, tupleF, hz2, hK, itemsD, dcPut, hft]
      · rw [hK] at hf hKl
        have hf' : fzL K = K := hf
        have hKl' : K.length < 1000 := hKl
        have l1 : K.length + 1 ≤ 1000000 := by omega
        have ha : ∀ l' : List Int, fzL (K ++ [D.tup (l'.map .int)]) = K ++ [D.tup (l'.map .int)] := fun l' => by
          rw [fzL_app, hf']
          simp [fzL, fz]
        simp [tN, execs, exec, ev, evs, evc, evo, evIt, evOps, fillC, ioSl, putB, evPk, evFz, opd, isVar, hasV, fill1, fillP, asg, asgs, Den.view, rdV, mvV, setS, shal_own, shal_fz, shal_ro, shal_int, shal_bl, shal_str, shal_non, shal_tup, fz, fzL, fzO, bnd, ret, lift, Den.thn, sthn, idxD, opF, addD, subD, mulD, modD, fdivD, negD, notD, isNonD, cmpD, grd, isLst, setiM, biF, lenF, small, mutL, smallR, lim, flatD, isDc, dgetM, didxM, keysM, dsetM, dcGet, dcPut, keyT, eqKeys_eq, inKeys_eq, tupI, wipeD, hK, itemsD, min2F, intsOf, hf', l1, ha]
        generalize hg : lcGo _ _ _ _ _ = r
        obtain ⟨s', rfl, o, rfl⟩ : ∃ s', r = some (.val ([] ++ (l.filter (fun y => !decide (y = x))).map .int) s') ∧ (fun s => ∃ o, s = (⟨[some p, some lf, some (.dc .own (.t st.1) st.2), some (.tup (l.map .int)), some (.lst .own [.int x]), some (.kt [1, x]), o6, o, o8, o9], os⟩ : S)) s' := by
          rw [← hg]
          refine lcGo_filt (fun s => ∃ o, s = (⟨[some p, some lf, some (.dc .own (.t st.1) st.2), some (.tup (l.map .int)), some (.lst .own [.int x]), some (.kt [1, x]), o6, o, o8, o9], os⟩ : S)) (fun y => !decide (y = x)) l [] _ (fun y hy s hs => ?_) ⟨none, rfl⟩ (by simp [lim]; omega)
          obtain ⟨o, rfl⟩ := hs
          refine ⟨⟨[some p, some lf, some (.dc .own (.t st.1) st.2), some (.tup (l.map .int)), some (.lst .own [.int x]), some (.kt [1, x]), o6, some (.int y), o8, o9], os⟩, ?_, _, rfl⟩
          by_cases hq : y = x <;> simp [execs, exec, ev, evs, evc, evo, evIt, evOps, fillC, ioSl, putB, evPk, evFz, opd, isVar, hasV, fill1, fillP, asg, asgs, Den.view, rdV, mvV, setS, shal_own, shal_fz, shal_ro, shal_int, shal_bl, shal_str, shal_non, shal_tup, fz, fzL, fzO, bnd, ret, lift, Den.thn, sthn, idxD, opF, addD, subD, mulD, modD, fdivD, negD, notD, isNonD, cmpD, grd, isLst, setiM, biF, lenF, small, mutL, smallR, lim, flatD, wipeD, hq]
        simp [execs, exec, ev, evs, evc, evo, evIt, evOps, fillC, ioSl, putB, evPk, evFz, opd, isVar, hasV, fill1, fillP, asg, asgs, Den.view, rdV, mvV, setS, shal_own, shal_fz, shal_ro, shal_int, shal_bl, shal_str, shal_non, shal_tup, fz, fzL, fzO, bnd, ret, lift, Den.thn, sthn, idxD, opF, addD, subD, mulD, modD, fdivD, negD, notD, isNonD, cmpD, grd, isLst, setiM, biF, lenF, small, mutL, smallR, lim, flatD, isDc, dgetM, didxM, keysM, dsetM, dcGet, dcPut, keyT, eqKeys_eq, inKeys_eq, restD, tupleF, hz2, hK, itemsD, dcPut, hft, hf', l1, ha]
    | x :: y' :: rs, hK, hKl, hf =>
      simp only at hK hKl hf ⊢
      have e1 : ¬ ((rs.length : Int) + 1 + 1 < 2) := by omega
      have e2 : ¬ ((rs.length : Int) + 1 + 1 = 1) := by omega
      have e3 : ¬ ((rs.length : Int) + 1 + 1 ≤ 1) := by omega
      have e4 : ¬ ((rs.length + 1 + 1 : Nat) = 1) := by omega
      rcases hK with hK | hK
      · simp [tN, execs, exec, ev, evs, evc, evo, evIt, evOps, fillC, ioSl, putB, evPk, evFz, opd, isVar, hasV, fill1, fillP, asg, asgs, Den.view, rdV, mvV, setS, shal_own, shal_fz, shal_ro, shal_int, shal_bl, shal_str, shal_non, shal_tup, fz, fzL, fzO, bnd, ret, lift, Den.thn, sthn, idxD, opF, addD, subD, mulD, modD, fdivD, negD, notD, isNonD, cmpD, grd, isLst, setiM, biF, lenF, small, mutL, smallR, lim, flatD, isDc, dgetM, didxM, keysM, dsetM, dcGet, dcPut, keyT, eqKeys_eq, inKeys_eq, tupI, wipeD, hK, itemsD, min2F, intsOf, e1, e2, e3, e4]
        generalize hg : lcGo _ _ _ _ _ = r
        obtain ⟨s', rfl, o, rfl⟩ : ∃ s', r = some (.val ([] ++ (l.filter (fun _ => true)).map .int) s') ∧ (fun s => ∃ o, s = (⟨[some p, some lf, some (.dc .own (.t st.1) st.2), some (.tup (l.map .int)), some (.lst .own (.int x :: .int y' :: rs.map .int)), some (.kt [2, 0]), o6, o, o8, o9], os⟩ : S)) s' := by
          rw [← hg]
          refine lcGo_filt (fun s => ∃ o, s = (⟨[some p, some lf, some (.dc .own (.t st.1) st.2), some (.tup (l.map .int)), some (.lst .own (.int x :: .int y' :: rs.map .int)), some (.kt [2, 0]), o6, o, o8, o9], os⟩ : S)) (fun _ => true) l [] _ (fun y hy s hs => ?_) ⟨none, rfl⟩ (by simp [lim]; omega)
          obtain ⟨o, rfl⟩ := hs
          refine ⟨⟨[some p, some lf, some (.dc .own (.t st.1) st.2), some (.tup (l.map .int)), some (.lst .own (.int x :: .int y' :: rs.map .int)), some (.kt [2, 0]), o6, some (.int y), o8, o9], os⟩, ?_, _, rfl⟩
          simp [execs, exec, ev, evs, evc, evo, evIt, evOps, fillC, ioSl, putB, evPk, evFz, opd, isVar, hasV, fill1, fillP, asg, asgs, Den.view, rdV, mvV, setS, shal_own, shal_fz, shal_ro, shal_int, shal_bl, shal_str, shal_non, shal_tup, fz, fzL, fzO, bnd, ret, lift, Den.thn, sthn, idxD, opF, addD, subD, mulD, modD, fdivD, negD, notD, isNonD, cmpD, grd, isLst, setiM, biF, lenF, small, mutL, smallR, lim, flatD, wipeD, e1, e2, e3, e4]
        simp [execs, exec, ev, evs, evc, evo, evIt, evOps, fillC, ioSl, putB, evPk, evFz, opd, isVar, hasV, fill1, fillP, asg, asgs, Den.view, rdV, mvV, setS, shal_own, shal_fz, shal_ro, shal_int, shal_bl, shal_str, shal_non, shal_tup, fz, fzL, fzO, bnd, ret, lift, Den.thn, sthn, idxD, opF, addD, subD, mulD, modD, fdivD, negD, notD, isNonD, cmpD, grd, isLst, setiM, biF, lenF, small, mutL, smallR, lim, flatD, isDc, dgetM, didxM, keysM, dsetM, dcGet, dcPut, keyT, eqKeys_eq, inKeys_eq, restD, tupleF, hz2, hK, itemsD, dcPut, hft]
      · rw [hK] at hf hKl
        have hf' : fzL K = K := hf
        have hKl' : K.length < 1000 := hKl
        have l1 : K.length + 1 ≤ 1000000 := by omega
        have ha : ∀ l' : List Int, fzL (K ++ [D.tup (l'.map .int)]) = K ++ [D.tup (l'.map .int)] := fun l' => by
          rw [fzL_app, hf']
          simp [fzL, fz]
        simp [tN, execs, exec, ev, evs, evc, evo, evIt, evOps, fillC, ioSl, putB, evPk, evFz, opd, isVar, hasV, fill1, fillP, asg, asgs, Den.view, rdV, mvV, setS, shal_own, shal_fz, shal_ro, shal_int, shal_bl, shal_str, shal_non, shal_tup, fz, fzL, fzO, bnd, ret, lift, Den.thn, sthn, idxD, opF, addD, subD, mulD, modD, fdivD, negD, notD, isNonD, cmpD, grd, isLst, setiM, biF, lenF, small, mutL, smallR, lim, flatD, isDc, dgetM, didxM, keysM, dsetM, dcGet, dcPut, keyT, eqKeys_eq, inKeys_eq, tupI, wipeD, hK, itemsD, min2F, intsOf, e1, e2, e3, e4, hf', l1, ha]
        generalize hg : lcGo _ _ _ _ _ = r
        obtain ⟨s', rfl, o, rfl⟩ : ∃ s', r = some (.val ([] ++ (l.filter (fun _ => true)).map .int) s') ∧ (fun s => ∃ o, s = (⟨[some p, some lf, some (.dc .own (.t st.1) st.2), some (.tup (l.map .int)), some (.lst .own (.int x :: .int y' :: rs.map .int)), some (.kt [2, 0]), o6, o, o8, o9], os⟩ : S)) s' := by
          rw [← hg]
          refine lcGo_filt (fun s => ∃ o, s = (⟨[some p, some lf, some (.dc .own (.t st.1) st.2), some (.tup (l.map .int)), some (.lst .own (.int x :: .int y' :: rs.map .int)), some (.kt [2, 0]), o6, o, o8, o9], os⟩ : S)) (fun _ => true) l [] _ (fun y hy s hs => ?_) ⟨none, rfl⟩ (by simp [lim]; omega)
          obtain ⟨o, rfl⟩ := hs
          refine ⟨⟨[some p, some lf, some (.dc .own (.t st.1) st.2), some (.tup (l.map .int)), some (.lst .own (.int x :: .int y' :: rs.map .int)), some (.kt [2, 0]), o6, some (.int y), o8, o9], os⟩, ?_, _, rfl⟩
          simp [execs, exec, ev, evs, evc, evo, evIt, evOps, fillC, ioSl, putB, evPk, evFz, opd, isVar, hasV, fill1, fillP, asg, asgs, Den.view, rdV, mvV, setS, shal_own, shal_fz, shal_ro, shal_int, shal_bl, shal_str, shal_non, shal_tup, fz, fzL, fzO, bnd, ret, lift, Den.thn, sthn, idxD, opF, addD, subD, mulD, modD, fdivD, negD, notD, isNonD, cmpD, grd, isLst, setiM, biF, lenF, small, mutL, smallR, lim, flatD, wipeD, e1, e2, e3, e4]
        simp [execs, exec, ev, evs, evc, evo, evIt, evOps, fillC, ioSl, putB, evPk, evFz, opd, isVar, hasV, fill1, fillP, asg, asgs, Den.view, rdV, mvV, setS, shal_own, shal_fz, shal_ro, shal_int, shal_bl, shal_str, shal_non, shal_tup, fz, fzL, fzO, bnd, ret, lift, Den.thn, sthn, idxD, opF, addD, subD, mulD, modD, fdivD, negD, notD, isNonD, cmpD, grd, isLst, setiM, biF, lenF, small, mutL, smallR, lim, flatD, isDc, dgetM, didxM, keysM, dsetM, dcGet, dcPut, keyT, eqKeys_eq, inKeys_eq, restD, tupleF, hz2, hK, itemsD, dcPut, hft, hf', l1, ha]
  obtain ⟨a4, a5, t12⟩ := t12
  refine ⟨some (tupI l), a4, a5, o6, o7, ?_⟩
  unfold bodyF
  rw [eb]
  unfold execs
  simp only [Den.thn, sthn, asg]
  simp [setS, t0, t12]
end Den
/-! Nj15: the look for idle asks, whole; the number of asks. -/
namespace Den
open PySem PySem.Spec L2
variable {n : Nat} {os : List Ob}
theorem fn_law_idle {n : Nat} : (TT (n + 1)).fn "_law_idle" = some ⟨[.val, .val], runB (TT n) 10 [.val, .val] b__law_idle⟩ := rfl
theorem id_loop {m : Int} {k : Nat} {ns : List Int} {si no p : D} {hs : List D} {L : List (List Int)} (ep : p = askD ns si hs no) (h1 : VP m k si) (h2 : ∀ d ∈ hs, VP m k d) (h3 : VP m k no) (len : hs.length = ns.length) (hl : ns.length ≤ 8) (hl2 : ∀ l ∈ L, l.length ≤ 8) (hL : L.length ≤ 300) :
    ∃ a3 a4 a5 a6 a7, forGo (bodyF (TT n) (.nm 3) lb__law_idle_1) (L.map tupI) ⟨[some p, some (.lst .fz (L.map tupI)), some (.dc .own (.t []) []), none, none, none, none, none, none, none], os⟩ = some (.nx ⟨[some p, some (.lst .fz (L.map tupI)), some (.dc .own (.t (bhF ns L).1) (bhF ns L).2), a3, a4, a5, a6, a7, none, none], os⟩) := by
  obtain ⟨s', e, a3, a4, a5, a6, a7, rfl⟩ := forGo_ex (f := bodyF (TT n) (.nm 3) lb__law_idle_1) (fun (i : Nat) s => ∃ a3 a4 a5 a6 a7, s = (⟨[some p, some (.lst .fz (L.map tupI)), some (.dc .own (.t (bhF ns (L.take i)).1) (bhF ns (L.take i)).2), a3, a4, a5, a6, a7, none, none], os⟩ : S)) (L.map tupI) 0 (fun i x s hx hs => by
    obtain ⟨a3, a4, a5, a6, a7, rfl⟩ := hs
    rw [List.getElem?_map] at hx
    obtain ⟨l, hxl, rfl⟩ := Option.map_eq_some_iff.mp hx
    have hlm := List.mem_of_getElem? hxl
    obtain ⟨b1, b2, b3, b4, b5⟩ := bhF_ok ns (L.take (0 + i))
    have hbl : ∀ k, (byK ns (L.take (0 + i)) k).length ≤ 300 := fun k => by
      have := byK_len (ns := ns) (L := L.take (0 + i)) (k := k)
      rw [List.length_take] at this
      omega
    obtain ⟨c3, c4, c5, c6, c7, e⟩ := id_turn (n := n) (os := os) (l := l) (lf := .lst .fz (L.map tupI)) (st := bhF ns (L.take (0 + i))) (o3 := a3) (o4 := a4) (o5 := a5) (o6 := a6) (o7 := a7) (o8 := none) (o9 := none) ep h1 h2 h3 len hl (hl2 l hlm) (fun k => by
      refine ⟨(byK ns (L.take (0 + i)) k).map tupI, ?_, ?_⟩
      · rw [b5]
        by_cases z : byK ns (L.take (0 + i)) k = []
        · rw [if_pos z]; exact .inl rfl
        · rw [if_neg z]; exact .inr rfl
      · rw [b5]
        have := hbl k
        by_cases z : byK ns (L.take (0 + i)) k = []
        · rw [if_pos z]; simp [itemsD]
        · rw [if_neg z]; simp [itemsD]; simp only [Nat.zero_add] at this; omega) (fun k => by
      rw [b5]
      by_cases z : byK ns (L.take (0 + i)) k = []
      · rw [if_pos z]; rfl
      · rw [if_neg z]; exact tups_fz _) (by rw [List.length_take] at b3; omega)
    refine ⟨_, e, c3, c4, c5, c6, c7, ?_⟩
    rw [← bhF_snoc]
    have ht : L.take (0 + i) ++ [l] = L.take (0 + i + 1) := by
      rw [Nat.zero_add, List.take_add_one, hxl]; rfl
    rw [ht]) ⟨[some p, some (.lst .fz (L.map tupI)), some (.dc .own (.t []) []), none, none, none, none, none, none, none], os⟩ ⟨none, none, none, none, none, by simp [bhF]⟩
  simp only [Nat.zero_add, List.length_map, List.take_length] at e
  exact ⟨a3, a4, a5, a6, a7, e⟩
theorem s_law_idle {m : Int} (hm : m ≤ 8) : ∀ (k n : Nat) {p : D} {L : List (List Int)}, VP m k p → k ≤ 20 → k < n → (∀ l ∈ L, l.length ≤ 8) → L.length ≤ 300 → runB (TT n) 10 [.val, .val] b__law_idle [p, .lst .fz (L.map tupI)] os = some (.ret (.bl (idleF k p L)) [] os) := by
  have hend : ∀ (k n : Nat) (L : List (List Int)), runB (TT n) 10 [.val, .val] b__law_idle [endD, .lst .fz (L.map tupI)] os = some (.ret (.bl (idleF k endD L)) [] os) := fun k n L => by
    have i0 : idxD endD (.int 0) = some (.str [101, 110, 100]) := rfl
    have e0 : idleF k endD L = false := by cases k <;> rfl
    rw [e0]
    unfold runB b__law_idle startS
    simp [execs, exec, ev, evs, evc, evo, evIt, evOps, fillC, ioSl, putB, evPk, evFz, opd, isVar, hasV, fill1, fillP, asg, asgs, Den.view, rdV, mvV, setS, shal_own, shal_fz, shal_ro, shal_int, shal_bl, shal_str, shal_non, shal_tup, fz, fzL, fzO, bnd, ret, lift, Den.thn, sthn, idxD, opF, addD, subD, mulD, modD, fdivD, negD, notD, isNonD, cmpD, grd, isLst, setiM, biF, lenF, small, mutL, smallR, lim, flatD, -idxD, fz_end, shal_end, i0, eq_end_endS, outsOf]
  intro k
  induction k with
  | zero => intro n p L h _ _ _ _; rw [h]; exact hend 0 n L
  | succ k ih =>
    intro n p L h hk hn hl2 hL
    rcases h with h | ⟨ns, si, hs, no, e, r, len, h1, h2, h3⟩
    · rw [h]; exact hend _ n L
    · obtain ⟨n, rfl⟩ : ∃ j, n = j + 1 := ⟨n - 1, by omega⟩
      have hnl : ns.length ≤ 8 := by have := r.len; omega
      have f1 := h1.fz
      have f2 := fzL_id fun d hd => (h2 d hd).fz
      have f3 := h3.fz
      have fa := fz_ask (ns := ns) f1 f2 f3
      have i0 : idxD (askD ns si hs no) (.int 0) = some (.str [97, 115, 107]) := rfl
      have i1 : idxD (askD ns si hs no) (.int 1) = some (.tup (ns.map .int)) := rfl
      have i2 : idxD (askD ns si hs no) (.int 2) = some si := rfl
      have i3 : idxD (askD ns si hs no) (.int 3) = some (.tup hs) := rfl
      have i4 : idxD (askD ns si hs no) (.int 4) = some no := rfl
      have fL := tups_fz L
      have et : idleF (k + 1) p L = (if L = [] ∨ allK ns L [0, 0] = true ∨ allK ns L [2, 0] = true then true else
        idleF k si (byK ns L [0, 0]) || (idleF k no (byK ns L [2, 0]) || (ns.zip hs).any fun p => idleF k p.2 (byK ns L [1, p.1]))) := by rw [e, idleF, askOf_ask]
      obtain ⟨a3, a4, a5, a6, a7, eloop⟩ := id_loop (n := n + 1) (os := os) e h1 h2 h3 len hnl hl2 hL
      have sa := shal_ask fa
      rw [et]
      clear et
      rw [← e] at *
      have eb : b__law_idle = .cons (tN b__law_idle 0) (.cons (tN b__law_idle 1) (.cons (tN b__law_idle 2) (.cons (tN b__law_idle 3) (.cons (tN b__law_idle 4) (.cons (tN b__law_idle 5) (.cons (tN b__law_idle 6) .nil)))))) := rfl
      have t0 : exec (TT (n + 1)) (tN b__law_idle 0) ⟨[some p, some (.lst .fz (L.map tupI)), none, none, none, none, none, none, none, none], os⟩ = some (.nx ⟨[some p, some (.lst .fz (L.map tupI)), none, none, none, none, none, none, none, none], os⟩) := by
        unfold b__law_idle
        simp [tN, execs, exec, ev, evs, evc, evo, evIt, evOps, fillC, ioSl, putB, evPk, evFz, opd, isVar, hasV, fill1, fillP, asg, asgs, Den.view, rdV, mvV, setS, shal_own, shal_fz, shal_ro, shal_int, shal_bl, shal_str, shal_non, shal_tup, fz, fzL, fzO, bnd, ret, lift, Den.thn, sthn, idxD, opF, addD, subD, mulD, modD, fdivD, negD, notD, isNonD, cmpD, grd, isLst, setiM, biF, lenF, small, mutL, smallR, lim, flatD, -idxD, fa, sa, i0, eq_ask_endS]
      have t1 : exec (TT (n + 1)) (tN b__law_idle 1) ⟨[some p, some (.lst .fz (L.map tupI)), none, none, none, none, none, none, none, none], os⟩ = some (.nx ⟨[some p, some (.lst .fz (L.map tupI)), some (.dc .own (.t []) []), none, none, none, none, none, none, none], os⟩) := by
        unfold b__law_idle
        simp [tN, execs, exec, ev, evs, evc, evo, evIt, evOps, fillC, ioSl, putB, evPk, evFz, opd, isVar, hasV, fill1, fillP, asg, asgs, Den.view, rdV, mvV, setS, shal_own, shal_fz, shal_ro, shal_int, shal_bl, shal_str, shal_non, shal_tup, fz, fzL, fzO, bnd, ret, lift, Den.thn, sthn, idxD, opF, addD, subD, mulD, modD, fdivD, negD, notD, isNonD, cmpD, grd, isLst, setiM, biF, lenF, small, mutL, smallR, lim, flatD]
      have t2 : exec (TT (n + 1)) (tN b__law_idle 2) ⟨[some p, some (.lst .fz (L.map tupI)), some (.dc .own (.t []) []), none, none, none, none, none, none, none], os⟩ = some (.nx ⟨[some p, some (.lst .fz (L.map tupI)), some (.dc .own (.t (bhF ns L).1) (bhF ns L).2), a3, a4, a5, a6, a7, none, none], os⟩) := by
        refine (exec_for ?_).trans eloop
        simp [execs, exec, ev, evs, evc, evo, evIt, evOps, fillC, ioSl, putB, evPk, evFz, opd, isVar, hasV, fill1, fillP, asg, asgs, Den.view, rdV, mvV, setS, shal_own, shal_fz, shal_ro, shal_int, shal_bl, shal_str, shal_non, shal_tup, fz, fzL, fzO, bnd, ret, lift, Den.thn, sthn, idxD, opF, addD, subD, mulD, modD, fdivD, negD, notD, isNonD, cmpD, grd, isLst, setiM, biF, lenF, small, mutL, smallR, lim, flatD, fL]
      have kin : (bhF ns L).1 ∈ ([[], [[0, 0]], [[2, 0]]] : List (List (List Int))) ↔ (L = [] ∨ allK ns L [0, 0] = true ∨ allK ns L [2, 0] = true) := by
        simp only [List.mem_cons, List.not_mem_nil, or_false]
        by_cases hLn : L = []
        · subst hLn
          exact ⟨fun _ => .inl rfl, fun _ => .inl (bhF_nil.mpr rfl)⟩
        · rw [bhF_nil, bhF_one hLn, bhF_one hLn]
      by_cases hc : L = [] ∨ allK ns L [0, 0] = true ∨ allK ns L [2, 0] = true
      · rw [if_pos hc]
        have hi : inKeys (bhF ns L).1 [[], [[0, 0]], [[2, 0]]] = some true := by rw [inKeys_eq, decide_eq_true (kin.mpr hc)]
        have t3 : exec (TT (n + 1)) (tN b__law_idle 3) ⟨[some p, some (.lst .fz (L.map tupI)), some (.dc .own (.t (bhF ns L).1) (bhF ns L).2), a3, a4, a5, a6, a7, none, none], os⟩ = some (.rt (.bl true) ⟨[some p, some (.lst .fz (L.map tupI)), some (.dc .own (.t (bhF ns L).1) (bhF ns L).2), a3, a4, a5, a6, a7, none, none], os⟩) := by
          generalize bhF ns L = st at *
          unfold b__law_idle
          simp [tN, execs, exec, ev, evs, evc, evo, evIt, evOps, fillC, ioSl, putB, evPk, evFz, opd, isVar, hasV, fill1, fillP, asg, asgs, Den.view, rdV, mvV, setS, shal_own, shal_fz, shal_ro, shal_int, shal_bl, shal_str, shal_non, shal_tup, fz, fzL, fzO, bnd, ret, lift, Den.thn, sthn, idxD, opF, addD, subD, mulD, modD, fdivD, negD, notD, isNonD, cmpD, grd, isLst, setiM, biF, lenF, small, mutL, smallR, lim, flatD, keysM, hi]
        unfold runB startS
        rw [eb]
        simp [execs, t0, t1, t2, t3, outsOf]
      · rw [if_neg hc]
        have hi : inKeys (bhF ns L).1 [[], [[0, 0]], [[2, 0]]] = some false := by rw [inKeys_eq, decide_eq_false (fun z => hc (kin.mp z))]
        have t3 : exec (TT (n + 1)) (tN b__law_idle 3) ⟨[some p, some (.lst .fz (L.map tupI)), some (.dc .own (.t (bhF ns L).1) (bhF ns L).2), a3, a4, a5, a6, a7, none, none], os⟩ = some (.nx ⟨[some p, some (.lst .fz (L.map tupI)), some (.dc .own (.t (bhF ns L).1) (bhF ns L).2), a3, a4, a5, a6, a7, none, none], os⟩) := by
          generalize bhF ns L = st at *
          unfold b__law_idle
          simp [tN, execs, exec, ev, evs, evc, evo, evIt, evOps, fillC, ioSl, putB, evPk, evFz, opd, isVar, hasV, fill1, fillP, asg, asgs, Den.view, rdV, mvV, setS, shal_own, shal_fz, shal_ro, shal_int, shal_bl, shal_str, shal_non, shal_tup, fz, fzL, fzO, bnd, ret, lift, Den.thn, sthn, idxD, opF, addD, subD, mulD, modD, fdivD, negD, notD, isNonD, cmpD, grd, isLst, setiM, biF, lenF, small, mutL, smallR, lim, flatD, keysM, hi]
        have ei : ∀ {q : D} (kk : List Int), VP m k q → runB (TT n) 10 [.val, .val] b__law_idle [q, .lst .fz ((byK ns L kk).map tupI)] os = some (.ret (.bl (idleF k q (byK ns L kk))) [] os) := fun {q} kk v => ih n v (by omega) (by omega) (fun l hl => byK_mem hl hl2) (Nat.le_trans byK_len hL)
        have t4 : exec (TT (n + 1)) (tN b__law_idle 4) ⟨[some p, some (.lst .fz (L.map tupI)), some (.dc .own (.t (bhF ns L).1) (bhF ns L).2), a3, a4, a5, a6, a7, none, none], os⟩ = some (.nx ⟨[some p, some (.lst .fz (L.map tupI)), some (.dc .own (.t (bhF ns L).1) (bhF ns L).2), a3, a4, a5, a6, a7, some (.lst .own (([idleF k si (byK ns L [0, 0]), idleF k no (byK ns L [2, 0])] ++ ((ns.zip hs).take 0).map fun p => idleF k p.2 (byK ns L [1, p.1])).map .bl)), none], os⟩) := by
          have e0 := ei [0, 0] h1
          have e2 := ei [2, 0] h3
          have g0 := getD_fz ns L [0, 0]
          have g2 := getD_fz ns L [2, 0]
          have hd0 := dget_val (os := os) (ns := ns) (L := L) (k := [0, 0]) (o0 := some p) (o1 := some (.lst .fz (L.map tupI))) (o3 := a3) (o4 := a4) (o5 := a5) (o6 := a6) (o7 := a7) (o8 := none) (o9 := none)
          have hd2 := dget_val (os := os) (ns := ns) (L := L) (k := [2, 0]) (o0 := some p) (o1 := some (.lst .fz (L.map tupI))) (o3 := a3) (o4 := a4) (o5 := a5) (o6 := a6) (o7 := a7) (o8 := none) (o9 := none)
          generalize getD_ ns L [0, 0] = gg at *
          generalize getD_ ns L [2, 0] = gg2 at *
          generalize bhF ns L = st at *
          unfold b__law_idle
          simp [tN, execs, exec, ev, evs, evc, evo, evIt, evOps, fillC, ioSl, putB, evPk, evFz, opd, isVar, hasV, fill1, fillP, asg, asgs, Den.view, rdV, mvV, setS, shal_own, shal_fz, shal_ro, shal_int, shal_bl, shal_str, shal_non, shal_tup, fz, fzL, fzO, bnd, ret, lift, Den.thn, sthn, idxD, opF, addD, subD, mulD, modD, fdivD, negD, notD, isNonD, cmpD, grd, isLst, setiM, biF, lenF, small, mutL, smallR, lim, flatD, -idxD, fa, sa, i2, i4, f1, f3, isDc, intsOf, hd0, hd2, fn_law_idle, callF, g0, g2, e0, e2]
        have t5 : ∃ a9, exec (TT (n + 1)) (tN b__law_idle 5) ⟨[some p, some (.lst .fz (L.map tupI)), some (.dc .own (.t (bhF ns L).1) (bhF ns L).2), a3, a4, a5, a6, a7, some (.lst .own (([idleF k si (byK ns L [0, 0]), idleF k no (byK ns L [2, 0])] ++ ((ns.zip hs).take 0).map fun p => idleF k p.2 (byK ns L [1, p.1])).map .bl)), none], os⟩ = some (.nx ⟨[some p, some (.lst .fz (L.map tupI)), some (.dc .own (.t (bhF ns L).1) (bhF ns L).2), a3, a4, a5, a6, a7, some (.lst .own (([idleF k si (byK ns L [0, 0]), idleF k no (byK ns L [2, 0])] ++ (ns.zip hs).map fun p => idleF k p.2 (byK ns L [1, p.1])).map .bl)), a9], os⟩) := by
          have s1 : (ns.length : Int) ≤ 1000000 := by omega
          have s2 : -4611686018427387904 ≤ (ns.length : Int) := by omega
          have zl : (ns.zip hs).length = ns.length := by rw [List.length_zip]; omega
          generalize idleF k si (byK ns L [0, 0]) = b0
          generalize idleF k no (byK ns L [2, 0]) = b2
          have e1 := exec_for (Γ := TT (n + 1)) (tg := .nm 9) (it := .rng1 (.bi .len (.cons (.idx (.var 0) (.cst (.int 1))) .nil))) (b := lb__law_idle_0) (s := ⟨[some p, some (.lst .fz (L.map tupI)), some (.dc .own (.t (bhF ns L).1) (bhF ns L).2), a3, a4, a5, a6, a7, some (.lst .own (([b0, b2] ++ ((ns.zip hs).take 0).map fun p => idleF k p.2 (byK ns L [1, p.1])).map .bl)), none], os⟩) (s1 := ⟨[some p, some (.lst .fz (L.map tupI)), some (.dc .own (.t (bhF ns L).1) (bhF ns L).2), a3, a4, a5, a6, a7, some (.lst .own (([b0, b2] ++ ((ns.zip hs).take 0).map fun p => idleF k p.2 (byK ns L [1, p.1])).map .bl)), none], os⟩) (xs := rngL 0 (ns.length : Int)) (by simp [execs, exec, ev, evs, evc, evo, evIt, evOps, fillC, ioSl, putB, evPk, evFz, opd, isVar, hasV, fill1, fillP, asg, asgs, Den.view, rdV, mvV, setS, shal_own, shal_fz, shal_ro, shal_int, shal_bl, shal_str, shal_non, shal_tup, fz, fzL, fzO, bnd, ret, lift, Den.thn, sthn, idxD, opF, addD, subD, mulD, modD, fdivD, negD, notD, isNonD, cmpD, grd, isLst, setiM, biF, lenF, small, mutL, smallR, lim, flatD, -idxD, fa, sa, i1, s1, s2])
          obtain ⟨s', e3, a9, rfl⟩ := forGo_ex (f := bodyF (TT (n + 1)) (.nm 9) lb__law_idle_0) (fun (i : Nat) s => ∃ a9, s = (⟨[some p, some (.lst .fz (L.map tupI)), some (.dc .own (.t (bhF ns L).1) (bhF ns L).2), a3, a4, a5, a6, a7, some (.lst .own (([b0, b2] ++ ((ns.zip hs).take i).map fun p => idleF k p.2 (byK ns L [1, p.1])).map .bl)), a9], os⟩ : S)) (rngL 0 (ns.length : Int)) 0 (fun i x s hx hs' => by
            obtain ⟨a9, rfl⟩ := hs'
            obtain ⟨rfl, hil⟩ := rng_get hx
            rw [Nat.zero_add]
            have hz : (ns.zip hs)[i]? = some (ns.zip hs)[i] := List.getElem?_eq_getElem (by omega)
            generalize (ns.zip hs)[i] = q at hz
            have ht : (ns.zip hs).take (i + 1) = (ns.zip hs).take i ++ [q] := by
              rw [List.take_add_one, hz]; rfl
            rw [ht]
            have hzl : ((ns.zip hs).take i).length = i := by rw [List.length_take]; omega
            obtain ⟨g1, g2⟩ := List.getElem?_zip_eq_some.mp hz
            have hv := h2 q.2 (List.mem_of_getElem? g2)
            have eh := ei [1, q.1] hv
            have fx := hv.fz
            have j1 : idxD (.tup (ns.map .int)) (.int (i : Nat)) = some (.int q.1) := atI_nat (by rw [List.getElem?_map, g1]; rfl)
            have j2 : idxD (.tup hs) (.int (i : Nat)) = some q.2 := atI_nat g2
            refine ⟨⟨[some p, some (.lst .fz (L.map tupI)), some (.dc .own (.t (bhF ns L).1) (bhF ns L).2), a3, a4, a5, a6, a7, some (.lst .own (([b0, b2] ++ ((ns.zip hs).take i ++ [q]).map fun p => idleF k p.2 (byK ns L [1, p.1])).map .bl)), some (.int (i : Nat))], os⟩, ?_, _, rfl⟩
            generalize (ns.zip hs).take i = Z at hzl
            have fg := getD_fz ns L [1, q.1]
            have hdg := fun o8 => dget_val (os := os) (ns := ns) (L := L) (k := [1, q.1]) (o0 := some p) (o1 := some (.lst .fz (L.map tupI))) (o3 := a3) (o4 := a4) (o5 := a5) (o6 := a6) (o7 := a7) (o8 := o8) (o9 := some (.int (i : Nat)))
            have hll : Z.length + 1 + 1 < 1000000 := by omega
            generalize getD_ ns L [1, q.1] = gg at *
            generalize bhF ns L = st at *
            unfold bodyF lb__law_idle_0
            simp [execs, exec, ev, evs, evc, evo, evIt, evOps, fillC, ioSl, putB, evPk, evFz, opd, isVar, hasV, fill1, fillP, asg, asgs, Den.view, rdV, mvV, setS, shal_own, shal_fz, shal_ro, shal_int, shal_bl, shal_str, shal_non, shal_tup, fz, fzL, fzO, bnd, ret, lift, Den.thn, sthn, idxD, opF, addD, subD, mulD, modD, fdivD, negD, notD, isNonD, cmpD, grd, isLst, setiM, biF, lenF, small, mutL, smallR, lim, flatD, -idxD, fa, sa, i1, i3, f2, j1, j2, fx, isDc, intsOf, hdg, fn_law_idle, callF, fg, eh, muF, hll]) ⟨[some p, some (.lst .fz (L.map tupI)), some (.dc .own (.t (bhF ns L).1) (bhF ns L).2), a3, a4, a5, a6, a7, some (.lst .own (([b0, b2] ++ ((ns.zip hs).take 0).map fun p => idleF k p.2 (byK ns L [1, p.1])).map .bl)), none], os⟩ ⟨none, rfl⟩
          have hlen : (rngL 0 (ns.length : Int)).length = ns.length := by simp [rngL]
          rw [hlen, Nat.zero_add, ← zl, List.take_length] at e3
          rw [← zl] at e1
          exact ⟨a9, e1.trans e3⟩
        obtain ⟨a9, t5⟩ := t5
        have t6 : exec (TT (n + 1)) (tN b__law_idle 6) ⟨[some p, some (.lst .fz (L.map tupI)), some (.dc .own (.t (bhF ns L).1) (bhF ns L).2), a3, a4, a5, a6, a7, some (.lst .own (([idleF k si (byK ns L [0, 0]), idleF k no (byK ns L [2, 0])] ++ (ns.zip hs).map fun p => idleF k p.2 (byK ns L [1, p.1])).map .bl)), a9], os⟩ = some (.rt (.bl (([idleF k si (byK ns L [0, 0]), idleF k no (byK ns L [2, 0])] ++ (ns.zip hs).map fun p => idleF k p.2 (byK ns L [1, p.1])).any id)) ⟨[some p, some (.lst .fz (L.map tupI)), some (.dc .own (.t (bhF ns L).1) (bhF ns L).2), a3, a4, a5, a6, a7, some (.lst .own (([idleF k si (byK ns L [0, 0]), idleF k no (byK ns L [2, 0])] ++ (ns.zip hs).map fun p => idleF k p.2 (byK ns L [1, p.1])).map .bl)), a9], os⟩) := by
          generalize ([idleF k si (byK ns L [0, 0]), idleF k no (byK ns L [2, 0])] ++ (ns.zip hs).map fun p => idleF k p.2 (byK ns L [1, p.1])) = bs
          have fb : fzL (bs.map D.bl) = bs.map .bl := fzL_id fun d hd => by
            obtain ⟨b, _, rfl⟩ := List.mem_map.mp hd
            rfl
          unfold b__law_idle
          simp [tN, execs, exec, ev, evs, evc, evo, evIt, evOps, fillC, ioSl, putB, evPk, evFz, opd, isVar, hasV, fill1, fillP, asg, asgs, Den.view, rdV, mvV, setS, shal_own, shal_fz, shal_ro, shal_int, shal_bl, shal_str, shal_non, shal_tup, fz, fzL, fzO, bnd, ret, lift, Den.thn, sthn, idxD, opF, addD, subD, mulD, modD, fdivD, negD, notD, isNonD, cmpD, grd, isLst, setiM, biF, lenF, small, mutL, smallR, lim, flatD, fb, inD_bls]
        have hany : ([idleF k si (byK ns L [0, 0]), idleF k no (byK ns L [2, 0])] ++ (ns.zip hs).map fun p => idleF k p.2 (byK ns L [1, p.1])).any id = (idleF k si (byK ns L [0, 0]) || (idleF k no (byK ns L [2, 0]) || (ns.zip hs).any fun p => idleF k p.2 (byK ns L [1, p.1]))) := by
          rw [List.any_append, List.any_map]
          simp [Bool.or_assoc]
        rw [hany] at t6
        generalize (([idleF k si (byK ns L [0, 0]), idleF k no (byK ns L [2, 0])] ++ ((ns.zip hs).take 0).map fun p => idleF k p.2 (byK ns L [1, p.1])).map D.bl) = V0 at t4 t5
        generalize (([idleF k si (byK ns L [0, 0]), idleF k no (byK ns L [2, 0])] ++ (ns.zip hs).map fun p => idleF k p.2 (byK ns L [1, p.1])).map D.bl) = V1 at t5 t6
        unfold runB startS
        rw [eb]
        simp [execs, t0, t1, t2, t3, t4, t5, t6, outsOf]
end Den
/-! Nk15: the number of asks; trimmed; judged of two plans. -/
namespace Den
open PySem PySem.Spec L2
variable {n : Nat} {os : List Ob}
theorem fn_law_parts {n : Nat} : (TT (n + 1)).fn "_law_parts" = some ⟨[.val], runB (TT n) 2 [.val] b__law_parts⟩ := rfl
theorem sum_cast {α : Type} (f : α → Nat) : ∀ l : List α, ((l.map fun x => ((f x : Nat) : Int)).sum) = (((l.map f).sum : Nat) : Int)
  | [] => rfl
  | x :: l => by simp only [List.map_cons, List.sum_cons, sum_cast f l]; omega
theorem s_law_parts {m : Int} (hm : m ≤ 8) : ∀ (k n : Nat) {p : D}, VP m k p → k < n → runB (TT n) 2 [.val] b__law_parts [p] os = some (.ret (.int (partsF k p)) [] os) := by
  have hend : ∀ (k n : Nat), runB (TT n) 2 [.val] b__law_parts [endD] os = some (.ret (.int (partsF k endD)) [] os) := fun k n => by
    have i0 : idxD endD (.int 0) = some (.str [101, 110, 100]) := rfl
    have e0 : partsF k endD = 0 := by cases k <;> rfl
    rw [e0]
    unfold runB b__law_parts startS
    simp [execs, exec, ev, evs, evc, evo, evIt, evOps, fillC, ioSl, putB, evPk, evFz, opd, isVar, hasV, fill1, fillP, asg, asgs, Den.view, rdV, mvV, setS, shal_own, shal_fz, shal_ro, shal_int, shal_bl, shal_str, shal_non, shal_tup, fz, fzL, fzO, bnd, ret, lift, Den.thn, sthn, idxD, opF, addD, subD, mulD, modD, fdivD, negD, notD, isNonD, cmpD, grd, isLst, setiM, biF, lenF, small, mutL, smallR, lim, flatD, -idxD, fz_end, shal_end, i0, eq_end_endS, outsOf]
  intro k
  induction k with
  | zero => intro n p h _; rw [h]; exact hend 0 n
  | succ k ih =>
    intro n p h hn
    rcases h with h | ⟨ns, si, hs, no, e, r, len, h1, h2, h3⟩
    · rw [h]; exact hend _ n
    · obtain ⟨n, rfl⟩ : ∃ j, n = j + 1 := ⟨n - 1, by omega⟩
      have hnl : ns.length ≤ 8 := by have := r.len; omega
      have f1 := h1.fz
      have f2 := fzL_id fun d hd => (h2 d hd).fz
      have f3 := h3.fz
      have fa := fz_ask (ns := ns) f1 f2 f3
      have i0 : idxD (askD ns si hs no) (.int 0) = some (.str [97, 115, 107]) := rfl
      have i2 : idxD (askD ns si hs no) (.int 2) = some si := rfl
      have i3 : idxD (askD ns si hs no) (.int 3) = some (.tup hs) := rfl
      have i4 : idxD (askD ns si hs no) (.int 4) = some no := rfl
      have et : partsF (k + 1) p = 1 + partsF k si + (hs.map (partsF k)).sum + partsF k no := by rw [e, partsF, askOf_ask]
      have sa := shal_ask fa
      rw [et]
      clear et
      rw [← e] at *
      have l1 : 1 + hs.length ≤ 1000000 := by omega
      have l2 : hs.length + 1 ≤ 1000000 := by omega
      have l3 : hs.length + 1 + 1 ≤ 1000000 := by omega
      have l4 : 1 + hs.length + 1 ≤ 1000000 := by omega
      have hall : ∀ x ∈ si :: (hs ++ [no]), VP m k x := fun x hx => by
        rcases List.mem_cons.mp hx with rfl | hx
        · exact h1
        · rcases List.mem_append.mp hx with hx | hx
          · exact h2 x hx
          · rw [List.mem_singleton.mp hx]; exact h3
      have hfx : fzL (si :: (hs ++ [no])) = si :: (hs ++ [no]) := fzL_id fun d hd => (hall d hd).fz
      have hfx2 : fzL (hs ++ [no]) = hs ++ [no] := fzL_id fun d hd => (hall d (List.mem_cons_of_mem _ hd)).fz
      unfold runB b__law_parts startS
      simp [execs, exec, ev, evs, evc, evo, evIt, evOps, fillC, ioSl, putB, evPk, evFz, opd, isVar, hasV, fill1, fillP, asg, asgs, Den.view, rdV, mvV, setS, shal_own, shal_fz, shal_ro, shal_int, shal_bl, shal_str, shal_non, shal_tup, fz, fzL, fzO, bnd, ret, lift, Den.thn, sthn, idxD, opF, addD, subD, mulD, modD, fdivD, negD, notD, isNonD, cmpD, grd, isLst, setiM, biF, lenF, small, mutL, smallR, lim, flatD, -idxD, fa, sa, i0, i2, i3, i4, f1, f2, f3, eq_ask_endS, l1, l2, l3, l4, hfx2, wipeD]
      generalize hg : lcGo _ _ _ _ _ = r
      obtain ⟨s', rfl, o, rfl⟩ : ∃ s', r = some (.val ([] ++ (si :: (hs ++ [no])).map fun x => .int ((partsF k x : Nat) : Int)) s') ∧ (fun s => ∃ o, s = (⟨[some p, o], os⟩ : S)) s' := by
        rw [← hg]
        have hmm : si :: (hs ++ [no]) = (si :: (hs ++ [no])).map id := by rw [List.map_id]
        rw [show lcGo _ _ (si :: (hs ++ [no])) _ _ = lcGo _ _ ((si :: (hs ++ [no])).map id) _ _ by rw [← hmm]]
        refine lcGo_m id (fun s => ∃ o, s = (⟨[some p, o], os⟩ : S)) (fun x => D.int ((partsF k x : Nat) : Int)) (si :: (hs ++ [no])) [] _ (fun x hx s hs' => ?_) ⟨none, rfl⟩ (by simp [lim]; omega)
        obtain ⟨o, rfl⟩ := hs'
        have hv := hall x hx
        have ex := ih n hv (by omega)
        have fx := hv.fz
        refine ⟨⟨[some p, some x], os⟩, ?_, _, rfl⟩
        simp [execs, exec, ev, evs, evc, evo, evIt, evOps, fillC, ioSl, putB, evPk, evFz, opd, isVar, hasV, fill1, fillP, asg, asgs, Den.view, rdV, mvV, setS, shal_own, shal_fz, shal_ro, shal_int, shal_bl, shal_str, shal_non, shal_tup, fz, fzL, fzO, bnd, ret, lift, Den.thn, sthn, idxD, opF, addD, subD, mulD, modD, fdivD, negD, notD, isNonD, cmpD, grd, isLst, setiM, biF, lenF, small, mutL, smallR, lim, flatD, wipeD, fx, fn_law_parts, callF, ex]
      have hzz : fzL ((si :: (hs ++ [no])).map fun x => D.int ((partsF k x : Nat) : Int)) = (si :: (hs ++ [no])).map fun x => D.int ((partsF k x : Nat) : Int) := fzL_id fun d hd => by
        obtain ⟨b, _, rfl⟩ := List.mem_map.mp hd
        rfl
      have hin : intsOf ((si :: (hs ++ [no])).map fun x => D.int ((partsF k x : Nat) : Int)) = some ((si :: (hs ++ [no])).map fun x => ((partsF k x : Nat) : Int)) := by
        have := intsOf_map ((si :: (hs ++ [no])).map fun x => ((partsF k x : Nat) : Int))
        rw [List.map_map] at this
        exact this
      have hsum : ((si :: (hs ++ [no])).map fun x => ((partsF k x : Nat) : Int)).sum = ((partsF k si + (hs.map (partsF k)).sum + partsF k no : Nat) : Int) := by
        rw [sum_cast, List.map_cons, List.map_append, List.sum_cons, List.sum_append]
        simp
        omega
      generalize ((si :: (hs ++ [no])).map fun x => ((partsF k x : Nat) : Int)) = is at *
      generalize ((si :: (hs ++ [no])).map fun x => D.int ((partsF k x : Nat) : Int)) = V at *
      simp [execs, exec, ev, evs, evc, evo, evIt, evOps, fillC, ioSl, putB, evPk, evFz, opd, isVar, hasV, fill1, fillP, asg, asgs, Den.view, rdV, mvV, setS, shal_own, shal_fz, shal_ro, shal_int, shal_bl, shal_str, shal_non, shal_tup, fz, fzL, fzO, bnd, ret, lift, Den.thn, sthn, idxD, opF, addD, subD, mulD, modD, fdivD, negD, notD, isNonD, cmpD, grd, isLst, setiM, biF, lenF, small, mutL, smallR, lim, flatD, restD, hzz, sumF, hin, hsum, outsOf]
      omega
theorem fn_trimmed {n : Nat} : (TT (n + 1)).fn "trimmed" = some ⟨[.val, .val, .val], runB (TT n) 3 [.val, .val, .val] b_trimmed⟩ := rfl
def allL (m q : Int) : List (List Int) := [] :: setsL m q
theorem allL_ok {m q : Int} (h1 : 1 ≤ m) (hm : m ≤ 8) (hq : 1 ≤ q) : (allL m q).length ≤ 300 ∧ ∀ s ∈ allL m q, s.Nodup ∧ s.length ≤ 8 := by
  have hl := setsL_len (m := m) (k := q) (by omega) hm
  refine ⟨by simp only [allL, List.length_cons]; omega, fun s hs => ?_⟩
  rcases List.mem_cons.mp hs with rfl | hs
  · exact ⟨.nil, by simp⟩
  · obtain ⟨h1, h2⟩ := setsL_ok (by omega) (by omega) s hs
    refine ⟨h1.imp fun h => by omega, ?_⟩
    rcases rsg_lt (a := 0) h1 h2 with h | h
    · omega
    · rw [h]; simp
theorem s_trimmed {n : Nat} {os : List Ob} {m q : Int} {k : Nat} {p : D} (h1 : 1 ≤ m) (hm : m ≤ 8) (hq : 1 ≤ q) (hqm : q ≤ m) (hp : VP m k p) (hk : k ≤ 20) (hn : k < n) (hn2 : 2 ≤ n) :
    runB (TT (n + 2)) 3 [.val, .val, .val] b_trimmed [p, .int m, .int q] os = some (.ret (trimF k p (allL m q)) [] os) := by
  have fp := hp.fz
  have sp := hp.shal
  have en := s_need_plan (n := n) (os := os) hp h1 hm hk hn
  have em := s_need_most (n := n) (os := os) hq hqm hm
  have ew := s_who (n := n - 2) (os := os) (m := m) (k := q) (by omega) hm (by omega)
  rw [show n - 2 + 3 = n + 1 by omega] at ew
  obtain ⟨al, ao⟩ := allL_ok h1 hm hq
  have ep := s_pruned (os := os) hm k (n + 1) (L := allL m q) hp hk (by omega) (fun l hl => (ao l hl).2) al
  have hz := tups_fz (allL m q)
  have ew : runB (TT (n + 1)) 2 [.val, .val] b_who [.int m, .int q] os = some (.ret (.lst .own ((allL m q).map tupI)) [] os) := ew
  generalize allL m q = L at *
  unfold runB b_trimmed startS
  simp [execs, exec, ev, evs, evc, evo, evIt, evOps, fillC, ioSl, putB, evPk, evFz, opd, isVar, hasV, fill1, fillP, asg, asgs, Den.view, rdV, mvV, setS, shal_own, shal_fz, shal_ro, shal_int, shal_bl, shal_str, shal_non, shal_tup, fz, fzL, fzO, bnd, ret, lift, Den.thn, sthn, idxD, opF, addD, subD, mulD, modD, fdivD, negD, notD, isNonD, cmpD, grd, isLst, setiM, biF, lenF, small, mutL, smallR, lim, flatD, fn_need_most, fn_need_plan, fn_who, fn_pruned, callF, em, fp, sp, en, ew, hz, ep, outsOf]
theorem sthn_as {x : Option Rs} {k j : S → Option Rs} : sthn (sthn x k) j = sthn x fun s => sthn (k s) j := by
  cases x with
  | none => rfl
  | some r => cases r <;> rfl
theorem execs5 {Γ : Tb} {a b c d e : T} {s : S} : execs Γ (.cons a (.cons b (.cons c (.cons d (.cons e .nil))))) s = sthn (sthn (exec Γ a s) fun s => sthn (exec Γ b s) fun s => sthn (exec Γ c s) fun s => exec Γ d s) fun s => sthn (exec Γ e s) fun s => some (.nx s) := by
  simp only [execs, sthn_as]
/-- two plans that miss the same, judged -/
theorem jj_loop {n : Nat} {os : List Ob} {m : Int} {k : Nat} {p p' mm kk : D} (hm : m ≤ 8) (hp : VP m k p) (hp' : VP m k p') (hk : k ≤ 20) : ∀ (xs : List (List Int)) (c c' : Int) (w w' : List Int) (o4 o5 o6 u4 u5 u6 : Option D), (∀ s ∈ xs, (s.Nodup ∧ s.length ≤ 8) ∧ (folF k p' s).2 = (folF k p s).2) →
    (∃ c1 w1 c2 w2 a4 a5 a6 b4 b5 b6, forGo (bodyF (TT (n + 2)) (.nm 4) lb_judged_0) (xs.map tupI) ⟨[some p, some mm, some kk, some (fndD c w), o4, o5, o6], os⟩ = some (.nx ⟨[some p, some mm, some kk, some (fndD c1 w1), a4, a5, a6], os⟩) ∧ forGo (bodyF (TT (n + 2)) (.nm 4) lb_judged_0) (xs.map tupI) ⟨[some p', some mm, some kk, some (fndD c' w'), u4, u5, u6], os⟩ = some (.nx ⟨[some p', some mm, some kk, some (fndD c2 w2), b4, b5, b6], os⟩))
    ∨ (∃ s l a3 a4 a5 a6 b3 b4 b5 b6, forGo (bodyF (TT (n + 2)) (.nm 4) lb_judged_0) (xs.map tupI) ⟨[some p, some mm, some kk, some (fndD c w), o4, o5, o6], os⟩ = some (.rt (misD s l) ⟨[some p, some mm, some kk, some a3, a4, a5, a6], os⟩) ∧ forGo (bodyF (TT (n + 2)) (.nm 4) lb_judged_0) (xs.map tupI) ⟨[some p', some mm, some kk, some (fndD c' w'), u4, u5, u6], os⟩ = some (.rt (misD s l) ⟨[some p', some mm, some kk, some b3, b4, b5, b6], os⟩))
  | [], c, c', w, w', o4, o5, o6, u4, u5, u6, _ => .inl ⟨c, w, c', w', o4, o5, o6, u4, u5, u6, rfl, rfl⟩
  | s :: xs, c, c', w, w', o4, o5, o6, u4, u5, u6, h => by
    obtain ⟨⟨hn, hl⟩, hf⟩ := h s List.mem_cons_self
    have hxs := fun y hy => h y (List.mem_cons_of_mem _ hy)
    obtain ⟨hc1, _, A, _⟩ := s_fol2 hm hp hk hn hl
    obtain ⟨hc2, _, A', _⟩ := s_fol2 hm hp' hk hn hl
    rw [hf] at A'
    generalize (folF k p s).2 = l at *
    generalize (folF k p s).1 = cc at *
    generalize (folF k p' s).1 = cc' at *
    obtain ⟨a4, a5, a6, e1⟩ := jt_prog (mm := mm) (kk := kk) (c := c) (w := w) (o4 := o4) (o5 := o5) (o6 := o6) hp.fz hp.shal (A n os)
    obtain ⟨b4, b5, b6, e2⟩ := jt_prog (mm := mm) (kk := kk) (c := c') (w := w') (o4 := u4) (o5 := u5) (o6 := u6) hp'.fz hp'.shal (A' n os)
    simp only [List.map_cons, forGo, e1, e2]
    by_cases hq : l = []
    · rw [if_pos hq, if_pos hq]
      simp only [sthn_nx]
      by_cases hc : c < (cc : Int)
      · rw [if_pos hc]
        by_cases hc' : c' < (cc' : Int)
        · rw [if_pos hc']
          exact jj_loop hm hp hp' hk xs _ _ _ _ _ _ _ _ _ _ hxs
        · rw [if_neg hc']
          exact jj_loop hm hp hp' hk xs _ _ _ _ _ _ _ _ _ _ hxs
      · rw [if_neg hc]
        by_cases hc' : c' < (cc' : Int)
        · rw [if_pos hc']
          exact jj_loop hm hp hp' hk xs _ _ _ _ _ _ _ _ _ _ hxs
        · rw [if_neg hc']
          exact jj_loop hm hp hp' hk xs _ _ _ _ _ _ _ _ _ _ hxs
    · rw [if_neg hq, if_neg hq]
      exact .inr ⟨s, l, _, a4, a5, a6, _, b4, b5, b6, rfl, rfl⟩
theorem s_judged2 {n : Nat} {os : List Ob} {m q : Int} {k : Nat} {p p' : D} (h1 : 1 ≤ m) (hm : m ≤ 8) (hq : 1 ≤ q) (hqm : q ≤ m) (hp : VP m k p) (hp' : VP m k p') (hk : k ≤ 20) (hn : k < n) (hn2 : 2 ≤ n) (hf : ∀ s ∈ allL m q, (folF k p' s).2 = (folF k p s).2) :
    ∃ d d', ((∃ c w c' w', d = fndD c w ∧ d' = fndD c' w') ∨ ∃ s l, d = misD s l ∧ d' = misD s l) ∧ runB (TT (n + 2)) 7 [.val, .val, .val] b_judged [p, .int m, .int q] os = some (.ret d [] os) ∧ runB (TT (n + 2)) 7 [.val, .val, .val] b_judged [p', .int m, .int q] os = some (.ret d' [] os) := by
  have em := s_need_most (n := n) (os := os) hq hqm hm
  have ew := s_who (n := n - 2) (os := os) (m := m) (k := q) (by omega) hm (by omega)
  rw [show n - 2 + 3 = n + 1 by omega] at ew
  obtain ⟨al, ao⟩ := allL_ok h1 hm hq
  have ew : runB (TT (n + 1)) 2 [.val, .val] b_who [.int m, .int q] os = some (.ret (.lst .own ((allL m q).map tupI)) [] os) := ew
  have hz := tups_fz (allL m q)
  generalize allL m q = L at *
  have eb1 : b_judged = .cons (tN b_judged 0) (.cons (tN b_judged 1) (.cons (tN b_judged 2) (.cons (tN b_judged 3) (.cons (tN b_judged 4) .nil)))) := rfl
  have start : ∀ {p : D}, VP m k p → (sthn (exec (TT (n + 2)) (tN b_judged 0) ⟨[some p, some (.int m), some (.int q), none, none, none, none], os⟩) fun s => sthn (exec (TT (n + 2)) (tN b_judged 1) s) fun s => sthn (exec (TT (n + 2)) (tN b_judged 2) s) fun s => exec (TT (n + 2)) (tN b_judged 3) s) = forGo (bodyF (TT (n + 2)) (.nm 4) lb_judged_0) (L.map tupI) ⟨[some p, some (.int m), some (.int q), some (fndD 0 []), none, none, none], os⟩ := fun {p} hp => by
    have fp := hp.fz
    have sp := hp.shal
    have en := s_need_plan (n := n) (os := os) hp h1 hm hk hn
    have t0 : exec (TT (n + 2)) (tN b_judged 0) ⟨[some p, some (.int m), some (.int q), none, none, none, none], os⟩ = some (.nx ⟨[some p, some (.int m), some (.int q), none, none, none, none], os⟩) := by
      unfold b_judged
      simp [tN, execs, exec, ev, evs, evc, evo, evIt, evOps, fillC, ioSl, putB, evPk, evFz, opd, isVar, hasV, fill1, fillP, asg, asgs, Den.view, rdV, mvV, setS, shal_own, shal_fz, shal_ro, shal_int, shal_bl, shal_str, shal_non, shal_tup, fz, fzL, fzO, bnd, ret, lift, Den.thn, sthn, idxD, opF, addD, subD, mulD, modD, fdivD, negD, notD, isNonD, cmpD, grd, isLst, setiM, biF, lenF, small, mutL, smallR, lim, flatD, fn_need_most, callF, em]
    have t1 : exec (TT (n + 2)) (tN b_judged 1) ⟨[some p, some (.int m), some (.int q), none, none, none, none], os⟩ = some (.nx ⟨[some p, some (.int m), some (.int q), none, none, none, none], os⟩) := by
      unfold b_judged
      simp [tN, execs, exec, ev, evs, evc, evo, evIt, evOps, fillC, ioSl, putB, evPk, evFz, opd, isVar, hasV, fill1, fillP, asg, asgs, Den.view, rdV, mvV, setS, shal_own, shal_fz, shal_ro, shal_int, shal_bl, shal_str, shal_non, shal_tup, fz, fzL, fzO, bnd, ret, lift, Den.thn, sthn, idxD, opF, addD, subD, mulD, modD, fdivD, negD, notD, isNonD, cmpD, grd, isLst, setiM, biF, lenF, small, mutL, smallR, lim, flatD, fn_need_plan, callF, fp, sp, en]
    have t2 : exec (TT (n + 2)) (tN b_judged 2) ⟨[some p, some (.int m), some (.int q), none, none, none, none], os⟩ = some (.nx ⟨[some p, some (.int m), some (.int q), some (fndD 0 []), none, none, none], os⟩) := by
      unfold b_judged
      simp [tN, execs, exec, ev, evs, evc, evo, evIt, evOps, fillC, ioSl, putB, evPk, evFz, opd, isVar, hasV, fill1, fillP, asg, asgs, Den.view, rdV, mvV, setS, shal_own, shal_fz, shal_ro, shal_int, shal_bl, shal_str, shal_non, shal_tup, fz, fzL, fzO, bnd, ret, lift, Den.thn, sthn, idxD, opF, addD, subD, mulD, modD, fdivD, negD, notD, isNonD, cmpD, grd, isLst, setiM, biF, lenF, small, mutL, smallR, lim, flatD, fndD]
    have t3 : exec (TT (n + 2)) (tN b_judged 3) ⟨[some p, some (.int m), some (.int q), some (fndD 0 []), none, none, none], os⟩ = forGo (bodyF (TT (n + 2)) (.nm 4) lb_judged_0) (L.map tupI) ⟨[some p, some (.int m), some (.int q), some (fndD 0 []), none, none, none], os⟩ := by
      refine exec_for ?_
      simp [execs, exec, ev, evs, evc, evo, evIt, evOps, fillC, ioSl, putB, evPk, evFz, opd, isVar, hasV, fill1, fillP, asg, asgs, Den.view, rdV, mvV, setS, shal_own, shal_fz, shal_ro, shal_int, shal_bl, shal_str, shal_non, shal_tup, fz, fzL, fzO, bnd, ret, lift, Den.thn, sthn, idxD, opF, addD, subD, mulD, modD, fdivD, negD, notD, isNonD, cmpD, grd, isLst, setiM, biF, lenF, small, mutL, smallR, lim, flatD, fn_who, callF, ew, hz]
    rw [t0, sthn_nx, t1, sthn_nx, t2, sthn_nx, t3]
  have st1 := start hp
  have st2 := start hp'
  have fin : ∀ {p : D} {c : Int} {w : List Int} {a4 a5 a6 : Option D}, exec (TT (n + 2)) (tN b_judged 4) ⟨[some p, some (.int m), some (.int q), some (fndD c w), a4, a5, a6], os⟩ = some (.rt (fndD c w) ⟨[some p, some (.int m), some (.int q), none, a4, a5, a6], os⟩) := rfl
  have asm : ∀ s, execs (TT (n + 2)) b_judged s = sthn (sthn (exec (TT (n + 2)) (tN b_judged 0) s) fun s => sthn (exec (TT (n + 2)) (tN b_judged 1) s) fun s => sthn (exec (TT (n + 2)) (tN b_judged 2) s) fun s => exec (TT (n + 2)) (tN b_judged 3) s) fun s => sthn (exec (TT (n + 2)) (tN b_judged 4) s) fun s => some (.nx s) := fun s => (congrArg (fun b => execs (TT (n + 2)) b s) eb1).trans execs5
  rcases jj_loop (n := n) (os := os) (mm := .int m) (kk := .int q) hm hp hp' hk L 0 0 [] [] none none none none none none (fun s hs => ⟨ao s hs, hf s hs⟩) with ⟨c1, w1, c2, w2, a4, a5, a6, b4, b5, b6, e1, e2⟩ | ⟨s, l, a3, a4, a5, a6, b3, b4, b5, b6, e1, e2⟩
  · refine ⟨_, _, .inl ⟨c1, w1, c2, w2, rfl, rfl⟩, ?_, ?_⟩
    · unfold runB
      rw [asm, show startS 7 [p, .int m, .int q] os = ⟨[some p, some (.int m), some (.int q), none, none, none, none], os⟩ from rfl, st1, e1, sthn_nx, fin]
      rfl
    · unfold runB
      rw [asm, show startS 7 [p', .int m, .int q] os = ⟨[some p', some (.int m), some (.int q), none, none, none, none], os⟩ from rfl, st2, e2, sthn_nx, fin]
      rfl
  · refine ⟨_, _, .inr ⟨s, l, rfl, rfl⟩, ?_, ?_⟩
    · unfold runB
      rw [asm, show startS 7 [p, .int m, .int q] os = ⟨[some p, some (.int m), some (.int q), none, none, none, none], os⟩ from rfl, st1, e1, sthn_rt]
      rfl
    · unfold runB
      rw [asm, show startS 7 [p', .int m, .int q] os = ⟨[some p', some (.int m), some (.int q), none, none, none, none], os⟩ from rfl, st2, e2, sthn_rt]
      rfl
theorem AL.up : ∀ {k : Nat} {d : D}, AL k d → AL (k + 1) d
  | 0, d, h => .inl h
  | k + 1, d, h => by
    rcases h with h | ⟨ds, h, hl, ha⟩
    · exact .inl h
    · exact .inr ⟨ds, h, hl, fun x hx => (ha x hx).up⟩
theorem AL_vp {m : Int} (hm : m ≤ 8) : ∀ {k : Nat} {p : D}, VP m k p → AL (2 * k + 1) p
  | 0, p, h => by
    rw [h]
    refine .tup (fun x hx => ?_) (by simp)
    rw [List.mem_singleton.mp hx]
    exact .str (by decide)
  | k + 1, p, h => by
    rcases h with rfl | ⟨ns, si, hs, no, rfl, r, len, h1, h2, h3⟩
    · refine .tup (fun x hx => ?_) (by simp)
      rw [List.mem_singleton.mp hx]
      exact .str (by decide)
    · have hnl : ns.length ≤ 8 := by have := r.len; omega
      refine .tup (fun x hx => ?_) (by simp)
      simp only [List.mem_cons, List.not_mem_nil, or_false] at hx
      rcases hx with rfl | rfl | rfl | rfl | rfl
      · exact .str (by decide)
      · exact .tupI (by omega)
      · exact (AL_vp hm h1).up
      · exact .tup (fun x hx => AL_vp hm (h2 x hx)) (by omega)
      · exact (AL_vp hm h3).up
end Den
/-! Nl15: the law. -/
namespace Den
open PySem PySem.Spec L2
theorem law_in {n : Nat} {os : List Ob} {m : Int} {p sc dd q : D} {k : Nat} {s : List Int} {L : List (List Int)} {o3 o7 o8 o9 o10 o11 o12 o13 : Option D} (hm : m ≤ 8) (hp : VP m k p) (hk : k ≤ 20) (hs : s.Nodup ∧ s.length ≤ 8) (hin : s ∈ L) :
    ∃ a10 a11 a12 a13, bodyF (TT (n + 2)) (.nm 7) lb_law_1 (tupI s) ⟨[some sc, some dd, some (.int m), o3, some p, some q, some (trimF k p L), o7, o8, o9, o10, o11, o12, o13], os⟩ = some (.nx ⟨[some sc, some dd, some (.int m), o3, some p, some q, some (trimF k p L), some (tupI s), o8, o9, a10, a11, a12, a13], os⟩) := by
  obtain ⟨g1, g2⟩ := trimF_fol k (L := L) hp hin
  have hf := trimF_vp k (L := L) hp
  obtain ⟨_, _, _, B⟩ := s_fol2 hm hp hk hs.1 hs.2
  obtain ⟨_, _, _, B'⟩ := s_fol2 hm hf hk hs.1 hs.2
  rw [g1] at B'
  obtain ⟨met, hme, eB⟩ := B (n + 1) os
  obtain ⟨met', hme', eB'⟩ := B' (n + 1) os
  have fp := hp.fz
  have sp := hp.shal
  have ff := hf.fz
  have sf := hf.shal
  have hz : (fzL met).length = met.length := fzL_ln met
  have hz' : (fzL met').length = met'.length := fzL_ln met'
  have hz2 : (fzL (fzL met)).length = met.length := by rw [fzL_ln, hz]
  have hz2' : (fzL (fzL met')).length = met'.length := by rw [fzL_ln, hz']
  have hgt : ¬ ((met.length : Int) < met'.length) := by omega
  generalize (folF k p s).2 = l at *
  generalize trimF k p L = f at *
  refine ⟨some (.lst .fz (fzL met)), some (.tup (l.map .int)), some (.lst .fz (fzL met')), some (.tup (l.map .int)), ?_⟩
  unfold bodyF lb_law_1
  simp [execs, exec, ev, evs, evc, evo, evIt, evOps, fillC, ioSl, putB, evPk, evFz, opd, isVar, hasV, fill1, fillP, asg, asgs, Den.view, rdV, mvV, setS, shal_own, shal_fz, shal_ro, shal_int, shal_bl, shal_str, shal_non, shal_tup, fz, fzL, fzO, bnd, ret, lift, Den.thn, sthn, idxD, opF, addD, subD, mulD, modD, fdivD, negD, notD, isNonD, cmpD, grd, isLst, setiM, biF, lenF, small, mutL, smallR, lim, flatD, -idxD, tupI, fn_law_followed, callF, fp, sp, ff, sf, eB, eB', hz, hz', hz2, hz2', hgt]
end Den
/-! Nm15: the law, a turn. -/
namespace Den
open PySem PySem.Spec L2
theorem eq_hh : eqD (.str [104, 101, 97, 114, 100]) (.str [104, 101, 97, 114, 100]) = some true := by decide +kernel
theorem eq_hm : eqD (.str [104, 101, 97, 114, 100]) (.str [109, 105, 115, 115, 101, 100]) = some false := by decide +kernel
theorem eq_mm : eqD (.str [109, 105, 115, 115, 101, 100]) (.str [109, 105, 115, 115, 101, 100]) = some true := by decide +kernel
theorem shp_mis (s l : List Int) : Shp 2 (misD s l) := shp_tup fun x hx => by
  simp only [List.mem_cons, List.not_mem_nil, or_false] at hx
  rcases hx with rfl | rfl | rfl
  · exact shp_str (by decide)
  · exact shp_tupI (k := 0)
  · exact shp_tupI (k := 0)
theorem eq_mis (s l : List Int) : eqD (misD s l) (misD s l) = some true := by
  rw [eqD_of (shp_mis s l) (shp_mis s l)]
  simp [misD, toP, toPs, PyData.eqv, PyData.eqvAll, eqv_ints]
theorem fz_mis {s l : List Int} : fz (misD s l) = misD s l := by simp only [misD, fz, fzL, ints_fz]
theorem repL_one (j : Nat) (x : D) : repL j [x] = List.replicate j x := by
  unfold repL
  rw [List.flatten_replicate_singleton]
theorem vp_every {m : Int} {k : Nat} {p : D} (h1 : 1 ≤ m) (h : VP m k p) : VP m (k + 2) (askD (iota m) p (List.replicate m.toNat p) (askD (iota m) endD (List.replicate m.toNat endD) p)) := by
  have hl : (iota m).length = m.toNat := by have := iota_len (m := m) (by omega); omega
  refine .inr ⟨_, _, _, _, rfl, rsg_iota h1, by rw [List.length_replicate, hl], h.up, fun q hq => ?_, .inr ⟨_, _, _, _, rfl, rsg_iota h1, by rw [List.length_replicate, hl], VP.end_, fun q hq => ?_, h⟩⟩
  · rw [List.eq_of_mem_replicate hq]; exact h.up
  · rw [List.eq_of_mem_replicate hq]; exact VP.end_
/-- the plan and the number are drawn -/
theorem law_t2 {n : Nat} {os : List Ob} {m q : Int} {sc x p : D} {d2 : List Int} {o6 o7 o8 o9 o10 o11 o12 o13 : Option D} (h2d : DOk d2) (h1 : 1 ≤ m) (hm : m ≤ 8) (q0 : 0 ≤ q) (q1 : q < m) (hp : VP m 9 p) (hn : 45 ≤ n) :
    ∃ p' q', VP m 15 p' ∧ 1 ≤ q' ∧ q' ≤ m ∧ exec (TT (n + 5)) (tN lb_law_0 2) ⟨[some sc, some (.lst .own (d2.map .int)), some (.int m), some x, some p, some (.int (1 + q)), o6, o7, o8, o9, o10, o11, o12, o13], os⟩ = some (.nx ⟨[some sc, some (.lst .own (d2.map .int)), some (.int m), some x, some p', some (.int q'), o6, o7, o8, o9, o10, o11, o12, o13], os⟩) := by
  obtain ⟨a, z, l, rfl, ha, hz, hl⟩ := h2d
  have mr1 : -4611686018427387904 ≤ m := by omega
  have mr2 : m ≤ 1000000 := by omega
  have mr3 : m < 1073741824 := by omega
  by_cases hc : a / 7 % 5 = 0
  · have hi := rsg_iota h1
    have hil := iota_len (m := m) (by omega)
    obtain ⟨p', hp', e3⟩ := s_groups (os := os) hm 15 (n + 4) [iota m] (by simpa using hi) (by simp [wgt]; omega) (by omega) (by omega)
    simp only [List.map_cons, List.map_nil, tupI] at e3
    refine ⟨p', (if 3 < 1 + q then 3 else 1 + q), hp', by split <;> omega, by split <;> omega, ?_⟩
    by_cases h3 : 3 < 1 + q
    · unfold lb_law_0
      simp [tN, execs, exec, ev, evs, evc, evo, evIt, evOps, fillC, ioSl, putB, evPk, evFz, opd, isVar, hasV, fill1, fillP, asg, asgs, Den.view, rdV, mvV, setS, shal_own, shal_fz, shal_ro, shal_int, shal_bl, shal_str, shal_non, shal_tup, fz, fzL, fzO, bnd, ret, lift, Den.thn, sthn, idxD, opF, addD, subD, mulD, modD, fdivD, negD, notD, isNonD, cmpD, grd, isLst, setiM, biF, lenF, small, mutL, smallR, lim, flatD, hc, mr1, mr2, rngL_iota, fn_groups, callF, e3, min2F, h3]
    · unfold lb_law_0
      simp [tN, execs, exec, ev, evs, evc, evo, evIt, evOps, fillC, ioSl, putB, evPk, evFz, opd, isVar, hasV, fill1, fillP, asg, asgs, Den.view, rdV, mvV, setS, shal_own, shal_fz, shal_ro, shal_int, shal_bl, shal_str, shal_non, shal_tup, fz, fzL, fzO, bnd, ret, lift, Den.thn, sthn, idxD, opF, addD, subD, mulD, modD, fdivD, negD, notD, isNonD, cmpD, grd, isLst, setiM, biF, lenF, small, mutL, smallR, lim, flatD, hc, mr1, mr2, rngL_iota, fn_groups, callF, e3, min2F, h3]
  · refine ⟨p, 1 + q, hp.mono (by omega), by omega, by omega, ?_⟩
    unfold lb_law_0
    simp [tN, execs, exec, ev, evs, evc, evo, evIt, evOps, fillC, ioSl, putB, evPk, evFz, opd, isVar, hasV, fill1, fillP, asg, asgs, Den.view, rdV, mvV, setS, shal_own, shal_fz, shal_ro, shal_int, shal_bl, shal_str, shal_non, shal_tup, fz, fzL, fzO, bnd, ret, lift, Den.thn, sthn, idxD, opF, addD, subD, mulD, modD, fdivD, negD, notD, isNonD, cmpD, grd, isLst, setiM, biF, lenF, small, mutL, smallR, lim, flatD, hc]
theorem law_t3 {n : Nat} {os : List Ob} {m q : Int} {sc x p : D} {d2 : List Int} {o6 o7 o8 o9 o10 o11 o12 o13 : Option D} (h2d : DOk d2) (h1 : 1 ≤ m) (hm : m ≤ 8) (hp : VP m 15 p) (hn : 45 ≤ n) :
    ∃ p' d3 a9, VP m 17 p' ∧ DOk d3 ∧ exec (TT (n + 5)) (tN lb_law_0 3) ⟨[some sc, some (.lst .own (d2.map .int)), some (.int m), some x, some p, some (.int q), o6, o7, o8, o9, o10, o11, o12, o13], os⟩ = some (.nx ⟨[some sc, some (.lst .own (d3.map .int)), some (.int m), some x, some p', some (.int q), o6, o7, o8, a9, o10, o11, o12, o13], os⟩) := by
  obtain ⟨r, d3, e1, r0, r1, h3d⟩ := r_off (TT (n + 4)) h2d 4 os (by omega) (by omega)
  have mr1 : -4611686018427387904 ≤ m := by omega
  have mr2 : m ≤ 1000000 := by omega
  have fp := hp.fz
  have sp := hp.shal
  have ep := s_law_parts (os := os) hm 15 (n + 4) hp (by omega)
  by_cases hr : r = 0
  · subst hr
    by_cases hc : partsF 15 p < 300
    · have mr3 : m ≤ 1000 := by omega
      have hfr : ∀ {y : D}, Den.fz y = y → fzL (List.replicate m.toNat y) = List.replicate m.toNat y := fun {y} hy => fzL_id fun d hd => by rw [List.eq_of_mem_replicate hd]; exact hy
      have r1 := hfr fp
      have r2 := hfr fz_end
      refine ⟨_, d3, some (.tup ((iota m).map .int)), vp_every h1 hp, h3d, ?_⟩
      have hc' : ((partsF 15 p : Nat) : Int) < 300 := by omega
      generalize partsF 15 p = c at *
      simp only [askD]
      unfold endD at *
      unfold lb_law_0
      simp [tN, execs, exec, ev, evs, evc, evo, evIt, evOps, fillC, ioSl, putB, evPk, evFz, opd, isVar, hasV, fill1, fillP, asg, asgs, Den.view, rdV, mvV, setS, shal_own, shal_fz, shal_ro, shal_int, shal_bl, shal_str, shal_non, shal_tup, fz, fzL, fzO, bnd, ret, lift, Den.thn, sthn, idxD, opF, addD, subD, mulD, modD, fdivD, negD, notD, isNonD, cmpD, grd, isLst, setiM, biF, lenF, small, mutL, smallR, lim, flatD, fn_off, fn_law_parts, callF, e1, fp, sp, ep, hc, hc', mr1, mr2, mr3, h1, rngL_iota, repL_one, r1, r2]
    · have hc' : ¬ ((partsF 15 p : Nat) : Int) < 300 := by omega
      refine ⟨p, d3, o9, hp.mono (by omega), h3d, ?_⟩
      generalize partsF 15 p = c at *
      unfold lb_law_0
      simp [tN, execs, exec, ev, evs, evc, evo, evIt, evOps, fillC, ioSl, putB, evPk, evFz, opd, isVar, hasV, fill1, fillP, asg, asgs, Den.view, rdV, mvV, setS, shal_own, shal_fz, shal_ro, shal_int, shal_bl, shal_str, shal_non, shal_tup, fz, fzL, fzO, bnd, ret, lift, Den.thn, sthn, idxD, opF, addD, subD, mulD, modD, fdivD, negD, notD, isNonD, cmpD, grd, isLst, setiM, biF, lenF, small, mutL, smallR, lim, flatD, fn_off, fn_law_parts, callF, e1, fp, sp, ep, hc, hc']
  · refine ⟨p, d3, o9, hp.mono (by omega), h3d, ?_⟩
    unfold lb_law_0
    simp [tN, execs, exec, ev, evs, evc, evo, evIt, evOps, fillC, ioSl, putB, evPk, evFz, opd, isVar, hasV, fill1, fillP, asg, asgs, Den.view, rdV, mvV, setS, shal_own, shal_fz, shal_ro, shal_int, shal_bl, shal_str, shal_non, shal_tup, fz, fzL, fzO, bnd, ret, lift, Den.thn, sthn, idxD, opF, addD, subD, mulD, modD, fdivD, negD, notD, isNonD, cmpD, grd, isLst, setiM, biF, lenF, small, mutL, smallR, lim, flatD, fn_off, callF, e1, hr]
/-- what is drawn is looked at -/
theorem law_t4 {n : Nat} {os : List Ob} {m q : Int} {sc dd x p : D} {o6 o7 o8 o9 o10 o11 o12 o13 : Option D} (h1 : 1 ≤ m) (hm : m ≤ 8) (hq : 1 ≤ q) (hqm : q ≤ m) (hp : VP m 17 p) (hn : 45 ≤ n) :
    exec (TT (n + 5)) (tN lb_law_0 4) ⟨[some sc, some dd, some (.int m), some x, some p, some (.int q), o6, o7, o8, o9, o10, o11, o12, o13], os⟩ = some (.nx ⟨[some sc, some dd, some (.int m), some x, some p, some (.int q), some (trimF 17 p (allL m q)), o7, o8, o9, o10, o11, o12, o13], os⟩) := by
  have e := s_trimmed (n := n + 2) (os := os) h1 hm hq hqm hp (by omega) (by omega) (by omega)
  have fp := hp.fz
  have sp := hp.shal
  unfold lb_law_0
  simp [tN, execs, exec, ev, evs, evc, evo, evIt, evOps, fillC, ioSl, putB, evPk, evFz, opd, isVar, hasV, fill1, fillP, asg, asgs, Den.view, rdV, mvV, setS, shal_own, shal_fz, shal_ro, shal_int, shal_bl, shal_str, shal_non, shal_tup, fz, fzL, fzO, bnd, ret, lift, Den.thn, sthn, idxD, opF, addD, subD, mulD, modD, fdivD, negD, notD, isNonD, cmpD, grd, isLst, setiM, biF, lenF, small, mutL, smallR, lim, flatD, fn_trimmed, callF, fp, sp, e]
theorem law_t5 {n : Nat} {os : List Ob} {m q : Int} {sc dd x p : D} {o7 o8 o9 o10 o11 o12 o13 : Option D} (h1 : 1 ≤ m) (hm : m ≤ 8) (hq : 1 ≤ q) (hqm : q ≤ m) (hp : VP m 17 p) (hn : 45 ≤ n) :
    exec (TT (n + 5)) (tN lb_law_0 5) ⟨[some sc, some dd, some (.int m), some x, some p, some (.int q), some (trimF 17 p (allL m q)), o7, o8, o9, o10, o11, o12, o13], os⟩ = some (.nx ⟨[some sc, some dd, some (.int m), some x, some p, some (.int q), some (trimF 17 p (allL m q)), o7, o8, o9, o10, o11, o12, o13], os⟩) := by
  have fp := hp.fz
  have sp := hp.shal
  have hf := trimF_vp 17 (L := allL m q) hp
  have ff := hf.fz
  have sf := hf.shal
  obtain ⟨al, ao⟩ := allL_ok h1 hm hq
  have et := s_law_trim (os := os) hm 17 (n + 4) (L := allL m q) hp (by omega) (by omega) (fun l hl => (ao l hl).2) al
  have et : runB (TT (n + 4)) 9 [.val, .val] b__law_trim [p, .lst .fz (.tup [] :: (setsL m q).map tupI)] os = some (.ret (trimF 17 p (allL m q)) [] os) := et
  have ea := s_alike (os := os) 35 (n + 4) (AL_vp hm hf) (by omega)
  have es := s_law_sets (n := n + 4) (os := os) (m := m) (k := q) (by omega) hm (by omega)
  have hl := setsL_len (m := m) (k := q) (by omega) hm
  have hl2 : 1 + (setsL m q).length ≤ 1000000 := by omega
  have hl3 : (setsL m q).length + 1 ≤ 1000000 := by omega
  have hz := tups_fz (setsL m q)
  generalize trimF 17 p (allL m q) = f at *
  unfold lb_law_0
  simp [tN, execs, exec, ev, evs, evc, evo, evIt, evOps, fillC, ioSl, putB, evPk, evFz, opd, isVar, hasV, fill1, fillP, asg, asgs, Den.view, rdV, mvV, setS, shal_own, shal_fz, shal_ro, shal_int, shal_bl, shal_str, shal_non, shal_tup, fz, fzL, fzO, bnd, ret, lift, Den.thn, sthn, idxD, opF, addD, subD, mulD, modD, fdivD, negD, notD, isNonD, cmpD, grd, isLst, setiM, biF, lenF, small, mutL, smallR, lim, flatD, fn_alike, fn_law_trim, fn_law_sets, callF, fp, sp, ff, sf, es, hz, hl2, hl3, et, ea]
theorem law_t6 {n : Nat} {os : List Ob} {m q : Int} {sc dd x p : D} {o7 o8 o9 o10 o11 o12 o13 : Option D} (h1 : 1 ≤ m) (hm : m ≤ 8) (hq : 1 ≤ q) (hqm : q ≤ m) (hp : VP m 17 p) (hn : 45 ≤ n) :
    ∃ a7 a10 a11 a12 a13, exec (TT (n + 5)) (tN lb_law_0 6) ⟨[some sc, some dd, some (.int m), some x, some p, some (.int q), some (trimF 17 p (allL m q)), o7, o8, o9, o10, o11, o12, o13], os⟩ = some (.nx ⟨[some sc, some dd, some (.int m), some x, some p, some (.int q), some (trimF 17 p (allL m q)), a7, o8, o9, a10, a11, a12, a13], os⟩) := by
  obtain ⟨al, ao⟩ := allL_ok h1 hm hq
  have es := s_law_sets (n := n + 4) (os := os) (m := m) (k := q) (by omega) hm (by omega)
  have hl := setsL_len (m := m) (k := q) (by omega) hm
  have hl2 : 1 + (setsL m q).length ≤ 1000000 := by omega
  have hl3 : (setsL m q).length + 1 ≤ 1000000 := by omega
  have hz := tups_fz (setsL m q)
  have e1 := exec_for (Γ := TT (n + 5)) (tg := .nm 7) (it := .seq (.op2 .add (.lst (.cons (.tup .nil) .nil)) (.cal "_law_sets" (.cons (.var 2) (.cons (.var 5) .nil))))) (b := lb_law_1) (s := ⟨[some sc, some dd, some (.int m), some x, some p, some (.int q), some (trimF 17 p (allL m q)), o7, o8, o9, o10, o11, o12, o13], os⟩) (s1 := ⟨[some sc, some dd, some (.int m), some x, some p, some (.int q), some (trimF 17 p (allL m q)), o7, o8, o9, o10, o11, o12, o13], os⟩) (xs := (allL m q).map tupI) (by
    generalize trimF 17 p (allL m q) = f
    simp [execs, exec, ev, evs, evc, evo, evIt, evOps, fillC, ioSl, putB, evPk, evFz, opd, isVar, hasV, fill1, fillP, asg, asgs, Den.view, rdV, mvV, setS, shal_own, shal_fz, shal_ro, shal_int, shal_bl, shal_str, shal_non, shal_tup, fz, fzL, fzO, bnd, ret, lift, Den.thn, sthn, idxD, opF, addD, subD, mulD, modD, fdivD, negD, notD, isNonD, cmpD, grd, isLst, setiM, biF, lenF, small, mutL, smallR, lim, flatD, fn_law_sets, callF, es, hz, hl2, hl3]
    rfl)
  obtain ⟨s', e2, a7, a10, a11, a12, a13, rfl⟩ := forGo_ex (f := bodyF (TT (n + 5)) (.nm 7) lb_law_1) (fun (_ : Nat) s => ∃ o7 o10 o11 o12 o13, s = (⟨[some sc, some dd, some (.int m), some x, some p, some (.int q), some (trimF 17 p (allL m q)), o7, o8, o9, o10, o11, o12, o13], os⟩ : S)) ((allL m q).map tupI) 0 (fun i y s hx hs => by
    obtain ⟨o7, o10, o11, o12, o13, rfl⟩ := hs
    obtain ⟨l, hl, rfl⟩ := List.mem_map.mp (List.mem_of_getElem? hx)
    obtain ⟨a10, a11, a12, a13, e⟩ := law_in (n := n + 3) (os := os) (m := m) (p := p) (sc := sc) (dd := dd) (q := .int q) (k := 17) (s := l) (L := allL m q) (o3 := some x) (o7 := o7) (o8 := o8) (o9 := o9) (o10 := o10) (o11 := o11) (o12 := o12) (o13 := o13) hm hp (by omega) (ao l hl) hl
    exact ⟨_, e, _, a10, a11, a12, a13, rfl⟩) _ ⟨o7, o10, o11, o12, o13, rfl⟩
  exact ⟨a7, a10, a11, a12, a13, e1.trans e2⟩
theorem law_t7 {n : Nat} {os : List Ob} {m q : Int} {sc dd x p : D} {o7 o8 o9 o10 o11 o12 o13 : Option D} (h1 : 1 ≤ m) (hm : m ≤ 8) (hq : 1 ≤ q) (hqm : q ≤ m) (hp : VP m 17 p) (hn : 45 ≤ n) :
    exec (TT (n + 5)) (tN lb_law_0 7) ⟨[some sc, some dd, some (.int m), some x, some p, some (.int q), some (trimF 17 p (allL m q)), o7, o8, o9, o10, o11, o12, o13], os⟩ = some (.nx ⟨[some sc, some dd, some (.int m), some x, some p, some (.int q), some (trimF 17 p (allL m q)), o7, o8, o9, o10, o11, o12, o13], os⟩) := by
  have fp := hp.fz
  have sp := hp.shal
  have hf := trimF_vp 17 (L := allL m q) hp
  have ff := hf.fz
  have sf := hf.shal
  obtain ⟨al, ao⟩ := allL_ok h1 hm hq
  have et := s_law_idle (os := os) hm 17 (n + 4) (L := allL m q) hf (by omega) (by omega) (fun l hl => (ao l hl).2) al
  rw [trimF_idle 17 hp] at et
  have et : runB (TT (n + 4)) 10 [.val, .val] b__law_idle [trimF 17 p (allL m q), .lst .fz (.tup [] :: (setsL m q).map tupI)] os = some (.ret (.bl false) [] os) := et
  have es := s_law_sets (n := n + 4) (os := os) (m := m) (k := q) (by omega) hm (by omega)
  have hl := setsL_len (m := m) (k := q) (by omega) hm
  have hl2 : 1 + (setsL m q).length ≤ 1000000 := by omega
  have hl3 : (setsL m q).length + 1 ≤ 1000000 := by omega
  have hz := tups_fz (setsL m q)
  have p1 := s_law_parts (os := os) hm 17 (n + 4) hp (by omega)
  have p2 := s_law_parts (os := os) hm 17 (n + 4) hf (by omega)
  have pl := trimF_parts 17 (L := allL m q) hp
  have pl2 : ¬ ((partsF 17 p : Nat) : Int) < (partsF 17 (trimF 17 p (allL m q)) : Nat) := by omega
  generalize partsF 17 p = c1 at *
  generalize partsF 17 (trimF 17 p (allL m q)) = c2 at *
  generalize trimF 17 p (allL m q) = f at *
  have pl3 : ¬ c1 < c2 := by omega
  unfold lb_law_0
  simp [tN, execs, exec, ev, evs, evc, evo, evIt, evOps, fillC, ioSl, putB, evPk, evFz, opd, isVar, hasV, fill1, fillP, asg, asgs, Den.view, rdV, mvV, setS, shal_own, shal_fz, shal_ro, shal_int, shal_bl, shal_str, shal_non, shal_tup, fz, fzL, fzO, bnd, ret, lift, Den.thn, sthn, idxD, opF, addD, subD, mulD, modD, fdivD, negD, notD, isNonD, cmpD, grd, isLst, setiM, biF, lenF, small, mutL, smallR, lim, flatD, fn_law_idle, fn_law_parts, fn_law_sets, callF, fp, sp, ff, sf, es, hz, hl2, hl3, et, p1, p2, pl2, pl3]
theorem law_t8 {n : Nat} {os : List Ob} {m q : Int} {sc dd x p : D} {o7 o8 o9 o10 o11 o12 o13 : Option D} (h1 : 1 ≤ m) (hm : m ≤ 8) (hq : 1 ≤ q) (hqm : q ≤ m) (hp : VP m 17 p) (hn : 45 ≤ n) :
    exec (TT (n + 5)) (tN lb_law_0 8) ⟨[some sc, some dd, some (.int m), some x, some p, some (.int q), some (trimF 17 p (allL m q)), o7, o8, o9, o10, o11, o12, o13], os⟩ = some (.nx ⟨[some sc, some dd, some (.int m), some x, some p, some (.int q), some (trimF 17 p (allL m q)), o7, o8, o9, o10, o11, o12, o13], os⟩) := by
  have hf := trimF_vp 17 (L := allL m q) hp
  have ff := hf.fz
  have sf := hf.shal
  have e := s_trimmed (n := n + 2) (os := os) h1 hm hq hqm hf (by omega) (by omega) (by omega)
  rw [trimF_twice 17 hp] at e
  have ea := s_alike (os := os) 35 (n + 4) (AL_vp hm hf) (by omega)
  generalize trimF 17 p (allL m q) = f at *
  unfold lb_law_0
  simp [tN, execs, exec, ev, evs, evc, evo, evIt, evOps, fillC, ioSl, putB, evPk, evFz, opd, isVar, hasV, fill1, fillP, asg, asgs, Den.view, rdV, mvV, setS, shal_own, shal_fz, shal_ro, shal_int, shal_bl, shal_str, shal_non, shal_tup, fz, fzL, fzO, bnd, ret, lift, Den.thn, sthn, idxD, opF, addD, subD, mulD, modD, fdivD, negD, notD, isNonD, cmpD, grd, isLst, setiM, biF, lenF, small, mutL, smallR, lim, flatD, fn_alike, fn_trimmed, callF, ff, sf, e, ea]
theorem law_t9 {n : Nat} {os : List Ob} {m q : Int} {sc dd x p : D} {o7 o8 o9 o10 o11 o12 o13 : Option D} (h1 : 1 ≤ m) (hm : m ≤ 8) (hq : 1 ≤ q) (hqm : q ≤ m) (hp : VP m 17 p) (hn : 45 ≤ n) :
    ∃ a8, execs (TT (n + 5)) (.cons (tN lb_law_0 9) (.cons (tN lb_law_0 10) .nil)) ⟨[some sc, some dd, some (.int m), some x, some p, some (.int q), some (trimF 17 p (allL m q)), o7, o8, o9, o10, o11, o12, o13], os⟩ = some (.nx ⟨[some sc, some dd, some (.int m), some x, some p, some (.int q), some (trimF 17 p (allL m q)), o7, a8, o9, o10, o11, o12, o13], os⟩) := by
  have fp := hp.fz
  have sp := hp.shal
  have hf := trimF_vp 17 (L := allL m q) hp
  have ff := hf.fz
  have sf := hf.shal
  obtain ⟨d, d', hd, e1, e2⟩ := s_judged2 (n := n + 2) (os := os) h1 hm hq hqm hp hf (by omega) (by omega) (by omega) (fun s hs => (trimF_fol 17 hp hs).1)
  have fd : Den.fz d = d := by
    rcases hd with ⟨c, w, c', w', rfl, rfl⟩ | ⟨s, l, rfl, rfl⟩
    · exact fz_fnd
    · exact fz_mis
  have fd' : Den.fz d' = d' := by
    rcases hd with ⟨c, w, c', w', rfl, rfl⟩ | ⟨s, l, rfl, rfl⟩
    · exact fz_fnd
    · exact fz_mis
  generalize trimF 17 p (allL m q) = f at *
  have t9 : exec (TT (n + 5)) (tN lb_law_0 9) ⟨[some sc, some dd, some (.int m), some x, some p, some (.int q), some f, o7, o8, o9, o10, o11, o12, o13], os⟩ = some (.nx ⟨[some sc, some dd, some (.int m), some x, some p, some (.int q), some f, o7, some (.lst .own [d, d']), o9, o10, o11, o12, o13], os⟩) := by
    unfold lb_law_0
    simp [tN, execs, exec, ev, evs, evc, evo, evIt, evOps, fillC, ioSl, putB, evPk, evFz, opd, isVar, hasV, fill1, fillP, asg, asgs, Den.view, rdV, mvV, setS, shal_own, shal_fz, shal_ro, shal_int, shal_bl, shal_str, shal_non, shal_tup, fz, fzL, fzO, bnd, ret, lift, Den.thn, sthn, idxD, opF, addD, subD, mulD, modD, fdivD, negD, notD, isNonD, cmpD, grd, isLst, setiM, biF, lenF, small, mutL, smallR, lim, flatD, fn_judged, callF, fp, sp, ff, sf, e1, e2]
  have i0 : idxD (.lst .fz [d, d']) (.int 0) = some d := rfl
  have i1 : idxD (.lst .fz [d, d']) (.int 1) = some d' := rfl
  have t10 : exec (TT (n + 5)) (tN lb_law_0 10) ⟨[some sc, some dd, some (.int m), some x, some p, some (.int q), some f, o7, some (.lst .own [d, d']), o9, o10, o11, o12, o13], os⟩ = some (.nx ⟨[some sc, some dd, some (.int m), some x, some p, some (.int q), some f, o7, some (.lst .own [d, d']), o9, o10, o11, o12, o13], os⟩) := by
    rcases hd with ⟨c, w, c', w', rfl, rfl⟩ | ⟨s, l, rfl, rfl⟩
    · have j0 : idxD (fndD c w) (.int 0) = some (.str [104, 101, 97, 114, 100]) := rfl
      have j1 : idxD (fndD c' w') (.int 0) = some (.str [104, 101, 97, 114, 100]) := rfl
      generalize fndD c w = d at *
      generalize fndD c' w' = d' at *
      unfold lb_law_0
      simp [tN, execs, exec, ev, evs, evc, evo, evIt, evOps, fillC, ioSl, putB, evPk, evFz, opd, isVar, hasV, fill1, fillP, asg, asgs, Den.view, rdV, mvV, setS, shal_own, shal_fz, shal_ro, shal_int, shal_bl, shal_str, shal_non, shal_tup, fz, fzL, fzO, bnd, ret, lift, Den.thn, sthn, idxD, opF, addD, subD, mulD, modD, fdivD, negD, notD, isNonD, cmpD, grd, isLst, setiM, biF, lenF, small, mutL, smallR, lim, flatD, -idxD, fd, fd', i0, i1, j0, j1, eq_hh, eq_hm]
    · have j0 : idxD (misD s l) (.int 0) = some (.str [109, 105, 115, 115, 101, 100]) := rfl
      have em := eq_mis s l
      generalize misD s l = d at *
      unfold lb_law_0
      simp [tN, execs, exec, ev, evs, evc, evo, evIt, evOps, fillC, ioSl, putB, evPk, evFz, opd, isVar, hasV, fill1, fillP, asg, asgs, Den.view, rdV, mvV, setS, shal_own, shal_fz, shal_ro, shal_int, shal_bl, shal_str, shal_non, shal_tup, fz, fzL, fzO, bnd, ret, lift, Den.thn, sthn, idxD, opF, addD, subD, mulD, modD, fdivD, negD, notD, isNonD, cmpD, grd, isLst, setiM, biF, lenF, small, mutL, smallR, lim, flatD, -idxD, fd, i0, i1, j0, eq_mm, em]
  exact ⟨some (.lst .own [d, d']), by simp [execs, t9, t10]⟩
end Den
/-! Nn15: the law holds. -/
namespace Den
open PySem PySem.Spec L2
theorem law_out {n : Nat} {os : List Ob} {m : Int} {sc x : D} {d : List Int} {o3 o4 o5 o6 o7 o8 o9 o10 o11 o12 o13 : Option D} (hd : DOk d) (h1 : 1 ≤ m) (hm : m ≤ 8) (hn : 45 ≤ n) :
    ∃ d' a4 a5 a6 a7 a8 a9 a10 a11 a12 a13, DOk d' ∧ bodyF (TT (n + 5)) (.nm 3) lb_law_0 x ⟨[some sc, some (.lst .own (d.map .int)), some (.int m), o3, o4, o5, o6, o7, o8, o9, o10, o11, o12, o13], os⟩ = some (.nx ⟨[some sc, some (.lst .own (d'.map .int)), some (.int m), some x, a4, a5, a6, a7, a8, a9, a10, a11, a12, a13], os⟩) := by
  obtain ⟨p, d1, hp, h1d, e1⟩ := s_some_plan (n := n + 4) (os := os) hd h1 hm (by omega)
  obtain ⟨q, d2, e2, q0, q1, h2d⟩ := r_off (TT (n + 4)) h1d m os (by omega) (by omega)
  have t0 : exec (TT (n + 5)) (tN lb_law_0 0) ⟨[some sc, some (.lst .own (d.map .int)), some (.int m), some x, o4, o5, o6, o7, o8, o9, o10, o11, o12, o13], os⟩ = some (.nx ⟨[some sc, some (.lst .own (d1.map .int)), some (.int m), some x, some p, o5, o6, o7, o8, o9, o10, o11, o12, o13], os⟩) := by
    unfold lb_law_0
    simp [tN, execs, exec, ev, evs, evc, evo, evIt, evOps, fillC, ioSl, putB, evPk, evFz, opd, isVar, hasV, fill1, fillP, asg, asgs, Den.view, rdV, mvV, setS, shal_own, shal_fz, shal_ro, shal_int, shal_bl, shal_str, shal_non, shal_tup, fz, fzL, fzO, bnd, ret, lift, Den.thn, sthn, idxD, opF, addD, subD, mulD, modD, fdivD, negD, notD, isNonD, cmpD, grd, isLst, setiM, biF, lenF, small, mutL, smallR, lim, flatD, fn_some_plan, callF, e1]
  have t1 : exec (TT (n + 5)) (tN lb_law_0 1) ⟨[some sc, some (.lst .own (d1.map .int)), some (.int m), some x, some p, o5, o6, o7, o8, o9, o10, o11, o12, o13], os⟩ = some (.nx ⟨[some sc, some (.lst .own (d2.map .int)), some (.int m), some x, some p, some (.int (1 + q)), o6, o7, o8, o9, o10, o11, o12, o13], os⟩) := by
    unfold lb_law_0
    simp [tN, execs, exec, ev, evs, evc, evo, evIt, evOps, fillC, ioSl, putB, evPk, evFz, opd, isVar, hasV, fill1, fillP, asg, asgs, Den.view, rdV, mvV, setS, shal_own, shal_fz, shal_ro, shal_int, shal_bl, shal_str, shal_non, shal_tup, fz, fzL, fzO, bnd, ret, lift, Den.thn, sthn, idxD, opF, addD, subD, mulD, modD, fdivD, negD, notD, isNonD, cmpD, grd, isLst, setiM, biF, lenF, small, mutL, smallR, lim, flatD, fn_off, callF, e2]
  obtain ⟨p2, q', hp2, hq, hqm, t2⟩ := law_t2 (n := n) (os := os) (sc := sc) (x := x) (o6 := o6) (o7 := o7) (o8 := o8) (o9 := o9) (o10 := o10) (o11 := o11) (o12 := o12) (o13 := o13) h2d h1 hm q0 q1 hp hn
  obtain ⟨p3, d3, a9, hp3, h3d, t3⟩ := law_t3 (n := n) (os := os) (q := q') (sc := sc) (x := x) (o6 := o6) (o7 := o7) (o8 := o8) (o9 := o9) (o10 := o10) (o11 := o11) (o12 := o12) (o13 := o13) h2d h1 hm hp2 hn
  have t4 := law_t4 (n := n) (os := os) (sc := sc) (x := x) (dd := .lst .own (d3.map .int)) (o6 := o6) (o7 := o7) (o8 := o8) (o9 := a9) (o10 := o10) (o11 := o11) (o12 := o12) (o13 := o13) h1 hm hq hqm hp3 hn
  have t5 := law_t5 (n := n) (os := os) (sc := sc) (x := x) (dd := .lst .own (d3.map .int)) (o7 := o7) (o8 := o8) (o9 := a9) (o10 := o10) (o11 := o11) (o12 := o12) (o13 := o13) h1 hm hq hqm hp3 hn
  obtain ⟨a7, a10, a11, a12, a13, t6⟩ := law_t6 (n := n) (os := os) (sc := sc) (x := x) (dd := .lst .own (d3.map .int)) (o7 := o7) (o8 := o8) (o9 := a9) (o10 := o10) (o11 := o11) (o12 := o12) (o13 := o13) h1 hm hq hqm hp3 hn
  have t7 := law_t7 (n := n) (os := os) (sc := sc) (x := x) (dd := .lst .own (d3.map .int)) (o7 := a7) (o8 := o8) (o9 := a9) (o10 := a10) (o11 := a11) (o12 := a12) (o13 := a13) h1 hm hq hqm hp3 hn
  have t8 := law_t8 (n := n) (os := os) (sc := sc) (x := x) (dd := .lst .own (d3.map .int)) (o7 := a7) (o8 := o8) (o9 := a9) (o10 := a10) (o11 := a11) (o12 := a12) (o13 := a13) h1 hm hq hqm hp3 hn
  obtain ⟨a8, t9⟩ := law_t9 (n := n) (os := os) (sc := sc) (x := x) (dd := .lst .own (d3.map .int)) (o7 := a7) (o8 := o8) (o9 := a9) (o10 := a10) (o11 := a11) (o12 := a12) (o13 := a13) h1 hm hq hqm hp3 hn
  refine ⟨d3, some p3, some (.int q'), some (trimF 17 p3 (allL m q')), a7, a8, a9, a10, a11, a12, a13, h3d, ?_⟩
  have eb : lb_law_0 = .cons (tN lb_law_0 0) (.cons (tN lb_law_0 1) (.cons (tN lb_law_0 2) (.cons (tN lb_law_0 3) (.cons (tN lb_law_0 4) (.cons (tN lb_law_0 5) (.cons (tN lb_law_0 6) (.cons (tN lb_law_0 7) (.cons (tN lb_law_0 8) (.cons (tN lb_law_0 9) (.cons (tN lb_law_0 10) .nil)))))))))) := rfl
  have go : ∀ {t : T} {ts : Ts} {s s' : S}, exec (TT (n + 5)) t s = some (.nx s') → execs (TT (n + 5)) (.cons t ts) s = execs (TT (n + 5)) ts s' := fun {t ts s s'} e => by
    show sthn (exec (TT (n + 5)) t s) _ = _
    rw [e, sthn_nx]
  unfold bodyF
  rw [eb]
  simp only [asg, Den.thn, setS]
  exact (go t0).trans ((go t1).trans ((go t2).trans ((go t3).trans ((go t4).trans ((go t5).trans ((go t6).trans ((go t7).trans ((go t8).trans t9))))))))
theorem law_true (ns : List Int) (hl : ns.length ≤ 63) (hb : ∀ z ∈ ns, Builtin.Int.intBits z ≤ 1048576) : runB (tab gloC defsC 60) d_law.N.length [.val] b_law [.lst .ro (ns.map .int)] [] = some (.ret (.bl true) [] []) := by
  show runB (TT 60) 14 [.val] b_law [.lst .ro (ns.map .int)] [] = some (.ret (.bl true) [] [])
  obtain ⟨d0, hd0, e0⟩ := s_dice (n := 59) (os := []) hl
  obtain ⟨m, d1, m1, m8, hd1, e1⟩ := s_many (n := 58) (os := []) hd0
  have eb : b_law = .cons (tN b_law 0) (.cons (tN b_law 1) (.cons (tN b_law 2) (.cons (tN b_law 3) .nil))) := rfl
  have t0 : exec (TT 60) (tN b_law 0) ⟨[some (.lst .ro (ns.map .int)), none, none, none, none, none, none, none, none, none, none, none, none, none], []⟩ = some (.nx ⟨[some (.lst .ro (ns.map .int)), some (.lst .own (d0.map .int)), none, none, none, none, none, none, none, none, none, none, none, none], []⟩) := by
    unfold b_law
    simp [tN, execs, exec, ev, evs, evc, evo, evIt, evOps, fillC, ioSl, putB, evPk, evFz, opd, isVar, hasV, fill1, fillP, asg, asgs, Den.view, rdV, mvV, setS, shal_own, shal_fz, shal_ro, shal_int, shal_bl, shal_str, shal_non, shal_tup, fz, fzL, fzO, bnd, ret, lift, Den.thn, sthn, idxD, opF, addD, subD, mulD, modD, fdivD, negD, notD, isNonD, cmpD, grd, isLst, setiM, biF, lenF, small, mutL, smallR, lim, flatD, fn_dice, callF, e0]
  have t1 : exec (TT 60) (tN b_law 1) ⟨[some (.lst .ro (ns.map .int)), some (.lst .own (d0.map .int)), none, none, none, none, none, none, none, none, none, none, none, none], []⟩ = some (.nx ⟨[some (.lst .ro (ns.map .int)), some (.lst .own (d1.map .int)), some (.int m), none, none, none, none, none, none, none, none, none, none, none], []⟩) := by
    unfold b_law
    simp [tN, execs, exec, ev, evs, evc, evo, evIt, evOps, fillC, ioSl, putB, evPk, evFz, opd, isVar, hasV, fill1, fillP, asg, asgs, Den.view, rdV, mvV, setS, shal_own, shal_fz, shal_ro, shal_int, shal_bl, shal_str, shal_non, shal_tup, fz, fzL, fzO, bnd, ret, lift, Den.thn, sthn, idxD, opF, addD, subD, mulD, modD, fdivD, negD, notD, isNonD, cmpD, grd, isLst, setiM, biF, lenF, small, mutL, smallR, lim, flatD, fn_many, callF, e1]
  have t2 : ∃ d' a3 a4 a5 a6 a7 a8 a9 a10 a11 a12 a13, exec (TT 60) (tN b_law 2) ⟨[some (.lst .ro (ns.map .int)), some (.lst .own (d1.map .int)), some (.int m), none, none, none, none, none, none, none, none, none, none, none], []⟩ = some (.nx ⟨[some (.lst .ro (ns.map .int)), some (.lst .own (List.map .int d')), some (.int m), a3, a4, a5, a6, a7, a8, a9, a10, a11, a12, a13], []⟩) := by
    have e := exec_for (Γ := TT 60) (tg := .nm 3) (it := .rng1 (.cst (.int 2))) (b := lb_law_0) (s := ⟨[some (.lst .ro (ns.map .int)), some (.lst .own (d1.map .int)), some (.int m), none, none, none, none, none, none, none, none, none, none, none], []⟩) (s1 := ⟨[some (.lst .ro (ns.map .int)), some (.lst .own (d1.map .int)), some (.int m), none, none, none, none, none, none, none, none, none, none, none], []⟩) (xs := rngL 0 2) (by simp [execs, exec, ev, evs, evc, evo, evIt, evOps, fillC, ioSl, putB, evPk, evFz, opd, isVar, hasV, fill1, fillP, asg, asgs, Den.view, rdV, mvV, setS, shal_own, shal_fz, shal_ro, shal_int, shal_bl, shal_str, shal_non, shal_tup, fz, fzL, fzO, bnd, ret, lift, Den.thn, sthn, idxD, opF, addD, subD, mulD, modD, fdivD, negD, notD, isNonD, cmpD, grd, isLst, setiM, biF, lenF, small, mutL, smallR, lim, flatD])
    obtain ⟨s', e2, d', a3, a4, a5, a6, a7, a8, a9, a10, a11, a12, a13, _, rfl⟩ := forGo_ex (f := bodyF (TT 60) (.nm 3) lb_law_0) (fun (_ : Nat) s => ∃ d' a3 a4 a5 a6 a7 a8 a9 a10 a11 a12 a13, DOk d' ∧ s = (⟨[some (.lst .ro (ns.map .int)), some (.lst .own (List.map .int d')), some (.int m), a3, a4, a5, a6, a7, a8, a9, a10, a11, a12, a13], []⟩ : S)) (rngL 0 2) 0 (fun i y s hx hs => by
      obtain ⟨d', a3, a4, a5, a6, a7, a8, a9, a10, a11, a12, a13, hd', rfl⟩ := hs
      obtain ⟨d2, b4, b5, b6, b7, b8, b9, b10, b11, b12, b13, hd2, e⟩ := law_out (n := 55) (os := []) (sc := .lst .ro (ns.map .int)) (x := y) (o3 := a3) (o4 := a4) (o5 := a5) (o6 := a6) (o7 := a7) (o8 := a8) (o9 := a9) (o10 := a10) (o11 := a11) (o12 := a12) (o13 := a13) hd' m1 m8 (by omega)
      exact ⟨_, e, d2, some y, b4, b5, b6, b7, b8, b9, b10, b11, b12, b13, hd2, rfl⟩) _ ⟨d1, none, none, none, none, none, none, none, none, none, none, none, hd1, rfl⟩
    exact ⟨d', a3, a4, a5, a6, a7, a8, a9, a10, a11, a12, a13, e.trans e2⟩
  obtain ⟨d', a3, a4, a5, a6, a7, a8, a9, a10, a11, a12, a13, t2⟩ := t2
  unfold runB startS
  rw [eb]
  simp [execs, t0, t1, t2]
  simp [tN, b_law, execs, exec, ev, evs, evc, evo, evIt, evOps, fillC, ioSl, putB, evPk, evFz, opd, isVar, hasV, fill1, fillP, asg, asgs, Den.view, rdV, mvV, setS, shal_own, shal_fz, shal_ro, shal_int, shal_bl, shal_str, shal_non, shal_tup, fz, fzL, fzO, bnd, ret, lift, Den.thn, sthn, idxD, opF, addD, subD, mulD, modD, fdivD, negD, notD, isNonD, cmpD, grd, isLst, setiM, biF, lenF, small, mutL, smallR, lim, flatD, outsOf]
end Den
namespace Den
open PySem PySem.Spec L2
/-! ### what the head has written -/
theorem law_mk {w : World} {K : PySem.W.Frag} {h : Heap} {mg : Str → Option Value} {fa : Addr} (KX : K.In h) (G : h.Ns mainGlobals mg) (T : AllTab PySem.Challenge.pw_oneair_k15_whole_without_idle_asks mg h) (hfa : mg "law" = some (.ref fa))
    {fx6 : Addr} {ocx6 kVx6 dcx6 pmx6 cdx6 ctx6 : Value} {odx6 anx6 : Option Addr} {slx6 : Array (Option Value)}
    {fx7 : Addr} {ocx7 kVx7 dcx7 pmx7 cdx7 ctx7 : Value} {odx7 anx7 : Option Addr} {slx7 : Array (Option Value)}
    {fx8 : Addr} {ocx8 kVx8 dcx8 pmx8 ctx8 : Value} {odx8 anx8 : Option Addr} {slx8 : Array (Option Value)}
    {cx8 Px8 : Addr} {ex8 : Value} {ddx8 : Option Addr} {vsx8 : Array Value} {smx8 : Array (Option Value)}
    {fx12 : Addr} {ocx12 kVx12 dcx12 pmx12 cdx12 ctx12 : Value} {odx12 anx12 : Option Addr} {slx12 : Array (Option Value)}
    {fx13 : Addr} {ocx13 kVx13 dcx13 pmx13 cdx13 ctx13 : Value} {odx13 anx13 : Option Addr} {slx13 : Array (Option Value)}
    {fx14 : Addr} {ocx14 kVx14 dcx14 pmx14 cdx14 ctx14 : Value} {odx14 anx14 : Option Addr} {slx14 : Array (Option Value)}
    {fx15 : Addr} {ocx15 kVx15 dcx15 pmx15 cdx15 ctx15 : Value} {odx15 anx15 : Option Addr} {slx15 : Array (Option Value)}
    {fx16 : Addr} {ocx16 kVx16 dcx16 pmx16 cdx16 ctx16 : Value} {odx16 anx16 : Option Addr} {slx16 : Array (Option Value)}
    {fx17 : Addr} {ocx17 kVx17 dcx17 pmx17 cdx17 ctx17 : Value} {odx17 anx17 : Option Addr} {slx17 : Array (Option Value)}
    {fx18 : Addr} {ocx18 kVx18 dcx18 pmx18 cdx18 ctx18 : Value} {odx18 anx18 : Option Addr} {slx18 : Array (Option Value)}
    {fx19 : Addr} {ocx19 kVx19 dcx19 pmx19 cdx19 ctx19 : Value} {odx19 anx19 : Option Addr} {slx19 : Array (Option Value)}
    {fx20 : Addr} {ocx20 kVx20 dcx20 pmx20 cdx20 ctx20 : Value} {odx20 anx20 : Option Addr} {slx20 : Array (Option Value)}
    {fx21 : Addr} {ocx21 kVx21 dcx21 pmx21 cdx21 ctx21 : Value} {odx21 anx21 : Option Addr} {slx21 : Array (Option Value)}
    {fx22 : Addr} {ocx22 kVx22 dcx22 pmx22 cdx22 ctx22 : Value} {odx22 anx22 : Option Addr} {slx22 : Array (Option Value)}
    {fx24 : Addr} {ocx24 kVx24 dcx24 pmx24 cdx24 ctx24 : Value} {odx24 anx24 : Option Addr} {slx24 : Array (Option Value)}
    {fx25 : Addr} {ocx25 kVx25 dcx25 pmx25 cdx25 ctx25 : Value} {odx25 anx25 : Option Addr} {slx25 : Array (Option Value)}
    {fx26 : Addr} {ocx26 kVx26 dcx26 pmx26 cdx26 ctx26 : Value} {odx26 anx26 : Option Addr} {slx26 : Array (Option Value)}
    {fx27 : Addr} {ocx27 kVx27 dcx27 pmx27 cdx27 ctx27 : Value} {odx27 anx27 : Option Addr} {slx27 : Array (Option Value)}
    {fx28 : Addr} {ocx28 kVx28 dcx28 pmx28 cdx28 ctx28 : Value} {odx28 anx28 : Option Addr} {slx28 : Array (Option Value)}
    {fx29 : Addr} {ocx29 kVx29 dcx29 pmx29 cdx29 ctx29 : Value} {odx29 anx29 : Option Addr} {slx29 : Array (Option Value)}
    {fx30 : Addr} {ocx30 kVx30 dcx30 pmx30 cdx30 ctx30 : Value} {odx30 anx30 : Option Addr} {slx30 : Array (Option Value)}
    {fx31 : Addr} {ocx31 kVx31 dcx31 pmx31 cdx31 ctx31 : Value} {odx31 anx31 : Option Addr} {slx31 : Array (Option Value)}
    {fx32 : Addr} {ocx32 kVx32 dcx32 pmx32 cdx32 ctx32 : Value} {odx32 anx32 : Option Addr} {slx32 : Array (Option Value)}
    {fx33 : Addr} {ocx33 kVx33 dcx33 pmx33 cdx33 ctx33 : Value} {odx33 anx33 : Option Addr} {slx33 : Array (Option Value)}
    {fx34 : Addr} {ocx34 kVx34 dcx34 pmx34 cdx34 ctx34 : Value} {odx34 anx34 : Option Addr} {slx34 : Array (Option Value)}
    {fx35 : Addr} {ocx35 kVx35 dcx35 pmx35 cdx35 ctx35 : Value} {odx35 anx35 : Option Addr} {slx35 : Array (Option Value)}
    {fx36 : Addr} {ocx36 kVx36 dcx36 pmx36 cdx36 ctx36 : Value} {odx36 anx36 : Option Addr} {slx36 : Array (Option Value)}
    {fx37 : Addr} {ocx37 kVx37 dcx37 pmx37 cdx37 ctx37 : Value} {odx37 anx37 : Option Addr} {slx37 : Array (Option Value)}
    {fx38 : Addr} {ocx38 kVx38 dcx38 pmx38 cdx38 ctx38 : Value} {odx38 anx38 : Option Addr} {slx38 : Array (Option Value)}
    {t_MOST_STATIONS : Tok}
    {t_MOST_DEEP : Tok}
    {a_END : Addr} {cl_END : Array (Option Value)} {n_END : Nat} {t_END_0 : Tok}
    (ax6 : PySem.W.nsIn K mainGlobals "need_many" = some (some (.ref fx6)))
    (lx6 : K.lookup fx6 = some ⟨ocx6, odx6, .func (PySem.W.fnOf "need_many" "need_many" (defArgs (topS 6)) (defBody (topS 6)) (defScope (topS 6)) .none kVx6 dcx6 pmx6 anx6 cdx6 ctx6), slx6⟩)
    (ccx6 : PySem.W.codeIn K cdx6 "need_many" = true)
    (kx6 : PySem.W.keepIn K (.ref fx6) = true)
    (ax7 : PySem.W.nsIn K mainGlobals "need_most" = some (some (.ref fx7)))
    (lx7 : K.lookup fx7 = some ⟨ocx7, odx7, .func (PySem.W.fnOf "need_most" "need_most" (defArgs (topS 7)) (defBody (topS 7)) (defScope (topS 7)) .none kVx7 dcx7 pmx7 anx7 cdx7 ctx7), slx7⟩)
    (ccx7 : PySem.W.codeIn K cdx7 "need_most" = true)
    (kx7 : PySem.W.keepIn K (.ref fx7) = true)
    (ax8 : PySem.W.nsIn K mainGlobals "all_sets" = some (some (.ref fx8)))
    (lx8 : K.lookup fx8 = some ⟨ocx8, odx8, .func (PySem.W.fnOf "all_sets" "all_sets" (defArgs (topS 8)) (defBody (topS 8)) (defScope (topS 8)) .none kVx8 dcx8 pmx8 anx8 (.ref cx8) ctx8), slx8⟩)
    (ccx8 : PySem.W.codeIn K (.ref cx8) "all_sets" = true)
    (kx8 : PySem.W.keepIn K (.ref fx8) = true)
    (lcx8 : K.lookup cx8 = some ⟨ex8, ddx8, .fields vsx8, smx8⟩)
    (hx8 : vsx8[11]? = some (.ref Px8))
    (npx8 : K.lookup Px8 = none)
    (ax12 : PySem.W.nsIn K mainGlobals "parts_of" = some (some (.ref fx12)))
    (lx12 : K.lookup fx12 = some ⟨ocx12, odx12, .func (PySem.W.fnOf "parts_of" "parts_of" (defArgs (topS 12)) (defBody (topS 12)) (defScope (topS 12)) .none kVx12 dcx12 pmx12 anx12 cdx12 ctx12), slx12⟩)
    (ccx12 : PySem.W.codeIn K cdx12 "parts_of" = true)
    (kx12 : PySem.W.keepIn K (.ref fx12) = true)
    (ax13 : PySem.W.nsIn K mainGlobals "deepness" = some (some (.ref fx13)))
    (lx13 : K.lookup fx13 = some ⟨ocx13, odx13, .func (PySem.W.fnOf "deepness" "deepness" (defArgs (topS 13)) (defBody (topS 13)) (defScope (topS 13)) .none kVx13 dcx13 pmx13 anx13 cdx13 ctx13), slx13⟩)
    (ccx13 : PySem.W.codeIn K cdx13 "deepness" = true)
    (kx13 : PySem.W.keepIn K (.ref fx13) = true)
    (ax14 : PySem.W.nsIn K mainGlobals "are_numbers" = some (some (.ref fx14)))
    (lx14 : K.lookup fx14 = some ⟨ocx14, odx14, .func (PySem.W.fnOf "are_numbers" "are_numbers" (defArgs (topS 14)) (defBody (topS 14)) (defScope (topS 14)) .none kVx14 dcx14 pmx14 anx14 cdx14 ctx14), slx14⟩)
    (ccx14 : PySem.W.codeIn K cdx14 "are_numbers" = true)
    (kx14 : PySem.W.keepIn K (.ref fx14) = true)
    (ax15 : PySem.W.nsIn K mainGlobals "fault_of" = some (some (.ref fx15)))
    (lx15 : K.lookup fx15 = some ⟨ocx15, odx15, .func (PySem.W.fnOf "fault_of" "fault_of" (defArgs (topS 15)) (defBody (topS 15)) (defScope (topS 15)) .none kVx15 dcx15 pmx15 anx15 cdx15 ctx15), slx15⟩)
    (ccx15 : PySem.W.codeIn K cdx15 "fault_of" = true)
    (kx15 : PySem.W.keepIn K (.ref fx15) = true)
    (ax16 : PySem.W.nsIn K mainGlobals "need_plan" = some (some (.ref fx16)))
    (lx16 : K.lookup fx16 = some ⟨ocx16, odx16, .func (PySem.W.fnOf "need_plan" "need_plan" (defArgs (topS 16)) (defBody (topS 16)) (defScope (topS 16)) .none kVx16 dcx16 pmx16 anx16 cdx16 ctx16), slx16⟩)
    (ccx16 : PySem.W.codeIn K cdx16 "need_plan" = true)
    (kx16 : PySem.W.keepIn K (.ref fx16) = true)
    (ax17 : PySem.W.nsIn K mainGlobals "step" = some (some (.ref fx17)))
    (lx17 : K.lookup fx17 = some ⟨ocx17, odx17, .func (PySem.W.fnOf "step" "step" (defArgs (topS 17)) (defBody (topS 17)) (defScope (topS 17)) .none kVx17 dcx17 pmx17 anx17 cdx17 ctx17), slx17⟩)
    (ccx17 : PySem.W.codeIn K cdx17 "step" = true)
    (kx17 : PySem.W.keepIn K (.ref fx17) = true)
    (ax18 : PySem.W.nsIn K mainGlobals "followed" = some (some (.ref fx18)))
    (lx18 : K.lookup fx18 = some ⟨ocx18, odx18, .func (PySem.W.fnOf "followed" "followed" (defArgs (topS 18)) (defBody (topS 18)) (defScope (topS 18)) .none kVx18 dcx18 pmx18 anx18 cdx18 ctx18), slx18⟩)
    (ccx18 : PySem.W.codeIn K cdx18 "followed" = true)
    (kx18 : PySem.W.keepIn K (.ref fx18) = true)
    (ax19 : PySem.W.nsIn K mainGlobals "who" = some (some (.ref fx19)))
    (lx19 : K.lookup fx19 = some ⟨ocx19, odx19, .func (PySem.W.fnOf "who" "who" (defArgs (topS 19)) (defBody (topS 19)) (defScope (topS 19)) .none kVx19 dcx19 pmx19 anx19 cdx19 ctx19), slx19⟩)
    (ccx19 : PySem.W.codeIn K cdx19 "who" = true)
    (kx19 : PySem.W.keepIn K (.ref fx19) = true)
    (ax20 : PySem.W.nsIn K mainGlobals "judged" = some (some (.ref fx20)))
    (lx20 : K.lookup fx20 = some ⟨ocx20, odx20, .func (PySem.W.fnOf "judged" "judged" (defArgs (topS 20)) (defBody (topS 20)) (defScope (topS 20)) .none kVx20 dcx20 pmx20 anx20 cdx20 ctx20), slx20⟩)
    (ccx20 : PySem.W.codeIn K cdx20 "judged" = true)
    (kx20 : PySem.W.keepIn K (.ref fx20) = true)
    (ax21 : PySem.W.nsIn K mainGlobals "pruned" = some (some (.ref fx21)))
    (lx21 : K.lookup fx21 = some ⟨ocx21, odx21, .func (PySem.W.fnOf "pruned" "pruned" (defArgs (topS 21)) (defBody (topS 21)) (defScope (topS 21)) .none kVx21 dcx21 pmx21 anx21 cdx21 ctx21), slx21⟩)
    (ccx21 : PySem.W.codeIn K cdx21 "pruned" = true)
    (kx21 : PySem.W.keepIn K (.ref fx21) = true)
    (ax22 : PySem.W.nsIn K mainGlobals "trimmed" = some (some (.ref fx22)))
    (lx22 : K.lookup fx22 = some ⟨ocx22, odx22, .func (PySem.W.fnOf "trimmed" "trimmed" (defArgs (topS 22)) (defBody (topS 22)) (defScope (topS 22)) .none kVx22 dcx22 pmx22 anx22 cdx22 ctx22), slx22⟩)
    (ccx22 : PySem.W.codeIn K cdx22 "trimmed" = true)
    (kx22 : PySem.W.keepIn K (.ref fx22) = true)
    (ax24 : PySem.W.nsIn K mainGlobals "_law_dice" = some (some (.ref fx24)))
    (lx24 : K.lookup fx24 = some ⟨ocx24, odx24, .func (PySem.W.fnOf "_law_dice" "_law_dice" (defArgs (topS 24)) (defBody (topS 24)) (defScope (topS 24)) .none kVx24 dcx24 pmx24 anx24 cdx24 ctx24), slx24⟩)
    (ccx24 : PySem.W.codeIn K cdx24 "_law_dice" = true)
    (kx24 : PySem.W.keepIn K (.ref fx24) = true)
    (ax25 : PySem.W.nsIn K mainGlobals "_law_off" = some (some (.ref fx25)))
    (lx25 : K.lookup fx25 = some ⟨ocx25, odx25, .func (PySem.W.fnOf "_law_off" "_law_off" (defArgs (topS 25)) (defBody (topS 25)) (defScope (topS 25)) .none kVx25 dcx25 pmx25 anx25 cdx25 ctx25), slx25⟩)
    (ccx25 : PySem.W.codeIn K cdx25 "_law_off" = true)
    (kx25 : PySem.W.keepIn K (.ref fx25) = true)
    (ax26 : PySem.W.nsIn K mainGlobals "_law_alike" = some (some (.ref fx26)))
    (lx26 : K.lookup fx26 = some ⟨ocx26, odx26, .func (PySem.W.fnOf "_law_alike" "_law_alike" (defArgs (topS 26)) (defBody (topS 26)) (defScope (topS 26)) .none kVx26 dcx26 pmx26 anx26 cdx26 ctx26), slx26⟩)
    (ccx26 : PySem.W.codeIn K cdx26 "_law_alike" = true)
    (kx26 : PySem.W.keepIn K (.ref fx26) = true)
    (ax27 : PySem.W.nsIn K mainGlobals "_law_mixed" = some (some (.ref fx27)))
    (lx27 : K.lookup fx27 = some ⟨ocx27, odx27, .func (PySem.W.fnOf "_law_mixed" "_law_mixed" (defArgs (topS 27)) (defBody (topS 27)) (defScope (topS 27)) .none kVx27 dcx27 pmx27 anx27 cdx27 ctx27), slx27⟩)
    (ccx27 : PySem.W.codeIn K cdx27 "_law_mixed" = true)
    (kx27 : PySem.W.keepIn K (.ref fx27) = true)
    (ax28 : PySem.W.nsIn K mainGlobals "_law_many" = some (some (.ref fx28)))
    (lx28 : K.lookup fx28 = some ⟨ocx28, odx28, .func (PySem.W.fnOf "_law_many" "_law_many" (defArgs (topS 28)) (defBody (topS 28)) (defScope (topS 28)) .none kVx28 dcx28 pmx28 anx28 cdx28 ctx28), slx28⟩)
    (ccx28 : PySem.W.codeIn K cdx28 "_law_many" = true)
    (kx28 : PySem.W.keepIn K (.ref fx28) = true)
    (ax29 : PySem.W.nsIn K mainGlobals "_law_sets" = some (some (.ref fx29)))
    (lx29 : K.lookup fx29 = some ⟨ocx29, odx29, .func (PySem.W.fnOf "_law_sets" "_law_sets" (defArgs (topS 29)) (defBody (topS 29)) (defScope (topS 29)) .none kVx29 dcx29 pmx29 anx29 cdx29 ctx29), slx29⟩)
    (ccx29 : PySem.W.codeIn K cdx29 "_law_sets" = true)
    (kx29 : PySem.W.keepIn K (.ref fx29) = true)
    (ax30 : PySem.W.nsIn K mainGlobals "_law_plan" = some (some (.ref fx30)))
    (lx30 : K.lookup fx30 = some ⟨ocx30, odx30, .func (PySem.W.fnOf "_law_plan" "_law_plan" (defArgs (topS 30)) (defBody (topS 30)) (defScope (topS 30)) .none kVx30 dcx30 pmx30 anx30 cdx30 ctx30), slx30⟩)
    (ccx30 : PySem.W.codeIn K cdx30 "_law_plan" = true)
    (kx30 : PySem.W.keepIn K (.ref fx30) = true)
    (ax31 : PySem.W.nsIn K mainGlobals "_law_each" = some (some (.ref fx31)))
    (lx31 : K.lookup fx31 = some ⟨ocx31, odx31, .func (PySem.W.fnOf "_law_each" "_law_each" (defArgs (topS 31)) (defBody (topS 31)) (defScope (topS 31)) .none kVx31 dcx31 pmx31 anx31 cdx31 ctx31), slx31⟩)
    (ccx31 : PySem.W.codeIn K cdx31 "_law_each" = true)
    (kx31 : PySem.W.keepIn K (.ref fx31) = true)
    (ax32 : PySem.W.nsIn K mainGlobals "_law_groups" = some (some (.ref fx32)))
    (lx32 : K.lookup fx32 = some ⟨ocx32, odx32, .func (PySem.W.fnOf "_law_groups" "_law_groups" (defArgs (topS 32)) (defBody (topS 32)) (defScope (topS 32)) .none kVx32 dcx32 pmx32 anx32 cdx32 ctx32), slx32⟩)
    (ccx32 : PySem.W.codeIn K cdx32 "_law_groups" = true)
    (kx32 : PySem.W.keepIn K (.ref fx32) = true)
    (ax33 : PySem.W.nsIn K mainGlobals "_law_some_plan" = some (some (.ref fx33)))
    (lx33 : K.lookup fx33 = some ⟨ocx33, odx33, .func (PySem.W.fnOf "_law_some_plan" "_law_some_plan" (defArgs (topS 33)) (defBody (topS 33)) (defScope (topS 33)) .none kVx33 dcx33 pmx33 anx33 cdx33 ctx33), slx33⟩)
    (ccx33 : PySem.W.codeIn K cdx33 "_law_some_plan" = true)
    (kx33 : PySem.W.keepIn K (.ref fx33) = true)
    (ax34 : PySem.W.nsIn K mainGlobals "_law_followed" = some (some (.ref fx34)))
    (lx34 : K.lookup fx34 = some ⟨ocx34, odx34, .func (PySem.W.fnOf "_law_followed" "_law_followed" (defArgs (topS 34)) (defBody (topS 34)) (defScope (topS 34)) .none kVx34 dcx34 pmx34 anx34 cdx34 ctx34), slx34⟩)
    (ccx34 : PySem.W.codeIn K cdx34 "_law_followed" = true)
    (kx34 : PySem.W.keepIn K (.ref fx34) = true)
    (ax35 : PySem.W.nsIn K mainGlobals "_law_parts" = some (some (.ref fx35)))
    (lx35 : K.lookup fx35 = some ⟨ocx35, odx35, .func (PySem.W.fnOf "_law_parts" "_law_parts" (defArgs (topS 35)) (defBody (topS 35)) (defScope (topS 35)) .none kVx35 dcx35 pmx35 anx35 cdx35 ctx35), slx35⟩)
    (ccx35 : PySem.W.codeIn K cdx35 "_law_parts" = true)
    (kx35 : PySem.W.keepIn K (.ref fx35) = true)
    (ax36 : PySem.W.nsIn K mainGlobals "_law_trim" = some (some (.ref fx36)))
    (lx36 : K.lookup fx36 = some ⟨ocx36, odx36, .func (PySem.W.fnOf "_law_trim" "_law_trim" (defArgs (topS 36)) (defBody (topS 36)) (defScope (topS 36)) .none kVx36 dcx36 pmx36 anx36 cdx36 ctx36), slx36⟩)
    (ccx36 : PySem.W.codeIn K cdx36 "_law_trim" = true)
    (kx36 : PySem.W.keepIn K (.ref fx36) = true)
    (ax37 : PySem.W.nsIn K mainGlobals "_law_idle" = some (some (.ref fx37)))
    (lx37 : K.lookup fx37 = some ⟨ocx37, odx37, .func (PySem.W.fnOf "_law_idle" "_law_idle" (defArgs (topS 37)) (defBody (topS 37)) (defScope (topS 37)) .none kVx37 dcx37 pmx37 anx37 cdx37 ctx37), slx37⟩)
    (ccx37 : PySem.W.codeIn K cdx37 "_law_idle" = true)
    (kx37 : PySem.W.keepIn K (.ref fx37) = true)
    (ax38 : PySem.W.nsIn K mainGlobals "law" = some (some (.ref fx38)))
    (lx38 : K.lookup fx38 = some ⟨ocx38, odx38, .func (PySem.W.fnOf "law" "law" (defArgs (topS 38)) (defBody (topS 38)) (defScope (topS 38)) .none kVx38 dcx38 pmx38 anx38 cdx38 ctx38), slx38⟩)
    (ccx38 : PySem.W.codeIn K cdx38 "law" = true)
    (kx38 : PySem.W.keepIn K (.ref fx38) = true)
    (z_len : PySem.W.nsIn K mainGlobals "len" = some none)
    (z_abs : PySem.W.nsIn K mainGlobals "abs" = some none)
    (z_max : PySem.W.nsIn K mainGlobals "max" = some none)
    (z_min : PySem.W.nsIn K mainGlobals "min" = some none)
    (z_int : PySem.W.nsIn K mainGlobals "int" = some none)
    (z_tuple : PySem.W.nsIn K mainGlobals "tuple" = some none)
    (z_list : PySem.W.nsIn K mainGlobals "list" = some none)
    (z_sorted : PySem.W.nsIn K mainGlobals "sorted" = some none)
    (z_all : PySem.W.nsIn K mainGlobals "all" = some none)
    (z_isinstance : PySem.W.nsIn K mainGlobals "isinstance" = some none)
    (z_range : PySem.W.nsIn K mainGlobals "range" = some none)
    (z_reversed : PySem.W.nsIn K mainGlobals "reversed" = some none)
    (z_set : PySem.W.nsIn K mainGlobals "set" = some none)
    (z_bool : PySem.W.nsIn K mainGlobals "bool" = some none)
    (z_str : PySem.W.nsIn K mainGlobals "str" = some none)
    (z_dict : PySem.W.nsIn K mainGlobals "dict" = some none)
    (z_enumerate : PySem.W.nsIn K mainGlobals "enumerate" = some none)
    (z_zip : PySem.W.nsIn K mainGlobals "zip" = some none)
    (z_sum : PySem.W.nsIn K mainGlobals "sum" = some none)
    (z_any : PySem.W.nsIn K mainGlobals "any" = some none)
    (g_MOST_STATIONS : PySem.W.nsIn K mainGlobals "MOST_STATIONS" = some (some (.int 8 t_MOST_STATIONS)))
    (g_MOST_DEEP : PySem.W.nsIn K mainGlobals "MOST_DEEP" = some (some (.int 20 t_MOST_DEEP)))
    (g_END : PySem.W.nsIn K mainGlobals "END" = some (some (.ref a_END)))
    (q_END : K.lookup a_END = some ⟨.type "tuple", none, .seq #[.str "end" t_END_0] n_END, cl_END⟩) :
    LamX.LawAtS PySem.Challenge.rw_oneair_k15_whole_without_idle_asks w K (L2.CX PySem.Challenge.pw_oneair_k15_whole_without_idle_asks w) 61 63 "_law_script" mg fa h := by
  have e := hfa.symm.trans (PySem.W.mg_of KX G ax38)
  cases e
  have hb : ∀ x ∈ bltL, mg x = none := fun x hx => by
    simp only [bltL, List.mem_cons, List.not_mem_nil, or_false] at hx
    rcases hx with rfl | rfl | rfl | rfl | rfl | rfl | rfl | rfl | rfl | rfl | rfl | rfl | rfl | rfl | rfl | rfl | rfl | rfl | rfl | rfl
    · exact PySem.W.mg_none_of KX G z_len
    · exact PySem.W.mg_none_of KX G z_abs
    · exact PySem.W.mg_none_of KX G z_max
    · exact PySem.W.mg_none_of KX G z_min
    · exact PySem.W.mg_none_of KX G z_int
    · exact PySem.W.mg_none_of KX G z_tuple
    · exact PySem.W.mg_none_of KX G z_list
    · exact PySem.W.mg_none_of KX G z_sorted
    · exact PySem.W.mg_none_of KX G z_all
    · exact PySem.W.mg_none_of KX G z_isinstance
    · exact PySem.W.mg_none_of KX G z_range
    · exact PySem.W.mg_none_of KX G z_reversed
    · exact PySem.W.mg_none_of KX G z_set
    · exact PySem.W.mg_none_of KX G z_bool
    · exact PySem.W.mg_none_of KX G z_str
    · exact PySem.W.mg_none_of KX G z_dict
    · exact PySem.W.mg_none_of KX G z_enumerate
    · exact PySem.W.mg_none_of KX G z_zip
    · exact PySem.W.mg_none_of KX G z_sum
    · exact PySem.W.mg_none_of KX G z_any
  have tb8 := tab_of (x := "all_sets") T KX (by decide +kernel) (PySem.W.mg_of KX G ax8) lx8 rfl rfl lcx8 hx8
  refine ⟨PySem.W.fnOf "law" "law" (defArgs (topS 38)) (defBody (topS 38)) (defScope (topS 38)) .none kVx38 dcx38 pmx38 anx38 cdx38 ctx38, [(cx8, Px8)], spD ⟨K, fun _ => 0, [(Px8, ("all_sets" ++ ".<locals>.") ++ "<lambda>")]⟩ ⟨[.val], runB (tab gloC defsC 60) d_law.N.length [.val] b_law⟩, ?_, ?_, ?_, fun s v => .of_eq rfl, fun H a ns hl hbits hT hS => ?_, fun base hKb hN hTB => ?_⟩
  · intro p hp
    simp only [List.mem_singleton] at hp
    subst hp
    exact tb8.1
  · intro p hp
    simp only [List.mem_singleton] at hp
    subst hp
    exact npx8
  · intro p hp
    simp only [List.mem_singleton] at hp
    subst hp
    exact tb8.2
  · refine sp_law rfl ?_ hS ⟨[], law_true ns hl hbits⟩
    intro p hp
    simp only [List.mem_singleton] at hp
    subst hp
    exact LamX.TabS.nil (hT (cx8, Px8) (by simp))
  · have hgl : ∀ x d, gloC x = some d → ∃ (v : V) (u : Value), mg x = some u ∧ RelV v u ∧ ∀ Φ H ρ, Rep ⟨K, fun _ => 0, [(Px8, ("all_sets" ++ ".<locals>.") ++ "<lambda>")]⟩ Φ H ρ d v [] := fun x d hx => by
      unfold gloC at hx
      split at hx
      · rename_i e
        subst e
        cases hx
        exact ⟨.int 8, _, PySem.W.mg_of KX G g_MOST_STATIONS, ⟨_, rfl⟩, fun _ _ _ => rep_int⟩
      split at hx
      · rename_i e
        subst e
        cases hx
        exact ⟨.int 20, _, PySem.W.mg_of KX G g_MOST_DEEP, ⟨_, rfl⟩, fun _ _ _ => rep_int⟩
      split at hx
      · rename_i e
        subst e
        cases hx
        exact ⟨.ref a_END, _, PySem.W.mg_of KX G g_END, rfl, fun _ _ _ => rep_glo_tup (vs := [.str "end"]) q_END rfl rfl rfl (show 1 ≤ sizeLine by decide) (.cons ⟨_, rfl⟩ .nil) (by simp only [RepL, Rep]; exact ⟨_, _, [], [], rfl, rfl, ⟨rfl, rfl⟩, rfl, rfl⟩)⟩
      cases hx
    have hd : ∀ d ∈ defsC, DfOk K mg base ⟨K, fun _ => 0, [(Px8, ("all_sets" ++ ".<locals>.") ++ "<lambda>")]⟩ d := fun d hd => by
      simp only [defsC, List.mem_cons, List.not_mem_nil, or_false] at hd
      rcases hd with rfl | rfl | rfl | rfl | rfl | rfl | rfl | rfl | rfl | rfl | rfl | rfl | rfl | rfl | rfl | rfl | rfl | rfl | rfl | rfl | rfl | rfl | rfl | rfl | rfl | rfl | rfl | rfl | rfl
      · exact df_mk (d := d_need_many) (st := topS 6) lx6 ccx6 kx6 c_need_many rfl (PySem.W.mg_of KX G ax6) (fun us hl => match us, hl with | [_], _ => rfl) rfl
      · exact df_mk (d := d_need_most) (st := topS 7) lx7 ccx7 kx7 c_need_most rfl (PySem.W.mg_of KX G ax7) (fun us hl => match us, hl with | [_, _], _ => rfl) rfl
      · exact df_mkL (d := d_all_sets) (st := topS 8) lx8 ccx8 kx8 c_all_sets rfl (PySem.W.mg_of KX G ax8) (fun us hl => match us, hl with | [_, _], _ => rfl) ⟨cx8, Px8, rfl, hTB (cx8, Px8) List.mem_cons_self, List.mem_cons_self, fun p hp _ => by rw [List.mem_singleton.mp hp]; rfl⟩
      · exact df_mk (d := d_parts_of) (st := topS 12) lx12 ccx12 kx12 c_parts_of rfl (PySem.W.mg_of KX G ax12) (fun us hl => match us, hl with | [_], _ => rfl) rfl
      · exact df_mk (d := d_deepness) (st := topS 13) lx13 ccx13 kx13 c_deepness rfl (PySem.W.mg_of KX G ax13) (fun us hl => match us, hl with | [_], _ => rfl) rfl
      · exact df_mk (d := d_are_numbers) (st := topS 14) lx14 ccx14 kx14 c_are_numbers rfl (PySem.W.mg_of KX G ax14) (fun us hl => match us, hl with | [_, _], _ => rfl) rfl
      · exact df_mk (d := d_fault_of) (st := topS 15) lx15 ccx15 kx15 c_fault_of rfl (PySem.W.mg_of KX G ax15) (fun us hl => match us, hl with | [_, _], _ => rfl) rfl
      · exact df_mk (d := d_need_plan) (st := topS 16) lx16 ccx16 kx16 c_need_plan rfl (PySem.W.mg_of KX G ax16) (fun us hl => match us, hl with | [_, _], _ => rfl) rfl
      · exact df_mk (d := d_step) (st := topS 17) lx17 ccx17 kx17 c_step rfl (PySem.W.mg_of KX G ax17) (fun us hl => match us, hl with | [_, _], _ => rfl) rfl
      · exact df_mk (d := d_followed) (st := topS 18) lx18 ccx18 kx18 c_followed rfl (PySem.W.mg_of KX G ax18) (fun us hl => match us, hl with | [_, _], _ => rfl) rfl
      · exact df_mk (d := d_who) (st := topS 19) lx19 ccx19 kx19 c_who rfl (PySem.W.mg_of KX G ax19) (fun us hl => match us, hl with | [_, _], _ => rfl) rfl
      · exact df_mk (d := d_judged) (st := topS 20) lx20 ccx20 kx20 c_judged rfl (PySem.W.mg_of KX G ax20) (fun us hl => match us, hl with | [_, _, _], _ => rfl) rfl
      · exact df_mk (d := d_pruned) (st := topS 21) lx21 ccx21 kx21 c_pruned rfl (PySem.W.mg_of KX G ax21) (fun us hl => match us, hl with | [_, _], _ => rfl) rfl
      · exact df_mk (d := d_trimmed) (st := topS 22) lx22 ccx22 kx22 c_trimmed rfl (PySem.W.mg_of KX G ax22) (fun us hl => match us, hl with | [_, _, _], _ => rfl) rfl
      · exact df_mk (d := d__law_dice) (st := topS 24) lx24 ccx24 kx24 c__law_dice rfl (PySem.W.mg_of KX G ax24) (fun us hl => match us, hl with | [_, _], _ => rfl) rfl
      · exact df_mk (d := d__law_off) (st := topS 25) lx25 ccx25 kx25 c__law_off rfl (PySem.W.mg_of KX G ax25) (fun us hl => match us, hl with | [_, _], _ => rfl) rfl
      · exact df_mk (d := d__law_alike) (st := topS 26) lx26 ccx26 kx26 c__law_alike rfl (PySem.W.mg_of KX G ax26) (fun us hl => match us, hl with | [_, _], _ => rfl) rfl
      · exact df_mk (d := d__law_mixed) (st := topS 27) lx27 ccx27 kx27 c__law_mixed rfl (PySem.W.mg_of KX G ax27) (fun us hl => match us, hl with | [_, _], _ => rfl) rfl
      · exact df_mk (d := d__law_many) (st := topS 28) lx28 ccx28 kx28 c__law_many rfl (PySem.W.mg_of KX G ax28) (fun us hl => match us, hl with | [_], _ => rfl) rfl
      · exact df_mk (d := d__law_sets) (st := topS 29) lx29 ccx29 kx29 c__law_sets rfl (PySem.W.mg_of KX G ax29) (fun us hl => match us, hl with | [_, _], _ => rfl) rfl
      · exact df_mk (d := d__law_plan) (st := topS 30) lx30 ccx30 kx30 c__law_plan rfl (PySem.W.mg_of KX G ax30) (fun us hl => match us, hl with | [_, _, _], _ => rfl) rfl
      · exact df_mk (d := d__law_each) (st := topS 31) lx31 ccx31 kx31 c__law_each rfl (PySem.W.mg_of KX G ax31) (fun us hl => match us, hl with | [_, _], _ => rfl) rfl
      · exact df_mk (d := d__law_groups) (st := topS 32) lx32 ccx32 kx32 c__law_groups rfl (PySem.W.mg_of KX G ax32) (fun us hl => match us, hl with | [_], _ => rfl) rfl
      · exact df_mk (d := d__law_some_plan) (st := topS 33) lx33 ccx33 kx33 c__law_some_plan rfl (PySem.W.mg_of KX G ax33) (fun us hl => match us, hl with | [_, _], _ => rfl) rfl
      · exact df_mk (d := d__law_followed) (st := topS 34) lx34 ccx34 kx34 c__law_followed rfl (PySem.W.mg_of KX G ax34) (fun us hl => match us, hl with | [_, _], _ => rfl) rfl
      · exact df_mk (d := d__law_parts) (st := topS 35) lx35 ccx35 kx35 c__law_parts rfl (PySem.W.mg_of KX G ax35) (fun us hl => match us, hl with | [_], _ => rfl) rfl
      · exact df_mk (d := d__law_trim) (st := topS 36) lx36 ccx36 kx36 c__law_trim rfl (PySem.W.mg_of KX G ax36) (fun us hl => match us, hl with | [_, _], _ => rfl) rfl
      · exact df_mk (d := d__law_idle) (st := topS 37) lx37 ccx37 kx37 c__law_idle rfl (PySem.W.mg_of KX G ax37) (fun us hl => match us, hl with | [_, _], _ => rfl) rfl
      · exact df_mk (d := d_law) (st := topS 38) lx38 ccx38 kx38 c_law rfl (PySem.W.mg_of KX G ax38) (fun us hl => match us, hl with | [_], _ => rfl) rfl
    obtain ⟨hcl, hsl⟩ := and2 c_law
    exact fn_ok lx38 ccx38 (scB_ok hsl) rfl rfl hcl hb (tab_ok rfl hb hd hgl 60) (fun y e hy => hgl y e (by rw [tab_glo] at hy; exact hy)) (fun hl => by cases hl)
end Den
open PySem PySem.W PyProof.Rows
set_option maxHeartbeats 0 in
theorem PySem.Challenge.cw_oneair_k15_whole_without_idle_asks_holds : PySem.Challenge.rw_oneair_k15_whole_without_idle_asks.Holds := by
  w_on; o_law; k_head; (case hw => w_witness2)
  k_fill
  refine Den.walk_den (l := PySem.Challenge.rw_oneair_k15_whole_without_idle_asks) (n := 63) (k := 61) (x := "_law_script") (CX := fun w => L2.CX PySem.Challenge.pw_oneair_k15_whole_without_idle_asks w) rfl (by decide) rfl ⟨rfl, by decide, by decide⟩ (fun w h Y => by first | exact PySem.W.kIn_of Y | exact PySem.W.km_in_of Y) ?F (fun _ _ _ _ _ z => by obtain ⟨_, _, _, _, _, _, _, _, _, _, _, _, z⟩ := z; exact z)
  case F =>
    intro w mg fa h KX G hmg T
    refine' Den.law_mk KX G T hmg ?ax6 ?lx6 ?ccx6 ?kx6 ?ax7 ?lx7 ?ccx7 ?kx7 ?ax8 ?lx8 ?ccx8 ?kx8 ?lcx8 ?hx8 ?npx8 ?ax12 ?lx12 ?ccx12 ?kx12 ?ax13 ?lx13 ?ccx13 ?kx13 ?ax14 ?lx14 ?ccx14 ?kx14 ?ax15 ?lx15 ?ccx15 ?kx15 ?ax16 ?lx16 ?ccx16 ?kx16 ?ax17 ?lx17 ?ccx17 ?kx17 ?ax18 ?lx18 ?ccx18 ?kx18 ?ax19 ?lx19 ?ccx19 ?kx19 ?ax20 ?lx20 ?ccx20 ?kx20 ?ax21 ?lx21 ?ccx21 ?kx21 ?ax22 ?lx22 ?ccx22 ?kx22 ?ax24 ?lx24 ?ccx24 ?kx24 ?ax25 ?lx25 ?ccx25 ?kx25 ?ax26 ?lx26 ?ccx26 ?kx26 ?ax27 ?lx27 ?ccx27 ?kx27 ?ax28 ?lx28 ?ccx28 ?kx28 ?ax29 ?lx29 ?ccx29 ?kx29 ?ax30 ?lx30 ?ccx30 ?kx30 ?ax31 ?lx31 ?ccx31 ?kx31 ?ax32 ?lx32 ?ccx32 ?kx32 ?ax33 ?lx33 ?ccx33 ?kx33 ?ax34 ?lx34 ?ccx34 ?kx34 ?ax35 ?lx35 ?ccx35 ?kx35 ?ax36 ?lx36 ?ccx36 ?kx36 ?ax37 ?lx37 ?ccx37 ?kx37 ?ax38 ?lx38 ?ccx38 ?kx38 ?z_len ?z_abs ?z_max ?z_min ?z_int ?z_tuple ?z_list ?z_sorted ?z_all ?z_isinstance ?z_range ?z_reversed ?z_set ?z_bool ?z_str ?z_dict ?z_enumerate ?z_zip ?z_sum ?z_any ?g_MOST_STATIONS ?g_MOST_DEEP ?g_END ?q_END
    (case ax6 => k_is); (case lx6 => k_is); (case ccx6 => k_is); (case kx6 => k_is); (case ax7 => k_is); (case lx7 => k_is); (case ccx7 => k_is); (case kx7 => k_is); (case ax8 => k_is); (case lx8 => k_is); (case ccx8 => k_is); (case kx8 => k_is); (case lcx8 => k_is); (case hx8 => rfl); (case npx8 => kernel_rfl); (case ax12 => k_is); (case lx12 => k_is); (case ccx12 => k_is); (case kx12 => k_is); (case ax13 => k_is); (case lx13 => k_is); (case ccx13 => k_is); (case kx13 => k_is); (case ax14 => k_is); (case lx14 => k_is); (case ccx14 => k_is); (case kx14 => k_is); (case ax15 => k_is); (case lx15 => k_is); (case ccx15 => k_is); (case kx15 => k_is); (case ax16 => k_is); (case lx16 => k_is); (case ccx16 => k_is); (case kx16 => k_is); (case ax17 => k_is); (case lx17 => k_is); (case ccx17 => k_is); (case kx17 => k_is); (case ax18 => k_is); (case lx18 => k_is); (case ccx18 => k_is); (case kx18 => k_is); (case ax19 => k_is); (case lx19 => k_is); (case ccx19 => k_is); (case kx19 => k_is); (case ax20 => k_is); (case lx20 => k_is); (case ccx20 => k_is); (case kx20 => k_is); (case ax21 => k_is); (case lx21 => k_is); (case ccx21 => k_is); (case kx21 => k_is); (case ax22 => k_is); (case lx22 => k_is); (case ccx22 => k_is); (case kx22 => k_is); (case ax24 => k_is); (case lx24 => k_is); (case ccx24 => k_is); (case kx24 => k_is); (case ax25 => k_is); (case lx25 => k_is); (case ccx25 => k_is); (case kx25 => k_is); (case ax26 => k_is); (case lx26 => k_is); (case ccx26 => k_is); (case kx26 => k_is); (case ax27 => k_is); (case lx27 => k_is); (case ccx27 => k_is); (case kx27 => k_is); (case ax28 => k_is); (case lx28 => k_is); (case ccx28 => k_is); (case kx28 => k_is); (case ax29 => k_is); (case lx29 => k_is); (case ccx29 => k_is); (case kx29 => k_is); (case ax30 => k_is); (case lx30 => k_is); (case ccx30 => k_is); (case kx30 => k_is); (case ax31 => k_is); (case lx31 => k_is); (case ccx31 => k_is); (case kx31 => k_is); (case ax32 => k_is); (case lx32 => k_is); (case ccx32 => k_is); (case kx32 => k_is); (case ax33 => k_is); (case lx33 => k_is); (case ccx33 => k_is); (case kx33 => k_is); (case ax34 => k_is); (case lx34 => k_is); (case ccx34 => k_is); (case kx34 => k_is); (case ax35 => k_is); (case lx35 => k_is); (case ccx35 => k_is); (case kx35 => k_is); (case ax36 => k_is); (case lx36 => k_is); (case ccx36 => k_is); (case kx36 => k_is); (case ax37 => k_is); (case lx37 => k_is); (case ccx37 => k_is); (case kx37 => k_is); (case ax38 => k_is); (case lx38 => k_is); (case ccx38 => k_is); (case kx38 => k_is); (case z_len => k_is); (case z_abs => k_is); (case z_max => k_is); (case z_min => k_is); (case z_int => k_is); (case z_tuple => k_is); (case z_list => k_is); (case z_sorted => k_is); (case z_all => k_is); (case z_isinstance => k_is); (case z_range => k_is); (case z_reversed => k_is); (case z_set => k_is); (case z_bool => k_is); (case z_str => k_is); (case z_dict => k_is); (case z_enumerate => k_is); (case z_zip => k_is); (case z_sum => k_is); (case z_any => k_is); (case g_MOST_STATIONS => k_is); (case g_MOST_DEEP => k_is); (case g_END => k_is); (case q_END => k_is)
