import PyProof.Rows.All
import HandS.ForMost
import HandS.ForExc
import HandS.TupAny
import HandS.TupMul
import HandS.Conv
import HandS.Style
import HandS.IsInst
import HandS.Zip
import HandS.Wide
import HandS.SortInts
import HandS.Flow
import KE.KDictKeyed
import HandS.Deep
import PyProof.NeKinds
import HandS.Words
import HandS.WordsExc
import HandS.RaiseMore
import HandS.SetFor
import HandS.Strs
import HandS.Set
import HandS.DictTup
import HandS.Iter
import KE.KDictZip
import KE.LtData
import KE.DataMinMax
import KE.SortData
import HandS.WordsDict
import KE.GoesEnum
import HandS.Sort
import KE.KDictList
import HandS.TryOnly
import HandS.TupSets
import HandS.ExcIs
import PyProof.StrBlock2
import PyProof.Rows.StrMul
import HandS.Text
import KE.KDictSum
import HandS.TupLen
import KE.KIndexOf
import KE.KDictDisplayH
import KE.KDictWalk
import KE.KDictPairs
import HandS.More
import HandS.TryMany
import PySem.Challenge.RW_boxcover_k48_papers_told
section
set_option Elab.async false
set_option linter.all false
set_option maxRecDepth 100000
set_option maxHeartbeats 4000000
set_option autoImplicit false
noncomputable section
namespace Bx
open PySem PySem.Spec PyProof.Rows L2
abbrev St := L2.St
inductive D where
  | non | bl (b : Bool) | int (i : Int) | str (x : Str)
  | tup (l : List D) | lst (l : List D) | scr (l : List D) | dct (l : List (Key × D))
  | fn (n : Str) | ex (n : Str)
  | dtt (l : List (PySem.NestedKey × D))
abbrev NK := PySem.NestedKey

def exH (c : Value) (a : Addr) : HO := .ext fun h => ∃ oe vs, h.get? a = some oe ∧ Zc c none oe ∧ oe.data = .fields vs
structure Ct where
  K : PySem.W.Frag
  mg : Str → Option Value
  prog : Program
  w : World
def RawV : List (NK × Addr × V) → List (NK × Addr × Value) → Prop := Paired fun p q => p.1 = q.1 ∧ p.2.1 = q.2.1 ∧ RelV p.2.2 q.2.2
abbrev RawE := Nat × List (NK × Addr × V)
def rawP (C : Ct) (a : Addr) (es : RawE) (h : Heap) : Prop := es.2.length ≤ sizeLine ∧ (a == sysModules) = false ∧ ∃ xs, RawV es.2 xs ∧ ∃ o arr, h.get? a = some o ∧ o.ExactDict ∧ o.data = .dict arr es.1 ∧ arr.toList = xs.map (entryOfKey (PySem.nestedKind C.prog C.w)) ∧ (xs.map (·.1)).Nodup
def rawT (C : Ct) (a : Addr) (es : RawE) : HO := .ext (rawP C a es)
mutual
/-- the value of a key -/
def NkV (C : Ct) (F : Hp) : NK → V → Prop
  | .none, v => v = .non
  | .num i, v => v = .int i
  | .text x, v => v = .str x
  | .tup ks, v => ∃ a xs, v = .ref a ∧ SqT C.K F a xs ∧ NkVs C F ks xs ∧ ks.length ≤ sizeLine
def NkVs (C : Ct) (F : Hp) : List NK → List V → Prop
  | [], xs => xs = []
  | k :: ks, xs => ∃ x r, xs = x :: r ∧ NkV C F k x ∧ NkVs C F ks r
end
mutual
/-- a key as data -/
@[simp] def kD : NK → D
  | .none => .non
  | .num i => .int i
  | .text x => .str x
  | .tup ks => .tup (kDs ks)
@[simp] def kDs : List NK → List D
  | [] => []
  | k :: ks => kD k :: kDs ks
end
mutual
def Rep (C : Ct) (F : Hp) : D → V → Prop
  | .non, v => v = .non
  | .bl b, v => v = .bl b
  | .int i, v => v = .int i
  | .str x, v => v = .str x
  | .tup ds, v => ∃ a xs, v = .ref a ∧ SqT C.K F a xs ∧ Reps C F ds xs ∧ ds.length ≤ sizeLine
  | .lst ds, v => ∃ a xs, v = .ref a ∧ F a = some (.lst xs) ∧ Reps C F ds xs ∧ ds.length ≤ sizeLine
  | .scr ds, v => ∃ a xs, v = .ref a ∧ SqL C.K F a xs ∧ Reps C F ds xs ∧ ds.length ≤ sizeLine
  | .dct ks, v => ∃ a kvs, v = .ref a ∧ Rd F a (.dK kvs) ∧ RepKv C F ks kvs
  | .fn n, v => ∃ a, v = .ref a ∧ C.mg n = some (.ref a)
  | .ex n, v => ∃ a c, v = .ref a ∧ C.mg n = some c ∧ F a = some (exH c a)
  | .dtt l, v => ∃ a es, v = .ref a ∧ Rd F a (rawT C a es) ∧ RepTk C F l es.2
def Reps (C : Ct) (F : Hp) : List D → List V → Prop
  | [], xs => xs = []
  | d :: ds, xs => ∃ x r, xs = x :: r ∧ Rep C F d x ∧ Reps C F ds r
def RepKv (C : Ct) (F : Hp) : List (Key × D) → List (Key × V) → Prop
  | [], xs => xs = []
  | (k, d) :: ds, xs => ∃ x r, xs = (k, x) :: r ∧ Rep C F d x ∧ RepKv C F ds r
def RepTk (C : Ct) (F : Hp) : List (NK × D) → List (NK × Addr × V) → Prop
  | [], xs => xs = []
  | (k, d) :: ds, xs => ∃ b x r, xs = (k, b, x) :: r ∧ NkV C F k (.ref b) ∧ k.depth ≤ 8 ∧ Rep C F d x ∧ RepTk C F ds r
end
def le (F H : Hp) : Prop := ∀ a o, F a = some o → H a = some o
theorem le.refl (F : Hp) : le F F := fun _ _ h => h
theorem le.trans {F G H : Hp} (a : le F G) (b : le G H) : le F H := fun c o h => b c o (a c o h)
theorem le.nowhere {F H : Hp} (l : le F H) {b : Addr} (h : H b = none) : F b = none := by
  cases w : F b with
  | none => rfl
  | some o => have q := l _ _ w; rw [h] at q; cases q
theorem le.rd {F H : Hp} (l : le F H) {a : Addr} {u : HO} (h : Rd F a u) : Rd H a u := by
  rcases h with h | ⟨o, h⟩
  · exact .inl (l _ _ h)
  · exact .inr ⟨o, l _ _ h⟩
theorem le.sqL {K : PySem.W.Frag} {F H : Hp} (l : le F H) {a : Addr} {xs : List V} (h : SqL K F a xs) : SqL K H a xs := by
  rcases h with h | h
  · exact .inl (l.rd h)
  · exact .inr h
theorem le.sqT {K : PySem.W.Frag} {F H : Hp} (l : le F H) {a : Addr} {xs : List V} (h : SqT K F a xs) : SqT K H a xs := by
  rcases h with h | h
  · exact .inl (l.rd h)
  · exact .inr h

mutual
theorem NkV.mono {C : Ct} {F H : Hp} (l : le F H) : ∀ {k : NK} {v : V}, NkV C F k v → NkV C H k v
  | .none, _, h => h
  | .num _, _, h => h
  | .text _, _, h => h
  | .tup ks, v, h => by
    obtain ⟨a, xs, e, s, r, z⟩ := h
    exact ⟨a, xs, e, l.sqT s, NkVs.mono l r, z⟩
theorem NkVs.mono {C : Ct} {F H : Hp} (l : le F H) : ∀ {ks : List NK} {vs : List V}, NkVs C F ks vs → NkVs C H ks vs
  | [], _, h => h
  | k :: ks, vs, h => by
    obtain ⟨x, r, e, a, b⟩ := h
    exact ⟨x, r, e, NkV.mono l a, NkVs.mono l b⟩
end
theorem kDs_len : ∀ ks : List NK, (kDs ks).length = ks.length
  | [] => rfl
  | k :: ks => by rw [kDs, List.length_cons, List.length_cons, kDs_len ks]
mutual
theorem NkV.rep {C : Ct} {F : Hp} : ∀ {k : NK} {v : V}, NkV C F k v → Rep C F (kD k) v
  | .none, _, h => h
  | .num _, _, h => h
  | .text _, _, h => h
  | .tup ks, v, h => by
    obtain ⟨a, xs, e, s, r, z⟩ := h
    exact ⟨a, xs, e, s, NkVs.rep r, by rw [kDs_len]; exact z⟩
theorem NkVs.rep {C : Ct} {F : Hp} : ∀ {ks : List NK} {vs : List V}, NkVs C F ks vs → Reps C F (kDs ks) vs
  | [], _, h => h
  | k :: ks, vs, h => by
    obtain ⟨x, r, e, a, b⟩ := h
    exact ⟨x, r, e, NkV.rep a, NkVs.rep b⟩
end
mutual
theorem NkV.of {C : Ct} {F : Hp} : ∀ {k : NK} {v : V}, Rep C F (kD k) v → NkV C F k v
  | .none, _, h => h
  | .num _, _, h => h
  | .text _, _, h => h
  | .tup ks, v, h => by
    obtain ⟨a, xs, e, s, r, z⟩ := h
    exact ⟨a, xs, e, s, NkVs.of r, by rw [← kDs_len]; exact z⟩
theorem NkVs.of {C : Ct} {F : Hp} : ∀ {ks : List NK} {vs : List V}, Reps C F (kDs ks) vs → NkVs C F ks vs
  | [], _, h => h
  | k :: ks, vs, h => by
    obtain ⟨x, r, e, a, b⟩ := h
    exact ⟨x, r, e, NkV.of a, NkVs.of b⟩
end
mutual
theorem Rep.mono {C : Ct} {F H : Hp} (l : le F H) : ∀ {d : D} {v : V}, Rep C F d v → Rep C H d v
  | .non, _, h => h
  | .bl _, _, h => h
  | .int _, _, h => h
  | .str _, _, h => h
  | .tup ds, v, h => by
    obtain ⟨a, xs, e, s, r, z⟩ := h
    exact ⟨a, xs, e, l.sqT s, Reps.mono l r, z⟩
  | .lst ds, v, h => by
    obtain ⟨a, xs, e, s, r, z⟩ := h
    exact ⟨a, xs, e, l _ _ s, Reps.mono l r, z⟩
  | .scr ds, v, h => by
    obtain ⟨a, xs, e, s, r, z⟩ := h
    exact ⟨a, xs, e, l.sqL s, Reps.mono l r, z⟩
  | .dct ks, v, h => by
    obtain ⟨a, xs, e, s, r⟩ := h
    exact ⟨a, xs, e, l.rd s, RepKv.mono l r⟩
  | .fn _, _, h => h
  | .ex _, _, h => by
    obtain ⟨a, c, e, m, s⟩ := h
    exact ⟨a, c, e, m, l _ _ s⟩
  | .dtt ks, v, h => by
    obtain ⟨a, es, e, s, r⟩ := h
    exact ⟨a, es, e, l.rd s, RepTk.mono l r⟩
theorem Reps.mono {C : Ct} {F H : Hp} (l : le F H) : ∀ {ds : List D} {vs : List V}, Reps C F ds vs → Reps C H ds vs
  | [], _, h => h
  | d :: ds, vs, h => by
    obtain ⟨x, r, e, a, b⟩ := h
    exact ⟨x, r, e, Rep.mono l a, Reps.mono l b⟩
theorem RepKv.mono {C : Ct} {F H : Hp} (l : le F H) : ∀ {ds : List (Key × D)} {vs : List (Key × V)}, RepKv C F ds vs → RepKv C H ds vs
  | [], _, h => h
  | (k, d) :: ds, vs, h => by
    obtain ⟨x, r, e, a, b⟩ := h
    exact ⟨x, r, e, Rep.mono l a, RepKv.mono l b⟩
theorem RepTk.mono {C : Ct} {F H : Hp} (l : le F H) : ∀ {ds : List (NK × D)} {vs : List (NK × Addr × V)}, RepTk C F ds vs → RepTk C H ds vs
  | [], _, h => h
  | (k, d) :: ds, vs, h => by
    obtain ⟨b, x, r, e, n, z, a, q⟩ := h
    exact ⟨b, x, r, e, NkV.mono l n, z, Rep.mono l a, RepTk.mono l q⟩
end
theorem Reps.length {C : Ct} {F : Hp} : ∀ {ds : List D} {xs : List V}, Reps C F ds xs → xs.length = ds.length
  | [], _, h => by
    have h : _ = [] := h
    rw [h]
    rfl
  | d :: ds, _, h => by
    obtain ⟨x, r, e, a, b⟩ := h
    rw [e, List.length_cons, List.length_cons, Reps.length b]
theorem Reps.get {C : Ct} {F : Hp} : ∀ {ds : List D} {xs : List V}, Reps C F ds xs → ∀ {i : Nat} {d : D}, ds[i]? = some d → ∃ x, xs[i]? = some x ∧ Rep C F d x
  | [], _, _, i, d, h => by simp at h
  | d :: ds, _, h, i, d', e => by
    obtain ⟨x, r, rfl, a, b⟩ := h
    cases i with
    | zero =>
      rw [List.getElem?_cons_zero] at e
      cases e
      exact ⟨x, List.getElem?_cons_zero, a⟩
    | succ i =>
      rw [List.getElem?_cons_succ] at e
      obtain ⟨y, h1, h2⟩ := Reps.get b e
      exact ⟨y, by rw [List.getElem?_cons_succ]; exact h1, h2⟩
theorem Reps.append {C : Ct} {F : Hp} : ∀ {ds es : List D} {xs ys : List V}, Reps C F ds xs → Reps C F es ys → Reps C F (ds ++ es) (xs ++ ys)
  | [], _, _, _, h, k => by
    have h : _ = [] := h
    rw [h]
    exact k
  | d :: ds, _, _, _, h, k => by
    obtain ⟨x, r, rfl, a, b⟩ := h
    exact ⟨x, r ++ _, rfl, a, Reps.append b k⟩
theorem Reps.nil {C : Ct} {F : Hp} : Reps C F [] [] := rfl
theorem Reps.cons {C : Ct} {F : Hp} {d : D} {ds : List D} {x : V} {xs : List V} (a : Rep C F d x) (b : Reps C F ds xs) : Reps C F (d :: ds) (x :: xs) := ⟨x, xs, rfl, a, b⟩
theorem Reps.one {C : Ct} {F : Hp} {d : D} {x : V} (a : Rep C F d x) : Reps C F [d] [x] := .cons a .nil
theorem Reps.take {C : Ct} {F : Hp} : ∀ (n : Nat) {ds : List D} {xs : List V}, Reps C F ds xs → Reps C F (ds.take n) (xs.take n)
  | 0, ds, xs, _ => by rw [List.take_zero, List.take_zero]; rfl
  | n + 1, [], xs, h => by
    have h : _ = [] := h
    rw [h]
    rfl
  | n + 1, d :: ds, xs, h => by
    obtain ⟨x, r, rfl, a, b⟩ := h
    exact ⟨x, r.take n, rfl, a, Reps.take n b⟩
theorem Reps.drop {C : Ct} {F : Hp} : ∀ (n : Nat) {ds : List D} {xs : List V}, Reps C F ds xs → Reps C F (ds.drop n) (xs.drop n)
  | 0, ds, xs, h => h
  | n + 1, [], xs, h => by
    have h : _ = [] := h
    rw [h]
    rfl
  | n + 1, d :: ds, xs, h => by
    obtain ⟨x, r, rfl, a, b⟩ := h
    exact Reps.drop n b
theorem Reps.set {C : Ct} {F : Hp} {d : D} {x : V} (hx : Rep C F d x) : ∀ (n : Nat) {ds : List D} {xs : List V}, Reps C F ds xs → Reps C F (ds.set n d) (xs.set n x)
  | _, [], xs, h => by
    have h : _ = [] := h
    rw [h]
    exact .nil
  | 0, e :: ds, xs, h => by
    obtain ⟨y, r, rfl, a, b⟩ := h
    exact ⟨x, r, rfl, hx, b⟩
  | n + 1, e :: ds, xs, h => by
    obtain ⟨y, r, rfl, a, b⟩ := h
    exact ⟨y, r.set n x, rfl, a, Reps.set hx n b⟩
theorem Reps.eraseIdx {C : Ct} {F : Hp} : ∀ (n : Nat) {ds : List D} {xs : List V}, Reps C F ds xs → Reps C F (ds.eraseIdx n) (xs.eraseIdx n)
  | _, [], xs, h => by
    have h : _ = [] := h
    rw [h]
    exact .nil
  | 0, e :: ds, xs, h => by
    obtain ⟨y, r, rfl, a, b⟩ := h
    exact b
  | n + 1, e :: ds, xs, h => by
    obtain ⟨y, r, rfl, a, b⟩ := h
    exact ⟨y, r.eraseIdx n, rfl, a, Reps.eraseIdx n b⟩
theorem Reps.dropLast {C : Ct} {F : Hp} {ds : List D} {xs : List V} (h : Reps C F ds xs) : Reps C F ds.dropLast xs.dropLast := by
  rw [List.dropLast_eq_take, List.dropLast_eq_take, h.length]
  exact h.take _
theorem Reps.reverse {C : Ct} {F : Hp} : ∀ {ds : List D} {xs : List V}, Reps C F ds xs → Reps C F ds.reverse xs.reverse
  | [], xs, h => by
    have h : _ = [] := h
    rw [h]
    exact .nil
  | d :: ds, xs, h => by
    obtain ⟨x, r, rfl, a, b⟩ := h
    rw [List.reverse_cons, List.reverse_cons]
    exact (Reps.reverse b).append (.one a)
theorem Reps.rep {C : Ct} {F : Hp} {ds : List D} {xs : List V} (h : Reps C F ds xs) : ∀ k : Nat, Reps C F (List.replicate k ds).flatten (List.replicate k xs).flatten
  | 0 => .nil
  | k + 1 => by
    rw [List.replicate_succ, List.replicate_succ, List.flatten_cons, List.flatten_cons]
    exact h.append (Reps.rep h k)
theorem Reps.nil_iff {C : Ct} {F : Hp} {ds : List D} {xs : List V} (h : Reps C F ds xs) : xs = [] ↔ ds = [] := by
  have hl := h.length
  constructor
  · intro e
    rw [e] at hl
    exact List.eq_nil_of_length_eq_zero hl.symm
  · intro e
    rw [e] at hl
    exact List.eq_nil_of_length_eq_zero hl
theorem Reps.ints {C : Ct} {F : Hp} : ∀ {ns : List Int} {xs : List V}, Reps C F (ns.map D.int) xs → xs = ns.map V.int
  | [], _, h => h
  | n :: ns, _, h => by
    obtain ⟨x, r, rfl, a, b⟩ := h
    have a : x = V.int n := a
    rw [a, Reps.ints b]
    rfl
theorem Reps.of_ints {C : Ct} {F : Hp} : ∀ (ns : List Int), Reps C F (ns.map D.int) (ns.map V.int)
  | [] => rfl
  | n :: ns => ⟨_, _, rfl, rfl, Reps.of_ints ns⟩

mutual
/-- data that is frozen, its lists among those that N tells -/
def RepN (C : Ct) (N : Addr → Prop) (F : Hp) : D → V → Prop
  | .non, v => v = .non
  | .bl b, v => v = .bl b
  | .int i, v => v = .int i
  | .str x, v => v = .str x
  | .tup ds, v => ∃ a xs, v = .ref a ∧ SqT C.K F a xs ∧ RepsN C N F ds xs ∧ ds.length ≤ sizeLine
  | .lst ds, v => ∃ a xs, v = .ref a ∧ F a = some (.lst xs) ∧ N a ∧ RepsN C N F ds xs ∧ ds.length ≤ sizeLine
  | .fn n, v => ∃ a, v = .ref a ∧ C.mg n = some (.ref a)
  | _, _ => False
def RepsN (C : Ct) (N : Addr → Prop) (F : Hp) : List D → List V → Prop
  | [], xs => xs = []
  | d :: ds, xs => ∃ x r, xs = x :: r ∧ RepN C N F d x ∧ RepsN C N F ds r
end
mutual
theorem RepN.mono {C : Ct} {N : Addr → Prop} {F H : Hp} (l : le F H) : ∀ {d : D} {v : V}, RepN C N F d v → RepN C N H d v
  | .non, _, h => h
  | .bl _, _, h => h
  | .int _, _, h => h
  | .str _, _, h => h
  | .tup ds, v, h => by
    obtain ⟨a, xs, e, s, r, z⟩ := h
    exact ⟨a, xs, e, l.sqT s, RepsN.mono l r, z⟩
  | .lst ds, v, h => by
    obtain ⟨a, xs, e, s, n, r, z⟩ := h
    exact ⟨a, xs, e, l _ _ s, n, RepsN.mono l r, z⟩
  | .scr _, _, h => h.elim
  | .dct _, _, h => h.elim
  | .fn _, _, h => h
  | .ex _, _, h => h.elim
  | .dtt _, _, h => h.elim
theorem RepsN.mono {C : Ct} {N : Addr → Prop} {F H : Hp} (l : le F H) : ∀ {ds : List D} {vs : List V}, RepsN C N F ds vs → RepsN C N H ds vs
  | [], _, h => h
  | d :: ds, vs, h => by
    obtain ⟨x, r, e, a, b⟩ := h
    exact ⟨x, r, e, RepN.mono l a, RepsN.mono l b⟩
end
mutual
theorem RepN.rep {C : Ct} {N : Addr → Prop} {F : Hp} : ∀ {d : D} {v : V}, RepN C N F d v → Rep C F d v
  | .non, _, h => h
  | .bl _, _, h => h
  | .int _, _, h => h
  | .str _, _, h => h
  | .tup ds, v, h => by
    obtain ⟨a, xs, e, s, r, z⟩ := h
    exact ⟨a, xs, e, s, RepsN.rep r, z⟩
  | .lst ds, v, h => by
    obtain ⟨a, xs, e, s, n, r, z⟩ := h
    exact ⟨a, xs, e, s, RepsN.rep r, z⟩
  | .scr _, _, h => h.elim
  | .dct _, _, h => h.elim
  | .fn _, _, h => h
  | .ex _, _, h => h.elim
  | .dtt _, _, h => h.elim
theorem RepsN.rep {C : Ct} {N : Addr → Prop} {F : Hp} : ∀ {ds : List D} {vs : List V}, RepsN C N F ds vs → Reps C F ds vs
  | [], _, h => h
  | d :: ds, vs, h => by
    obtain ⟨x, r, e, a, b⟩ := h
    exact ⟨x, r, e, RepN.rep a, RepsN.rep b⟩
end
mutual
theorem RepN.weak {C : Ct} {N M : Addr → Prop} (k : ∀ a, N a → M a) {F : Hp} : ∀ {d : D} {v : V}, RepN C N F d v → RepN C M F d v
  | .non, _, h => h
  | .bl _, _, h => h
  | .int _, _, h => h
  | .str _, _, h => h
  | .tup ds, v, h => by
    obtain ⟨a, xs, e, s, r, z⟩ := h
    exact ⟨a, xs, e, s, RepsN.weak k r, z⟩
  | .lst ds, v, h => by
    obtain ⟨a, xs, e, s, n, r, z⟩ := h
    exact ⟨a, xs, e, s, k _ n, RepsN.weak k r, z⟩
  | .scr _, _, h => h.elim
  | .dct _, _, h => h.elim
  | .fn _, _, h => h
  | .ex _, _, h => h.elim
  | .dtt _, _, h => h.elim
theorem RepsN.weak {C : Ct} {N M : Addr → Prop} (k : ∀ a, N a → M a) {F : Hp} : ∀ {ds : List D} {vs : List V}, RepsN C N F ds vs → RepsN C M F ds vs
  | [], _, h => h
  | d :: ds, vs, h => by
    obtain ⟨x, r, e, a, b⟩ := h
    exact ⟨x, r, e, RepN.weak k a, RepsN.weak k b⟩
end
mutual
/-- data without lists -/
@[simp] def noL : D → Bool
  | .non => true
  | .bl _ => true
  | .int _ => true
  | .str _ => true
  | .tup l => noLs l
  | .fn _ => true
  | _ => false
@[simp] def noLs : List D → Bool
  | [] => true
  | d :: r => noL d && noLs r
end
mutual
theorem noL_kD : ∀ k : NK, noL (kD k) = true
  | .none => rfl
  | .num _ => rfl
  | .text _ => rfl
  | .tup ks => by rw [kD, noL]; exact noL_kDs ks
theorem noL_kDs : ∀ ks : List NK, noLs (kDs ks) = true
  | [] => rfl
  | k :: ks => by rw [kDs, noLs, noL_kD k, noL_kDs ks]; rfl
end
mutual
theorem Rep.noN {C : Ct} {N : Addr → Prop} {F : Hp} : ∀ {d : D} {v : V}, noL d = true → Rep C F d v → RepN C N F d v
  | .non, _, _, h => h
  | .bl _, _, _, h => h
  | .int _, _, _, h => h
  | .str _, _, _, h => h
  | .tup ds, v, n, h => by
    obtain ⟨a, xs, e, s, r, z⟩ := h
    exact ⟨a, xs, e, s, Reps.noN (by simpa using n) r, z⟩
  | .lst ds, v, n, _ => by simp at n
  | .scr _, _, n, _ => by simp at n
  | .dct _, _, n, _ => by simp at n
  | .fn _, _, _, h => h
  | .ex _, _, n, _ => by simp at n
  | .dtt _, _, n, _ => by simp at n
theorem Reps.noN {C : Ct} {N : Addr → Prop} {F : Hp} : ∀ {ds : List D} {vs : List V}, noLs ds = true → Reps C F ds vs → RepsN C N F ds vs
  | [], _, _, h => h
  | d :: ds, vs, n, h => by
    obtain ⟨x, r, e, a, b⟩ := h
    simp only [noLs, Bool.and_eq_true] at n
    exact ⟨x, r, e, Rep.noN n.1 a, Reps.noN n.2 b⟩
end
inductive FX where
  | k (d : D) | w (es : List D) | z (m : List Bool) (n : Nat) | o (c : Str) (fs : List (Str × D))
inductive OD where
  | fr (d : D) | ow (l : List D) | od (l : List (Key × D)) | ot (l : List (NK × D)) | tp (l : List OD) | ls (l : List OD) | ins (c : Str) (fs : List (Str × OD))
inductive SD where
  | no | fr (d : D) | fu (d : D) | ow (t : Option Nat) (l : List D) | od (t : Option Nat) (l : List (Key × D)) | ot (t : Option Nat) (l : List (NK × D)) | fx (x : FX) | ob (t : Option Nat) (o : OD)
mutual
def Fp (H : Hp) : OD → V → List Addr → Prop
  | .fr _, _, fp => fp = []
  | .ow _, v, fp => ∃ a, v = .ref a ∧ fp = [a]
  | .od _, v, fp => ∃ a, v = .ref a ∧ fp = [a]
  | .ot _, v, fp => ∃ a, v = .ref a ∧ fp = [a]
  | .tp os, v, fp => ∃ a xs fps, v = .ref a ∧ H a = some (.tup xs) ∧ Fps H os xs fps ∧ fp = a :: fps
  | .ls os, v, fp => ∃ a xs fps, v = .ref a ∧ H a = some (.lst xs) ∧ Fps H os xs fps ∧ fp = a :: fps
  | .ins _ fs, v, fp => ∃ a cl dx vs fps, v = .ref a ∧ H a = some (.ins cl dx vs) ∧ Fpf H fs vs fps ∧ fp = a :: dx :: fps
def Fps (H : Hp) : List OD → List V → List Addr → Prop
  | [], xs, fp => xs = [] ∧ fp = []
  | o :: os, xs, fp => ∃ x r f g, xs = x :: r ∧ Fp H o x f ∧ Fps H os r g ∧ fp = f ++ g
def Fpf (H : Hp) : List (Str × OD) → List (Str × V) → List Addr → Prop
  | [], xs, fp => xs = [] ∧ fp = []
  | (n, o) :: os, xs, fp => ∃ x r f g, xs = (n, x) :: r ∧ Fp H o x f ∧ Fpf H os r g ∧ fp = f ++ g
end
mutual
def Owt (C : Ct) (F H : Hp) : OD → V → Prop
  | .fr d, v => Rep C F d v
  | .ow l, v => ∃ a xs, v = .ref a ∧ H a = some (.lst xs) ∧ Reps C F l xs ∧ l.length ≤ sizeLine
  | .od l, v => ∃ a kvs, v = .ref a ∧ H a = some (.dK kvs) ∧ RepKv C F l kvs
  | .ot l, v => ∃ (a : Addr) (es : RawE), v = .ref a ∧ H a = some (rawT C a es) ∧ RepTk C F l es.2
  | .tp os, v => ∃ a xs, v = .ref a ∧ H a = some (.tup xs) ∧ Owts C F H os xs ∧ os.length ≤ sizeLine
  | .ls os, v => ∃ a xs, v = .ref a ∧ H a = some (.lst xs) ∧ Owts C F H os xs ∧ os.length ≤ sizeLine
  | .ins c fs, v => ∃ a cl dx vs, v = .ref a ∧ C.mg c = some (.ref cl) ∧ H a = some (.ins cl dx vs) ∧ H dx = some (.own a) ∧ Owtf C F H fs vs ∧ (fs.map (·.1)).Nodup
def Owts (C : Ct) (F H : Hp) : List OD → List V → Prop
  | [], xs => xs = []
  | o :: os, xs => ∃ x r, xs = x :: r ∧ Owt C F H o x ∧ Owts C F H os r
def Owtf (C : Ct) (F H : Hp) : List (Str × OD) → List (Str × V) → Prop
  | [], xs => xs = []
  | (n, o) :: os, xs => ∃ x r, xs = (n, x) :: r ∧ Owt C F H o x ∧ Owtf C F H os r
end
mutual
theorem Fp.det {H : Hp} : ∀ {o : OD} {v : V} {f g : List Addr}, Fp H o v f → Fp H o v g → f = g
  | .fr _, _, _, _, h, k => by
    have h : _ = [] := h
    have k : _ = [] := k
    rw [h, k]
  | .ow _, _, _, _, ⟨a, e, h⟩, ⟨b, d, k⟩ => by rw [e] at d; cases d; rw [h, k]
  | .od _, _, _, _, ⟨a, e, h⟩, ⟨b, d, k⟩ => by rw [e] at d; cases d; rw [h, k]
  | .ot _, _, _, _, ⟨a, e, h⟩, ⟨b, d, k⟩ => by rw [e] at d; cases d; rw [h, k]
  | .tp os, _, _, _, ⟨a, xs, fs, e, ha, hs, h⟩, ⟨b, ys, gs, d, hb, ks, k⟩ => by
    rw [e] at d; cases d
    rw [ha] at hb; cases hb
    rw [h, k, Fps.det hs ks]
  | .ls os, _, _, _, ⟨a, xs, fs, e, ha, hs, h⟩, ⟨b, ys, gs, d, hb, ks, k⟩ => by
    rw [e] at d; cases d
    rw [ha] at hb; cases hb
    rw [h, k, Fps.det hs ks]
  | .ins _ os, _, _, _, ⟨a, cl, dx, xs, fs, e, ha, hs, h⟩, ⟨b, cl2, dy, ys, gs, d, hb, ks, k⟩ => by
    rw [e] at d; cases d
    rw [ha] at hb; cases hb
    rw [h, k, Fpf.det hs ks]
theorem Fps.det {H : Hp} : ∀ {o : List OD} {v : List V} {f g : List Addr}, Fps H o v f → Fps H o v g → f = g
  | [], _, _, _, ⟨_, h⟩, ⟨_, k⟩ => by rw [h, k]
  | o :: os, _, _, _, ⟨x, r, f, g, e, h1, h2, h⟩, ⟨y, q, f2, g2, d, k1, k2, k⟩ => by
    rw [e] at d; cases d
    rw [h, k, Fp.det h1 k1, Fps.det h2 k2]
theorem Fpf.det {H : Hp} : ∀ {o : List (Str × OD)} {v : List (Str × V)} {f g : List Addr}, Fpf H o v f → Fpf H o v g → f = g
  | [], _, _, _, ⟨_, h⟩, ⟨_, k⟩ => by rw [h, k]
  | (n, o) :: os, _, _, _, ⟨x, r, f, g, e, h1, h2, h⟩, ⟨y, q, f2, g2, d, k1, k2, k⟩ => by
    rw [e] at d; cases d
    rw [h, k, Fp.det h1 k1, Fpf.det h2 k2]
end
mutual
theorem Fp.agree {H H' : Hp} : ∀ {o : OD} {v : V} {f : List Addr}, (∀ b ∈ f, H' b = H b) → Fp H o v f → Fp H' o v f
  | .fr _, _, _, _, h => h
  | .ow _, _, _, _, h => h
  | .od _, _, _, _, h => h
  | .ot _, _, _, _, h => h
  | .tp os, _, _, k, ⟨a, xs, fs, e, ha, hs, h⟩ => ⟨a, xs, fs, e, by rw [k a (by rw [h]; exact List.mem_cons_self)]; exact ha, Fps.agree (fun b hb => k b (by rw [h]; exact List.mem_cons_of_mem _ hb)) hs, h⟩
  | .ls os, _, _, k, ⟨a, xs, fs, e, ha, hs, h⟩ => ⟨a, xs, fs, e, by rw [k a (by rw [h]; exact List.mem_cons_self)]; exact ha, Fps.agree (fun b hb => k b (by rw [h]; exact List.mem_cons_of_mem _ hb)) hs, h⟩
  | .ins _ os, _, _, k, ⟨a, cl, dx, xs, fs, e, ha, hs, h⟩ => ⟨a, cl, dx, xs, fs, e, by rw [k a (by rw [h]; exact List.mem_cons_self)]; exact ha, Fpf.agree (fun b hb => k b (by rw [h]; exact List.mem_cons_of_mem _ (List.mem_cons_of_mem _ hb))) hs, h⟩
theorem Fps.agree {H H' : Hp} : ∀ {o : List OD} {v : List V} {f : List Addr}, (∀ b ∈ f, H' b = H b) → Fps H o v f → Fps H' o v f
  | [], _, _, _, h => h
  | o :: os, _, _, k, ⟨x, r, f, g, e, h1, h2, h⟩ => ⟨x, r, f, g, e, Fp.agree (fun b hb => k b (by rw [h]; exact List.mem_append_left _ hb)) h1, Fps.agree (fun b hb => k b (by rw [h]; exact List.mem_append_right _ hb)) h2, h⟩
theorem Fpf.agree {H H' : Hp} : ∀ {o : List (Str × OD)} {v : List (Str × V)} {f : List Addr}, (∀ b ∈ f, H' b = H b) → Fpf H o v f → Fpf H' o v f
  | [], _, _, _, h => h
  | (n, o) :: os, _, _, k, ⟨x, r, f, g, e, h1, h2, h⟩ => ⟨x, r, f, g, e, Fp.agree (fun b hb => k b (by rw [h]; exact List.mem_append_left _ hb)) h1, Fpf.agree (fun b hb => k b (by rw [h]; exact List.mem_append_right _ hb)) h2, h⟩
end
mutual
theorem Owt.agree {C : Ct} {F H H' : Hp} : ∀ {o : OD} {v : V} {f : List Addr}, (∀ b ∈ f, H' b = H b) → Fp H o v f → Owt C F H o v → Owt C F H' o v
  | .fr _, _, _, _, _, q => q
  | .ow _, _, _, k, ⟨a, e, h⟩, ⟨b, xs, d, hb, q⟩ => ⟨b, xs, d, by rw [k b (by rw [e] at d; cases d; rw [h]; exact List.mem_cons_self)]; exact hb, q⟩
  | .od _, _, _, k, ⟨a, e, h⟩, ⟨b, xs, d, hb, q⟩ => ⟨b, xs, d, by rw [k b (by rw [e] at d; cases d; rw [h]; exact List.mem_cons_self)]; exact hb, q⟩
  | .ot _, _, _, k, ⟨a, e, h⟩, ⟨b, xs, d, hb, q⟩ => ⟨b, xs, d, by rw [k b (by rw [e] at d; cases d; rw [h]; exact List.mem_cons_self)]; exact hb, q⟩
  | .tp os, _, _, k, ⟨a, xs, fs, e, ha, hs, h⟩, ⟨b, ys, d, hb, q, z⟩ => by
    rw [e] at d; cases d
    rw [ha] at hb; cases hb
    exact ⟨a, xs, e, by rw [k a (by rw [h]; exact List.mem_cons_self)]; exact ha, Owts.agree (fun b hb => k b (by rw [h]; exact List.mem_cons_of_mem _ hb)) hs q, z⟩
  | .ls os, _, _, k, ⟨a, xs, fs, e, ha, hs, h⟩, ⟨b, ys, d, hb, q, z⟩ => by
    rw [e] at d; cases d
    rw [ha] at hb; cases hb
    exact ⟨a, xs, e, by rw [k a (by rw [h]; exact List.mem_cons_self)]; exact ha, Owts.agree (fun b hb => k b (by rw [h]; exact List.mem_cons_of_mem _ hb)) hs q, z⟩
  | .ins _ os, _, _, k, ⟨a, cl, dx, xs, fs, e, ha, hs, h⟩, ⟨b, cl2, dy, ys, d, m, hb, ho, q, nd⟩ => by
    rw [e] at d; cases d
    rw [ha] at hb; cases hb
    exact ⟨a, cl, dx, xs, e, m, by rw [k a (by rw [h]; exact List.mem_cons_self)]; exact ha, by rw [k dx (by rw [h]; exact List.mem_cons_of_mem _ List.mem_cons_self)]; exact ho, Owtf.agree (fun b hb => k b (by rw [h]; exact List.mem_cons_of_mem _ (List.mem_cons_of_mem _ hb))) hs q, nd⟩
theorem Owts.agree {C : Ct} {F H H' : Hp} : ∀ {o : List OD} {v : List V} {f : List Addr}, (∀ b ∈ f, H' b = H b) → Fps H o v f → Owts C F H o v → Owts C F H' o v
  | [], _, _, _, _, q => q
  | o :: os, _, _, k, ⟨x, r, f, g, e, h1, h2, h⟩, ⟨y, q, d, k1, k2⟩ => by
    rw [e] at d; cases d
    exact ⟨x, r, e, Owt.agree (fun b hb => k b (by rw [h]; exact List.mem_append_left _ hb)) h1 k1, Owts.agree (fun b hb => k b (by rw [h]; exact List.mem_append_right _ hb)) h2 k2⟩
theorem Owtf.agree {C : Ct} {F H H' : Hp} : ∀ {o : List (Str × OD)} {v : List (Str × V)} {f : List Addr}, (∀ b ∈ f, H' b = H b) → Fpf H o v f → Owtf C F H o v → Owtf C F H' o v
  | [], _, _, _, _, q => q
  | (n, o) :: os, _, _, k, ⟨x, r, f, g, e, h1, h2, h⟩, ⟨y, q, d, k1, k2⟩ => by
    rw [e] at d; cases d
    exact ⟨x, r, e, Owt.agree (fun b hb => k b (by rw [h]; exact List.mem_append_left _ hb)) h1 k1, Owtf.agree (fun b hb => k b (by rw [h]; exact List.mem_append_right _ hb)) h2 k2⟩
end
mutual
theorem Owt.mono {C : Ct} {F F' H : Hp} (l : Bx.le F F') : ∀ {o : OD} {v : V}, Owt C F H o v → Owt C F' H o v
  | .fr _, _, q => Rep.mono l q
  | .ow _, _, ⟨b, xs, d, hb, q, z⟩ => ⟨b, xs, d, hb, q.mono l, z⟩
  | .od _, _, ⟨b, xs, d, hb, q⟩ => ⟨b, xs, d, hb, q.mono l⟩
  | .ot _, _, ⟨b, xs, d, hb, q⟩ => ⟨b, xs, d, hb, q.mono l⟩
  | .tp _, _, ⟨b, xs, d, hb, q, z⟩ => ⟨b, xs, d, hb, Owts.mono l q, z⟩
  | .ls _, _, ⟨b, xs, d, hb, q, z⟩ => ⟨b, xs, d, hb, Owts.mono l q, z⟩
  | .ins _ _, _, ⟨b, cl, dx, xs, d, m, hb, ho, q, nd⟩ => ⟨b, cl, dx, xs, d, m, hb, ho, Owtf.mono l q, nd⟩
theorem Owts.mono {C : Ct} {F F' H : Hp} (l : Bx.le F F') : ∀ {o : List OD} {v : List V}, Owts C F H o v → Owts C F' H o v
  | [], _, q => q
  | _ :: _, _, ⟨x, r, e, h1, h2⟩ => ⟨x, r, e, Owt.mono l h1, Owts.mono l h2⟩
theorem Owtf.mono {C : Ct} {F F' H : Hp} (l : Bx.le F F') : ∀ {o : List (Str × OD)} {v : List (Str × V)}, Owtf C F H o v → Owtf C F' H o v
  | [], _, q => q
  | (_, _) :: _, _, ⟨x, r, e, h1, h2⟩ => ⟨x, r, e, Owt.mono l h1, Owtf.mono l h2⟩
end
mutual
theorem Owt.live {C : Ct} {F H : Hp} : ∀ {o : OD} {v : V} {f : List Addr}, Fp H o v f → Owt C F H o v → ∀ b ∈ f, H b ≠ none
  | .fr _, _, _, h, _ => fun b hb => by
    have h : _ = [] := h
    rw [h] at hb; cases hb
  | .ow _, _, _, ⟨a, e, h⟩, ⟨b, xs, d, hb, q⟩ => fun c hc => by
    rw [e] at d; cases d
    rw [h, List.mem_singleton] at hc
    rw [hc, hb]; simp
  | .od _, _, _, ⟨a, e, h⟩, ⟨b, xs, d, hb, q⟩ => fun c hc => by
    rw [e] at d; cases d
    rw [h, List.mem_singleton] at hc
    rw [hc, hb]; simp
  | .ot _, _, _, ⟨a, e, h⟩, ⟨b, xs, d, hb, q⟩ => fun c hc => by
    rw [e] at d; cases d
    rw [h, List.mem_singleton] at hc
    rw [hc, hb]; simp
  | .tp _, _, _, ⟨a, xs, fs, e, ha, hs, h⟩, ⟨b, ys, d, hb, q, _⟩ => fun c hc => by
    rw [e] at d; cases d
    rw [ha] at hb; cases hb
    rw [h] at hc
    rcases List.mem_cons.mp hc with z | z
    · rw [z, ha]; simp
    · exact Owts.live hs q c z
  | .ls _, _, _, ⟨a, xs, fs, e, ha, hs, h⟩, ⟨b, ys, d, hb, q, _⟩ => fun c hc => by
    rw [e] at d; cases d
    rw [ha] at hb; cases hb
    rw [h] at hc
    rcases List.mem_cons.mp hc with z | z
    · rw [z, ha]; simp
    · exact Owts.live hs q c z
  | .ins _ _, _, _, ⟨a, cl, dx, xs, fs, e, ha, hs, h⟩, ⟨b, cl2, dy, ys, d, m, hb, ho, q, nd⟩ => fun c hc => by
    rw [e] at d; cases d
    rw [ha] at hb; cases hb
    rw [h] at hc
    rcases List.mem_cons.mp hc with z | z
    · rw [z, ha]; simp
    · rcases List.mem_cons.mp z with z | z
      · rw [z, ho]; simp
      · exact Owtf.live hs q c z
theorem Owts.live {C : Ct} {F H : Hp} : ∀ {o : List OD} {v : List V} {f : List Addr}, Fps H o v f → Owts C F H o v → ∀ b ∈ f, H b ≠ none
  | [], _, _, ⟨_, h⟩, _ => fun b hb => by rw [h] at hb; cases hb
  | o :: os, _, _, ⟨x, r, f, g, e, h1, h2, h⟩, ⟨y, q, d, k1, k2⟩ => fun b hb => by
    rw [e] at d; cases d
    rw [h] at hb
    rcases List.mem_append.mp hb with z | z
    · exact Owt.live h1 k1 b z
    · exact Owts.live h2 k2 b z
theorem Owtf.live {C : Ct} {F H : Hp} : ∀ {o : List (Str × OD)} {v : List (Str × V)} {f : List Addr}, Fpf H o v f → Owtf C F H o v → ∀ b ∈ f, H b ≠ none
  | [], _, _, ⟨_, h⟩, _ => fun b hb => by rw [h] at hb; cases hb
  | (n, o) :: os, _, _, ⟨x, r, f, g, e, h1, h2, h⟩, ⟨y, q, d, k1, k2⟩ => fun b hb => by
    rw [e] at d; cases d
    rw [h] at hb
    rcases List.mem_append.mp hb with z | z
    · exact Owt.live h1 k1 b z
    · exact Owtf.live h2 k2 b z
end
def SD.own : SD → Bool
  | .no => false
  | .fr _ => false
  | .fu _ => false
  | .fx _ => false
  | _ => true
abbrev Ev := List SD
structure IO where
  adr : Nat → Option Addr
  pin : Hp
  kp : Option Hp := none
  kpp : ∀ P, kp = some P → Bx.le P pin := by intro P h; cases h
abbrev IO.of (adr : Nat → Option Addr) (pin : Hp) : IO := { adr := adr, pin := pin }
def RepF (C : Ct) (F : Hp) : List (Str × D) → List (Str × V) → Prop
  | [], xs => xs = []
  | (n, d) :: ds, xs => ∃ x r, xs = (n, x) :: r ∧ Rep C F d x ∧ RepF C F ds r
theorem RepF.mono {C : Ct} {F H : Hp} (l : le F H) : ∀ {ds : List (Str × D)} {vs : List (Str × V)}, RepF C F ds vs → RepF C H ds vs
  | [], _, h => h
  | (n, d) :: ds, vs, h => by
    obtain ⟨x, r, e, a, b⟩ := h
    exact ⟨x, r, e, Rep.mono l a, RepF.mono l b⟩
theorem RepF.get {C : Ct} {F : Hp} : ∀ {ds : List (Str × D)} {vs : List (Str × V)} {f : Str} {d : D}, RepF C F ds vs → ds.lookup f = some d → ∃ v, vs.lookup f = some v ∧ Rep C F d v
  | [], _, _, _, _, h => nomatch h
  | (n, e) :: ds, vs, f, d, ⟨x, r, e1, a, b⟩, h => by
    subst e1
    rw [List.lookup_cons] at h ⊢
    cases w : f == n with
    | true => rw [w] at h; cases h; exact ⟨x, rfl, a⟩
    | false => rw [w] at h; exact RepF.get b h
def FXOk (C : Ct) (pin : Hp) (kp : Option Hp) (F : Hp) : FX → V → Prop
  | .o c fs, v => ∃ p cl dx vs, v = .ref p ∧ C.mg c = some (.ref cl) ∧ F p = some (.ins cl dx vs) ∧ RepF C F fs vs
  | .k d, v => ∃ P, kp = some P ∧ RepN C (fun b => P b ≠ none) F d v
  | .w es, v => ∃ p xs, v = .ref p ∧ F p = some (.lst xs) ∧ pin p = none ∧ RepsN C (fun b => pin b = none ∧ b ≠ p) F es xs ∧ es.length ≤ sizeLine
  | .z m n, v => ∃ p xs, v = .ref p ∧ F p = some (.lst xs) ∧ pin p = none ∧ xs.length = m.length ∧ ∀ (j : Nat) (x : V), xs[j]? = some x → m[j]? = some true → ∃ a zs l, x = .ref a ∧ a ≠ p ∧ F a = some (.lst zs) ∧ pin a = none ∧ noLs l = true ∧ Reps C F l zs ∧ l.length ≤ n
theorem FXOk.mono {C : Ct} {pin : Hp} {kp : Option Hp} {F H : Hp} (l : Bx.le F H) : ∀ {x : FX} {v : V}, FXOk C pin kp F x v → FXOk C pin kp H x v
  | .o _ _, _, ⟨p, cl, dx, vs, e, m, s, r⟩ => ⟨p, cl, dx, vs, e, m, l _ _ s, r.mono l⟩
  | .k _, _, h => by
    obtain ⟨P, e, r⟩ := h
    exact ⟨P, e, RepN.mono l r⟩
  | .w _, _, ⟨p, xs, e, s, n, r, z⟩ => ⟨p, xs, e, l _ _ s, n, RepsN.mono l r, z⟩
  | .z _ _, _, ⟨p, xs, e, s, n, z, r⟩ => ⟨p, xs, e, l _ _ s, n, z, fun j x hx hj => by
    obtain ⟨a, zs, m, e1, e2, e3, e4, e5, e6, e7⟩ := r j x hx hj
    exact ⟨a, zs, m, e1, e2, l _ _ e3, e4, e5, e6.mono l, e7⟩⟩
theorem FXOk.weak {C : Ct} {pin P : Hp} {kp : Option Hp} {F : Hp} (l : Bx.le pin P) : ∀ {x : FX} {v : V}, FXOk C P kp F x v → FXOk C pin kp F x v
  | .o _ _, _, h => h
  | .k _, _, h => h
  | .w _, _, ⟨p, xs, e, s, n, r, z⟩ => ⟨p, xs, e, s, l.nowhere n, RepsN.weak (fun b h => ⟨l.nowhere h.1, h.2⟩) r, z⟩
  | .z _ _, _, ⟨p, xs, e, s, n, z, r⟩ => ⟨p, xs, e, s, l.nowhere n, z, fun j x hx hj => by
    obtain ⟨a, zs, m, e1, e2, e3, e4, e5, e6, e7⟩ := r j x hx hj
    exact ⟨a, zs, m, e1, e2, e3, l.nowhere e4, e5, e6, e7⟩⟩
theorem FXOk.rep {C : Ct} {pin : Hp} {kp : Option Hp} {F : Hp} {es : List D} {v : V} : FXOk C pin kp F (.w es) v → Rep C F (.lst es) v
  | ⟨p, xs, e, s, n, r, z⟩ => ⟨p, xs, e, s, RepsN.rep r, z⟩

def OwnOk (C : Ct) (F H : Hp) (a : Addr) : SD → Prop
  | .ow _ l => ∃ xs, H a = some (.lst xs) ∧ Reps C F l xs ∧ l.length ≤ sizeLine
  | .od _ l => ∃ kvs, H a = some (.dK kvs) ∧ RepKv C F l kvs
  | .ot _ l => ∃ es : RawE, H a = some (rawT C a es) ∧ RepTk C F l es.2
  | _ => False
def SD.tag : SD → Option Nat
  | .ow t _ => t
  | .od t _ => t
  | .ot t _ => t
  | .ob t _ => t
  | _ => none
def SlotOk (C : Ct) (io : IO) (F H : Hp) (sd : SD) (o : Option (Option V)) : Prop :=
  match sd with
  | .no => True
  | .fr d => ∃ v, o = some (some v) ∧ Rep C F d v
  | .fu d => ∃ v, o = some (some v) ∧ RepN C (fun b => io.pin b = none) F d v
  | .fx x => ∃ v, o = some (some v) ∧ FXOk C io.pin io.kp F x v
  | .ob t x => ∃ v fp, o = some (some v) ∧ Owt C F H x v ∧ Fp H x v fp ∧ fp.Nodup ∧ (∀ b ∈ fp, F b = none) ∧ ∀ k, t = some k → ∃ a, v = .ref a ∧ io.adr k = some a
  | sd => ∃ a, o = some (some (.ref a)) ∧ F a = none ∧ OwnOk C F H a sd ∧ ∀ k, sd.tag = some k → io.adr k = some a
def Held (H : Hp) (v : V) (a : Addr) : SD → Prop
  | .ob _ x => ∃ fp, Fp H x v fp ∧ a ∈ fp
  | _ => v = .ref a
def OwnAt (H : Hp) (Γ : Ev) (σ : St) (i : Nat) (a : Addr) : Prop := ∃ sd, Γ[i]? = some sd ∧ sd.own = true ∧ ∃ v, σ[i]? = some (some v) ∧ Held H v a sd
def OwnA (H : Hp) (Γ : Ev) (σ : St) (a : Addr) : Prop := ∃ i, OwnAt H Γ σ i a

structure At (C : Ct) (io : IO) (σ : St) (F H : Hp) (Γ : Ev) : Prop where
  le : le F H
  pin : Bx.le io.pin F
  len : Γ.length = σ.length
  slot : ∀ (i : Nat) (sd : SD), Γ[i]? = some sd → SlotOk C io F H sd σ[i]?
  ne : ∀ (i j : Nat) (a : Addr), OwnAt H Γ σ i a → OwnAt H Γ σ j a → i = j

theorem OwnOk.some_ {C : Ct} {F H : Hp} {a : Addr} : ∀ {sd : SD}, OwnOk C F H a sd → H a ≠ none
  | .ow _ _, ⟨_, h, _⟩, e => by rw [h] at e; cases e
  | .od _ _, ⟨_, h, _⟩, e => by rw [h] at e; cases e
  | .ot _ _, ⟨_, h, _⟩, e => by rw [h] at e; cases e
theorem OwnOk.mono {C : Ct} {F F' H : Hp} (l : Bx.le F F') {a : Addr} : ∀ {sd : SD}, OwnOk C F H a sd → OwnOk C F' H a sd
  | .ow _ _, ⟨x, h, r, z⟩ => ⟨x, h, r.mono l, z⟩
  | .od _ _, ⟨x, h, r⟩ => ⟨x, h, r.mono l⟩
  | .ot _ _, ⟨x, h, r⟩ => ⟨x, h, r.mono l⟩
theorem OwnOk.heap {C : Ct} {F H H' : Hp} {a : Addr} (e : H' a = H a) : ∀ {sd : SD}, OwnOk C F H a sd → OwnOk C F H' a sd
  | .ow _ _, ⟨x, h, r, z⟩ => ⟨x, by rw [e]; exact h, r, z⟩
  | .od _ _, ⟨x, h, r⟩ => ⟨x, by rw [e]; exact h, r⟩
  | .ot _ _, ⟨x, h, r⟩ => ⟨x, by rw [e]; exact h, r⟩

section
variable {C : Ct} {io : IO} {σ σ' σ2 : St} {F F' F2 H H' H2 : Hp} {Γ Γ' Γ2 : Ev} {a : Addr} {i : Nat} {d : D} {t : Option Nat} {l : List D}
def SD.smp : SD → Bool
  | .ow _ _ => true
  | .od _ _ => true
  | .ot _ _ => true
  | _ => false
theorem SD.smp_own : ∀ {sd : SD}, sd.smp = true → sd.own = true
  | .ow _ _, _ => rfl
  | .od _ _, _ => rfl
  | .ot _ _, _ => rfl
theorem Held.smp {a b : Addr} : ∀ {sd : SD}, sd.smp = true → (Held H (.ref b) a sd ↔ b = a)
  | .ow _ _, _ => ⟨fun h => by have h : V.ref b = .ref a := h; cases h; rfl, fun h => by rw [h]; exact rfl⟩
  | .od _ _, _ => ⟨fun h => by have h : V.ref b = .ref a := h; cases h; rfl, fun h => by rw [h]; exact rfl⟩
  | .ot _ _, _ => ⟨fun h => by have h : V.ref b = .ref a := h; cases h; rfl, fun h => by rw [h]; exact rfl⟩
theorem Held.self {a : Addr} {sd : SD} (h : sd.smp = true) : Held H (.ref a) a sd := (Held.smp h).mpr rfl
theorem OwnAt.of {sd : SD} (e : Γ[i]? = some sd) (h : sd.smp = true) (s : σ[i]? = some (some (.ref a))) : OwnAt H Γ σ i a := ⟨sd, e, SD.smp_own h, _, s, Held.self h⟩
theorem OwnAt.smp {sd : SD} (h : OwnAt H Γ σ i a) (e : Γ[i]? = some sd) (k : sd.smp = true) : σ[i]? = some (some (.ref a)) := by
  obtain ⟨s, e1, _, v, e2, e3⟩ := h
  rw [e] at e1; cases e1
  have : v = .ref a := by cases sd <;> first | exact e3 | cases k
  rw [e2, this]
theorem At.own_simple (A : At C io σ F H Γ) {sd : SD} (e : Γ[i]? = some sd) (s : sd.smp = true) (q : σ[i]? = some (some (.ref a))) : F a = none ∧ OwnOk C F H a sd ∧ ∀ k, sd.tag = some k → io.adr k = some a := by
  have z := A.slot i sd e
  cases sd with
  | no => cases s
  | fr d => cases s
  | fu d => cases s
  | fx x => cases s
  | ob t x => cases s
  | ow t l => obtain ⟨b, e1, e2, e3, e4⟩ := z; rw [q] at e1; cases e1; exact ⟨e2, e3, e4⟩
  | od t l => obtain ⟨b, e1, e2, e3, e4⟩ := z; rw [q] at e1; cases e1; exact ⟨e2, e3, e4⟩
  | ot t l => obtain ⟨b, e1, e2, e3, e4⟩ := z; rw [q] at e1; cases e1; exact ⟨e2, e3, e4⟩
theorem At.ownAt_none (A : At C io σ F H Γ) (h : OwnAt H Γ σ i a) : F a = none ∧ H a ≠ none := by
  obtain ⟨sd, e, o, v, q, hh⟩ := h
  cases sd with
  | no => cases o
  | fr d => cases o
  | fu d => cases o
  | fx x => cases o
  | ob t x =>
    obtain ⟨w, fp, e1, e2, e3, e4, e5, _⟩ := A.slot i _ e
    rw [q] at e1; cases e1
    obtain ⟨g, k1, k2⟩ := hh
    rw [Fp.det k1 e3] at k2
    exact ⟨e5 a k2, Owt.live e3 e2 a k2⟩
  | ow t l =>
    have hh : v = .ref a := hh
    rw [hh] at q
    obtain ⟨e1, e2, _⟩ := A.own_simple e rfl q
    exact ⟨e1, e2.some_⟩
  | od t l =>
    have hh : v = .ref a := hh
    rw [hh] at q
    obtain ⟨e1, e2, _⟩ := A.own_simple e rfl q
    exact ⟨e1, e2.some_⟩
  | ot t l =>
    have hh : v = .ref a := hh
    rw [hh] at q
    obtain ⟨e1, e2, _⟩ := A.own_simple e rfl q
    exact ⟨e1, e2.some_⟩
theorem At.own_none (A : At C io σ F H Γ) (h : OwnA H Γ σ a) : F a = none ∧ H a ≠ none := by
  obtain ⟨i, h⟩ := h
  exact A.ownAt_none h
theorem Held.frame {sd : SD} {v : V} {b : Addr} (k : ∀ o t, sd = .ob t o → ∃ fp, Fp H o v fp ∧ ∀ c ∈ fp, H' c = H c) : Held H' v b sd ↔ Held H v b sd := by
  cases sd with
  | ob t x =>
    obtain ⟨fp, h1, h2⟩ := k x t rfl
    have h3 := Fp.agree h2 h1
    exact ⟨fun ⟨g, k1, k2⟩ => ⟨fp, h1, by rw [← Fp.det k1 h3]; exact k2⟩, fun ⟨g, k1, k2⟩ => ⟨fp, h3, by rw [← Fp.det k1 h1]; exact k2⟩⟩
  | _ => exact Iff.rfl
theorem At.heldJ (A : At C io σ F H Γ) {j : Nat} (e : Γ'[j]? = Γ[j]?) (es : σ'[j]? = σ[j]?) (k : ∀ b, OwnAt H Γ σ j b → H' b = H b) {b : Addr} : OwnAt H' Γ' σ' j b ↔ OwnAt H Γ σ j b := by
  unfold OwnAt
  rw [e, es]
  have key : ∀ {sd : SD} {v : V}, Γ[j]? = some sd → σ[j]? = some (some v) → (Held H' v b sd ↔ Held H v b sd) := fun {sd v} h1 h2 => Held.frame fun o t ho => by
    rw [ho] at h1
    obtain ⟨w, fp, e1, e2, e3, _⟩ := A.slot j _ h1
    rw [h2] at e1; cases e1
    exact ⟨fp, e3, fun c hc => k c ⟨_, h1, rfl, v, h2, fp, e3, hc⟩⟩
  exact ⟨fun ⟨sd, h1, h2, v, h3, h4⟩ => ⟨sd, h1, h2, v, h3, (key h1 h3).mp h4⟩, fun ⟨sd, h1, h2, v, h3, h4⟩ => ⟨sd, h1, h2, v, h3, (key h1 h3).mpr h4⟩⟩
theorem At.heldH (A : At C io σ F H Γ) (k : ∀ b, OwnA H Γ σ b → H' b = H b) {j : Nat} {b : Addr} : OwnAt H' Γ σ j b ↔ OwnAt H Γ σ j b := A.heldJ rfl rfl fun c hc => k c ⟨j, hc⟩
theorem At.heldA (A : At C io σ F H Γ) (k : ∀ b, OwnA H Γ σ b → H' b = H b) {b : Addr} : OwnA H' Γ σ b ↔ OwnA H Γ σ b := ⟨fun ⟨j, h⟩ => ⟨j, (A.heldH k).mp h⟩, fun ⟨j, h⟩ => ⟨j, (A.heldH k).mpr h⟩⟩
theorem At.fr (A : At C io σ F H Γ) (e : Γ[i]? = some (.fr d)) : ∃ v, σ[i]? = some (some v) ∧ Rep C F d v := A.slot i _ e
theorem At.fu (A : At C io σ F H Γ) (e : Γ[i]? = some (.fu d)) : ∃ v, σ[i]? = some (some v) ∧ RepN C (fun b => io.pin b = none) F d v := A.slot i _ e
theorem At.ow (A : At C io σ F H Γ) (e : Γ[i]? = some (.ow t l)) : ∃ a xs, σ[i]? = some (some (.ref a)) ∧ F a = none ∧ H a = some (.lst xs) ∧ (Reps C F l xs ∧ l.length ≤ sizeLine) ∧ OwnAt H Γ σ i a ∧ ∀ k, t = some k → io.adr k = some a := by
  obtain ⟨a, e1, e2, ⟨xs, e3, e4⟩, e5⟩ := A.slot i _ e
  exact ⟨a, xs, e1, e2, e3, e4, OwnAt.of e rfl e1, e5⟩
theorem At.ob {o : OD} (A : At C io σ F H Γ) (e : Γ[i]? = some (.ob t o)) : ∃ v fp, σ[i]? = some (some v) ∧ Owt C F H o v ∧ Fp H o v fp ∧ fp.Nodup ∧ (∀ b ∈ fp, F b = none) ∧ (∀ k, t = some k → ∃ a, v = .ref a ∧ io.adr k = some a) ∧ ∀ b ∈ fp, OwnAt H Γ σ i b := by
  obtain ⟨v, fp, e1, e2, e3, e4, e5, e6⟩ := A.slot i _ e
  exact ⟨v, fp, e1, e2, e3, e4, e5, e6, fun b hb => ⟨_, e, rfl, v, e1, fp, e3, hb⟩⟩

theorem At.heldLe (A : At C io σ F H Γ) (l : Bx.le H H') {j : Nat} {b : Addr} : OwnAt H' Γ σ j b ↔ OwnAt H Γ σ j b := A.heldH fun c hc => by
  cases w : H c with
  | none => exact absurd w (A.own_none hc).2
  | some o => exact l _ _ w
theorem At.heldLeA (A : At C io σ F H Γ) (l : Bx.le H H') {b : Addr} : OwnA H' Γ σ b ↔ OwnA H Γ σ b := ⟨fun ⟨j, h⟩ => ⟨j, (A.heldLe l).mp h⟩, fun ⟨j, h⟩ => ⟨j, (A.heldLe l).mpr h⟩⟩
theorem At.obUp {o : OD} (A : At C io σ F H Γ) (e : Γ[i]? = some (.ob t o)) (fl : Bx.le F F') (fn : ∀ b, OwnAt H Γ σ i b → F' b = none) (ag : ∀ b, OwnAt H Γ σ i b → H' b = H b) : SlotOk C io F' H' (.ob t o) σ[i]? := by
  obtain ⟨v, fp, e1, e2, e3, e4, e5, e6, e7⟩ := A.ob e
  have ag2 : ∀ b ∈ fp, H' b = H b := fun b hb => ag b (e7 b hb)
  exact ⟨v, fp, e1, (Owt.agree ag2 e3 e2).mono fl, Fp.agree ag2 e3, e4, fun b hb => fn b (e7 b hb), e6⟩

structure Go (C : Ct) (io : IO) (σ : St) (F H : Hp) (Γ : Ev) (σ' : St) (F' H' : Hp) (Γ' : Ev) : Prop where
  ff : le F F'
  keep : ∀ b o, H b = some o → ¬ OwnA H Γ σ b → H' b = some o
  live : ∀ b, H b ≠ none → H' b ≠ none
  new : ∀ b, F b = none → F' b ≠ none → H b = none ∨ OwnA H Γ σ b
  own : ∀ b, OwnA H' Γ' σ' b → OwnA H Γ σ b ∨ H b = none
  ln : σ'.length = σ.length
  at_ : At C io σ' F' H' Γ'
theorem Go.refl (A : At C io σ F H Γ) : Go C io σ F H Γ σ F H Γ := ⟨le.refl _, fun _ _ h _ => h, fun _ h => h, fun _ h q => absurd h q, fun _ h => .inl h, rfl, A⟩
theorem Go.trans (a : Go C io σ F H Γ σ' F' H' Γ') (b : Go C io σ' F' H' Γ' σ2 F2 H2 Γ2) : Go C io σ F H Γ σ2 F2 H2 Γ2 where
  ff := a.ff.trans b.ff
  keep := fun c o h n => by
    refine b.keep c o (a.keep c o h n) fun q => ?_
    rcases a.own c q with q | q
    · exact n q
    · rw [h] at q; cases q
  live := fun c h => b.live c (a.live c h)
  new := fun c h q => by
    by_cases e : F' c = none
    · rcases b.new c e q with z | z
      · refine .inl ?_
        cases w : H c with
        | none => rfl
        | some o => exact absurd z (a.live c (by rw [w]; simp))
      · rcases a.own c z with z | z
        · exact .inr z
        · exact .inl z
    · exact a.new c h e
  own := fun c h => by
    rcases b.own c h with q | q
    · exact a.own c q
    · refine .inr ?_
      cases w : H c with
      | none => rfl
      | some o => exact absurd q (a.live c (by rw [w]; simp))
  ln := b.ln.trans a.ln
  at_ := b.at_
end
inductive R (α : Type) where
  | ok (a : α) (e : Ev) | exc (c : Str) (e : Ev) | bad
def R.bind {α β : Type} : R α → (α → Ev → R β) → R β
  | .ok a e, k => k a e
  | .exc c e, _ => .exc c e
  | .bad, _ => .bad
@[simp] theorem R.bind_ok {α β : Type} {a : α} {e : Ev} {k : α → Ev → R β} : (R.ok a e).bind k = k a e := rfl
@[simp] theorem R.bind_exc {α β : Type} {c : Str} {e : Ev} {k : α → Ev → R β} : (R.exc c e).bind k = .exc c e := rfl
@[simp] theorem R.bind_bad {α β : Type} {k : α → Ev → R β} : (R.bad (α := α)).bind k = .bad := rfl
@[simp] theorem R.bind_ite {α β : Type} {p : Prop} [Decidable p] {a b : R α} {k : α → Ev → R β} : (if p then a else b).bind k = if p then a.bind k else b.bind k := by split <;> rfl
inductive AV where
  | d (x : D) | u (x : D) | s (i : Nat) | n (l : List D)
abbrev SE := Ev → R AV
abbrev SB := Ev → R Bool
abbrev SA := Ev → R (List AV)
@[simp] def rdS : Option SD → Option D
  | some (.ow _ l) => some (.lst l)
  | some (.od _ l) => some (.dct l)
  | some (.ot _ l) => some (.dtt l)
  | some (.fr d) => some d
  | some (.fu d) => some d
  | _ => none
@[simp] def rd (Γ : Ev) : AV → Option D
  | .d x => some x
  | .u x => some x
  | .n l => some (.lst l)
  | .s i => rdS Γ[i]?
def NewA (Γ : Ev) (σ : St) (H : Hp) (a : Addr) : Prop := H a = none ∨ OwnA H Γ σ a
def AVOk (C : Ct) (N0 : Addr → Prop) (F H : Hp) (Γ : Ev) (σ : St) (av : AV) (v : V) : Prop :=
  match av with
  | .d x => Rep C F x v
  | .u x => RepN C N0 F x v
  | .s i => σ[i]? = some (some v)
  | .n l => ∃ a xs, v = .ref a ∧ N0 a ∧ F a = none ∧ ¬ OwnA H Γ σ a ∧ H a = some (.lst xs) ∧ Reps C F l xs ∧ l.length ≤ sizeLine
abbrev XW := Str → St → Hp → Prop
def PX (C : Ct) (io : IO) (W : XW) (σ : St) (F H : Hp) (Γ : Ev) (r : R AV) (Q : VK) : Prop :=
  match r with
  | .ok av Γ' => ∀ v F' H', Go C io σ F H Γ σ F' H' Γ' → AVOk C (NewA Γ σ H) F' H' Γ' σ av v → Q v H'
  | .exc c Γ' => ∀ F' H', Go C io σ F H Γ σ F' H' Γ' → W c σ H'
  | .bad => False
def PB (C : Ct) (io : IO) (W : XW) (σ : St) (F H : Hp) (Γ : Ev) (r : R Bool) (Q : Bool → Hp → Prop) : Prop :=
  match r with
  | .ok b Γ' => ∀ F' H', Go C io σ F H Γ σ F' H' Γ' → Q b H'
  | .exc c Γ' => ∀ F' H', Go C io σ F H Γ σ F' H' Γ' → W c σ H'
  | .bad => False
def AVsOk (C : Ct) (N0 : Addr → Prop) (F H : Hp) (Γ : Ev) (σ : St) : List AV → List V → Prop
  | [], vs => vs = []
  | av :: r, vs => ∃ v w, vs = v :: w ∧ AVOk C N0 F H Γ σ av v ∧ AVsOk C N0 F H Γ σ r w
def PAs (C : Ct) (io : IO) (W : XW) (σ : St) (F H : Hp) (Γ : Ev) (r : R (List AV)) (Q : List V → Hp → Prop) : Prop :=
  match r with
  | .ok avs Γ' => ∀ vs F' H', Go C io σ F H Γ σ F' H' Γ' → AVsOk C (NewA Γ σ H) F' H' Γ' σ avs vs → Q vs H'
  | .exc c Γ' => ∀ F' H', Go C io σ F H Γ σ F' H' Γ' → W c σ H'
  | .bad => False
def tX (C : Ct) (W : XW) (f : SE) : TE := fun σ H Q => ∃ io F Γ, At C io σ F H Γ ∧ PX C io W σ F H Γ (f Γ) Q
def tB (C : Ct) (W : XW) (f : SB) : TT := fun σ H Q => ∃ io F Γ, At C io σ F H Γ ∧ PB C io W σ F H Γ (f Γ) Q
def tA (C : Ct) (W : XW) (f : SA) : TA := fun σ H Q => ∃ io F Γ, At C io σ F H Γ ∧ PAs C io W σ F H Γ (f Γ) Q

theorem PE.imp {X : Cx} {e : Expr} {t t' : TE} (h : PE X e t) (k : ∀ σ H Q, t' σ H Q → t σ H Q) : PE X e t' := ⟨fun pins s σ H Q I q => h.run pins s σ H Q I (k σ H Q q)⟩
theorem PT.imp {X : Cx} {e : Expr} {t t' : TT} (h : PT X e t) (k : ∀ σ H Q, t' σ H Q → t σ H Q) : PT X e t' := ⟨fun pins s σ H Q I q => h.run pins s σ H Q I (k σ H Q q)⟩
theorem PW.imp {X : Cx} {e : Expr} {t t' : TT} (h : PW X e t) (k : ∀ σ H Q, t' σ H Q → t σ H Q) : PW X e t' := ⟨fun wh pins s σ H Q I q => h.run wh pins s σ H Q I (k σ H Q q)⟩
theorem PA.imp {X : Cx} {e : List Expr} {t t' : TA} (h : PA X e t) (k : ∀ σ H Q, t' σ H Q → t σ H Q) : PA X e t' := ⟨fun pos pins s σ H Q I q => h.run pos pins s σ H Q I (k σ H Q q)⟩
theorem PS.imp {X : Cx} {e : Stmt} {t t' : TS} (h : PS X e t) (k : ∀ D σ H, t' D σ H → t D σ H) : PS X e t' := ⟨fun pins s σ H D I q => h.run pins s σ H D I (k D σ H q)⟩
theorem PSs.imp {X : Cx} {e : List Stmt} {t t' : TS} (h : PSs X e t) (k : ∀ D σ H, t' D σ H → t D σ H) : PSs X e t' := ⟨fun pins s σ H D I q => h.run pins s σ H D I (k D σ H q)⟩

section
variable {C : Ct} {io : IO} {W : XW} {σ σ' : St} {F F' F2 H H' H2 : Hp} {Γ Γ' Γ2 : Ev}
theorem AVOk.start {N0 N1 : Addr → Prop} (k : ∀ b, N1 b → N0 b) {av : AV} {v : V} (h : AVOk C N1 F H Γ σ av v) : AVOk C N0 F H Γ σ av v := by
  cases av with
  | d x => exact h
  | u x => exact RepN.weak k h
  | s i => exact h
  | n l => obtain ⟨a, xs, e, h0, r⟩ := h; exact ⟨a, xs, e, k _ h0, r⟩
theorem Go.back (g : Go C io σ F H Γ σ' F' H' Γ') {b : Addr} (h : H' b = none) : H b = none := by
  cases w : H b with
  | none => rfl
  | some o => exact absurd h (g.live b (by rw [w]; simp))
theorem Go.newA (g : Go C io σ F H Γ σ' F' H' Γ') {b : Addr} (h : NewA Γ' σ' H' b) : NewA Γ σ H b := by
  rcases h with h | h
  · exact .inl (g.back h)
  · rcases g.own b h with q | q
    · exact .inr q
    · exact .inl q
theorem AVOk.go {N0 : Addr → Prop} {av : AV} {v : V} (h : AVOk C N0 F H Γ σ av v) (g : Go C io σ F H Γ σ F' H' Γ') : AVOk C N0 F' H' Γ' σ av v := by
  cases av with
  | d x => exact Rep.mono g.ff h
  | u x => exact RepN.mono g.ff h
  | s i => exact h
  | n l =>
    obtain ⟨a, xs, e, h0, f0, no, ha, r, z⟩ := h
    have no' : ¬ OwnA H' Γ' σ a := fun q => by
      rcases g.own a q with q | q
      · exact no q
      · rw [ha] at q; cases q
    refine ⟨a, xs, e, h0, ?_, no', g.keep a _ ha no, r.mono g.ff, z⟩
    cases w : F' a with
    | none => rfl
    | some o =>
      rcases g.new a f0 (by rw [w]; simp) with q | q
      · rw [ha] at q; cases q
      · exact absurd q no
theorem AVsOk.go {N0 : Addr → Prop} : ∀ {avs : List AV} {vs : List V}, AVsOk C N0 F H Γ σ avs vs → Go C io σ F H Γ σ F' H' Γ' → AVsOk C N0 F' H' Γ' σ avs vs
  | [], _, h, _ => h
  | av :: r, _, ⟨v, w, e, h1, h2⟩, g => ⟨v, w, e, h1.go g, AVsOk.go h2 g⟩
theorem AVsOk.start {N0 N1 : Addr → Prop} (k : ∀ b, N1 b → N0 b) : ∀ {avs : List AV} {vs : List V}, AVsOk C N1 F H Γ σ avs vs → AVsOk C N0 F H Γ σ avs vs
  | [], _, h => h
  | av :: r, _, ⟨v, w, e, h1, h2⟩ => ⟨v, w, e, h1.start k, AVsOk.start k h2⟩
theorem PX.go (g : Go C io σ F H Γ σ F' H' Γ') {r : R AV} {Q : VK} (p : PX C io W σ F H Γ r Q) : PX C io W σ F' H' Γ' r Q := by
  cases r with
  | ok av Γ2 => exact fun v F2 H2 g2 h => p v F2 H2 (g.trans g2) (h.start fun b e => g.newA e)
  | exc c Γ2 => exact fun F2 H2 g2 => p F2 H2 (g.trans g2)
  | bad => exact p
theorem PB.go (g : Go C io σ F H Γ σ F' H' Γ') {r : R Bool} {Q : Bool → Hp → Prop} (p : PB C io W σ F H Γ r Q) : PB C io W σ F' H' Γ' r Q := by
  cases r with
  | ok av Γ2 => exact fun F2 H2 g2 => p F2 H2 (g.trans g2)
  | exc c Γ2 => exact fun F2 H2 g2 => p F2 H2 (g.trans g2)
  | bad => exact p
theorem PAs.go (g : Go C io σ F H Γ σ F' H' Γ') {r : R (List AV)} {Q : List V → Hp → Prop} (p : PAs C io W σ F H Γ r Q) : PAs C io W σ F' H' Γ' r Q := by
  cases r with
  | ok av Γ2 => exact fun v F2 H2 g2 h => p v F2 H2 (g.trans g2) (h.start fun b e => g.newA e)
  | exc c Γ2 => exact fun F2 H2 g2 => p F2 H2 (g.trans g2)
  | bad => exact p
theorem tX.then {f : SE} {k : AV → Ev → R AV} {Q : VK} (A : At C io σ F H Γ) (p : PX C io W σ F H Γ ((f Γ).bind k) Q) {Q' : VK}
    (h : ∀ av v F' H' Γ', Go C io σ F H Γ σ F' H' Γ' → AVOk C (NewA Γ σ H) F' H' Γ' σ av v → PX C io W σ F' H' Γ' (k av Γ') Q → Q' v H') : tX C W f σ H Q' := by
  refine ⟨io, F, Γ, A, ?_⟩
  cases e : f Γ with
  | ok av Γ' =>
    rw [e] at p
    exact fun v F' H' g hv => h av v F' H' Γ' g hv (PX.go g p)
  | exc c Γ' => rw [e] at p; exact p
  | bad => rw [e] at p; exact p
theorem tX.thenB {f : SE} {k : AV → Ev → R Bool} {Q : Bool → Hp → Prop} (A : At C io σ F H Γ) (p : PB C io W σ F H Γ ((f Γ).bind k) Q) {Q' : VK}
    (h : ∀ av v F' H' Γ', Go C io σ F H Γ σ F' H' Γ' → AVOk C (NewA Γ σ H) F' H' Γ' σ av v → PB C io W σ F' H' Γ' (k av Γ') Q → Q' v H') : tX C W f σ H Q' := by
  refine ⟨io, F, Γ, A, ?_⟩
  cases e : f Γ with
  | ok av Γ' =>
    rw [e] at p
    exact fun v F' H' g hv => h av v F' H' Γ' g hv (PB.go g p)
  | exc c Γ' => rw [e] at p; exact p
  | bad => rw [e] at p; exact p
theorem tB.then {f : SB} {k : Bool → Ev → R AV} {Q : VK} (A : At C io σ F H Γ) (p : PX C io W σ F H Γ ((f Γ).bind k) Q) {Q' : Bool → Hp → Prop}
    (h : ∀ b F' H' Γ', Go C io σ F H Γ σ F' H' Γ' → PX C io W σ F' H' Γ' (k b Γ') Q → Q' b H') : tB C W f σ H Q' := by
  refine ⟨io, F, Γ, A, ?_⟩
  cases e : f Γ with
  | ok av Γ' =>
    rw [e] at p
    exact fun F' H' g => h av F' H' Γ' g (PX.go g p)
  | exc c Γ' => rw [e] at p; exact p
  | bad => rw [e] at p; exact p
theorem tB.thenB {f : SB} {k : Bool → Ev → R Bool} {Q : Bool → Hp → Prop} (A : At C io σ F H Γ) (p : PB C io W σ F H Γ ((f Γ).bind k) Q) {Q' : Bool → Hp → Prop}
    (h : ∀ b F' H' Γ', Go C io σ F H Γ σ F' H' Γ' → PB C io W σ F' H' Γ' (k b Γ') Q → Q' b H') : tB C W f σ H Q' := by
  refine ⟨io, F, Γ, A, ?_⟩
  cases e : f Γ with
  | ok av Γ' =>
    rw [e] at p
    exact fun F' H' g => h av F' H' Γ' g (PB.go g p)
  | exc c Γ' => rw [e] at p; exact p
  | bad => rw [e] at p; exact p
theorem tA.then {f : SA} {k : List AV → Ev → R AV} {Q : VK} (A : At C io σ F H Γ) (p : PX C io W σ F H Γ ((f Γ).bind k) Q) {Q' : List V → Hp → Prop}
    (h : ∀ avs vs F' H' Γ', Go C io σ F H Γ σ F' H' Γ' → AVsOk C (NewA Γ σ H) F' H' Γ' σ avs vs → PX C io W σ F' H' Γ' (k avs Γ') Q → Q' vs H') : tA C W f σ H Q' := by
  refine ⟨io, F, Γ, A, ?_⟩
  cases e : f Γ with
  | ok av Γ' =>
    rw [e] at p
    exact fun v F' H' g hv => h av v F' H' Γ' g hv (PX.go g p)
  | exc c Γ' => rw [e] at p; exact p
  | bad => rw [e] at p; exact p

theorem PX.val (A : At C io σ F H Γ) {x : D} {v : V} {Q : VK} (p : PX C io W σ F H Γ (.ok (.d x) Γ) Q) (r : Rep C F x v) : Q v H := p v F H (.refl A) r
theorem PB.val (A : At C io σ F H Γ) {b : Bool} {Q : Bool → Hp → Prop} (p : PB C io W σ F H Γ (.ok b Γ) Q) : Q b H := p F H (.refl A)
theorem At.upd (A : At C io σ F H Γ) {p : Addr} (hp : H p = none) {o : HO} : At C io σ F (upd H p o) Γ where
  le := fun a u h => by
    have q := A.le a u h
    rw [upd_ne (ne_of_none q hp)]
    exact q
  pin := A.pin
  len := A.len
  slot := fun i sd e => by
    have q := A.slot i sd e
    have own : ∀ {sd : SD}, (∃ a, σ[i]? = some (some (V.ref a)) ∧ F a = none ∧ OwnOk C F H a sd ∧ ∀ k, sd.tag = some k → io.adr k = some a) → (∃ a, σ[i]? = some (some (V.ref a)) ∧ F a = none ∧ OwnOk C F (L2.upd H p o) a sd ∧ ∀ k, sd.tag = some k → io.adr k = some a) := by
      rintro sd ⟨a, e1, e2, e3, e4⟩
      have hne : a ≠ p := fun z => e3.some_ (by rw [z]; exact hp)
      exact ⟨a, e1, e2, e3.heap (upd_ne hne), e4⟩
    cases sd with
    | no => trivial
    | fr d => exact q
    | fu d => exact q
    | fx x => exact q
    | ob t x =>
      obtain ⟨v, fp, e1, e2, e3, e4, e5, e6, e7⟩ := A.ob e
      have ag : ∀ b ∈ fp, L2.upd H p o b = H b := fun b hb => upd_ne fun z => (A.ownAt_none (e7 b hb)).2 (by rw [z]; exact hp)
      exact ⟨v, fp, e1, Owt.agree ag e3 e2, Fp.agree ag e3, e4, e5, e6⟩
    | ow t l => exact own q
    | od t l => exact own q
    | ot t l => exact own q
  ne := fun i j a h1 h2 => by
    have k : ∀ b, OwnA H Γ σ b → L2.upd H p o b = H b := fun b hb => upd_ne fun z => (A.own_none hb).2 (by rw [z]; exact hp)
    exact A.ne i j a ((A.heldH k).mp h1) ((A.heldH k).mp h2)
theorem At.updOwn (A : At C io σ F H Γ) {p : Addr} (hp : H p = none) {o : HO} {b : Addr} : OwnA (L2.upd H p o) Γ σ b ↔ OwnA H Γ σ b :=
  A.heldA fun b hb => upd_ne fun z => (A.own_none hb).2 (by rw [z]; exact hp)
theorem At.notOwn (A : At C io σ F H Γ) {p : Addr} (hp : H p = none) : ¬ OwnA H Γ σ p := fun q => (A.own_none q).2 hp
theorem At.notOwnU (A : At C io σ F H Γ) {p : Addr} (hp : H p = none) {o : HO} : ¬ OwnA (L2.upd H p o) Γ σ p := fun q => A.notOwn hp ((A.updOwn hp).mp q)
theorem Go.upd (A : At C io σ F H Γ) {p : Addr} (hp : H p = none) (o : HO) : Go C io σ F H Γ σ F (L2.upd H p o) Γ where
  ff := le.refl _
  keep := fun b u h _ => by rw [upd_ne (ne_of_none h hp)]; exact h
  live := fun b h => by
    by_cases e : b = p
    · rw [e, upd_same]; simp
    · rw [upd_ne e]; exact h
  new := fun b h q => absurd h q
  own := fun b h => .inl ((A.updOwn hp).mp h)
  ln := rfl
  at_ := A.upd hp
theorem At.frz (A : At C io σ F H Γ) {p : Addr} {o : HO} (hp : H p = some o) (hf : F p = none) (no : ¬ OwnA H Γ σ p) : At C io σ (L2.upd F p o) H Γ where
  le := fun a u h => by
    by_cases e : a = p
    · rw [e, upd_same] at h; cases h; rw [e]; exact hp
    · rw [upd_ne e] at h; exact A.le a u h
  pin := A.pin.trans fun a u h => by rw [upd_ne (ne_of_none h hf)]; exact h
  len := A.len
  slot := fun i sd e => by
    have q := A.slot i sd e
    have fl : Bx.le F (L2.upd F p o) := fun a u h => by rw [upd_ne (ne_of_none h hf)]; exact h
    have own : ∀ {sd : SD}, Γ[i]? = some sd → sd.smp = true → (∃ a, σ[i]? = some (some (V.ref a)) ∧ F a = none ∧ OwnOk C F H a sd ∧ ∀ k, sd.tag = some k → io.adr k = some a) → (∃ a, σ[i]? = some (some (V.ref a)) ∧ L2.upd F p o a = none ∧ OwnOk C (L2.upd F p o) H a sd ∧ ∀ k, sd.tag = some k → io.adr k = some a) := by
      rintro sd es so ⟨a, e1, e2, e3, e4⟩
      have hne : a ≠ p := fun z => no ⟨i, OwnAt.of es so (by rw [← z]; exact e1)⟩
      exact ⟨a, e1, by rw [upd_ne hne]; exact e2, e3.mono fl, e4⟩
    cases sd with
    | no => trivial
    | fr d => obtain ⟨v, e1, e2⟩ := q; exact ⟨v, e1, e2.mono fl⟩
    | fu d => obtain ⟨v, e1, e2⟩ := q; exact ⟨v, e1, RepN.mono fl e2⟩
    | fx x => obtain ⟨v, e1, e2⟩ := q; exact ⟨v, e1, FXOk.mono fl e2⟩
    | ob t x =>
      obtain ⟨v, fp, e1, e2, e3, e4, e5, e6, e7⟩ := A.ob e
      exact ⟨v, fp, e1, e2.mono fl, e3, e4, fun b hb => by
        rw [upd_ne fun z => no ⟨i, by rw [← z]; exact e7 b hb⟩]
        exact e5 b hb, e6⟩
    | ow t l => exact own e rfl q
    | od t l => exact own e rfl q
    | ot t l => exact own e rfl q
  ne := A.ne
theorem le.updF {p : Addr} {o : HO} (hf : F p = none) : Bx.le F (L2.upd F p o) := fun a u h => by rw [upd_ne (ne_of_none h hf)]; exact h
theorem Go.laid (A : At C io σ F H Γ) {p : Addr} (hp : H p = none) (o : HO) : Go C io σ F H Γ σ (L2.upd F p o) (L2.upd H p o) Γ where
  ff := by
    refine le.updF ?_
    cases w : F p with
    | none => rfl
    | some u => have q := A.le p u w; rw [hp] at q; cases q
  keep := fun b u h _ => by rw [upd_ne (ne_of_none h hp)]; exact h
  live := (Go.upd A hp o).live
  new := fun b h q => by
    by_cases e : b = p
    · exact .inl (by rw [e]; exact hp)
    · rw [upd_ne e] at q; exact absurd h q
  own := fun b h => .inl ((A.updOwn hp).mp h)
  ln := rfl
  at_ := by
    have hf : F p = none := by
      cases w : F p with
      | none => rfl
      | some u => have q := A.le p u w; rw [hp] at q; cases q
    exact (A.upd hp (o := o)).frz upd_same hf fun q => A.notOwn hp ((A.updOwn hp).mp q)
theorem At.fnone (A : At C io σ F H Γ) {p : Addr} (hp : H p = none) : F p = none := by
  cases w : F p with
  | none => rfl
  | some u => have q := A.le p u w; rw [hp] at q; cases q
theorem PX.newTup (A : At C io σ F H Γ) {l : List D} {xs : List V} {Q : VK} (q : PX C io W σ F H Γ (.ok (.d (.tup l)) Γ) Q) (r : Reps C F l xs) (z : l.length ≤ sizeLine) : ∀ p, H p = none → Q (.ref p) (L2.upd H p (.tup xs)) := fun p hp =>
  q (.ref p) _ _ (Go.laid A hp (.tup xs)) ⟨p, xs, rfl, .inl (.inl upd_same), r.mono (le.updF (A.fnone hp)), z⟩
theorem PX.newLst (A : At C io σ F H Γ) {l : List D} {xs : List V} {Q : VK} (q : PX C io W σ F H Γ (.ok (.n l) Γ) Q) (r : Reps C F l xs) (z : l.length ≤ sizeLine) : ∀ p, H p = none → Q (.ref p) (L2.upd H p (.lst xs)) := fun p hp =>
  q (.ref p) _ _ (Go.upd A hp (.lst xs)) ⟨p, xs, rfl, .inl hp, A.fnone hp, (fun q => A.notOwn hp ((A.updOwn hp).mp q)), upd_same, r, z⟩

theorem AVOk.read (A : At C io σ F H Γ) {N0 : Addr → Prop} {av : AV} {v : V} {x : D} (h : AVOk C N0 F H Γ σ av v) (e : rd Γ av = some x) : Rep C H x v := by
  cases av with
  | d y => cases e; exact Rep.mono A.le h
  | u y => cases e; exact Rep.mono A.le (RepN.rep h)
  | n l =>
    cases e
    obtain ⟨a, xs, ev, _, _, _, ha, r, z⟩ := h
    exact ⟨a, xs, ev, ha, r.mono A.le, z⟩
  | s i =>
    have h : σ[i]? = some (some v) := h
    have e : rdS Γ[i]? = some x := e
    cases w : Γ[i]? with
    | none => rw [w] at e; cases e
    | some sd =>
      rw [w] at e
      cases sd with
      | ob t x => cases e
      | no => cases e
      | fr d =>
        cases e
        obtain ⟨u, e1, r⟩ := A.fr w
        rw [h] at e1; cases e1
        exact Rep.mono A.le r
      | fu d =>
        cases e
        obtain ⟨u, e1, r⟩ := A.fu w
        rw [h] at e1; cases e1
        exact Rep.mono A.le (RepN.rep r)
      | ow t l =>
        cases e
        obtain ⟨a, xs, e1, _, e3, e4, _⟩ := A.ow w
        rw [h] at e1; cases e1
        exact ⟨a, xs, rfl, e3, e4.1.mono A.le, e4.2⟩
      | od t l =>
        cases e
        obtain ⟨a, e1, _, ⟨xs, e3, e4⟩, _⟩ := A.slot i _ w
        rw [h] at e1; cases e1
        exact ⟨a, xs, rfl, .inl e3, e4.mono A.le⟩
      | ot t l =>
        cases e
        obtain ⟨a, e1, _, ⟨xs, e3, e4⟩, _⟩ := A.slot i _ w
        rw [h] at e1; cases e1
        exact ⟨a, xs, rfl, .inl e3, e4.mono A.le⟩
      | fx x => cases e
theorem AVOk.lst (A : At C io σ F H Γ) {N0 : Addr → Prop} {av : AV} {v : V} {l : List D} (h : AVOk C N0 F H Γ σ av v) (e : rd Γ av = some (.lst l)) : ∃ a xs, v = .ref a ∧ H a = some (.lst xs) ∧ Reps C F l xs ∧ l.length ≤ sizeLine := by
  cases av with
  | d y =>
    cases e
    obtain ⟨a, xs, e1, s, r⟩ := h
    exact ⟨a, xs, e1, A.le _ _ s, r⟩
  | u y =>
    cases e
    obtain ⟨a, xs, e1, s, r⟩ := RepN.rep h
    exact ⟨a, xs, e1, A.le _ _ s, r⟩
  | n l =>
    cases e
    obtain ⟨a, xs, ev, _, _, _, ha, r⟩ := h
    exact ⟨a, xs, ev, ha, r⟩
  | s i =>
    have h : σ[i]? = some (some v) := h
    have e : rdS Γ[i]? = some (.lst l) := e
    cases w : Γ[i]? with
    | none => rw [w] at e; cases e
    | some sd =>
      rw [w] at e
      cases sd with
      | ob t x => cases e
      | no => cases e
      | fr d =>
        cases e
        obtain ⟨u, e1, r⟩ := A.fr w
        rw [h] at e1; cases e1
        obtain ⟨a, xs, e1, s, r⟩ := r
        exact ⟨a, xs, e1, A.le _ _ s, r⟩
      | fu d =>
        cases e
        obtain ⟨u, e1, r⟩ := A.fu w
        rw [h] at e1; cases e1
        obtain ⟨a, xs, e1, s, r⟩ := RepN.rep r
        exact ⟨a, xs, e1, A.le _ _ s, r⟩
      | ow t l =>
        cases e
        obtain ⟨a, xs, e1, _, e3, e4, _⟩ := A.ow w
        rw [h] at e1; cases e1
        exact ⟨a, xs, rfl, e3, e4⟩
      | od t l => cases e
      | ot t l => cases e
      | fx x => cases e
theorem AVOk.scr (A : At C io σ F H Γ) {N0 : Addr → Prop} {av : AV} {v : V} {l : List D} (h : AVOk C N0 F H Γ σ av v) (e : rd Γ av = some (.scr l)) : ∃ a xs, v = .ref a ∧ SqL C.K H a xs ∧ Reps C F l xs ∧ l.length ≤ sizeLine := by
  cases av with
  | d y =>
    cases e
    obtain ⟨a, xs, e1, s, r⟩ := h
    exact ⟨a, xs, e1, A.le.sqL s, r⟩
  | u y =>
    cases e
    exact False.elim h
  | n l => cases e
  | s i =>
    have h : σ[i]? = some (some v) := h
    have e : rdS Γ[i]? = some (.scr l) := e
    cases w : Γ[i]? with
    | none => rw [w] at e; cases e
    | some sd =>
      rw [w] at e
      cases sd with
      | ob t x => cases e
      | no => cases e
      | fr d =>
        cases e
        obtain ⟨u, e1, r⟩ := A.fr w
        rw [h] at e1; cases e1
        obtain ⟨a, xs, e1, s, r⟩ := r
        exact ⟨a, xs, e1, A.le.sqL s, r⟩
      | fu d =>
        cases e
        obtain ⟨u, e1, r⟩ := A.fu w
        exact False.elim r
      | ow t l => cases e
      | od t l => cases e
      | ot t l => cases e
      | fx x => cases e
theorem AVOk.tup (A : At C io σ F H Γ) {N0 : Addr → Prop} {av : AV} {v : V} {l : List D} (h : AVOk C N0 F H Γ σ av v) (e : rd Γ av = some (.tup l)) : Rep C F (.tup l) v := by
  cases av with
  | d y =>
    cases e
    exact h
  | u y =>
    cases e
    exact RepN.rep h
  | n l => cases e
  | s i =>
    have h : σ[i]? = some (some v) := h
    have e : rdS Γ[i]? = some (.tup l) := e
    cases w : Γ[i]? with
    | none => rw [w] at e; cases e
    | some sd =>
      rw [w] at e
      cases sd with
      | ob t x => cases e
      | no => cases e
      | fr d =>
        cases e
        obtain ⟨u, e1, r⟩ := A.fr w
        rw [h] at e1; cases e1
        exact r
      | fu d =>
        cases e
        obtain ⟨u, e1, r⟩ := A.fu w
        rw [h] at e1; cases e1
        exact RepN.rep r
      | ow t l => cases e
      | od t l => cases e
      | ot t l => cases e
      | fx x => cases e
theorem AVOk.int (A : At C io σ F H Γ) {N0 : Addr → Prop} {av : AV} {v : V} {i : Int} (h : AVOk C N0 F H Γ σ av v) (e : rd Γ av = some (.int i)) : v = .int i := h.read A e
theorem AVOk.bl (A : At C io σ F H Γ) {N0 : Addr → Prop} {av : AV} {v : V} {i : Bool} (h : AVOk C N0 F H Γ σ av v) (e : rd Γ av = some (.bl i)) : v = .bl i := h.read A e
theorem AVOk.str (A : At C io σ F H Γ) {N0 : Addr → Prop} {av : AV} {v : V} {i : Str} (h : AVOk C N0 F H Γ σ av v) (e : rd Γ av = some (.str i)) : v = .str i := h.read A e
end
end Bx
end
end

section
set_option Elab.async false
set_option linter.all false
set_option maxRecDepth 100000
set_option maxHeartbeats 4000000
set_option autoImplicit false
noncomputable section
namespace Bx
open PySem PySem.Spec PyProof.Rows L2
def pyk : Key → PyData
  | .inl i => .int i
  | .inr x => .str x
@[simp] theorem pyk_l (i : Int) : pyk (.inl i) = .int i := rfl
@[simp] theorem pyk_r (x : Str) : pyk (.inr x) = .str x := rfl
mutual
@[simp] def py : D → PyData
  | .non => .none
  | .bl b => .bool b
  | .int i => .int i
  | .str x => .str x
  | .tup l => .tuple (pys l)
  | .lst l => .list (pys l)
  | .dct l => .dict (pykv l)
  | _ => .none
@[simp] def pys : List D → List PyData
  | [] => []
  | d :: r => py d :: pys r
@[simp] def pykv : List (Key × D) → List (PyData × PyData)
  | [] => []
  | (k, d) :: r => (pyk k, py d) :: pykv r
end
mutual
/-- data that == and sorts may read -/
@[simp] def pl : D → Bool
  | .non => true
  | .bl _ => true
  | .int _ => true
  | .str x => PyData.strOk x
  | .tup l => pls l
  | .lst l => pls l
  | _ => false
@[simp] def pls : List D → Bool
  | [] => true
  | d :: r => pl d && pls r
end
mutual
@[simp] def dep : D → Nat
  | .tup l => deps l + 1
  | .lst l => deps l + 1
  | .dct l => depkv l + 1
  | _ => 0
@[simp] def deps : List D → Nat
  | [] => 0
  | d :: r => max (dep d) (deps r)
@[simp] def depkv : List (Key × D) → Nat
  | [] => 0
  | (_, d) :: r => max (dep d) (depkv r)
end
mutual
/-- == of data -/
def deq : D → D → Bool
  | .non, .non => true
  | .bl a, .bl b => a == b
  | .bl a, .int j => (if a then 1 else 0) == j
  | .int i, .bl b => i == (if b then 1 else 0)
  | .int i, .int j => i == j
  | .str x, .str y => x == y
  | .tup l, .tup m => deqs l m
  | .lst l, .lst m => deqs l m
  | _, _ => false
def deqs : List D → List D → Bool
  | [], [] => true
  | d :: r, e :: s => deq d e && deqs r s
  | _, _ => false
end
mutual
theorem deq_eqv : ∀ {d e : D}, pl d = true → pl e = true → PyData.eqv (py d) (py e) = deq d e
  | .non, e, _, h => by cases e <;> simp_all [PyData.eqv, deq]
  | .bl a, e, _, h => by cases e <;> simp_all [PyData.eqv, deq]
  | .int i, e, _, h => by cases e <;> simp_all [PyData.eqv, deq]
  | .str x, e, _, h => by cases e <;> simp_all [PyData.eqv, deq]
  | .tup l, e, h1, h => by
    cases e with
    | tup m =>
      simp only [py, PyData.eqv, deq]
      exact deqs_eqv (by simpa using h1) (by simpa using h)
    | _ => simp_all [PyData.eqv, deq]
  | .lst l, e, h1, h => by
    cases e with
    | lst m =>
      simp only [py, PyData.eqv, deq]
      exact deqs_eqv (by simpa using h1) (by simpa using h)
    | _ => simp_all [PyData.eqv, deq]
  | .scr l, e, h1, h => by simp at h1
  | .dct l, e, h1, h => by simp at h1
  | .fn l, e, h1, h => by simp at h1
  | .ex l, e, h1, h => by simp at h1
  | .dtt l, e, h1, h => by simp at h1
theorem deqs_eqv : ∀ {d e : List D}, pls d = true → pls e = true → PyData.eqvAll (pys d) (pys e) = deqs d e
  | [], [], _, _ => by simp [PyData.eqvAll, deqs]
  | [], _ :: _, _, _ => by simp [PyData.eqvAll, deqs]
  | _ :: _, [], _, _ => by simp [PyData.eqvAll, deqs]
  | d :: r, e :: s, h1, h2 => by
    simp only [pls, Bool.and_eq_true] at h1 h2
    simp only [pys, PyData.eqvAll, deqs]
    rw [deq_eqv h1.1 h2.1, deqs_eqv h1.2 h2.2]
end
@[simp] theorem deq_non_non   : deq (.non) (.non) = true := by rw [deq]
@[simp] theorem deq_non_bl  (b : Bool) : deq (.non) (.bl b) = false := by rw [deq] <;> simp
@[simp] theorem deq_non_int  (b : Int) : deq (.non) (.int b) = false := by rw [deq] <;> simp
@[simp] theorem deq_non_str  (b : Str) : deq (.non) (.str b) = false := by rw [deq] <;> simp
@[simp] theorem deq_non_tup  (b : List D) : deq (.non) (.tup b) = false := by rw [deq] <;> simp
@[simp] theorem deq_non_lst  (b : List D) : deq (.non) (.lst b) = false := by rw [deq] <;> simp
@[simp] theorem deq_bl_non (a : Bool)  : deq (.bl a) (.non) = false := by rw [deq] <;> simp
@[simp] theorem deq_bl_bl (a : Bool) (b : Bool) : deq (.bl a) (.bl b) = (a == b) := by rw [deq]
@[simp] theorem deq_bl_int (a : Bool) (b : Int) : deq (.bl a) (.int b) = ((if a then 1 else 0) == b) := by rw [deq]
@[simp] theorem deq_bl_str (a : Bool) (b : Str) : deq (.bl a) (.str b) = false := by rw [deq] <;> simp
@[simp] theorem deq_bl_tup (a : Bool) (b : List D) : deq (.bl a) (.tup b) = false := by rw [deq] <;> simp
@[simp] theorem deq_bl_lst (a : Bool) (b : List D) : deq (.bl a) (.lst b) = false := by rw [deq] <;> simp
@[simp] theorem deq_int_non (a : Int)  : deq (.int a) (.non) = false := by rw [deq] <;> simp
@[simp] theorem deq_int_bl (a : Int) (b : Bool) : deq (.int a) (.bl b) = (a == (if b then 1 else 0)) := by rw [deq]
@[simp] theorem deq_int_int (a : Int) (b : Int) : deq (.int a) (.int b) = (a == b) := by rw [deq]
@[simp] theorem deq_int_str (a : Int) (b : Str) : deq (.int a) (.str b) = false := by rw [deq] <;> simp
@[simp] theorem deq_int_tup (a : Int) (b : List D) : deq (.int a) (.tup b) = false := by rw [deq] <;> simp
@[simp] theorem deq_int_lst (a : Int) (b : List D) : deq (.int a) (.lst b) = false := by rw [deq] <;> simp
@[simp] theorem deq_str_non (a : Str)  : deq (.str a) (.non) = false := by rw [deq] <;> simp
@[simp] theorem deq_str_bl (a : Str) (b : Bool) : deq (.str a) (.bl b) = false := by rw [deq] <;> simp
@[simp] theorem deq_str_int (a : Str) (b : Int) : deq (.str a) (.int b) = false := by rw [deq] <;> simp
@[simp] theorem deq_str_str (a : Str) (b : Str) : deq (.str a) (.str b) = (a == b) := by rw [deq]
@[simp] theorem deq_str_tup (a : Str) (b : List D) : deq (.str a) (.tup b) = false := by rw [deq] <;> simp
@[simp] theorem deq_str_lst (a : Str) (b : List D) : deq (.str a) (.lst b) = false := by rw [deq] <;> simp
@[simp] theorem deq_tup_non (a : List D)  : deq (.tup a) (.non) = false := by rw [deq] <;> simp
@[simp] theorem deq_tup_bl (a : List D) (b : Bool) : deq (.tup a) (.bl b) = false := by rw [deq] <;> simp
@[simp] theorem deq_tup_int (a : List D) (b : Int) : deq (.tup a) (.int b) = false := by rw [deq] <;> simp
@[simp] theorem deq_tup_str (a : List D) (b : Str) : deq (.tup a) (.str b) = false := by rw [deq] <;> simp
@[simp] theorem deq_tup_tup (a : List D) (b : List D) : deq (.tup a) (.tup b) = deqs a b := by rw [deq]
@[simp] theorem deq_tup_lst (a : List D) (b : List D) : deq (.tup a) (.lst b) = false := by rw [deq] <;> simp
@[simp] theorem deq_lst_non (a : List D)  : deq (.lst a) (.non) = false := by rw [deq] <;> simp
@[simp] theorem deq_lst_bl (a : List D) (b : Bool) : deq (.lst a) (.bl b) = false := by rw [deq] <;> simp
@[simp] theorem deq_lst_int (a : List D) (b : Int) : deq (.lst a) (.int b) = false := by rw [deq] <;> simp
@[simp] theorem deq_lst_str (a : List D) (b : Str) : deq (.lst a) (.str b) = false := by rw [deq] <;> simp
@[simp] theorem deq_lst_tup (a : List D) (b : List D) : deq (.lst a) (.tup b) = false := by rw [deq] <;> simp
@[simp] theorem deq_lst_lst (a : List D) (b : List D) : deq (.lst a) (.lst b) = deqs a b := by rw [deq]
@[simp] theorem deqs_nn : deqs [] [] = true := by rw [deqs]
@[simp] theorem deqs_nc (d : D) (r : List D) : deqs [] (d :: r) = false := by rw [deqs] <;> simp
@[simp] theorem deqs_cn (d : D) (r : List D) : deqs (d :: r) [] = false := by rw [deqs] <;> simp
@[simp] theorem deqs_cc (d e : D) (r s : List D) : deqs (d :: r) (e :: s) = (deq d e && deqs r s) := by rw [deqs]
mutual
theorem py_lay : ∀ {d : D}, pl d = true → (py d).canLay0 = true
  | .non, _ => by simp [PyData.canLay0]
  | .bl a, _ => by simp [PyData.canLay0]
  | .int i, _ => by simp [PyData.canLay0]
  | .str x, h => by simpa [PyData.canLay0] using h
  | .tup l, h => by
    simp only [py, PyData.canLay0]
    exact pys_lay (by simpa using h)
  | .lst l, h => by
    simp only [py, PyData.canLay0]
    exact pys_lay (by simpa using h)
  | .scr l, h => by simp at h
  | .dct l, h => by simp at h
  | .fn l, h => by simp at h
  | .ex l, h => by simp at h
  | .dtt l, h => by simp at h
theorem pys_lay : ∀ {d : List D}, pls d = true → PyData.canLayAll0 (pys d) = true
  | [], _ => by simp [PyData.canLayAll0]
  | d :: r, h => by
    simp only [pls, Bool.and_eq_true] at h
    simp only [pys, PyData.canLayAll0, Bool.and_eq_true]
    exact ⟨py_lay h.1, pys_lay h.2⟩
end
mutual
theorem py_dep : ∀ (d : D), (py d).depth ≤ dep d
  | .non => by simp [PyData.depth]
  | .bl a => by simp [PyData.depth]
  | .int i => by simp [PyData.depth]
  | .str x => by simp [PyData.depth]
  | .tup l => by
    have := pys_dep l
    simp only [py, PyData.depth, dep]
    omega
  | .lst l => by
    have := pys_dep l
    simp only [py, PyData.depth, dep]
    omega
  | .scr l => by simp [PyData.depth]
  | .dct l => by
    have := pykv_dep l
    simp only [py, PyData.depth, dep]
    omega
  | .fn l => by simp [PyData.depth]
  | .ex l => by simp [PyData.depth]
  | .dtt l => by simp [PyData.depth]
theorem pys_dep : ∀ (d : List D), PyData.depthAll (pys d) ≤ deps d
  | [] => by simp [PyData.depthAll]
  | d :: r => by
    have h1 := py_dep d
    have h2 := pys_dep r
    simp only [pys, PyData.depthAll, deps]
    omega
theorem pykv_dep : ∀ (l : List (Key × D)), PyData.depthKv (pykv l) ≤ depkv l
  | [] => by simp [PyData.depthKv]
  | (k, d) :: r => by
    have h1 := py_dep d
    have h2 := pykv_dep r
    have h3 : (pyk k).depth = 0 := by cases k <;> simp [PyData.depth]
    simp only [pykv, PyData.depthKv, depkv]
    omega
end
def eqOk (d : D) : Bool := pl d && decide (dep d ≤ 60)
theorem shaped_of {d : D} (h : eqOk d = true) : SeqAt.shaped (py d) = true := by
  unfold eqOk at h
  rw [Bool.and_eq_true] at h
  have h2 := of_decide_eq_true h.2
  have h3 := py_dep d
  unfold SeqAt.shaped
  rw [Bool.and_eq_true]
  exact ⟨py_lay h.1, decide_eq_true (by omega)⟩
mutual
theorem dp_of {C : Ct} {H : Hp} : ∀ {d : D} {v : V}, pl d = true → Rep C H d v → Dp C.K H v (py d)
  | .non, _, _, h => by
    have h : _ = V.non := h
    rw [h]
    exact .non
  | .bl b, _, _, h => by
    have h : _ = V.bl b := h
    rw [h]
    exact .bl b
  | .int b, _, _, h => by
    have h : _ = V.int b := h
    rw [h]
    exact .int b
  | .str b, _, _, h => by
    have h : _ = V.str b := h
    rw [h]
    exact .str b
  | .tup l, v, p, h => by
    obtain ⟨a, xs, e, s, r, _⟩ := h
    rw [e]
    exact .tup s (dps_of (by simpa using p) r)
  | .lst l, v, p, h => by
    obtain ⟨a, xs, e, s, r, _⟩ := h
    rw [e]
    exact .lst (.of s) (dps_of (by simpa using p) r)
  | .scr l, _, h, _ => by simp at h
  | .dct l, _, h, _ => by simp at h
  | .fn l, _, h, _ => by simp at h
  | .ex l, _, h, _ => by simp at h
  | .dtt l, _, h, _ => by simp at h
theorem dps_of {C : Ct} {H : Hp} : ∀ {d : List D} {v : List V}, pls d = true → Reps C H d v → DpAll C.K H v (pys d)
  | [], _, _, h => by
    have h : _ = [] := h
    rw [h]
    exact .nil
  | d :: r, _, p, h => by
    obtain ⟨x, w, rfl, a, b⟩ := h
    simp only [pls, Bool.and_eq_true] at p
    exact .cons (dp_of p.1 a) (dps_of p.2 b)
end
def RdV (C : Ct) (F H : Hp) (x : V) : D → Prop
  | .lst l => ∃ a xs, x = .ref a ∧ H a = some (.lst xs) ∧ Reps C F l xs ∧ l.length ≤ sizeLine
  | .scr l => ∃ a xs, x = .ref a ∧ SqL C.K H a xs ∧ Reps C F l xs ∧ l.length ≤ sizeLine
  | .dct l => ∃ a kvs, x = .ref a ∧ Rd H a (.dK kvs) ∧ RepKv C F l kvs
  | .dtt l => ∃ a es, x = .ref a ∧ Rd H a (rawT C a es) ∧ RepTk C F l es.2
  | d => Rep C F d x
inductive Rs where
  | d (x : D) | t (l : List D) | n (l : List D)
@[simp] def Rs.av : Rs → AV
  | .d x => .d x
  | .t l => .d (.tup l)
  | .n l => .n l
def ResQ (C : Ct) (F H : Hp) (r : Rs) (Q : VK) : Prop :=
  match r with
  | .d x => ∀ v, Rep C F x v → Q v H
  | .t l => (∀ v, Rep C F (.tup l) v → Q v H) ∧ ∀ xs, Reps C F l xs → l.length ≤ sizeLine → ∀ p, H p = none → Q (.ref p) (upd H p (.tup xs))
  | .n l => ∀ xs, Reps C F l xs → l.length ≤ sizeLine → ∀ p, H p = none → Q (.ref p) (upd H p (.lst xs))
section
variable {C : Ct} {io : IO} {W : XW} {σ : St} {F H : Hp} {N0 : Addr → Prop} {Γ : Ev} {av : AV} {v : V} {x : D} {Q : VK}
theorem RdV.rep (l : le F H) (h : RdV C F H v x) : Rep C H x v := by
  cases x with
  | lst m => obtain ⟨a, xs, e, s, r, z⟩ := h; exact ⟨a, xs, e, s, r.mono l, z⟩
  | scr m => obtain ⟨a, xs, e, s, r, z⟩ := h; exact ⟨a, xs, e, s, r.mono l, z⟩
  | dct m => obtain ⟨a, xs, e, s, r⟩ := h; exact ⟨a, xs, e, s, r.mono l⟩
  | dtt m => obtain ⟨a, xs, e, s, r⟩ := h; exact ⟨a, xs, e, s, r.mono l⟩
  | _ => exact Rep.mono l h
theorem AVOk.rdv (A : At C io σ F H Γ) (h : AVOk C N0 F H Γ σ av v) (e : rd Γ av = some x) : RdV C F H v x := by
  cases x with
  | lst l => exact h.lst A e
  | scr l => exact h.scr A e
  | tup l => exact h.tup A e
  | non => exact h.read A e
  | bl b => exact h.read A e
  | int b => exact h.read A e
  | str b => exact h.read A e
  | fn b => exact h.read A e
  | dct l =>
    cases av with
    | d y =>
      cases e
      obtain ⟨a, xs, e1, s, r⟩ := h
      exact ⟨a, xs, e1, A.le.rd s, r⟩
    | u y =>
      cases e
      exact False.elim h
    | n l => cases e
    | s i =>
      have h : σ[i]? = some (some v) := h
      have e : rdS Γ[i]? = some (.dct l) := e
      cases w : Γ[i]? with
      | none => rw [w] at e; cases e
      | some sd =>
        rw [w] at e
        cases sd with
        | ob t x => cases e
        | no => cases e
        | fr d =>
          cases e
          obtain ⟨u, e1, r⟩ := A.fr w
          rw [h] at e1; cases e1
          obtain ⟨a, xs, e1, s, r⟩ := r
          exact ⟨a, xs, e1, A.le.rd s, r⟩
        | fu d =>
          cases e
          obtain ⟨u, e1, r⟩ := A.fu w
          exact False.elim r
        | ow t l => cases e
        | od t l =>
          cases e
          obtain ⟨a, e1, _, ⟨xs, e3, e4⟩, _⟩ := A.slot i _ w
          rw [h] at e1; cases e1
          exact ⟨a, xs, rfl, .inl e3, e4⟩
        | ot t l => cases e
        | fx x => cases e
  | dtt l =>
    cases av with
    | d y =>
      cases e
      obtain ⟨a, xs, e1, s, r⟩ := h
      exact ⟨a, xs, e1, A.le.rd s, r⟩
    | u y =>
      cases e
      exact False.elim h
    | n l => cases e
    | s i =>
      have h : σ[i]? = some (some v) := h
      have e : rdS Γ[i]? = some (.dtt l) := e
      cases w : Γ[i]? with
      | none => rw [w] at e; cases e
      | some sd =>
        rw [w] at e
        cases sd with
        | ob t x => cases e
        | no => cases e
        | fr d =>
          cases e
          obtain ⟨u, e1, r⟩ := A.fr w
          rw [h] at e1; cases e1
          obtain ⟨a, xs, e1, s, r⟩ := r
          exact ⟨a, xs, e1, A.le.rd s, r⟩
        | fu d =>
          cases e
          obtain ⟨u, e1, r⟩ := A.fu w
          exact False.elim r
        | ow t l => cases e
        | od t l => cases e
        | ot t l =>
          cases e
          obtain ⟨a, e1, _, ⟨xs, e3, e4⟩, _⟩ := A.slot i _ w
          rw [h] at e1; cases e1
          exact ⟨a, xs, rfl, .inl e3, e4⟩
        | fx x => cases e
  | ex n =>
    cases av with
    | d y => cases e; exact h
    | u y => cases e; exact False.elim h
    | n l => cases e
    | s i =>
      have h : σ[i]? = some (some v) := h
      have e : rdS Γ[i]? = some (.ex n) := e
      cases w : Γ[i]? with
      | none => rw [w] at e; cases e
      | some sd =>
        rw [w] at e
        cases sd with
        | fr d =>
          cases e
          obtain ⟨u, e1, r⟩ := A.fr w
          rw [h] at e1; cases e1
          exact r
        | fu d =>
          cases e
          obtain ⟨u, e1, r⟩ := A.fu w
          exact False.elim r
        | _ => cases e
theorem ResQ.of (A : At C io σ F H Γ) {r : Rs} (p : PX C io W σ F H Γ (.ok r.av Γ) Q) : ResQ C F H r Q := by
  cases r with
  | d x => exact fun v hv => PX.val A p hv
  | t l => exact ⟨fun v hv => PX.val A p hv, fun xs hx z => PX.newTup A p hx z⟩
  | n l => exact fun xs hx z => PX.newLst A p hx z
end
abbrev ct (X : Cx) : Ct := ⟨X.K, X.mg, X.prog, X.w⟩
def rS (C : Ct) (g : D → D → Option Rs) : R2 := fun x y H Q => ∃ F dx dy r, le F H ∧ RdV C F H x dx ∧ RdV C F H y dy ∧ g dx dy = some r ∧ ResQ C F H r Q
def rU1 (C : Ct) (g : D → Option Rs) : V → Hp → VK → Prop := fun x H Q => ∃ F dx r, le F H ∧ RdV C F H x dx ∧ g dx = some r ∧ ResQ C F H r Q

@[simp] def addD : D → D → Option Rs
  | .int a, .int b => some (.d (.int (a + b)))
  | .str a, .str b => if a.length + b.length ≤ sizeLine then some (.d (.str (a ++ b))) else none
  | .lst a, .lst b => if a.length + b.length ≤ sizeLine then some (.n (a ++ b)) else none
  | .tup a, .tup b => if a.length + b.length ≤ sizeLine then some (.t (a ++ b)) else none
  | _, _ => none
@[simp] def subD : D → D → Option Rs
  | .int a, .int b => some (.d (.int (a - b)))
  | _, _ => none
def inW (j : Int) : Bool := @decide (-(2 ^ 62) ≤ j ∧ j < 2 ^ 62) (Classical.propDecidable _)
theorem inW_ok {j : Int} (h : inW j = true) : -(2 ^ 62) ≤ j ∧ j < 2 ^ 62 := by
  unfold inW at h
  exact @of_decide_eq_true _ (Classical.propDecidable _) h
theorem inW_of {j : Int} (h : -4611686018427387904 ≤ j ∧ j < 4611686018427387904) : inW j = true := by
  unfold inW
  exact @decide_eq_true _ (Classical.propDecidable _) (by omega)
def divOk (b : Int) : Bool := @decide (0 < b ∧ b < 2 ^ 200) (Classical.propDecidable _)
theorem divOk_ok {j : Int} (h : divOk j = true) : 0 < j ∧ j < 2 ^ 200 := by
  unfold divOk at h
  exact @of_decide_eq_true _ (Classical.propDecidable _) h
theorem divOk_of {j : Int} (h : 0 < j ∧ j < 4611686018427387904) : divOk j = true := by
  unfold divOk
  exact @decide_eq_true _ (Classical.propDecidable _) ⟨h.1, Int.lt_trans h.2 (by decide)⟩
def mul64 (a b : Int) : Bool := @decide ((-(2 ^ 64) < a ∧ a < 2 ^ 64) ∨ (-(2 ^ 64) < b ∧ b < 2 ^ 64)) (Classical.propDecidable _)
def mulOk (a b : Int) : Bool := @decide ((-(2 ^ 64) < a ∧ a < 2 ^ 64) ∨ (-(2 ^ 64) < b ∧ b < 2 ^ 64) ∨ (-(2 ^ 1000) < a ∧ a < 2 ^ 1000 ∧ -(2 ^ 1000) < b ∧ b < 2 ^ 1000)) (Classical.propDecidable _)
theorem mulOk_ok {a b : Int} (h : mulOk a b = true) : (-(2 ^ 64) < a ∧ a < 2 ^ 64) ∨ (-(2 ^ 64) < b ∧ b < 2 ^ 64) ∨ (-(2 ^ 1000) < a ∧ a < 2 ^ 1000 ∧ -(2 ^ 1000) < b ∧ b < 2 ^ 1000) := by
  unfold mulOk at h
  exact @of_decide_eq_true _ (Classical.propDecidable _) h
@[simp] def mulD : D → D → Option Rs
  | .int a, .int b => if mulOk a b = true then some (.d (.int (a * b))) else none
  | .lst a, .int k => if inW k = true ∧ a.length * k.toNat ≤ sizeLine then some (.n (List.replicate k.toNat a).flatten) else none
  | .tup a, .int k => if a ≠ [] ∧ 2 ≤ k ∧ k ≤ 1000 ∧ a.length ≤ 1000 then some (.t (List.replicate k.toNat a).flatten) else if k = 1 then some (.d (.tup a)) else none
  | _, _ => none
@[simp] def fdivD : D → D → Option Rs
  | .int a, .int b => if divOk b = true then some (.d (.int (a / b))) else none
  | _, _ => none
@[simp] def modD : D → D → Option Rs
  | .int a, .int b => if 0 < b then some (.d (.int (a % b))) else none
  | _, _ => none
@[simp] def powD : D → D → Option Rs
  | .int a, .int b => if 0 ≤ b ∧ b ≤ 1000000 ∧ a.natAbs < 2 ^ 64 then some (.d (.int (a ^ b.toNat))) else none
  | _, _ => none
@[simp] def negD : D → Option Rs
  | .int a => some (.d (.int (-a)))
  | _ => none
section
variable {X : Cx}
theorem RdV.int {C : Ct} {F H : Hp} {x : V} {i : Int} (h : RdV C F H x (.int i)) : x = .int i := h
theorem RdV.str {C : Ct} {F H : Hp} {x : V} {i : Str} (h : RdV C F H x (.str i)) : x = .str i := h
theorem RdV.bl {C : Ct} {F H : Hp} {x : V} {i : Bool} (h : RdV C F H x (.bl i)) : x = .bl i := h
theorem op_addS : OpR X (binaryOp .Add) (rS (ct X) addD) := by
  intro pins s σ H x y v u Q I rx ry ⟨F, dx, dy, r, lf, hx, hy, hg, hq⟩
  unfold addD at hg
  split at hg
  · rename_i a b
    cases hg
    exact op_add pins s σ H x y v u Q I rx ry ⟨a, b, hx, hy, hq _ rfl⟩
  · rename_i a b
    split at hg
    · rename_i hl
      cases hg
      exact op_add_str pins s σ H x y v u Q I rx ry ⟨a, b, hx, hy, hl, hq _ rfl⟩
    · cases hg
  · rename_i a b
    split at hg
    · rename_i hl
      cases hg
      obtain ⟨p, xs, e1, s1, r1, _⟩ := hx
      obtain ⟨q, ys, e2, s2, r2, _⟩ := hy
      refine op_cat pins s σ H x y v u Q I rx ry ⟨p, q, xs, ys, e1, e2, s1, s2, by rw [r1.length, r2.length]; exact hl, hq _ (r1.append r2) (by rw [List.length_append]; exact hl)⟩
    · cases hg
  · rename_i a b
    split at hg
    · rename_i hl
      cases hg
      obtain ⟨p, xs, e1, s1, r1, z1⟩ := hx
      obtain ⟨q, ys, e2, s2, r2, z2⟩ := hy
      refine op_catA pins s σ H x y v u Q I rx ry ⟨p, q, xs, ys, e1, e2, lf.sqT s1, lf.sqT s2, by rw [r1.length, r2.length]; exact hl, fun e => ?_, fun _ e => ?_, fun _ _ => hq.2 _ (r1.append r2) (by rw [List.length_append]; exact hl)⟩
      · have e0 := r1.nil_iff.mp e
        refine hq.1 _ ⟨q, ys, rfl, s2, ?_⟩
        rw [e0]
        exact ⟨r2, z2⟩
      · have e0 := r2.nil_iff.mp e
        refine hq.1 _ ⟨p, xs, rfl, s1, ?_⟩
        rw [e0, List.append_nil]
        exact ⟨r1, z1⟩
    · cases hg
  · cases hg
theorem op_subS : OpR X (binaryOp .Sub) (rS (ct X) subD) := by
  intro pins s σ H x y v u Q I rx ry ⟨F, dx, dy, r, lf, hx, hy, hg, hq⟩
  unfold subD at hg
  split at hg
  · rename_i a b
    cases hg
    exact op_sub pins s σ H x y v u Q I rx ry ⟨a, b, hx, hy, hq _ rfl⟩
  · cases hg
theorem len_rep {α : Type} (l : List α) : ∀ k : Nat, (List.replicate k l).flatten.length = k * l.length
  | 0 => by simp
  | k + 1 => by rw [List.replicate_succ, List.flatten_cons, List.length_append, len_rep l k, Nat.succ_mul, Nat.add_comm]
theorem log2_1000 {a : Int} (h1 : -(2 ^ 1000) < a) (h2 : a < 2 ^ 1000) : a.natAbs.log2 < 1000 := PySem.Flt.log2_lt_of (by decide) (by omega)
theorem tuple_mul1 (l : Addr) (items : Array Value) (n : Nat) (u : Tok) :
    Meets (Builtin.«tuple.__mul__» ⟨[.ref l, .int 1 u], []⟩) (fun _ R s => ∃ (dd : Option Addr) (sl : Array (Option Value)), s.heap.get? l = some { cls := .type "tuple", dict := dd, data := .seq items n, slots := sl } ∧
      R (.ok (.ret (Value.ref l))) s) :=
  .of_wp fun prog w A R s h => by
    obtain ⟨hp, g, d, tk, os⟩ := s
    obtain ⟨dd, sl, hl, h⟩ := h
    have f1 := AutoSeq1.idx_int
    wp_walk using wpAny_loadPart' hl
    exact ⟨_, rfl, h⟩
def rRepT1 (K : PySem.W.Frag) : R2 := fun x y H Q => ∃ l xs, x = .ref l ∧ y = .int 1 ∧ SqT K H l xs ∧ Q (.ref l) H
theorem op_repT1 : OpR X (binaryOp .Mult) (rRepT1 X.K) := by
  intro pins s σ H x y v u Q I rx ry h
  obtain ⟨l, xs, rfl, rfl, hT, q⟩ := h
  cases rx
  obtain ⟨t, rfl⟩ := ry
  obtain ⟨its, r, ⟨⟨cls, dd, data, sl⟩, ho, hc, n, hd⟩, hs⟩ := I.tuple hT
  simp only at hc hd
  subst hc hd
  refine wpAny_binaryOp_repeat_ref (T := "tuple") (U := "int") (by decide) ⟨_, ho, rfl⟩ (fun s' => typeIs_int s' 1 t) noFill_tuple_mul F.fills_int_mul F.slot_int_rmul repeat_tuple F.slot_int_index.lookup
    (call_meets F.slot_int_rmul (typeIs_int s 1 t) F.entry_int_rmul (F.args_int_rmul_2 _ _) (int_rmul_tuple 1 t l its.toArray n dd sl)
      ⟨ho, rfl, ⟨_, ho, rfl⟩, call_meets F.slot_tuple_mul ⟨_, ho, rfl⟩ F.entry_tuple_mul (F.args_tuple_mul_2 _ _) (tuple_mul1 l its.toArray n t) ⟨dd, sl, ho, ?_⟩⟩)
  exact ⟨.ref l, H, I, rfl, q⟩
theorem op_mulS : OpR X (binaryOp .Mult) (rS (ct X) mulD) := by
  intro pins s σ H x y v u Q I rx ry ⟨F, dx, dy, r, lf, hx, hy, hg, hq⟩
  unfold mulD at hg
  split at hg
  · rename_i a b
    split at hg
    · rename_i hc
      cases hg
      rcases mulOk_ok hc with hc | hc | hc
      · exact op_mul pins s σ H x y v u Q I rx ry ⟨a, b, hx, hy, .inl hc, hq _ rfl⟩
      · exact op_mul pins s σ H x y v u Q I rx ry ⟨a, b, hx, hy, .inr hc, hq _ rfl⟩
      · refine op_mulW pins s σ H x y v u Q I rx ry ⟨a, b, hx, hy, ?_, hq _ rfl⟩
        have h1 := log2_1000 hc.1 hc.2.1
        have h2 := log2_1000 hc.2.2.1 hc.2.2.2
        unfold CMulW
        omega
    · cases hg
  · rename_i a k
    split at hg
    · rename_i hc
      cases hg
      obtain ⟨p, xs, e1, s1, r1, _⟩ := hx
      exact op_rep pins s σ H x y v u Q I rx ry ⟨p, k, xs, e1, hy, s1, by have := inW_ok hc.1; omega, by have := inW_ok hc.1; omega, by rw [r1.length]; exact hc.2, hq _ (r1.rep _) (by rw [len_rep, Nat.mul_comm]; exact hc.2)⟩
    · cases hg
  · rename_i a k
    split at hg
    · rename_i hc
      cases hg
      obtain ⟨p, xs, e1, s1, r1, _⟩ := hx
      exact op_repT pins s σ H x y v u Q I rx ry ⟨p, k, xs, e1, hy, lf.sqT s1, fun e => hc.1 (r1.nil_iff.mp e), hc.2.1, hc.2.2.1, by rw [r1.length]; exact hc.2.2.2, hq.2 _ (r1.rep _) (by
        rw [len_rep, sizeLine_eq]
        have h1 : k.toNat ≤ 1000 := by omega
        exact Nat.le_trans (Nat.mul_le_mul h1 hc.2.2.2) (by decide))⟩
    · split at hg
      · rename_i hk
        cases hg
        subst hk
        obtain ⟨p, xs, e1, s1, r1, z1⟩ := hx
        exact op_repT1 pins s σ H x y v u Q I rx ry ⟨p, xs, e1, hy, lf.sqT s1, hq _ ⟨p, xs, rfl, s1, r1, z1⟩⟩
      · cases hg
  · cases hg
theorem op_fdivS : OpR X (binaryOp .FloorDiv) (rS (ct X) fdivD) := by
  intro pins s σ H x y v u Q I rx ry ⟨F, dx, dy, r, lf, hx, hy, hg, hq⟩
  unfold fdivD at hg
  split at hg
  · rename_i a b
    split at hg
    · rename_i hc
      cases hg
      exact op_fdivW pins s σ H x y v u Q I rx ry ⟨a, b, hx, hy, wide_div (divOk_ok hc).1 (b := 200) (by have := (divOk_ok hc).2; have := (divOk_ok hc).1; omega) (by decide) (by decide), hq _ rfl⟩
    · cases hg
  · cases hg
theorem op_modS : OpR X (binaryOp .Mod) (rS (ct X) modD) := by
  intro pins s σ H x y v u Q I rx ry ⟨F, dx, dy, r, lf, hx, hy, hg, hq⟩
  unfold modD at hg
  split at hg
  · rename_i a b
    split at hg
    · rename_i hc
      cases hg
      exact op_mod pins s σ H x y v u Q I rx ry ⟨a, b, hx, hy, hc, hq _ rfl⟩
    · cases hg
  · cases hg
theorem op_powS : OpR X (binaryOp .Pow) (rS (ct X) powD) := by
  intro pins s σ H x y v u Q I rx ry ⟨F, dx, dy, r, lf, hx, hy, hg, hq⟩
  unfold powD at hg
  split at hg
  · rename_i a b
    split at hg
    · rename_i hc
      cases hg
      exact op_pow pins s σ H x y v u Q I rx ry ⟨a, b, hx, hy, hc, hq _ rfl⟩
    · cases hg
  · cases hg
theorem un_negS : UnR X (unaryOp .USub) (rU1 (ct X) negD) := by
  intro pins s σ H x v Q I rx ⟨F, dx, r, lf, hx, hg, hq⟩
  unfold negD at hg
  split at hg
  · rename_i a
    cases hg
    exact un_neg pins s σ H x v Q I rx ⟨a, hx, hq _ rfl⟩
  · cases hg
end
@[simp] def bD (f : D → D → Option Bool) : D → D → Option Rs := fun a b => (f a b).map fun k => .d (.bl k)
def eqE : D → D → Option Bool
  | .lst l, .lst [] => some l.isEmpty
  | _, _ => none
def eqD (a b : D) : Option Bool := if eqOk a = true ∧ eqOk b = true then some (deq a b) else eqE a b
def neD (a b : D) : Option Bool := if eqOk a = true ∧ eqOk b = true then some (!deq a b) else (eqE a b).map fun k => !k
@[simp] def ltD : D → D → Option Bool
  | .int a, .int b => some (decide (a < b))
  | .str a, .str b => some (decide (a.cps.toList < b.cps.toList))
  | _, _ => none
@[simp] def leD : D → D → Option Bool
  | .int a, .int b => some (decide (a ≤ b))
  | _, _ => none
@[simp] def gtD : D → D → Option Bool
  | .int a, .int b => some (decide (b < a))
  | _, _ => none
@[simp] def geD : D → D → Option Bool
  | .int a, .int b => some (decide (b ≤ a))
  | _, _ => none
@[simp] def isNonD : D → Bool
  | .non => true
  | _ => false
@[simp] def isD : D → D → Option Bool
  | .bl a, .bl b => some (a == b)
  | a, .non => some (isNonD a)
  | _, _ => none
section
variable {X : Cx}
theorem map_bl {o : Option Bool} {r : Rs} (h : o.map (fun k => Rs.d (.bl k)) = some r) : ∃ k, o = some k ∧ r = .d (.bl k) := by
  cases o with
  | none => cases h
  | some k => cases h; exact ⟨k, rfl, rfl⟩
theorem map_b {o : Option Bool} {r : Bool} (h : o.map (fun k => !k) = some r) : ∃ k, o = some k ∧ r = !k := by
  cases o with
  | none => cases h
  | some k => cases h; exact ⟨k, rfl, rfl⟩
theorem op_eqS (hu : X.A.units + 64 < cLine) : OpR X (compareOp .Eq) (rS (ct X) (bD eqD)) := by
  intro pins s σ H x y v u Q I rx ry ⟨F, dx, dy, r, lf, hx, hy, hg, hq⟩
  obtain ⟨k, hk, rfl⟩ := map_bl hg
  unfold eqD at hk
  split at hk
  · rename_i hc
    cases hk
    have p1 : pl dx = true := (Bool.and_eq_true _ _ ▸ hc.1 : _ ∧ _).1
    have p2 : pl dy = true := (Bool.and_eq_true _ _ ▸ hc.2 : _ ∧ _).1
    refine op_eqD hu pins s σ H x y v u Q I rx ry ⟨py dx, py dy, dp_of (C := ct X) p1 (hx.rep lf), dp_of (C := ct X) p2 (hy.rep lf), shaped_of hc.1, shaped_of hc.2, ?_⟩
    rw [deq_eqv p1 p2]
    exact hq _ rfl
  · rename_i hno
    unfold eqE at hk
    split at hk
    · rename_i l
      cases hk
      obtain ⟨a, xs, e1, s1, r1, _⟩ := hx
      obtain ⟨b, ys, e2, s2, r2, _⟩ := hy
      subst e1
      subst e2
      have r2 : ys = [] := r2
      subst r2
      cases (show v = Value.ref a from rx)
      cases (show u = Value.ref b from ry)
      obtain ⟨us, v1, p1, _⟩ := I.list (.of s1)
      obtain ⟨ws, v2, p2, _⟩ := I.list (.of s2)
      have hw : ws = [] := by cases v2; rfl
      subst hw
      have hu2 : X.A.units < cLine := by omega
      cases l with
      | nil =>
        have r1 : xs = [] := r1
        subst r1
        have hw : us = [] := by cases v1; rfl
        subst hw
        exact SeqAt.RcAt.lists (e := fun _ => true) p1.isList p2.isList rfl hu2 (fun j h1 => absurd h1 (by simp)) X.prog X.w _ _ ⟨.bl true, H, I, rfl, hq _ rfl⟩
      | cons d l =>
        have hl := r1.length
        have hl2 := v1.length
        exact SeqAt.RcAt.lists_lengths p1.isList p2.isList (by
          have h0 : us.length ≠ 0 := by rw [List.length_cons] at hl; omega
          simp
          rintro rfl
          exact h0 rfl) hu2 X.prog X.w _ _ ⟨.bl false, H, I, rfl, hq _ rfl⟩
    · cases hk
theorem op_neS (hu : X.A.units + 64 < cLine) : OpR X (compareOp .NotEq) (rS (ct X) (bD neD)) := by
  intro pins s σ H x y v u Q I rx ry ⟨F, dx, dy, r, lf, hx, hy, hg, hq⟩
  obtain ⟨k, hk, rfl⟩ := map_bl hg
  unfold neD at hk
  split at hk
  · rename_i hc
    cases hk
    have p1 : pl dx = true := (Bool.and_eq_true _ _ ▸ hc.1 : _ ∧ _).1
    have p2 : pl dy = true := (Bool.and_eq_true _ _ ▸ hc.2 : _ ∧ _).1
    refine op_neD hu pins s σ H x y v u Q I rx ry ⟨py dx, py dy, dp_of (C := ct X) p1 (hx.rep lf), dp_of (C := ct X) p2 (hy.rep lf), shaped_of hc.1, shaped_of hc.2, ?_⟩
    rw [deq_eqv p1 p2]
    exact hq _ rfl
  · rename_i hno
    obtain ⟨k2, hk2, e0⟩ := map_b hk
    subst e0
    clear hk hg
    unfold eqE at hk2
    split at hk2
    · rename_i l
      cases hk2
      obtain ⟨a, xs, e1, s1, r1, _⟩ := hx
      obtain ⟨b, ys, e2, s2, r2, _⟩ := hy
      subst e1
      subst e2
      have r2 : ys = [] := r2
      subst r2
      cases (show v = Value.ref a from rx)
      cases (show u = Value.ref b from ry)
      obtain ⟨us, v1, p1, _⟩ := I.list (.of s1)
      obtain ⟨ws, v2, p2, _⟩ := I.list (.of s2)
      have hw : ws = [] := by cases v2; rfl
      subst hw
      have hu2 : X.A.units < cLine := by omega
      cases l with
      | nil =>
        have r1 : xs = [] := r1
        subst r1
        have hw : us = [] := by cases v1; rfl
        subst hw
        exact SeqAt.RcNeAt.lists (e := fun _ => true) p1.isList p2.isList rfl hu2 (fun j h1 => absurd h1 (by simp)) X.prog X.w _ _ ⟨.bl false, H, I, rfl, hq _ rfl⟩
      | cons d l =>
        have hl := r1.length
        have hl2 := v1.length
        exact SeqAt.RcNeAt.lists_lengths p1.isList p2.isList (by
          have h0 : us.length ≠ 0 := by rw [List.length_cons] at hl; omega
          simp
          rintro rfl
          exact h0 rfl) hu2 X.prog X.w _ _ ⟨.bl true, H, I, rfl, hq _ rfl⟩
    · cases hk2
theorem op_ltS : OpR X (compareOp .Lt) (rS (ct X) (bD ltD)) := by
  intro pins s σ H x y v u Q I rx ry ⟨F, dx, dy, r, lf, hx, hy, hg, hq⟩
  obtain ⟨k, hk, rfl⟩ := map_bl hg
  unfold ltD at hk
  split at hk
  · rename_i a b
    cases hk
    exact op_lt pins s σ H x y v u Q I rx ry ⟨a, b, hx, hy, hq _ rfl⟩
  · rename_i a b
    cases hk
    exact op_lt_str pins s σ H x y v u Q I rx ry ⟨a, b, hx, hy, hq _ rfl⟩
  · cases hk
theorem op_leS : OpR X (compareOp .LtE) (rS (ct X) (bD leD)) := by
  intro pins s σ H x y v u Q I rx ry ⟨F, dx, dy, r, lf, hx, hy, hg, hq⟩
  obtain ⟨k, hk, rfl⟩ := map_bl hg
  unfold leD at hk
  split at hk
  · rename_i a b
    cases hk
    exact op_le pins s σ H x y v u Q I rx ry ⟨a, b, hx, hy, hq _ rfl⟩
  · cases hk
theorem op_gtS : OpR X (compareOp .Gt) (rS (ct X) (bD gtD)) := by
  intro pins s σ H x y v u Q I rx ry ⟨F, dx, dy, r, lf, hx, hy, hg, hq⟩
  obtain ⟨k, hk, rfl⟩ := map_bl hg
  unfold gtD at hk
  split at hk
  · rename_i a b
    cases hk
    exact op_gt pins s σ H x y v u Q I rx ry ⟨a, b, hx, hy, hq _ rfl⟩
  · cases hk
theorem op_geS : OpR X (compareOp .GtE) (rS (ct X) (bD geD)) := by
  intro pins s σ H x y v u Q I rx ry ⟨F, dx, dy, r, lf, hx, hy, hg, hq⟩
  obtain ⟨k, hk, rfl⟩ := map_bl hg
  unfold geD at hk
  split at hk
  · rename_i a b
    cases hk
    exact op_ge pins s σ H x y v u Q I rx ry ⟨a, b, hx, hy, hq _ rfl⟩
  · cases hk
theorem nonV {C : Ct} {F H : Hp} {x : V} {d : D} (h : RdV C F H x d) : decide (x = V.non) = isNonD d := by
  cases d with
  | non =>
    have h : x = V.non := h
    rw [h]
    rfl
  | bl b =>
    have h : x = V.bl b := h
    rw [h]
    rfl
  | int b =>
    have h : x = V.int b := h
    rw [h]
    rfl
  | str b =>
    have h : x = V.str b := h
    rw [h]
    exact decide_eq_false (fun z => by cases z)
  | tup l => obtain ⟨a, xs, e, _⟩ := h; rw [e]; exact decide_eq_false (fun z => by cases z)
  | lst l => obtain ⟨a, xs, e, _⟩ := h; rw [e]; exact decide_eq_false (fun z => by cases z)
  | scr l => obtain ⟨a, xs, e, _⟩ := h; rw [e]; exact decide_eq_false (fun z => by cases z)
  | dct l => obtain ⟨a, xs, e, _⟩ := h; rw [e]; exact decide_eq_false (fun z => by cases z)
  | fn l => obtain ⟨a, e, _⟩ := h; rw [e]; exact decide_eq_false (fun z => by cases z)
  | ex l => obtain ⟨a, b, e, _⟩ := h; rw [e]; exact decide_eq_false (fun z => by cases z)
  | dtt l => obtain ⟨a, b, e, _⟩ := h; rw [e]; exact decide_eq_false (fun z => by cases z)
theorem op_isS : OpR X (compareOp .Is) (rS (ct X) (bD isD)) := by
  intro pins s σ H x y v u Q I rx ry ⟨F, dx, dy, r, lf, hx, hy, hg, hq⟩
  obtain ⟨k, hk, rfl⟩ := map_bl hg
  unfold isD at hk
  split at hk
  · rename_i a b
    cases hk
    refine op_isBl pins s σ H x y v u Q I rx ry ⟨a, b, hx, hy, ?_⟩
    have e : decide (a = b) = (a == b) := by cases a <;> cases b <;> rfl
    rw [e]
    exact hq _ rfl
  · cases hk
    refine op_isN pins s σ H x y v u Q I rx ry ⟨hy, ?_⟩
    rw [nonV hx]
    exact hq _ rfl
  · cases hk
end
@[simp] def ixD : D → D → Option Rs
  | .lst l, .int i => (atI l i).map Rs.d
  | .scr l, .int i => (atI l i).map Rs.d
  | .tup l, .int i => (atI l i).map Rs.d
  | .str z, .int i => if z.length ≤ sizeLine then (atI z.cps.toList i).map fun c => Rs.d (.str ⟨#[c]⟩) else none
  | _, _ => none
theorem Reps.atI {C : Ct} {F : Hp} {l : List D} {xs : List V} (r : Reps C F l xs) {i : Int} {d : D} (h : L2.atI l i = some d) : ∃ x, L2.atI xs i = some x ∧ Rep C F d x := by
  unfold L2.atI at h ⊢
  rw [r.length]
  cases e : ixN l.length i with
  | none => rw [e] at h; cases h
  | some j =>
    rw [e] at h
    exact r.get (show l[j]? = some d from h)
section
variable {X : Cx}
theorem map_d {α : Type} {o : Option α} {f : α → Rs} {r : Rs} (h : o.map f = some r) : ∃ k, o = some k ∧ r = f k := by
  cases o with
  | none => cases h
  | some k => cases h; exact ⟨k, rfl, rfl⟩
theorem ix_S : IxR X (rS (ct X) ixD) := by
  intro va sl pins s σ H x y v u Q I rx ry ⟨F, dx, dy, r, lf, hx, hy, hg, hq⟩ hs
  unfold ixD at hg
  split at hg
  · rename_i l i
    obtain ⟨d, hd, rfl⟩ := map_d hg
    obtain ⟨a, xs, e, s1, r1, _⟩ := hx
    obtain ⟨z, hz, rz⟩ := r1.atI hd
    exact ix_list va sl pins s σ H x y v u Q I rx ry ⟨a, xs, i, z, e, hy, .of s1, hz, hq _ rz⟩ hs
  · rename_i l i
    obtain ⟨d, hd, rfl⟩ := map_d hg
    obtain ⟨a, xs, e, s1, r1, _⟩ := hx
    obtain ⟨z, hz, rz⟩ := r1.atI hd
    exact ix_list va sl pins s σ H x y v u Q I rx ry ⟨a, xs, i, z, e, hy, s1, hz, hq _ rz⟩ hs
  · rename_i l i
    obtain ⟨d, hd, rfl⟩ := map_d hg
    obtain ⟨a, xs, e, s1, r1, _⟩ := hx
    obtain ⟨z, hz, rz⟩ := r1.atI hd
    exact ix_tup va sl pins s σ H x y v u Q I rx ry ⟨a, xs, i, z, e, hy, lf.sqT s1, hz, hq _ rz⟩ hs
  · rename_i z i
    split at hg
    · rename_i hl
      obtain ⟨c, hc, rfl⟩ := map_d hg
      exact ix_str va sl pins s σ H x y v u Q I rx ry ⟨z, i, c, hx, hy, hl, hc, hq _ rfl⟩ hs
    · cases hg
  · cases hg
def cutD {α : Type} (l : List α) (lo hi : Option Int) : List α := (l.drop (HT.sIx l.length 0 lo)).take (HT.sIx l.length l.length hi - HT.sIx l.length 0 lo)
theorem cutD_len {α : Type} (l : List α) (lo hi : Option Int) : (cutD l lo hi).length ≤ l.length := by
  unfold cutD
  rw [List.length_take, List.length_drop]
  omega
@[simp] def slD : D → Option Int → Option Int → Option Rs
  | .lst l, lo, hi => some (.n (cutD l lo hi))
  | .scr l, lo, hi => some (.n (cutD l lo hi))
  | .tup l, lo, hi => some (.t (cutD l lo hi))
  | .str z, lo, hi => if z.length ≤ sizeLine then some (.d (.str (cutS z lo hi))) else none
  | _, _, _ => none
theorem Reps.cut {C : Ct} {F : Hp} {l : List D} {xs : List V} (r : Reps C F l xs) (lo hi : Option Int) : Reps C F (cutD l lo hi) (cutV xs lo hi) := by
  unfold cutD cutV
  rw [r.length]
  exact (r.drop _).take _
def rSlS (C : Ct) : V → Option Int → Option Int → Hp → VK → Prop := fun x lo hi H Q => ∃ F dx r, le F H ∧ RdV C F H x dx ∧ slD dx lo hi = some r ∧ ResQ C F H r Q
theorem sl_S : SlR X (rSlS (ct X)) := by
  intro pins s σ H x v vl vu lo hi sl Q I rx hs pl pu ⟨F, dx, r, lf, hx, hg, hq⟩
  unfold slD at hg
  split at hg
  · cases hg
    obtain ⟨a, xs, e, s1, r1, z⟩ := hx
    exact sl_list pins s σ H x v vl vu lo hi sl Q I rx hs pl pu ⟨a, xs, e, .of s1, hq _ (r1.cut lo hi) (Nat.le_trans (cutD_len _ _ _) z)⟩
  · cases hg
    obtain ⟨a, xs, e, s1, r1, z⟩ := hx
    exact sl_list pins s σ H x v vl vu lo hi sl Q I rx hs pl pu ⟨a, xs, e, s1, hq _ (r1.cut lo hi) (Nat.le_trans (cutD_len _ _ _) z)⟩
  · cases hg
    obtain ⟨a, xs, e, s1, r1, z⟩ := hx
    refine sl_tupA pins s σ H x v vl vu lo hi sl Q I rx hs pl pu ⟨a, xs, e, lf.sqT s1, fun hw => ?_, fun _ => hq.2 _ (r1.cut lo hi) (Nat.le_trans (cutD_len _ _ _) z)⟩
    refine hq.1 _ ⟨a, xs, rfl, s1, ?_, Nat.le_trans (cutD_len _ _ _) z⟩
    have h2 := r1.cut lo hi
    have e2 : cutV xs lo hi = xs := by
      unfold cutV
      rw [hw.1, hw.2, List.drop_zero, Nat.sub_zero, List.take_length]
    rw [e2] at h2
    exact h2
  · rename_i z
    split at hg
    · rename_i hl
      cases hg
      exact sl_str pins s σ H x v vl vu lo hi sl Q I rx hs pl pu ⟨z, hx, hl, hq _ rfl⟩
    · cases hg
  · cases hg
end
end Bx
end
end

section
set_option Elab.async false
set_option linter.all false
set_option maxRecDepth 100000
set_option maxHeartbeats 4000000
set_option autoImplicit false
noncomputable section
namespace Bx
open PySem PySem.Spec PyProof.Rows L2
@[simp] def sVarS (i : Nat) (Γ : Ev) : Option SD → R AV
  | some (.fr d) => .ok (.d d) Γ
  | some (.fu d) => .ok (.d d) Γ
  | some (.fx (.k d)) => .ok (.d d) Γ
  | some (.fx (.w es)) => .ok (.d (.lst es)) Γ
  | some (.fx (.z _ _)) => .bad
  | some (.fx (.o _ _)) => .ok (.s i) Γ
  | some .no => .bad
  | some _ => .ok (.s i) Γ
  | none => .bad
@[simp] def sVar (i : Nat) (Γ : Ev) : R AV := sVarS i Γ Γ[i]?
@[simp] def sC (d : D) (Γ : Ev) : R AV := .ok (.d d) Γ
@[simp] def escS (i : Nat) (Γ : Ev) : Option SD → R AV
  | some (.ow none l) => .ok (.d (.lst l)) (Γ.set i (.fr (.lst l)))
  | some (.od none l) => .ok (.d (.dct l)) (Γ.set i (.fr (.dct l)))
  | some (.ot none l) => .ok (.d (.dtt l)) (Γ.set i (.fr (.dtt l)))
  | some (.fr d) => .ok (.d d) Γ
  | some (.fu d) => .ok (.d d) Γ
  | _ => .bad
@[simp] def esc (av : AV) (Γ : Ev) : R AV := match av with
  | .d x => .ok (.d x) Γ
  | .u x => .ok (.d x) Γ
  | .n l => .ok (.d (.lst l)) Γ
  | .s i => escS i Γ Γ[i]?
@[simp] def sEsc (f : SE) (Γ : Ev) : R AV := (f Γ).bind esc
@[simp] def escUS (i : Nat) (Γ : Ev) : Option SD → R AV
  | some (.ow none l) => if noLs l = true then .ok (.u (.lst l)) (Γ.set i (.fu (.lst l))) else .bad
  | _ => .bad
@[simp] def escU (av : AV) (Γ : Ev) : R AV := match av with
  | .d x => if noL x = true then .ok (.u x) Γ else .bad
  | .u x => .ok (.u x) Γ
  | .n l => if noLs l = true then .ok (.u (.lst l)) Γ else .bad
  | .s i => escUS i Γ Γ[i]?
@[simp] def sEscU (f : SE) (Γ : Ev) : R AV := (f Γ).bind escU
@[simp] def opt (o : Option Rs) (Γ : Ev) : R AV := match o with
  | some r => .ok r.av Γ
  | none => .bad
@[simp] def rd1 (g : D → Option Rs) (a : AV) (Γ : Ev) : R AV := opt ((rd Γ a).bind g) Γ
@[simp] def rd2 (g : D → D → Option Rs) (a b : AV) (Γ : Ev) : R AV := opt ((rd Γ a).bind fun x => (rd Γ b).bind fun y => g x y) Γ
@[simp] def sUn (g : D → Option Rs) (f : SE) (Γ : Ev) : R AV := (f Γ).bind (rd1 g)
@[simp] def sBin (g : D → D → Option Rs) (f1 f2 : SE) (Γ : Ev) : R AV := (f1 Γ).bind fun a Γ1 => (f2 Γ1).bind fun b Γ2 => rd2 g a b Γ2
@[simp] def optB (o : Option Bool) (Γ : Ev) : R Bool := match o with
  | some r => .ok r Γ
  | none => .bad
@[simp] def rdB (g : D → D → Option Bool) (a b : AV) (Γ : Ev) : R Bool := optB ((rd Γ a).bind fun x => (rd Γ b).bind fun y => g x y) Γ
@[simp] def sCmp (g : D → D → Option Bool) (f1 f2 : SE) (Γ : Ev) : R Bool := (f1 Γ).bind fun a Γ1 => (f2 Γ1).bind fun b Γ2 => rdB g a b Γ2
@[simp] def sChain (g g' : D → D → Option Bool) (f1 f2 f3 : SE) (Γ : Ev) : R Bool := (f1 Γ).bind fun a Γ1 => (f2 Γ1).bind fun b Γ2 => (rdB g a b Γ2).bind fun k Γ3 => if k = true then (f3 Γ3).bind fun c Γ4 => rdB g' b c Γ4 else .ok false Γ3
@[simp] def sVal (f : SB) (Γ : Ev) : R AV := (f Γ).bind fun b Γ' => .ok (.d (.bl b)) Γ'
@[simp] def truB : D → Option Bool
  | .bl b => some b
  | _ => none
@[simp] def sTru (f : SE) (Γ : Ev) : R Bool := (f Γ).bind fun a Γ' => optB ((rd Γ' a).bind truB) Γ'
@[simp] def sAnd (f g : SB) (Γ : Ev) : R Bool := (f Γ).bind fun b Γ' => if b = true then g Γ' else .ok false Γ'
@[simp] def sOr (f g : SB) (Γ : Ev) : R Bool := (f Γ).bind fun b Γ' => if b = true then .ok true Γ' else g Γ'
@[simp] def sNot (f : SB) (Γ : Ev) : R Bool := (f Γ).bind fun b Γ' => .ok (!b) Γ'
@[simp] def sAndV (f g : SE) (Γ : Ev) : R AV := (f Γ).bind fun a Γ' => (optB ((rd Γ' a).bind truB) Γ').bind fun b Γ2 => if b = true then g Γ2 else .ok (.d (.bl false)) Γ2
@[simp] def sOrV (f g : SE) (Γ : Ev) : R AV := (f Γ).bind fun a Γ' => (optB ((rd Γ' a).bind truB) Γ').bind fun b Γ2 => if b = true then .ok (.d (.bl true)) Γ2 else g Γ2
@[simp] def sNotV (f : SE) (Γ : Ev) : R AV := (f Γ).bind fun a Γ' => (optB ((rd Γ' a).bind truB) Γ').bind fun b Γ2 => .ok (.d (.bl (!b))) Γ2
@[simp] def sIfX (c : SB) (f g : SE) (Γ : Ev) : R AV := (c Γ).bind fun b Γ' => if b = true then f Γ' else g Γ'
@[simp] def sNil (Γ : Ev) : R (List AV) := .ok [] Γ
@[simp] def sCons (f : SE) (fs : SA) (Γ : Ev) : R (List AV) := (f Γ).bind fun a Γ1 => (fs Γ1).bind fun r Γ2 => .ok (a :: r) Γ2
@[simp] def ds : List AV → Option (List D)
  | [] => some []
  | .d x :: r => (ds r).map fun l => x :: l
  | .u x :: r => (ds r).map fun l => x :: l
  | _ => none
@[simp] def us : List AV → Option (List D)
  | [] => some []
  | .u x :: r => (us r).map fun l => x :: l
  | _ => none
@[simp] def rds (Γ : Ev) : List AV → Option (List D)
  | [] => some []
  | a :: r => (rd Γ a).bind fun x => (rds Γ r).map fun l => x :: l
@[simp] def sTup (fs : SA) (Γ : Ev) : R AV := (fs Γ).bind fun avs Γ' => opt ((ds avs).bind fun l => if l.length ≤ 1000 then some (.t l) else none) Γ'
@[simp] def optU_ (o : Option (List D)) (Γ : Ev) : R AV := match o with
  | some l => if l.length ≤ 1000 then .ok (.u (.tup l)) Γ else .bad
  | none => .bad
@[simp] def sTupU (fs : SA) (Γ : Ev) : R AV := (fs Γ).bind fun avs Γ' => optU_ (us avs) Γ'
@[simp] def sLst (fs : SA) (Γ : Ev) : R AV := (fs Γ).bind fun avs Γ' => opt ((ds avs).bind fun l => if l.length ≤ 1000 then some (.n l) else none) Γ'
@[simp] def sCB (g : List D → Option Rs) (fs : SA) (Γ : Ev) : R AV := (fs Γ).bind fun avs Γ' => opt ((rds Γ' avs).bind g) Γ'
@[simp] def intD : D → Option Int
  | .int i => some i
  | _ => none
abbrev SO := Ev → R (Option Int)
@[simp] def oNone (Γ : Ev) : R (Option Int) := .ok none Γ
@[simp] def optI (o : Option Int) (Γ : Ev) : R (Option Int) := match o with
  | some i => .ok (some i) Γ
  | none => .bad
@[simp] def oSome (f : SE) (Γ : Ev) : R (Option Int) := (f Γ).bind fun a Γ' => optI ((rd Γ' a).bind intD) Γ'
@[simp] def sSl (f : SE) (lo hi : SO) (Γ : Ev) : R AV := (f Γ).bind fun a Γ1 => (lo Γ1).bind fun l Γ2 => (hi Γ2).bind fun h Γ3 => rd1 (fun x => slD x l h) a Γ3

section
variable {C : Ct} {io : IO} {W : XW} {σ σ' : St} {F F' F2 H H' H2 : Hp} {Γ Γ' Γ2 : Ev} {i : Nat} {d : D} {v : V} {t : Option Nat} {l : List D} {N0 : Addr → Prop}
theorem set_get {α : Type} {l : List α} {i j : Nat} {x y : α} (h : (l.set i x)[j]? = some y) : (j = i ∧ y = x ∧ i < l.length) ∨ (j ≠ i ∧ l[j]? = some y) := by
  by_cases e : i = j
  · subst e
    rw [List.getElem?_set_self'] at h
    cases w : l[i]? with
    | none => rw [w] at h; cases h
    | some z =>
      rw [w] at h
      cases h
      exact .inl ⟨rfl, rfl, (List.getElem?_eq_some_iff.mp w).1⟩
  · rw [List.getElem?_set_ne e] at h
    exact .inr ⟨fun q => e q.symm, h⟩
theorem OwnAt.put {sd : SD} (hs : sd.own = false) {o : Option V} {j : Nat} {a : Addr} (h : OwnAt H (Γ.set i sd) (σ.set i o) j a) : OwnAt H Γ σ j a := by
  obtain ⟨sd', e, ow, v, s, hh⟩ := h
  rcases set_get e with ⟨e1, e2, _⟩ | ⟨e1, e2⟩
  · rw [e2, hs] at ow; cases ow
  · rcases set_get s with ⟨q, _⟩ | ⟨_, q⟩
    · exact absurd q e1
    · exact ⟨sd', e2, ow, v, q, hh⟩
theorem SlotOk.ne_slot {sd : SD} {o : Option V} {j : Nat} (hj : j ≠ i) (h : SlotOk C io F H sd σ[j]?) : SlotOk C io F H sd (σ.set i o)[j]? := by
  rw [List.getElem?_set_ne (Ne.symm hj)]
  exact h
theorem At.put (A : At C io σ F H Γ) {sd : SD} {o : Option V} (hs : sd.own = false) (h : i < Γ.length → SlotOk C io F H sd (some o)) : At C io (σ.set i o) F H (Γ.set i sd) where
  le := A.le
  pin := A.pin
  len := by rw [List.length_set, List.length_set]; exact A.len
  slot := fun j sd' e => by
    rcases set_get e with ⟨e1, e2, e3⟩ | ⟨e1, e2⟩
    · subst e1
      rw [e2, List.getElem?_set_self (by rw [← A.len]; exact e3)]
      exact h e3
    · exact SlotOk.ne_slot e1 (A.slot j sd' e2)
  ne := fun j k a h1 h2 => A.ne j k a (OwnAt.put hs h1) (OwnAt.put hs h2)
theorem Go.put (A : At C io σ F H Γ) {sd : SD} {o : Option V} (hs : sd.own = false) (h : i < Γ.length → SlotOk C io F H sd (some o)) : Go C io σ F H Γ (σ.set i o) F H (Γ.set i sd) where
  ff := le.refl _
  keep := fun _ _ h _ => h
  live := fun _ h => h
  new := fun _ h q => absurd h q
  own := fun b ⟨j, h⟩ => .inl ⟨j, OwnAt.put hs h⟩
  ln := List.length_set
  at_ := A.put hs h
theorem Go.frzSlot_ (A : At C io σ F H Γ) (e : Γ[i]? = some (.ow none l)) (sd : SD) (hsd : sd.own = false) (hso : ∀ (F' : Hp) (a : Addr) (xs : List V), OwnA H Γ σ a → io.pin a = none → F' a = some (.lst xs) → Reps C F' l xs → l.length ≤ sizeLine → SlotOk C io F' H sd (some (some (.ref a)))) : ∃ F' a xs, Go C io σ F H Γ σ F' H (Γ.set i sd) ∧ σ[i]? = some (some (.ref a)) ∧ OwnA H Γ σ a ∧ F' a = some (.lst xs) ∧ Reps C F' l xs ∧ l.length ≤ sizeLine := by
  obtain ⟨a, xs, e1, e2, e3, ⟨e4, ez⟩, e5, _⟩ := A.ow e
  have hi := (List.getElem?_eq_some_iff.mp e).1
  have fl : le F (L2.upd F a (.lst xs)) := le.updF e2
  have hr : Rep C (L2.upd F a (.lst xs)) (.lst l) (.ref a) := ⟨a, xs, rfl, upd_same, e4.mono fl, ez⟩
  have ss : σ.set i (some (.ref a)) = σ := by
    apply List.ext_getElem?
    intro j
    by_cases q : i = j
    · subst q
      rw [List.getElem?_set_self (by rw [← A.len]; exact hi), e1]
    · rw [List.getElem?_set_ne q]
  have A1 := A.put (i := i) (sd := .no) (o := some (.ref a)) rfl (fun _ => trivial)
  rw [ss] at A1
  have no1 : ¬ OwnA H (Γ.set i .no) σ a := by
    rintro ⟨j, hj⟩
    obtain ⟨sd, q1, q2, _, q3, q9⟩ := id hj
    have q4 : OwnAt H Γ σ j a := by
      have := OwnAt.put (Γ := Γ) (σ := σ) (i := i) (sd := .no) (o := some (.ref a)) rfl (j := j) (a := a) (by rw [ss]; exact hj)
      exact this
    have q5 := A.ne j i a q4 e5
    subst q5
    rcases set_get q1 with ⟨_, q6, _⟩ | ⟨q6, _⟩
    · rw [q6] at q2; cases q2
    · exact q6 rfl
  have pn : io.pin a = none := by
    cases w : io.pin a with
    | none => rfl
    | some o => have := A.pin _ _ w; rw [e2] at this; cases this
  have A2 := (A1.frz e3 e2 no1).put (i := i) (sd := sd) (o := some (.ref a)) hsd (fun _ => hso _ a xs ⟨i, e5⟩ pn upd_same (e4.mono fl) ez)
  rw [ss, List.set_set] at A2
  refine ⟨L2.upd F a (.lst xs), a, xs, ⟨fl, fun _ _ h _ => h, fun _ h => h, fun b h1 h2 => ?_, fun b ⟨j, h⟩ => .inl ⟨j, ?_⟩, rfl, A2⟩, e1, ⟨i, e5⟩, upd_same, e4.mono fl, ez⟩
  · by_cases q : b = a
    · exact .inr ⟨i, by rw [q]; exact e5⟩
    · rw [upd_ne q] at h2; exact absurd h1 h2
  · exact OwnAt.put (i := i) (sd := sd) (o := some (.ref a)) hsd (by rw [ss]; exact h)
theorem Go.frzSlot (A : At C io σ F H Γ) (e : Γ[i]? = some (.ow none l)) : ∃ F' v, Go C io σ F H Γ σ F' H (Γ.set i (.fr (.lst l))) ∧ σ[i]? = some (some v) ∧ Rep C F' (.lst l) v := by
  obtain ⟨F', a, xs, g, e1, _, q, r, z⟩ := Go.frzSlot_ A e (.fr (.lst l)) rfl fun F' a xs _ _ q r z => ⟨.ref a, rfl, a, xs, rfl, q, r, z⟩
  exact ⟨F', .ref a, g, e1, a, xs, rfl, q, r, z⟩
theorem Go.frzSlotU (A : At C io σ F H Γ) (hl : noLs l = true) (e : Γ[i]? = some (.ow none l)) : ∃ F' v, Go C io σ F H Γ σ F' H (Γ.set i (.fu (.lst l))) ∧ σ[i]? = some (some v) ∧ RepN C (fun b => OwnA H Γ σ b) F' (.lst l) v := by
  obtain ⟨F', a, xs, g, e1, o, q, r, z⟩ := Go.frzSlot_ A e (.fu (.lst l)) rfl fun F' a xs _ pn q r z => ⟨.ref a, rfl, a, xs, rfl, q, pn, Reps.noN hl r, z⟩
  exact ⟨F', .ref a, g, e1, a, xs, rfl, q, o, Reps.noN hl r, z⟩
theorem Go.frzSlotD (A : At C io σ F H Γ) {l : List (Key × D)} (e : Γ[i]? = some (.od none l)) : ∃ F' v, Go C io σ F H Γ σ F' H (Γ.set i (.fr (.dct l))) ∧ σ[i]? = some (some v) ∧ Rep C F' (.dct l) v := by
  obtain ⟨a, e1, e2, ⟨xs, e3, e4⟩, _⟩ := A.slot i _ e
  have e5 : OwnAt H Γ σ i a := OwnAt.of e rfl e1
  have hi := (List.getElem?_eq_some_iff.mp e).1
  have fl : le F (L2.upd F a (.dK xs)) := le.updF e2
  have hr : Rep C (L2.upd F a (.dK xs)) (.dct l) (.ref a) := ⟨a, xs, rfl, .inl upd_same, e4.mono fl⟩
  have ss : σ.set i (some (.ref a)) = σ := by
    apply List.ext_getElem?
    intro j
    by_cases q : i = j
    · subst q
      rw [List.getElem?_set_self (by rw [← A.len]; exact hi), e1]
    · rw [List.getElem?_set_ne q]
  have A1 := A.put (i := i) (sd := .no) (o := some (.ref a)) rfl (fun _ => trivial)
  rw [ss] at A1
  have no1 : ¬ OwnA H (Γ.set i .no) σ a := by
    rintro ⟨j, hj⟩
    obtain ⟨sd, q1, q2, _, q3, q9⟩ := id hj
    have q4 : OwnAt H Γ σ j a := by
      have := OwnAt.put (Γ := Γ) (σ := σ) (i := i) (sd := .no) (o := some (.ref a)) rfl (j := j) (a := a) (by rw [ss]; exact hj)
      exact this
    have q5 := A.ne j i a q4 e5
    subst q5
    rcases set_get q1 with ⟨_, q6, _⟩ | ⟨q6, _⟩
    · rw [q6] at q2; cases q2
    · exact q6 rfl
  have A2 := (A1.frz e3 e2 no1).put (i := i) (sd := .fr (.dct l)) (o := some (.ref a)) rfl (fun _ => ⟨.ref a, rfl, hr⟩)
  rw [ss, List.set_set] at A2
  refine ⟨L2.upd F a (.dK xs), .ref a, ⟨fl, fun _ _ h _ => h, fun _ h => h, fun b h1 h2 => ?_, fun b ⟨j, h⟩ => .inl ⟨j, ?_⟩, rfl, A2⟩, e1, hr⟩
  · by_cases q : b = a
    · exact .inr ⟨i, by rw [q]; exact e5⟩
    · rw [upd_ne q] at h2; exact absurd h1 h2
  · exact OwnAt.put (i := i) (sd := .fr (.dct l)) (o := some (.ref a)) rfl (by rw [ss]; exact h)
theorem Go.frzSlotT (A : At C io σ F H Γ) {l : List (NK × D)} (e : Γ[i]? = some (.ot none l)) : ∃ F' v, Go C io σ F H Γ σ F' H (Γ.set i (.fr (.dtt l))) ∧ σ[i]? = some (some v) ∧ Rep C F' (.dtt l) v := by
  obtain ⟨a, e1, e2, ⟨xs, e3, e4⟩, _⟩ := A.slot i _ e
  have e5 : OwnAt H Γ σ i a := OwnAt.of e rfl e1
  have hi := (List.getElem?_eq_some_iff.mp e).1
  have fl : le F (L2.upd F a (rawT C a xs)) := le.updF e2
  have hr : Rep C (L2.upd F a (rawT C a xs)) (.dtt l) (.ref a) := ⟨a, xs, rfl, .inl upd_same, e4.mono fl⟩
  have ss : σ.set i (some (.ref a)) = σ := by
    apply List.ext_getElem?
    intro j
    by_cases q : i = j
    · subst q
      rw [List.getElem?_set_self (by rw [← A.len]; exact hi), e1]
    · rw [List.getElem?_set_ne q]
  have A1 := A.put (i := i) (sd := .no) (o := some (.ref a)) rfl (fun _ => trivial)
  rw [ss] at A1
  have no1 : ¬ OwnA H (Γ.set i .no) σ a := by
    rintro ⟨j, hj⟩
    obtain ⟨sd, q1, q2, _, q3, q9⟩ := id hj
    have q4 : OwnAt H Γ σ j a := by
      have := OwnAt.put (Γ := Γ) (σ := σ) (i := i) (sd := .no) (o := some (.ref a)) rfl (j := j) (a := a) (by rw [ss]; exact hj)
      exact this
    have q5 := A.ne j i a q4 e5
    subst q5
    rcases set_get q1 with ⟨_, q6, _⟩ | ⟨q6, _⟩
    · rw [q6] at q2; cases q2
    · exact q6 rfl
  have A2 := (A1.frz e3 e2 no1).put (i := i) (sd := .fr (.dtt l)) (o := some (.ref a)) rfl (fun _ => ⟨.ref a, rfl, hr⟩)
  rw [ss, List.set_set] at A2
  refine ⟨L2.upd F a (rawT C a xs), .ref a, ⟨fl, fun _ _ h _ => h, fun _ h => h, fun b h1 h2 => ?_, fun b ⟨j, h⟩ => .inl ⟨j, ?_⟩, rfl, A2⟩, e1, hr⟩
  · by_cases q : b = a
    · exact .inr ⟨i, by rw [q]; exact e5⟩
    · rw [upd_ne q] at h2; exact absurd h1 h2
  · exact OwnAt.put (i := i) (sd := .fr (.dtt l)) (o := some (.ref a)) rfl (by rw [ss]; exact h)
theorem Go.frzNew (A : At C io σ F H Γ) {N : Addr → Prop} (h : AVOk C N F H Γ σ (.n l) v) : ∃ F' a, v = .ref a ∧ N a ∧ F' = L2.upd F a ((H a).getD (.lst [])) ∧ F a = none ∧ At C io σ F' H Γ ∧ Rep C F' (.lst l) v := by
  obtain ⟨a, xs, e, h0, f0, no, ha, r, z⟩ := h
  refine ⟨_, a, e, h0, rfl, f0, ?_, ?_⟩
  · rw [ha]; exact A.frz ha f0 no
  · rw [ha, e]; exact ⟨a, xs, rfl, upd_same, r.mono (le.updF f0), z⟩
theorem esc_ok {Q : VK} {av : AV} (A : At C io σ F H Γ) (g : Go C io σ F H Γ σ F' H' Γ') (hv : AVOk C (NewA Γ σ H) F' H' Γ' σ av v) (p : PX C io W σ F H Γ (esc av Γ') Q) : Q v H' := by
  cases av with
  | d x => exact p v F' H' g hv
  | u x => exact p v F' H' g (RepN.rep hv)
  | n l =>
    obtain ⟨F2, a, e, h0, e2, f0, A2, r⟩ := Go.frzNew g.at_ hv
    refine p v F2 H' ⟨g.ff.trans (by rw [e2]; exact le.updF f0), g.keep, g.live, fun b h1 h2 => ?_, g.own, g.ln, A2⟩ r
    by_cases q : b = a
    · rw [q]; exact h0
    · rw [e2, upd_ne q] at h2; exact g.new b h1 h2
  | s i =>
    have hv : σ[i]? = some (some v) := hv
    have p : PX C io W σ F H Γ (escS i Γ' Γ'[i]?) Q := p
    cases w : Γ'[i]? with
    | none => rw [w] at p; exact p.elim
    | some sd =>
      rw [w] at p
      cases sd with
      | ob t x => exact p.elim
      | no => exact p.elim
      | fr d =>
        obtain ⟨u, e1, r⟩ := g.at_.fr w
        rw [hv] at e1; cases e1
        exact p v F' H' g r
      | fu d =>
        obtain ⟨u, e1, r⟩ := g.at_.fu w
        rw [hv] at e1; cases e1
        exact p v F' H' g (RepN.rep r)
      | fx x => exact p.elim
      | ow t l =>
        cases t with
        | some k => exact p.elim
        | none =>
          obtain ⟨F2, u, g2, e1, r⟩ := Go.frzSlot g.at_ w
          rw [hv] at e1; cases e1
          exact p v F2 H' (g.trans g2) r
      | od t l =>
        cases t with
        | some k => exact p.elim
        | none =>
          obtain ⟨F2, u, g2, e1, r⟩ := Go.frzSlotD g.at_ w
          rw [hv] at e1; cases e1
          exact p v F2 H' (g.trans g2) r
      | ot t l =>
        cases t with
        | some k => exact p.elim
        | none =>
          obtain ⟨F2, u, g2, e1, r⟩ := Go.frzSlotT g.at_ w
          rw [hv] at e1; cases e1
          exact p v F2 H' (g.trans g2) r
theorem escU_ok {Q : VK} {av : AV} (A : At C io σ F H Γ) (g : Go C io σ F H Γ σ F' H' Γ') (hv : AVOk C (NewA Γ σ H) F' H' Γ' σ av v) (p : PX C io W σ F H Γ (escU av Γ') Q) : Q v H' := by
  cases av with
  | d x =>
    have p : PX C io W σ F H Γ (if noL x = true then .ok (.u x) Γ' else .bad) Q := p
    split at p
    · rename_i hn
      exact p v F' H' g (Rep.noN hn hv)
    · exact p.elim
  | u x => exact p v F' H' g hv
  | n l =>
    have p : PX C io W σ F H Γ (if noLs l = true then .ok (.u (.lst l)) Γ' else .bad) Q := p
    split at p
    · rename_i hn
      obtain ⟨F2, a, e, h0, e2, f0, A2, r⟩ := Go.frzNew g.at_ hv
      obtain ⟨b, xs, e3, s3, r3, z3⟩ := r
      rw [e] at e3
      cases e3
      refine p v F2 H' ⟨g.ff.trans (by rw [e2]; exact le.updF f0), g.keep, g.live, fun b h1 h2 => ?_, g.own, g.ln, A2⟩ ⟨a, xs, e, s3, h0, Reps.noN hn r3, z3⟩
      by_cases q : b = a
      · rw [q]; exact h0
      · rw [e2, upd_ne q] at h2; exact g.new b h1 h2
    · exact p.elim
  | s i =>
    have hv : σ[i]? = some (some v) := hv
    have p : PX C io W σ F H Γ (escUS i Γ' Γ'[i]?) Q := p
    cases w : Γ'[i]? with
    | none => rw [w] at p; exact p.elim
    | some sd =>
      rw [w] at p
      cases sd with
      | ow t l =>
        cases t with
        | some k => exact p.elim
        | none =>
          have p : PX C io W σ F H Γ (if noLs l = true then .ok (.u (.lst l)) (Γ'.set i (.fu (.lst l))) else .bad) Q := p
          split at p
          · rename_i hn
            obtain ⟨F2, u, g2, e1, r⟩ := Go.frzSlotU g.at_ hn w
            rw [hv] at e1; cases e1
            exact p v F2 H' (g.trans g2) (RepN.weak (fun b q => g.newA (.inr q)) r)
          · exact p.elim
      | _ => exact p.elim
theorem opt_ok {Q : VK} {o : Option Rs} {Γ0 : Ev} (p : PX C io W σ F H Γ (opt o Γ0) Q) : ∃ r, o = some r ∧ PX C io W σ F H Γ (.ok r.av Γ0) Q := by
  cases o with
  | none => exact p.elim
  | some r => exact ⟨r, rfl, p⟩
theorem bind_some {α β : Type} {o : Option α} {f : α → Option β} {r : β} (h : o.bind f = some r) : ∃ x, o = some x ∧ f x = some r := by
  cases o with
  | none => cases h
  | some x => exact ⟨x, rfl, h⟩
theorem optB_ok {Q : Bool → Hp → Prop} {o : Option Bool} {Γ0 : Ev} (p : PB C io W σ F H Γ (optB o Γ0) Q) : ∃ r, o = some r ∧ PB C io W σ F H Γ (.ok r Γ0) Q := by
  cases o with
  | none => exact p.elim
  | some r => exact ⟨r, rfl, p⟩
end
section
variable {X : Cx} {W : XW} {a b c e : Expr} {es : List Expr} {pos : Pos} {f fa fb fc : SE} {fs : SA}
theorem q_var (i : Nat) {x : Str} (hN : X.N[i]? = some x := by rfl) (hv : Vis X.env.scope x := by first | exact Or.inl rfl | exact Or.inr (Or.inl rfl) | exact Or.inr (Or.inr rfl)) (hd : (x == ("__debug__" : Str)) = false := by decide)
    (hcd : (x == ("__classdict__" : Str)) = false := by decide) : PE X (.Name x pos) (tX (ct X) W (sVar i)) :=
  PE.imp (pe_var hN hv hd hcd) fun σ H Q ⟨io, F, Γ, A, p⟩ => by
    have p : PX (ct X) io W σ F H Γ (sVarS i Γ Γ[i]?) Q := p
    cases w : Γ[i]? with
    | none => rw [w] at p; exact p.elim
    | some sd =>
      rw [w] at p
      cases sd with
      | ob t x =>
        obtain ⟨v, fp, e1, _⟩ := A.ob w
        exact ⟨v, e1, p v F H (.refl A) e1⟩
      | no => exact p.elim
      | fr d =>
        obtain ⟨v, e1, r⟩ := A.fr w
        exact ⟨v, e1, PX.val A p r⟩
      | fu d =>
        obtain ⟨v, e1, r⟩ := A.fu w
        exact ⟨v, e1, PX.val A p (RepN.rep r)⟩
      | fx x =>
        obtain ⟨v, e1, r⟩ := A.slot i _ w
        cases x with
        | k d =>
          obtain ⟨P, _, r⟩ := r
          exact ⟨v, e1, PX.val A p (RepN.rep r)⟩
        | w es => exact ⟨v, e1, PX.val A p (FXOk.rep r)⟩
        | z k n => exact p.elim
        | o c fs => exact ⟨v, e1, p v F H (.refl A) e1⟩
      | ow t l =>
        obtain ⟨a, e1, _⟩ := A.slot i _ w
        exact ⟨.ref a, e1, p (.ref a) F H (.refl A) e1⟩
      | od t l =>
        obtain ⟨a, e1, _⟩ := A.slot i _ w
        exact ⟨.ref a, e1, p (.ref a) F H (.refl A) e1⟩
      | ot t l =>
        obtain ⟨a, e1, _⟩ := A.slot i _ w
        exact ⟨.ref a, e1, p (.ref a) F H (.refl A) e1⟩
theorem q_int {i : Int} {j : Nat} : PE X (.Constant (.int i) j pos) (tX (ct X) W (sC (.int i))) := PE.imp pe_int fun σ H Q ⟨io, F, Γ, A, p⟩ => PX.val A p rfl
theorem q_bl {i : Bool} {j : Nat} : PE X (.Constant (.bool i) j pos) (tX (ct X) W (sC (.bl i))) := PE.imp pe_bl fun σ H Q ⟨io, F, Γ, A, p⟩ => PX.val A p rfl
theorem q_non {j : Nat} : PE X (.Constant .none j pos) (tX (ct X) W (sC .non)) := PE.imp pe_non fun σ H Q ⟨io, F, Γ, A, p⟩ => PX.val A p rfl
def Kon (C : Ct) (x : Str) (d : D) : Prop := ∃ u v, C.mg x = some u ∧ RelV v u ∧ ∀ F, Rep C F d v
theorem q_kon {x : Str} {d : D} (k : Kon (ct X) x d) (hg : Gl X x := by rfl) (hd : (x == ("__debug__" : Str)) = false := by decide) : PE X (.Name x pos) (tX (ct X) W (sC d)) := by
  obtain ⟨u, v, h1, h2, h3⟩ := k
  exact PE.imp (pe_glob hg h1 h2 hd) fun σ H Q ⟨io, F, Γ, A, p⟩ => PX.val A p (h3 F)
theorem q_esc (ha : PE X a (tX (ct X) W fa)) : PE X a (tX (ct X) W (sEsc fa)) :=
  PE.imp ha fun σ H Q ⟨io, F, Γ, A, p⟩ => by
    refine ⟨io, F, Γ, A, ?_⟩
    unfold sEsc at p
    cases w : fa Γ with
    | ok av Γ' =>
      rw [w] at p
      exact fun v F' H' g hv => esc_ok A g hv p
    | exc c Γ' => rw [w] at p; exact p
    | bad => rw [w] at p; exact p
theorem q_bin {op : Operator} {g : D → D → Option Rs} (ho : OpR X (binaryOp op) (rS (ct X) g)) (ha : PE X a (tX (ct X) W fa)) (hb : PE X b (tX (ct X) W fb)) : PE X (.BinOp a op b pos) (tX (ct X) W (sBin g fa fb)) :=
  PE.imp (pe_op ho ha hb) fun σ H Q ⟨io, F, Γ, A, p⟩ => tX.then A p fun av v F1 H1 Γ1 g1 hv p1 => tX.then g1.at_ p1 fun bv u F2 H2 Γ2 g2 hu p2 => by
    obtain ⟨r, hr, p3⟩ := opt_ok p2
    obtain ⟨x, hx, hr⟩ := bind_some hr
    obtain ⟨y, hy, hr⟩ := bind_some hr
    exact ⟨F2, x, y, r, g2.at_.le, (hv.go g2).rdv g2.at_ hx, hu.rdv g2.at_ hy, hr, ResQ.of g2.at_ p3⟩
theorem q_un {op : UnaryOp} {g : D → Option Rs} (ho : UnR X (unaryOp op) (rU1 (ct X) g)) (ha : PE X a (tX (ct X) W fa)) : PE X (.UnaryOp op a pos) (tX (ct X) W (sUn g fa)) :=
  PE.imp (pe_un ho ha) fun σ H Q ⟨io, F, Γ, A, p⟩ => tX.then A p fun av v F1 H1 Γ1 g1 hv p1 => by
    obtain ⟨r, hr, p3⟩ := opt_ok p1
    obtain ⟨x, hx, hr⟩ := bind_some hr
    exact ⟨F1, x, r, g1.at_.le, hv.rdv g1.at_ hx, hr, ResQ.of g1.at_ p3⟩
theorem q_ix (ha : PE X a (tX (ct X) W fa)) (hb : PE X b (tX (ct X) W fb)) (hs : PlainIx b := by exact fun _ _ => rfl) : PE X (.Subscript a b pos) (tX (ct X) W (sBin ixD fa fb)) :=
  PE.imp (pe_ix ix_S ha hb hs) fun σ H Q ⟨io, F, Γ, A, p⟩ => tX.then A p fun av v F1 H1 Γ1 g1 hv p1 => tX.then g1.at_ p1 fun bv u F2 H2 Γ2 g2 hu p2 => by
    obtain ⟨r, hr, p3⟩ := opt_ok p2
    obtain ⟨x, hx, hr⟩ := bind_some hr
    obtain ⟨y, hy, hr⟩ := bind_some hr
    exact ⟨F2, x, y, r, g2.at_.le, (hv.go g2).rdv g2.at_ hx, hu.rdv g2.at_ hy, hr, ResQ.of g2.at_ p3⟩
theorem q_escU (ha : PE X a (tX (ct X) W fa)) : PE X a (tX (ct X) W (sEscU fa)) :=
  PE.imp ha fun σ H Q ⟨io, F, Γ, A, p⟩ => by
    refine ⟨io, F, Γ, A, ?_⟩
    unfold sEscU at p
    cases w : fa Γ with
    | ok av Γ' =>
      rw [w] at p
      exact fun v F' H' g hv => escU_ok A g hv p
    | exc c Γ' => rw [w] at p; exact p
    | bad => rw [w] at p; exact p
def PI_ (C : Ct) (io : IO) (W : XW) (σ : St) (F H : Hp) (Γ : Ev) (r : R (Option Int)) (Q : Option Int → Hp → Prop) : Prop :=
  match r with
  | .ok b Γ' => ∀ F' H', Go C io σ F H Γ σ F' H' Γ' → Q b H'
  | .exc c Γ' => ∀ F' H', Go C io σ F H Γ σ F' H' Γ' → W c σ H'
  | .bad => False
def tO (C : Ct) (W : XW) (f : SO) : TO := fun σ H Q => ∃ io F Γ, At C io σ F H Γ ∧ PI_ C io W σ F H Γ (f Γ) Q
theorem tO.then {C : Ct} {io : IO} {σ : St} {F H : Hp} {Γ : Ev} {f : SO} {k : Option Int → Ev → R AV} {Q : VK} (A : At C io σ F H Γ) (p : PX C io W σ F H Γ ((f Γ).bind k) Q) {Q' : Option Int → Hp → Prop}
    (h : ∀ b F' H' Γ', Go C io σ F H Γ σ F' H' Γ' → PX C io W σ F' H' Γ' (k b Γ') Q → Q' b H') : tO C W f σ H Q' := by
  refine ⟨io, F, Γ, A, ?_⟩
  cases e : f Γ with
  | ok av Γ' =>
    rw [e] at p
    exact fun F' H' g => h av F' H' Γ' g (PX.go g p)
  | exc c Γ' => rw [e] at p; exact p
  | bad => rw [e] at p; exact p
theorem qo_none : PO X none (tO (ct X) W oNone) := ⟨fun pins s σ H Q I ⟨io, F, Γ, A, p⟩ => po_none.run pins s σ H Q I (p F H (.refl A))⟩
theorem qo_some (ha : PE X a (tX (ct X) W fa)) : PO X (some a) (tO (ct X) W (oSome fa)) :=
  ⟨fun pins s σ H Q I ⟨io, F, Γ, A, p⟩ => (po_some ha).run pins s σ H Q I (by
    refine ⟨io, F, Γ, A, ?_⟩
    unfold oSome at p
    cases w : fa Γ with
    | ok av Γ' =>
      rw [w] at p
      intro v F' H' g hv
      have p : PI_ (ct X) io W σ F H Γ (optI ((rd Γ' av).bind intD) Γ') Q := p
      cases q : rd Γ' av with
      | none => rw [q] at p; exact p.elim
      | some d =>
        rw [q] at p
        cases d with
        | int i => exact ⟨i, hv.int g.at_ q, p F' H' g⟩
        | _ => exact p.elim
    | exc c Γ' => rw [w] at p; exact p
    | bad => rw [w] at p; exact p)⟩
theorem q_slice {lo hi : Option Expr} {ol oh : SO} {p2 : Pos} (ha : PE X a (tX (ct X) W fa)) (hl : PO X lo (tO (ct X) W ol)) (hh : PO X hi (tO (ct X) W oh)) : PE X (.Subscript a (.Slice lo hi none p2) pos) (tX (ct X) W (sSl fa ol oh)) :=
  PE.imp (pe_slice sl_S ha hl hh) fun σ H Q ⟨io, F, Γ, A, p⟩ => tX.then A p fun av v F1 H1 Γ1 g1 hv p1 => tO.then g1.at_ p1 fun l F2 H2 Γ2 g2 p2 => tO.then g2.at_ p2 fun h F3 H3 Γ3 g3 p3 => by
    obtain ⟨r, hr, p4⟩ := opt_ok p3
    obtain ⟨x, hx, hr⟩ := bind_some hr
    exact ⟨F3, x, r, g3.at_.le, ((hv.go g2).go g3).rdv g3.at_ hx, hr, ResQ.of g3.at_ p4⟩

theorem bd_some {g : D → D → Option Bool} {x y : D} {k : Bool} (h : g x y = some k) : bD g x y = some (.d (.bl k)) := by
  unfold bD
  rw [h]
  rfl
theorem ResQ.bl {C : Ct} {F H : Hp} {k : Bool} {Q : VK} (q : Q (.bl k) H) : ResQ C F H (.d (.bl k)) Q := fun v hv => by
  have hv : v = .bl k := hv
  rw [hv]
  exact q
theorem q_cmpT {op : CmpOp} {g : D → D → Option Bool} (ho : OpR X (compareOp op) (rS (ct X) (bD g))) (ha : PE X a (tX (ct X) W fa)) (hb : PE X b (tX (ct X) W fb)) (hm : behindInMarks op b = false := by first | exact nomark _ | rfl | with_unfolding_all rfl) : PT X (.Compare a [op] [b] pos) (tB (ct X) W (sCmp g fa fb)) :=
  PT.imp (pt_cmpR ho ha hb hm) fun σ H Q ⟨io, F, Γ, A, p⟩ => tX.thenB A p fun av v F1 H1 Γ1 g1 hv p1 => tX.thenB g1.at_ p1 fun bv u F2 H2 Γ2 g2 hu p2 => by
    obtain ⟨r, hr, p3⟩ := optB_ok p2
    obtain ⟨x, hx, hr⟩ := bind_some hr
    obtain ⟨y, hy, hr⟩ := bind_some hr
    exact ⟨F2, x, y, _, g2.at_.le, (hv.go g2).rdv g2.at_ hx, hu.rdv g2.at_ hy, bd_some hr, ResQ.bl ⟨r, rfl, PB.val g2.at_ p3⟩⟩
theorem tX.thenV {C : Ct} {io : IO} {σ : St} {F H : Hp} {Γ : Ev} {f : SE} {k : AV → Ev → R Bool} {Q : VK} (A : At C io σ F H Γ) (p : PX C io W σ F H Γ (((f Γ).bind k).bind fun b Γ' => .ok (.d (.bl b)) Γ') Q) {Q' : VK}
    (h : ∀ av v F' H' Γ', Go C io σ F H Γ σ F' H' Γ' → AVOk C (NewA Γ σ H) F' H' Γ' σ av v → PX C io W σ F' H' Γ' ((k av Γ').bind fun b Γ' => .ok (.d (.bl b)) Γ') Q → Q' v H') : tX C W f σ H Q' := by
  refine ⟨io, F, Γ, A, ?_⟩
  cases e : f Γ with
  | ok av Γ' =>
    rw [e] at p
    exact fun v F' H' g hv => h av v F' H' Γ' g hv (PX.go g p)
  | exc c Γ' => rw [e] at p; exact p
  | bad => rw [e] at p; exact p
theorem q_cmp {op : CmpOp} {g : D → D → Option Bool} (ho : OpR X (compareOp op) (rS (ct X) (bD g))) (ha : PE X a (tX (ct X) W fa)) (hb : PE X b (tX (ct X) W fb)) (hm : behindInMarks op b = false := by first | exact nomark _ | rfl | with_unfolding_all rfl) : PE X (.Compare a [op] [b] pos) (tX (ct X) W (sVal (sCmp g fa fb))) :=
  PE.imp (pe_cmpR ho ha hb hm) fun σ H Q ⟨io, F, Γ, A, p⟩ => tX.thenV A p fun av v F1 H1 Γ1 g1 hv p1 => tX.thenV g1.at_ p1 fun bv u F2 H2 Γ2 g2 hu p2 => by
    unfold rdB at p2
    cases e : (rd Γ2 av).bind fun x => (rd Γ2 bv).bind fun y => g x y with
    | none => rw [e] at p2; exact p2.elim
    | some r =>
      rw [e] at p2
      obtain ⟨x, hx, hr⟩ := bind_some e
      obtain ⟨y, hy, hr⟩ := bind_some hr
      exact ⟨F2, x, y, _, g2.at_.le, (hv.go g2).rdv g2.at_ hx, hu.rdv g2.at_ hy, bd_some hr, ResQ.bl (PX.val g2.at_ p2 rfl)⟩
theorem q_chainT {op op' : CmpOp} {g g' : D → D → Option Bool} (ho : OpR X (compareOp op) (rS (ct X) (bD g))) (ho' : OpR X (compareOp op') (rS (ct X) (bD g'))) (ha : PE X a (tX (ct X) W fa)) (hb : PE X b (tX (ct X) W fb)) (hc : PE X c (tX (ct X) W fc))
    (hm : lastMarks [op, op'] [b, c] = false := by with_unfolding_all rfl) : PT X (.Compare a [op, op'] [b, c] pos) (tB (ct X) W (sChain g g' fa fb fc)) :=
  PT.imp (pt_chain ho ho' ha hb hc hm) fun σ H Q ⟨io, F, Γ, A, p⟩ => tX.thenB A p fun av v F1 H1 Γ1 g1 hv p1 => tX.thenB g1.at_ p1 fun bv u F2 H2 Γ2 g2 hu p2 => by
    unfold rdB at p2
    cases e : (rd Γ2 av).bind fun x => (rd Γ2 bv).bind fun y => g x y with
    | none => rw [e] at p2; exact p2.elim
    | some r =>
      rw [e] at p2
      obtain ⟨x, hx, hr⟩ := bind_some e
      obtain ⟨y, hy, hr⟩ := bind_some hr
      refine ⟨F2, x, y, _, g2.at_.le, (hv.go g2).rdv g2.at_ hx, hu.rdv g2.at_ hy, bd_some hr, ResQ.bl ⟨r, rfl, ?_⟩⟩
      cases r with
      | false => exact iteF ⟨false, rfl, PB.val g2.at_ p2⟩
      | true =>
        refine iteT (tX.thenB g2.at_ p2 fun cv w' F3 H3 Γ3 g3 hw p3 => ?_)
        obtain ⟨r3, hr3, p4⟩ := optB_ok p3
        obtain ⟨x3, hx3, hr3⟩ := bind_some hr3
        obtain ⟨y3, hy3, hr3⟩ := bind_some hr3
        exact ⟨F3, x3, y3, _, g3.at_.le, (hu.go g3).rdv g3.at_ hx3, hw.rdv g3.at_ hy3, bd_some hr3, ResQ.bl ⟨r3, rfl, PB.val g3.at_ p4⟩⟩
theorem q_chain {op op' : CmpOp} {g g' : D → D → Option Bool} (ho : OpR X (compareOp op) (rS (ct X) (bD g))) (ho' : OpR X (compareOp op') (rS (ct X) (bD g'))) (ha : PE X a (tX (ct X) W fa)) (hb : PE X b (tX (ct X) W fb)) (hc : PE X c (tX (ct X) W fc))
    (hm : lastMarks [op, op'] [b, c] = false := by with_unfolding_all rfl) : PE X (.Compare a [op, op'] [b, c] pos) (tX (ct X) W (sVal (sChain g g' fa fb fc))) :=
  PE.imp (pe_chain ho ho' ha hb hc hm) fun σ H Q ⟨io, F, Γ, A, p⟩ => tX.thenV A p fun av v F1 H1 Γ1 g1 hv p1 => tX.thenV g1.at_ p1 fun bv u F2 H2 Γ2 g2 hu p2 => by
    unfold rdB at p2
    cases e : (rd Γ2 av).bind fun x => (rd Γ2 bv).bind fun y => g x y with
    | none => rw [e] at p2; exact p2.elim
    | some r =>
      rw [e] at p2
      obtain ⟨x, hx, hr⟩ := bind_some e
      obtain ⟨y, hy, hr⟩ := bind_some hr
      refine ⟨F2, x, y, _, g2.at_.le, (hv.go g2).rdv g2.at_ hx, hu.rdv g2.at_ hy, bd_some hr, ResQ.bl ⟨r, rfl, ?_⟩⟩
      cases r with
      | false => exact iteF (PX.val g2.at_ p2 rfl)
      | true =>
        refine iteT (tX.thenV g2.at_ p2 fun cv w' F3 H3 Γ3 g3 hw p3 => ?_)
        unfold rdB at p3
        cases e3 : (rd Γ3 bv).bind fun x => (rd Γ3 cv).bind fun y => g' x y with
        | none => rw [e3] at p3; exact p3.elim
        | some r3 =>
          rw [e3] at p3
          obtain ⟨x3, hx3, hr3⟩ := bind_some e3
          obtain ⟨y3, hy3, hr3⟩ := bind_some hr3
          exact ⟨F3, x3, y3, _, g3.at_.le, (hu.go g3).rdv g3.at_ hx3, hw.rdv g3.at_ hy3, bd_some hr3, ResQ.bl (PX.val g3.at_ p3 rfl)⟩
theorem q_tru (ha : PE X a (tX (ct X) W fa)) (he : ∀ whole, isTrue a X.env whole = (do let v ← whole; standAt a.pos; holding [v] (truthy v)) := by intro _; rfl) : PT X a (tB (ct X) W (sTru fa)) :=
  PT.imp (pt_val ha he) fun σ H Q ⟨io, F, Γ, A, p⟩ => tX.thenB A p fun av v F1 H1 Γ1 g1 hv p1 => by
    obtain ⟨r, hr, p2⟩ := optB_ok p1
    obtain ⟨x, hx, hr⟩ := bind_some hr
    cases x with
    | bl k => cases hr; exact ⟨r, hv.bl g1.at_ hx, PB.val g1.at_ p2⟩
    | _ => cases hr
variable {fA fB : SB} {rest : List Expr}
theorem q_not (ha : PT X a (tB (ct X) W fA)) : PT X (.UnaryOp .Not a pos) (tB (ct X) W (sNot fA)) :=
  PT.imp (pt_not ha) fun σ H Q ⟨io, F, Γ, A, p⟩ => tB.thenB A p fun b F1 H1 Γ1 g1 p1 => PB.val g1.at_ p1
theorem q_and1 (ha : PT X a (tB (ct X) W fA)) : PW X (.BoolOp .And [a] pos) (tB (ct X) W fA) := pw_and1 ha
theorem q_or1 (ha : PT X a (tB (ct X) W fA)) : PW X (.BoolOp .Or [a] pos) (tB (ct X) W fA) := pw_or1 ha
theorem q_and (ha : PT X a (tB (ct X) W fA)) (hb : PW X (.BoolOp .And (b :: rest) pos) (tB (ct X) W fB)) : PW X (.BoolOp .And (a :: b :: rest) pos) (tB (ct X) W (sAnd fA fB)) :=
  PW.imp (pw_and ha hb) fun σ H Q ⟨io, F, Γ, A, p⟩ => tB.thenB A p fun k F1 H1 Γ1 g1 p1 => by
    cases k with
    | true => exact iteT ⟨io, F1, Γ1, g1.at_, p1⟩
    | false => exact iteF (PB.val g1.at_ p1)
theorem q_or (ha : PT X a (tB (ct X) W fA)) (hb : PW X (.BoolOp .Or (b :: rest) pos) (tB (ct X) W fB)) : PW X (.BoolOp .Or (a :: b :: rest) pos) (tB (ct X) W (sOr fA fB)) :=
  PW.imp (pw_or ha hb) fun σ H Q ⟨io, F, Γ, A, p⟩ => tB.thenB A p fun k F1 H1 Γ1 g1 p1 => by
    cases k with
    | true => exact iteT (PB.val g1.at_ p1)
    | false => exact iteF ⟨io, F1, Γ1, g1.at_, p1⟩
theorem tX.thenT {C : Ct} {io : IO} {σ : St} {F H : Hp} {Γ : Ev} {f : SE} {k : Bool → Ev → R AV} {Q : VK} (A : At C io σ F H Γ) (p : PX C io W σ F H Γ ((f Γ).bind fun a Γ' => (optB ((rd Γ' a).bind truB) Γ').bind k) Q) {Q' : VK}
    (h : ∀ b F' H' Γ', Go C io σ F H Γ σ F' H' Γ' → PX C io W σ F' H' Γ' (k b Γ') Q → Q' (.bl b) H') : tX C W f σ H Q' :=
  tX.then A p fun av v F1 H1 Γ1 g1 hv p1 => by
    cases e : (rd Γ1 av).bind truB with
    | none => rw [e] at p1; exact p1.elim
    | some r =>
      rw [e] at p1
      obtain ⟨x, hx, hr⟩ := bind_some e
      cases x with
      | bl q => cases hr; rw [hv.bl g1.at_ hx]; exact h r F1 H1 Γ1 g1 p1
      | _ => cases hr
theorem q_one {op : BoolOp} (h : PE X a (tX (ct X) W fa)) : PE X (.BoolOp op [a] pos) (tX (ct X) W fa) := pe_one h
theorem q_andV (ha : PE X a (tX (ct X) W fa)) (hb : PE X (.BoolOp .And (b :: rest) pos) (tX (ct X) W fb)) : PE X (.BoolOp .And (a :: b :: rest) pos) (tX (ct X) W (sAndV fa fb)) :=
  PE.imp (pe_and ha hb) fun σ H Q ⟨io, F, Γ, A, p⟩ => tX.thenT A p fun k F1 H1 Γ1 g1 p1 => by
    refine ⟨k, rfl, ?_⟩
    cases k with
    | true => exact iteT ⟨io, F1, Γ1, g1.at_, p1⟩
    | false => exact iteF (PX.val g1.at_ p1 rfl)
theorem q_notV (ha : PE X a (tX (ct X) W fa)) : PE X (.UnaryOp .Not a pos) (tX (ct X) W (sNotV fa)) :=
  PE.imp (pe_not ha) fun σ H Q ⟨io, F, Γ, A, p⟩ => tX.thenT A p fun k F1 H1 Γ1 g1 p1 => ⟨k, rfl, PX.val g1.at_ p1 rfl⟩
theorem q_ifx (hc : PT X c (tB (ct X) W fA)) (ha : PE X a (tX (ct X) W fa)) (hb : PE X b (tX (ct X) W fb)) : PE X (.IfExp c a b pos) (tX (ct X) W (sIfX fA fa fb)) :=
  PE.imp (pe_ifExp hc ha hb) fun σ H Q ⟨io, F, Γ, A, p⟩ => tB.then A p fun k F1 H1 Γ1 g1 p1 => by
    cases k with
    | true => exact iteT ⟨io, F1, Γ1, g1.at_, p1⟩
    | false => exact iteF ⟨io, F1, Γ1, g1.at_, p1⟩

theorem q_nil : PA X [] (tA (ct X) W sNil) := PA.imp pa_nil fun σ H Q ⟨io, F, Γ, A, p⟩ => p [] F H (.refl A) rfl
theorem q_pcons (ha : PE X e (tX (ct X) W f)) (hr : PA X es (tA (ct X) W fs)) (hs : starEach (e :: es) X.env = (false, eval e X.env) :: starEach es X.env := by rfl) : PA X (e :: es) (tA (ct X) W (sCons f fs)) :=
  PA.imp (pa_cons ha hr hs) fun σ H Q ⟨io, F, Γ, A, p⟩ => by
    refine ⟨io, F, Γ, A, ?_⟩
    unfold sCons at p
    cases w : f Γ with
    | bad => rw [w] at p; exact p
    | exc c Γ' => rw [w] at p; exact p
    | ok av Γ1 =>
      rw [w] at p
      intro v F1 H1 g1 hv
      refine ⟨io, F1, Γ1, g1.at_, ?_⟩
      have p : PAs (ct X) io W σ F H Γ ((fs Γ1).bind fun r Γ2 => .ok (av :: r) Γ2) Q := p
      cases w2 : fs Γ1 with
      | bad => rw [w2] at p; exact p
      | exc c Γ' => rw [w2] at p; exact fun F2 H2 g2 => p F2 H2 (g1.trans g2)
      | ok avs Γ2 =>
        rw [w2] at p
        exact fun vs F2 H2 g2 hvs => p (v :: vs) F2 H2 (g1.trans g2) ⟨v, vs, rfl, hv.go g2, hvs.start fun b q => g1.newA q⟩
theorem ds_ok {C : Ct} {N0 : Addr → Prop} {F H : Hp} {Γ : Ev} {σ : St} : ∀ {avs : List AV} {vs : List V} {l : List D}, AVsOk C N0 F H Γ σ avs vs → ds avs = some l → Reps C F l vs
  | [], _, _, h, e => by
    cases e
    exact h
  | .d x :: r, _, _, ⟨v, w, rfl, h1, h2⟩, e => by
    obtain ⟨m, hm, rfl⟩ := Option.map_eq_some_iff.mp (show (ds r).map (fun l => x :: l) = some _ from e)
    exact .cons h1 (ds_ok h2 hm)
  | .u x :: r, _, _, ⟨v, w, rfl, h1, h2⟩, e => by
    obtain ⟨m, hm, rfl⟩ := Option.map_eq_some_iff.mp (show (ds r).map (fun l => x :: l) = some _ from e)
    exact .cons (RepN.rep h1) (ds_ok h2 hm)
  | .s i :: r, _, _, _, e => by cases e
  | .n l :: r, _, _, _, e => by cases e
theorem us_ok {C : Ct} {N0 : Addr → Prop} {F H : Hp} {Γ : Ev} {σ : St} : ∀ {avs : List AV} {vs : List V} {l : List D}, AVsOk C N0 F H Γ σ avs vs → us avs = some l → RepsN C N0 F l vs
  | [], _, _, h, e => by
    cases e
    exact h
  | .u x :: r, _, _, ⟨v, w, rfl, h1, h2⟩, e => by
    obtain ⟨m, hm, rfl⟩ := Option.map_eq_some_iff.mp (show (us r).map (fun l => x :: l) = some _ from e)
    exact ⟨v, w, rfl, h1, us_ok h2 hm⟩
  | .d x :: r, _, _, _, e => by cases e
  | .s i :: r, _, _, _, e => by cases e
  | .n l :: r, _, _, _, e => by cases e
theorem small_line {n : Nat} (h : n ≤ 1000) : n ≤ sizeLine := by
  rw [sizeLine_eq]
  omega
theorem q_tup {k : Nat} (ha : PA X es (tA (ct X) W fs)) : PE X (.Tuple es k pos) (tX (ct X) W (sTup fs)) :=
  PE.imp (pe_tup ha) fun σ H Q ⟨io, F, Γ, A, p⟩ => tA.then A p fun avs vs F1 H1 Γ1 g1 hv p1 => by
    obtain ⟨r, hr, p3⟩ := opt_ok p1
    obtain ⟨l, hl, hr⟩ := bind_some hr
    split at hr
    · rename_i hz
      cases hr
      have hR := ds_ok hv hl
      exact ⟨by rw [hR.length]; exact small_line hz, PX.newTup g1.at_ p3 hR (small_line hz)⟩
    · cases hr
theorem RepsN.length {C : Ct} {N : Addr → Prop} {F : Hp} {ds : List D} {xs : List V} (h : RepsN C N F ds xs) : xs.length = ds.length := (RepsN.rep h).length
theorem q_tupU {k : Nat} (ha : PA X es (tA (ct X) W fs)) : PE X (.Tuple es k pos) (tX (ct X) W (sTupU fs)) :=
  PE.imp (pe_tup ha) fun σ H Q ⟨io, F, Γ, A, p⟩ => by
    have p : PX (ct X) io W σ F H Γ ((fs Γ).bind fun avs Γ' => optU_ (us avs) Γ') Q := p
    refine ⟨io, F, Γ, A, ?_⟩
    cases w : fs Γ with
    | bad => rw [w] at p; exact p
    | exc c Γ' => rw [w] at p; exact p
    | ok avs Γ1 =>
      rw [w] at p
      intro vs F1 H1 g1 hv
      have p : PX (ct X) io W σ F H Γ (optU_ (us avs) Γ1) Q := p
      cases hl : us avs with
      | none => rw [hl] at p; exact p.elim
      | some l =>
        rw [hl] at p
        have p : PX (ct X) io W σ F H Γ (if l.length ≤ 1000 then .ok (.u (.tup l)) Γ1 else .bad) Q := p
        split at p
        · rename_i hz
          have hR := us_ok hv hl
          refine ⟨by rw [hR.length]; exact small_line hz, fun q hq => p (.ref q) _ _ (g1.trans (Go.laid g1.at_ hq (.tup vs))) ⟨q, vs, rfl, .inl (.inl upd_same), RepsN.mono (le.updF (g1.at_.fnone hq)) hR, small_line hz⟩⟩
        · exact p.elim
theorem q_lst (ha : PA X es (tA (ct X) W fs)) : PE X (.List es pos) (tX (ct X) W (sLst fs)) :=
  PE.imp (pe_lst ha) fun σ H Q ⟨io, F, Γ, A, p⟩ => tA.then A p fun avs vs F1 H1 Γ1 g1 hv p1 => by
    obtain ⟨r, hr, p3⟩ := opt_ok p1
    obtain ⟨l, hl, hr⟩ := bind_some hr
    split at hr
    · rename_i hz
      cases hr
      have hR := ds_ok hv hl
      exact ⟨by rw [hR.length]; exact small_line hz, PX.newLst g1.at_ p3 hR (small_line hz)⟩
    · cases hr
def RdVs (C : Ct) (F H : Hp) : List V → List D → Prop
  | [], l => l = []
  | v :: r, l => ∃ d m, l = d :: m ∧ RdV C F H v d ∧ RdVs C F H r m
theorem rds_ok {C : Ct} {io : IO} {N0 : Addr → Prop} {F H : Hp} {Γ : Ev} {σ : St} (A : At C io σ F H Γ) : ∀ {avs : List AV} {vs : List V} {l : List D}, AVsOk C N0 F H Γ σ avs vs → rds Γ avs = some l → RdVs C F H vs l
  | [], _, _, h, e => by
    cases e
    have h : _ = [] := h
    rw [h]
    rfl
  | a :: r, _, _, ⟨v, w, rfl, h1, h2⟩, e => by
    obtain ⟨x, hx, e⟩ := bind_some e
    obtain ⟨m, hm, rfl⟩ := Option.map_eq_some_iff.mp e
    exact ⟨x, m, rfl, h1.rdv A hx, rds_ok A h2 hm⟩
def rC (C : Ct) (g : List D → Option Rs) : List V → Hp → VK → Prop := fun xs H Q => ∃ F l r, le F H ∧ RdVs C F H xs l ∧ g l = some r ∧ ResQ C F H r Q
theorem q_callB {x : Str} {p : Pos} {id : String} {g : List D → Option Rs} (hc : CallR X (.builtin id) (rC (ct X) g)) (hm : X.mg x = none) (ha : PA X (e :: es) (tA (ct X) W fs)) (hg : Gl X x := by rfl) (hv : bootBuiltins x = some (.builtin id) := by decide +kernel)
    (hn : x ≠ "__name__" := by decide) (hdb : (x == ("__debug__" : Str)) = false := by decide) (he : starEach (e :: es) X.env = (false, eval e X.env) :: starEach es X.env := by rfl)
    (hpl : (backTo pos (starEach es X.env)).any (·.1) = false := by rfl) : PE X (.Call (.Name x p) (e :: es) [] pos) (tX (ct X) W (sCB g fs)) :=
  PE.imp (pe_callB hc hg hm hv ha hn hdb he hpl) fun σ H Q ⟨io, F, Γ, A, p⟩ => tA.then A p fun avs vs F1 H1 Γ1 g1 hv p1 => by
    obtain ⟨r, hr, p3⟩ := opt_ok p1
    obtain ⟨l, hl, hr⟩ := bind_some hr
    exact ⟨F1, l, r, g1.at_.le, rds_ok g1.at_ hv hl, hr, ResQ.of g1.at_ p3⟩
theorem q_callTy {x : Str} {p : Pos} {T : String} {g : List D → Option Rs} (hc : CallR X (.type T) (rC (ct X) g)) (hm : X.mg x = none) (ha : PA X (e :: es) (tA (ct X) W fs)) (hg : Gl X x := by rfl) (hv : bootBuiltins x = some (.type T) := by decide +kernel)
    (hn : x ≠ "__name__" := by decide) (hdb : (x == ("__debug__" : Str)) = false := by decide) (he : starEach (e :: es) X.env = (false, eval e X.env) :: starEach es X.env := by rfl)
    (hpl : (backTo pos (starEach es X.env)).any (·.1) = false := by rfl) : PE X (.Call (.Name x p) (e :: es) [] pos) (tX (ct X) W (sCB g fs)) :=
  PE.imp (pe_callTy hc hg hm hv ha hn hdb he hpl) fun σ H Q ⟨io, F, Γ, A, p⟩ => tA.then A p fun avs vs F1 H1 Γ1 g1 hv p1 => by
    obtain ⟨r, hr, p3⟩ := opt_ok p1
    obtain ⟨l, hl, hr⟩ := bind_some hr
    exact ⟨F1, l, r, g1.at_.le, rds_ok g1.at_ hv hl, hr, ResQ.of g1.at_ p3⟩
end
end Bx
end
end

section
set_option Elab.async false
set_option linter.all false
set_option maxRecDepth 100000
set_option maxHeartbeats 4000000
set_option autoImplicit false
noncomputable section
namespace Bx
open PySem PySem.Spec PyProof.Rows L2
inductive Fl where
  | nx | bk | ct | rt (av : AV)
abbrev SS := Ev → R Fl
abbrev GS := D → Ev → R Unit
abbrev SI := Ev → R (List D)

@[simp] def putS (d : D) (i : Nat) (Γ : Ev) : Option SD → R Unit
  | some sd => if sd.tag = none then .ok () (Γ.set i (.fr d)) else .bad
  | none => .bad
@[simp] def gVar (i : Nat) (d : D) (Γ : Ev) : R Unit := putS d i Γ Γ[i]?
@[simp] def gAll : List GS → List D → Ev → R Unit
  | [], [], Γ => .ok () Γ
  | g :: gs, d :: ds, Γ => (g d Γ).bind fun _ Γ' => gAll gs ds Γ'
  | _, _, _ => .bad
@[simp] def gTup (gs : List GS) (d : D) (Γ : Ev) : R Unit := match d with
  | .tup l => gAll gs l Γ
  | _ => .bad
@[simp] def frV : AV → Option D
  | .d x => some x
  | .u x => some x
  | _ => none
@[simp] def optD (o : Option D) (k : D → Ev → R Fl) (Γ : Ev) : R Fl := match o with
  | some d => k d Γ
  | none => .bad
@[simp] def nxU : R Unit → R Fl
  | .ok _ Γ => .ok .nx Γ
  | _ => .bad
@[simp] def sAsg (f : SE) (g : GS) (Γ : Ev) : R Fl := (f Γ).bind fun av Γ' => optD (frV av) (fun d Γ2 => nxU (g d Γ2)) Γ'
@[simp] def ownS (l : List D) (i : Nat) (Γ : Ev) : Option SD → R Fl
  | some sd => if sd.tag = none then .ok .nx (Γ.set i (.ow none l)) else .bad
  | none => .bad
@[simp] def ownV (i : Nat) (Γ : Ev) : AV → R Fl
  | .n l => ownS l i Γ Γ[i]?
  | _ => .bad
@[simp] def sOwn (f : SE) (i : Nat) (Γ : Ev) : R Fl := (f Γ).bind fun av Γ' => ownV i Γ' av
def seqR (t : SS) : R Fl → R Fl
  | .ok .nx Γ' => t Γ'
  | r => r
@[simp] theorem seqR_nx {t : SS} {Γ : Ev} : seqR t (.ok .nx Γ) = t Γ := rfl
@[simp] theorem seqR_bk {t : SS} {Γ : Ev} : seqR t (.ok .bk Γ) = .ok .bk Γ := rfl
@[simp] theorem seqR_ct {t : SS} {Γ : Ev} : seqR t (.ok .ct Γ) = .ok .ct Γ := rfl
@[simp] theorem seqR_rt {t : SS} {av : AV} {Γ : Ev} : seqR t (.ok (.rt av) Γ) = .ok (.rt av) Γ := rfl
@[simp] theorem seqR_exc {t : SS} {c : Str} {Γ : Ev} : seqR t (.exc c Γ) = .exc c Γ := rfl
@[simp] theorem seqR_bad {t : SS} : seqR t .bad = .bad := rfl
@[simp] theorem seqR_ite {t : SS} {p : Prop} [Decidable p] {a b : R Fl} : seqR t (if p then a else b) = if p then seqR t a else seqR t b := by split <;> rfl
@[simp] def sSeq (s t : SS) (Γ : Ev) : R Fl := seqR t (s Γ)
@[simp] def sSkip (Γ : Ev) : R Fl := .ok .nx Γ
@[simp] def sBrk (Γ : Ev) : R Fl := .ok .bk Γ
@[simp] def sCnt (Γ : Ev) : R Fl := .ok .ct Γ
@[simp] def sDrop (f : SE) (Γ : Ev) : R Fl := (f Γ).bind fun _ Γ' => .ok .nx Γ'
@[simp] def sIf (c : SB) (s t : SS) (Γ : Ev) : R Fl := (c Γ).bind fun b Γ' => if b = true then s Γ' else t Γ'
@[simp] def retS (i : Nat) (Γ : Ev) : Option SD → R Fl
  | some (.ow none l) => .ok (.rt (.n l)) (Γ.set i .no)
  | some (.fr d) => .ok (.rt (.d d)) Γ
  | _ => .bad
@[simp] def retV (Γ : Ev) : AV → R Fl
  | .d x => .ok (.rt (.d x)) Γ
  | .u x => .ok (.rt (.u x)) Γ
  | .n l => .ok (.rt (.n l)) Γ
  | .s i => retS i Γ Γ[i]?
@[simp] def sRet (f : SE) (Γ : Ev) : R Fl := (f Γ).bind fun av Γ' => retV Γ' av
@[simp] def sRetN (Γ : Ev) : R Fl := .ok (.rt (.d .non)) Γ
@[simp] def retVarS (i : Nat) (Γ : Ev) : Option SD → R Fl
  | some (.fu d) => .ok (.rt (.u d)) Γ
  | _ => .bad
@[simp] def sRetU (i : Nat) (Γ : Ev) : R Fl := retVarS i Γ Γ[i]?
@[simp] def setUV (i : Nat) (Γ : Ev) : AV → R Fl
  | .u x => match Γ[i]? with
    | some sd => if sd.tag = none then .ok .nx (Γ.set i (.fu x)) else .bad
    | none => .bad
  | _ => .bad
@[simp] def sSetU (f : SE) (i : Nat) (Γ : Ev) : R Fl := (f Γ).bind fun av Γ' => setUV i Γ' av
@[simp] def sft : SD → SD
  | .fu d => .fr d
  | .fx (.w es) => .fr (.lst es)
  | .fx (.z _ _) => .no
  | s => s
@[simp] def soft : Ev → Ev := fun Γ => Γ.map sft
@[simp] def frS : Option SD → Option D
  | some (.fr d) => some d
  | _ => none
@[simp] def sAug (i : Nat) (g : D → D → Option Rs) (f : SE) (Γ : Ev) : R Fl := optD (frS Γ[i]?) (fun d Γ1 => (f Γ1).bind fun b Γ2 => (rd2 g (.d d) b Γ2).bind fun av Γ3 => optD (frV av) (fun d Γ4 => nxU (gVar i d Γ4)) Γ3) Γ
@[simp] def forget : List Nat → Ev → Ev
  | [], Γ => Γ
  | i :: r, Γ => (forget r Γ).set i .no
def fgtR (vs : List Nat) : R Fl → R Fl
  | .ok .nx Γ' => .ok .nx (forget vs Γ')
  | .ok .ct Γ' => .ok .ct (forget vs Γ')
  | r => r
@[simp] theorem fgtR_nx {vs : List Nat} {Γ : Ev} : fgtR vs (.ok .nx Γ) = .ok .nx (forget vs Γ) := rfl
@[simp] theorem fgtR_ct {vs : List Nat} {Γ : Ev} : fgtR vs (.ok .ct Γ) = .ok .ct (forget vs Γ) := rfl
@[simp] theorem fgtR_bk {vs : List Nat} {Γ : Ev} : fgtR vs (.ok .bk Γ) = .ok .bk Γ := rfl
@[simp] theorem fgtR_rt {vs : List Nat} {av : AV} {Γ : Ev} : fgtR vs (.ok (.rt av) Γ) = .ok (.rt av) Γ := rfl
@[simp] theorem fgtR_exc {vs : List Nat} {c : Str} {Γ : Ev} : fgtR vs (.exc c Γ) = .exc c Γ := rfl
@[simp] theorem fgtR_bad {vs : List Nat} : fgtR vs .bad = .bad := rfl
@[simp] theorem fgtR_ite {vs : List Nat} {p : Prop} [Decidable p] {a b : R Fl} : fgtR vs (if p then a else b) = if p then fgtR vs a else fgtR vs b := by split <;> rfl
@[simp] def fgt (vs : List Nat) (s : SS) (Γ : Ev) : R Fl := fgtR vs (s Γ)
@[simp] def methS (i : Nat) (Γ : Ev) (h : List D → Option (List D × Rs)) : Option SD → R AV
  | some (.ow t l) => match h l with
    | some (m, r) => .ok r.av (Γ.set i (.ow t m))
    | none => .bad
  | _ => .bad
@[simp] def isOw : Option SD → Bool
  | some (.ow _ _) => true
  | _ => false
@[simp] def methA (i : Nat) (g : List D → List D → Option (List D × Rs)) (Γ : Ev) : Option (List D) → R AV
  | some as => methS i Γ (fun l => g l as) Γ[i]?
  | none => .bad
@[simp] def sMeth (i : Nat) (g : List D → List D → Option (List D × Rs)) (fs : SA) (Γ : Ev) : R AV := if isOw Γ[i]? = true then (fs Γ).bind fun avs Γ' => methA i g Γ' (ds avs) else .bad
@[simp] def appD (l : List D) : List D → Option (List D × Rs)
  | [d] => if l.length < sizeLine then some (l ++ [d], .d .non) else none
  | _ => none
@[simp] def extD (l : List D) : List D → Option (List D × Rs)
  | [.lst m] => if l.length + m.length ≤ sizeLine then some (l ++ m, .d .non) else none
  | _ => none
@[simp] def popD (l : List D) : List D → Option (List D × Rs)
  | [] => match l[l.length - 1]? with
    | some d => some (l.dropLast, .d d)
    | none => none
  | [.int i] => if inW i = true then match seqIndex? i l.length with
      | some k => match l[k]? with
        | some d => some (l.eraseIdx k, .d d)
        | none => none
      | none => none
    else none
  | _ => none
@[simp] def clrD (l : List D) : List D → Option (List D × Rs)
  | [] => some ([], .d .non)
  | _ => none
@[simp] def stoS (i : Nat) (d : D) (k : Int) (Γ : Ev) : Option SD → R Unit
  | some (.ow t l) => match ixN l.length k with
    | some j => .ok () (Γ.set i (.ow t (l.set j d)))
    | none => .bad
  | _ => .bad
@[simp] def optU (o : Option Int) (k : Int → R Unit) : R Unit := match o with
  | some i => k i
  | none => .bad
@[simp] def bindU {α : Type} (r : R α) (k : α → Ev → R Unit) : R Unit := match r with
  | .ok a Γ => k a Γ
  | _ => .bad
@[simp] def gSto (i : Nat) (f : SE) (d : D) (Γ : Ev) : R Unit := if isOw Γ[i]? = true then bindU (f Γ) fun av Γ' => optU ((rd Γ' av).bind intD) fun k => stoS i d k Γ' Γ'[i]? else .bad
@[simp] def optF (o : Option Int) (k : Int → R Fl) : R Fl := match o with
  | some i => k i
  | none => .bad
@[simp] def getS (k : Int) (K : D → R Fl) : Option SD → R Fl
  | some (.ow _ l) => match atI l k with
    | some x => K x
    | none => .bad
  | _ => .bad
@[simp] def sAugI (i : Nat) (f : SE) (g : D → D → Option Rs) (fe : SE) (Γ : Ev) : R Fl := if isOw Γ[i]? = true then (f Γ).bind fun a Γ1 => optF ((rd Γ1 a).bind intD) fun k => getS k (fun x => (fe Γ1).bind fun b Γ2 => (rd2 g (.d x) b Γ2).bind fun av Γ3 =>
  optD (frV av) (fun d Γ4 => nxU (stoS i d k Γ4 Γ4[i]?)) Γ3) Γ1[i]? else .bad
def forF (body : D → Ev → R Fl) : List D → Ev → R Fl
  | [], Γ => .ok .nx Γ
  | d :: r, Γ => match body d Γ with
    | .ok .nx Γ' => forF body r Γ'
    | .ok .ct Γ' => forF body r Γ'
    | .ok .bk Γ' => .ok .nx Γ'
    | x => x
@[simp] def gThen (b : SS) : R Unit → R Fl
  | .ok _ Γ => b Γ
  | _ => .bad
def turnF (g : GS) (b : SS) (d : D) (Γ : Ev) : R Fl := gThen b (g d Γ)
@[simp] def sFor (src : SI) (g : GS) (b : SS) (Γ : Ev) : R Fl := (src Γ).bind fun l Γ' => forF (turnF g b) l (soft Γ')
def whileF (c : SB) (b : SS) : Nat → Ev → R Fl
  | 0, _ => .bad
  | n + 1, Γ => (c Γ).bind fun k Γ1 => if k = true then (match b Γ1 with
      | .ok .nx Γ' => whileF c b n Γ'
      | .ok .ct Γ' => whileF c b n Γ'
      | .ok .bk Γ' => .ok .nx Γ'
      | x => x) else .ok .nx Γ1
@[simp] def sWhile (c : SB) (b : SS) (Γ : Ev) : R Fl := whileF c b 1000000000 Γ
def lcF (turn : D → Ev → R (Option D)) : List D → List D → Ev → R (List D)
  | [], acc, Γ => .ok acc Γ
  | d :: r, acc, Γ => (turn d Γ).bind fun o Γ' => lcF turn r (match o with
    | some y => acc ++ [y]
    | none => acc) Γ'
@[simp] def ownN : Option SD → Bool
  | some sd => !sd.own
  | none => true
@[simp] def noOwn (Γ : Ev) : List Nat → Bool
  | [] => true
  | i :: r => ownN Γ[i]? && noOwn Γ r
@[simp] def restore (Γ0 : Ev) : List Nat → Ev → Ev
  | [], Γ => Γ
  | i :: r, Γ => match Γ0[i]? with
    | some sd => (restore Γ0 r Γ).set i sd
    | none => restore Γ0 r Γ
@[simp] def nox {α : Type} : R α → R α
  | .ok a e => .ok a e
  | _ => .bad
@[simp] def lcEnd (vs : List Nat) (av : AV) (Γ : Ev) : R (Option D) := match frV av with
  | some y => .ok (some y) (forget vs Γ)
  | none => .bad
def lcTurn (vs : List Nat) (g : GS) (test : SB) (elt : SE) : D → Ev → R (Option D) := fun d Γ => nox ((g d Γ).bind fun _ Γ2 => (test Γ2).bind fun b Γ3 =>
  if b = true then (elt Γ3).bind (lcEnd vs) else .ok none (forget vs Γ3))
@[simp] def sLc (src : SI) (vs : List Nat) (g : GS) (test : SB) (elt : SE) (Γ : Ev) : R AV := (src Γ).bind fun l Γ1 => if noOwn Γ1 vs = true ∧ l.length ≤ sizeLine then
  (lcF (lcTurn vs g test elt) l [] (forget vs Γ1)).bind fun r Γ' => .ok (.n r) (restore Γ1 vs Γ') else .bad
@[simp] def sYes (Γ : Ev) : R Bool := .ok true Γ

structure Ext (F H F' H' : Hp) : Prop where
  ff : le F F'
  hh : le H H'
  sub : le F' H'
  new : ∀ b, F b = none → F' b ≠ none → H b = none
def ItOk (C : Ct) (F : Hp) (J : It) (l : List D) : Prop :=
  ∀ (i : Nat) (F1 H1 : Hp), le F F1 → le F1 H1 →
    (∀ d, l[i]? = some d → J.go i H1 ∧ ∀ x H2, J.yld i H1 x H2 → ∃ F2, Ext F1 H1 F2 H2 ∧ Rep C F2 d x) ∧ (l.length ≤ i → J.stop i H1)
def PIt (C : Ct) (io : IO) (W : XW) (σ : St) (F H : Hp) (Γ : Ev) (r : R (List D)) (Q : It → Hp → Prop) : Prop :=
  match r with
  | .ok l Γ' => ∀ J F' H', Go C io σ F H Γ σ F' H' Γ' → ItOk C F' J l → Q J H'
  | .exc c Γ' => ∀ F' H', Go C io σ F H Γ σ F' H' Γ' → W c σ H'
  | .bad => False
def tI (C : Ct) (W : XW) (f : SI) : TI := fun σ H Q => ∃ io F Γ, At C io σ F H Γ ∧ PIt C io W σ F H Γ (f Γ) Q
theorem PI.imp {X : Cx} {tg e : Expr} {t t' : TI} (h : PI X tg e t) (k : ∀ σ H Q, t' σ H Q → t σ H Q) : PI X tg e t' := ⟨fun pins s σ H Q I q => h.run pins s σ H Q I (k σ H Q q)⟩
section
variable {C : Ct} {io : IO} {W : XW} {σ σ' : St} {F F' F2 H H' H2 : Hp} {Γ Γ' Γ2 : Ev} {i : Nat} {d : D} {v : V} {l : List D}
theorem PIt.go (g : Go C io σ F H Γ σ F' H' Γ') {r : R (List D)} {Q : It → Hp → Prop} (p : PIt C io W σ F H Γ r Q) : PIt C io W σ F' H' Γ' r Q := by
  cases r with
  | ok av Γ2 => exact fun v F2 H2 g2 h => p v F2 H2 (g.trans g2) h
  | exc c Γ2 => exact fun F2 H2 g2 => p F2 H2 (g.trans g2)
  | bad => exact p
theorem tX.thenI {f : SE} {k : AV → Ev → R (List D)} {Q : It → Hp → Prop} (A : At C io σ F H Γ) (p : PIt C io W σ F H Γ ((f Γ).bind k) Q) {Q' : VK}
    (h : ∀ av v F' H' Γ', Go C io σ F H Γ σ F' H' Γ' → AVOk C (NewA Γ σ H) F' H' Γ' σ av v → PIt C io W σ F' H' Γ' (k av Γ') Q → Q' v H') : tX C W f σ H Q' := by
  refine ⟨io, F, Γ, A, ?_⟩
  cases e : f Γ with
  | ok av Γ' =>
    rw [e] at p
    exact fun v F' H' g hv => h av v F' H' Γ' g hv (PIt.go g p)
  | exc c Γ' => rw [e] at p; exact p
  | bad => rw [e] at p; exact p
theorem tA.thenI {f : SA} {k : List AV → Ev → R (List D)} {Q : It → Hp → Prop} (A : At C io σ F H Γ) (p : PIt C io W σ F H Γ ((f Γ).bind k) Q) {Q' : List V → Hp → Prop}
    (h : ∀ avs vs F' H' Γ', Go C io σ F H Γ σ F' H' Γ' → AVsOk C (NewA Γ σ H) F' H' Γ' σ avs vs → PIt C io W σ F' H' Γ' (k avs Γ') Q → Q' vs H') : tA C W f σ H Q' := by
  refine ⟨io, F, Γ, A, ?_⟩
  cases e : f Γ with
  | ok av Γ' =>
    rw [e] at p
    exact fun v F' H' g hv => h av v F' H' Γ' g hv (PIt.go g p)
  | exc c Γ' => rw [e] at p; exact p
  | bad => rw [e] at p; exact p
theorem Ext.refl (l : le F H) : Ext F H F H := ⟨le.refl _, le.refl _, l, fun _ h q => absurd h q⟩
theorem At.ext (A : At C io σ F H Γ) (x : Ext F H F' H') : At C io σ F' H' Γ where
  le := x.sub
  pin := A.pin.trans x.ff
  len := A.len
  slot := fun i sd e => by
    have q := A.slot i sd e
    have own : ∀ {sd : SD}, (∃ a, σ[i]? = some (some (V.ref a)) ∧ F a = none ∧ OwnOk C F H a sd ∧ ∀ k, sd.tag = some k → io.adr k = some a) → (∃ a, σ[i]? = some (some (V.ref a)) ∧ F' a = none ∧ OwnOk C F' H' a sd ∧ ∀ k, sd.tag = some k → io.adr k = some a) := by
      rintro sd ⟨a, e1, e2, e3, e4⟩
      refine ⟨a, e1, ?_, ?_, e4⟩
      · cases w : F' a with
        | none => rfl
        | some o => exact absurd (x.new a e2 (by rw [w]; simp)) e3.some_
      · cases w : H a with
        | none => exact absurd w e3.some_
        | some o => exact (e3.mono x.ff).heap (by rw [w, x.hh _ _ w])
    cases sd with
    | no => trivial
    | fr d => obtain ⟨v, e1, r⟩ := q; exact ⟨v, e1, r.mono x.ff⟩
    | fu d => obtain ⟨v, e1, r⟩ := q; exact ⟨v, e1, RepN.mono x.ff r⟩
    | fx y => obtain ⟨v, e1, r⟩ := q; exact ⟨v, e1, FXOk.mono x.ff r⟩
    | ob t y => exact A.obUp e x.ff (fun b hb => by
        have k := A.ownAt_none hb
        cases w : F' b with
        | none => rfl
        | some o => exact absurd (x.new b k.1 (by rw [w]; simp)) k.2) (fun b hb => by
        cases w : H b with
        | none => exact absurd w (A.ownAt_none hb).2
        | some o => exact x.hh _ _ w)
    | ow t l => exact own q
    | od t l => exact own q
    | ot t l => exact own q
  ne := fun i j a h1 h2 => A.ne i j a ((A.heldLe x.hh).mp h1) ((A.heldLe x.hh).mp h2)
theorem Go.ext (A : At C io σ F H Γ) (x : Ext F H F' H') : Go C io σ F H Γ σ F' H' Γ :=
  ⟨x.ff, fun b o h _ => x.hh b o h, fun b h => (by
    cases w : H b with
    | none => exact absurd w h
    | some o => rw [x.hh _ _ w]; simp), fun b h q => .inl (x.new b h q), fun b h => .inl ((A.heldLeA x.hh).mp h), rfl, A.ext x⟩
theorem Ext.tup {T : Addr} {ls : List D} {xs : List V} (l : le F H) (hT : H T = none) (r : Reps C F ls xs) (z : ls.length ≤ sizeLine) : Ext F H (upd F T (.tup xs)) (upd H T (.tup xs)) ∧ Rep C (upd F T (.tup xs)) (.tup ls) (.ref T) := by
  have hf : F T = none := by
    cases w : F T with
    | none => rfl
    | some o => rw [l _ _ w] at hT; cases hT
  refine ⟨⟨le.updF hf, fun b o h => by rw [upd_ne (ne_of_none h hT)]; exact h, fun b o h => ?_, fun b h q => ?_⟩, T, xs, rfl, .inl (.inl upd_same), r.mono (le.updF hf), z⟩
  · by_cases e : b = T
    · rw [e, upd_same] at h ⊢; exact h
    · rw [upd_ne e] at h ⊢; exact l _ _ h
  · by_cases e : b = T
    · rw [e]; exact hT
    · rw [upd_ne e] at q; exact absurd h q
end
@[simp] def itemsD : D → Option (List D)
  | .lst l => some l
  | .scr l => some l
  | _ => none
@[simp] def itemsT : D → Option (List D)
  | .tup l => some l
  | _ => none
@[simp] def optL (o : Option (List D)) (Γ : Ev) : R (List D) := match o with
  | some l => .ok l Γ
  | none => .bad
@[simp] def iLst (f : SE) (Γ : Ev) : R (List D) := (f Γ).bind fun av Γ' => optL ((frV av).bind itemsD) Γ'
@[simp] def iTpl (f : SE) (Γ : Ev) : R (List D) := (f Γ).bind fun av Γ' => optL ((frV av).bind itemsT) Γ'
def rgD (lo : Int) (n : Nat) : List D := (List.range n).map fun i => D.int (lo + (i : Nat))
@[simp] def rngD1 : List D → Option (List D)
  | [.int j] => if inW j = true then some (rgD 0 j.toNat) else none
  | _ => none
@[simp] def rngD2 : List D → Option (List D)
  | [.int i, .int j] => if inW i = true ∧ inW j = true then some (rgD i (j - i).toNat) else none
  | _ => none
@[simp] def iRng1 (fs : SA) (Γ : Ev) : R (List D) := (fs Γ).bind fun avs Γ' => optL ((ds avs).bind rngD1) Γ'
@[simp] def iRng2 (fs : SA) (Γ : Ev) : R (List D) := (fs Γ).bind fun avs Γ' => optL ((ds avs).bind rngD2) Γ'
@[simp] def zipD : List D → Option (List D)
  | [.lst l, .lst m] => some (List.zipWith (fun a b => D.tup [a, b]) l m)
  | [.tup l, .tup m] => some (List.zipWith (fun a b => D.tup [a, b]) l m)
  | _ => none
@[simp] def iZp (fs : SA) (Γ : Ev) : R (List D) := (fs Γ).bind fun avs Γ' => optL ((ds avs).bind zipD) Γ'
def enumF : Nat → List D → List D
  | _, [] => []
  | n, d :: r => .tup [.int (n : Nat), d] :: enumF (n + 1) r
@[simp] def enumD : List D → Option (List D)
  | [.lst l] => some (enumF 0 l)
  | _ => none
@[simp] def iEnm (fs : SA) (Γ : Ev) : R (List D) := (fs Γ).bind fun avs Γ' => optL ((ds avs).bind enumD) Γ'
@[simp] def strD : D → Option (List D)
  | .str x => some (x.cps.toList.map fun c => D.str ⟨#[c]⟩)
  | _ => none
@[simp] def iTxt (f : SE) (Γ : Ev) : R (List D) := (f Γ).bind fun av Γ' => optL ((frV av).bind strD) Γ'
theorem enumF_get : ∀ {l : List D} {n i : Nat}, (enumF n l)[i]? = (l[i]?).map fun d => D.tup [.int ((n + i : Nat)), d]
  | [], n, i => by simp [enumF]
  | d :: r, n, 0 => by simp [enumF]
  | d :: r, n, i + 1 => by
    rw [enumF, List.getElem?_cons_succ, List.getElem?_cons_succ, enumF_get, Nat.add_right_comm n 1 i, Nat.add_assoc]
theorem enumF_len : ∀ {l : List D} {n : Nat}, (enumF n l).length = l.length
  | [], n => rfl
  | d :: r, n => by rw [enumF, List.length_cons, List.length_cons, enumF_len]
section
variable {X : Cx} {W : XW} {tg e e2 : Expr} {es : List Expr} {f : SE} {fs : SA} {pos p : Pos}
theorem optL_ok {C : Ct} {io : IO} {σ : St} {F H : Hp} {Γ : Ev} {Q : It → Hp → Prop} {o : Option (List D)} {Γ0 : Ev} (p : PIt C io W σ F H Γ (optL o Γ0) Q) : ∃ r, o = some r ∧ PIt C io W σ F H Γ (.ok r Γ0) Q := by
  cases o with
  | none => exact p.elim
  | some r => exact ⟨r, rfl, p⟩
theorem frV_ok {C : Ct} {N0 : Addr → Prop} {F H : Hp} {Γ : Ev} {σ : St} {av : AV} {v : V} {d : D} (h : AVOk C N0 F H Γ σ av v) (e : frV av = some d) : Rep C F d v := by
  cases av with
  | d x => cases e; exact h
  | u x => cases e; exact RepN.rep h
  | s i => cases e
  | n l => cases e
theorem q_iLst (ha : PE X e (tX (ct X) W f)) : PI X tg e (tI (ct X) W (iLst f)) :=
  PI.imp (pi_list ha) fun σ H Q ⟨io, F, Γ, A, p⟩ => tX.thenI A p fun av v F1 H1 Γ1 g1 hv p1 => by
    obtain ⟨l, hl, p2⟩ := optL_ok p1
    obtain ⟨d, hd, hl⟩ := bind_some hl
    have r := frV_ok hv hd
    cases d with
    | lst m =>
      cases hl
      obtain ⟨a, xs, rfl, s1, r1, _⟩ := r
      refine ⟨a, rfl, ⟨xs, g1.at_.le.sqL (.of s1)⟩, p2 _ F1 H1 (.refl g1.at_) fun i F2 H2 l1 l2 => ?_⟩
      have s2 : H2 a = some (.lst xs) := l2 _ _ (l1 _ _ s1)
      refine ⟨fun d hd => ?_, fun hl => ⟨xs, .of s2, by rw [r1.length]; exact hl⟩⟩
      obtain ⟨x, hx, rx⟩ := r1.get hd
      refine ⟨⟨xs, x, .of s2, hx⟩, fun y H3 hy => ?_⟩
      obtain ⟨rfl, hy⟩ := hy
      have := hy xs (.of s2)
      rw [hx] at this
      cases this
      exact ⟨F2, .refl l2, rx.mono l1⟩
    | scr m =>
      cases hl
      obtain ⟨a, xs, rfl, s1, r1, _⟩ := r
      refine ⟨a, rfl, ⟨xs, g1.at_.le.sqL s1⟩, p2 _ F1 H1 (.refl g1.at_) fun i F2 H2 l1 l2 => ?_⟩
      have s2 := (l1.trans l2).sqL s1
      refine ⟨fun d hd => ?_, fun hl => ⟨xs, s2, by rw [r1.length]; exact hl⟩⟩
      obtain ⟨x, hx, rx⟩ := r1.get hd
      refine ⟨⟨xs, x, s2, hx⟩, fun y H3 hy => ?_⟩
      obtain ⟨rfl, hy⟩ := hy
      have := hy xs s2
      rw [hx] at this
      cases this
      exact ⟨F2, .refl l2, rx.mono l1⟩
    | _ => cases hl
theorem q_iTpl (ha : PE X e (tX (ct X) W f)) : PI X tg e (tI (ct X) W (iTpl f)) :=
  PI.imp (pi_tup ha) fun σ H Q ⟨io, F, Γ, A, p⟩ => tX.thenI A p fun av v F1 H1 Γ1 g1 hv p1 => by
    obtain ⟨l, hl, p2⟩ := optL_ok p1
    obtain ⟨d, hd, hl⟩ := bind_some hl
    have r := frV_ok hv hd
    cases d with
    | tup m =>
      cases hl
      obtain ⟨a, xs, rfl, s1, r1, _⟩ := r
      refine ⟨a, rfl, ⟨xs, g1.at_.le.sqT s1⟩, p2 _ F1 H1 (.refl g1.at_) fun i F2 H2 l1 l2 => ?_⟩
      have s2 := (l1.trans l2).sqT s1
      refine ⟨fun d hd => ?_, fun hl => ⟨xs, s2, by rw [r1.length]; exact hl⟩⟩
      obtain ⟨x, hx, rx⟩ := r1.get hd
      refine ⟨⟨xs, x, s2, hx⟩, fun y H3 hy => ?_⟩
      obtain ⟨rfl, hy⟩ := hy
      have := hy xs s2
      rw [hx] at this
      cases this
      exact ⟨F2, .refl l2, rx.mono l1⟩
    | _ => cases hl
theorem q_iTxt (ha : PE X e (tX (ct X) W f)) : PI X tg e (tI (ct X) W (iTxt f)) :=
  PI.imp (pi_str ha) fun σ H Q ⟨io, F, Γ, A, p⟩ => tX.thenI A p fun av v F1 H1 Γ1 g1 hv p1 => by
    obtain ⟨l, hl, p2⟩ := optL_ok p1
    obtain ⟨d, hd, hl⟩ := bind_some hl
    have r := frV_ok hv hd
    cases d with
    | str z =>
      cases hl
      have r : v = .str z := r
      refine ⟨z, r, p2 _ F1 H1 (.refl g1.at_) fun i F2 H2 l1 l2 => ?_⟩
      refine ⟨fun d hd => ?_, fun hl => ?_⟩
      · rw [List.getElem?_map] at hd
        obtain ⟨c, hc, rfl⟩ := Option.map_eq_some_iff.mp hd
        have hi : i < z.cps.size := by
          have := (List.getElem?_eq_some_iff.mp hc).1
          simpa using this
        refine ⟨hi, fun y H3 hy => ?_⟩
        obtain ⟨rfl, c', hc', rfl⟩ := hy
        have e : z.cps[i]? = some c := by simpa using hc
        rw [e] at hc'
        cases hc'
        exact ⟨F2, .refl l2, rfl⟩
      · show z.cps.size ≤ i
        simpa using hl
    | _ => cases hl
theorem rgD_get {lo : Int} {n i : Nat} {d : D} (h : (rgD lo n)[i]? = some d) : i < n ∧ d = .int (lo + (i : Nat)) := by
  unfold rgD at h
  rw [List.getElem?_map] at h
  obtain ⟨k, hk, rfl⟩ := Option.map_eq_some_iff.mp h
  have := List.getElem?_eq_some_iff.mp hk
  obtain ⟨h1, h2⟩ := this
  rw [List.getElem_range] at h2
  rw [List.length_range] at h1
  rw [← h2]
  exact ⟨h1, rfl⟩
theorem itOk_rng {C : Ct} {F : Hp} (lo : Int) (n : Nat) : ItOk C F (Itr lo n) (rgD lo n) := fun i F1 H1 l1 l2 => by
  refine ⟨fun d hd => ?_, fun hl => ?_⟩
  · obtain ⟨h1, rfl⟩ := rgD_get hd
    refine ⟨h1, fun y H2 hy => ?_⟩
    obtain ⟨rfl, rfl⟩ := hy
    exact ⟨F1, .refl l2, rfl⟩
  · unfold rgD at hl
    rw [List.length_map, List.length_range] at hl
    exact hl
theorem q_iRng1 (hm : X.mg "range" = none) (ha : PA X [e] (tA (ct X) W fs)) (hg : Gl X "range" := by rfl) (hs : starEach [e] X.env = [(false, eval e X.env)] := by rfl) : PI X tg (.Call (.Name "range" p) [e] [] pos) (tI (ct X) W (Bx.iRng1 fs)) :=
  PI.imp (pi_range1 hg hm ha hs) fun σ H Q ⟨io, F, Γ, A, p⟩ => tA.thenI A p fun avs vs F1 H1 Γ1 g1 hv p1 => by
    obtain ⟨l, hl, p2⟩ := optL_ok p1
    obtain ⟨d, hd, hl⟩ := bind_some hl
    have r := ds_ok hv hd
    unfold rngD1 at hl
    split at hl
    · rename_i j
      split at hl
      · rename_i hj
        cases hl
        obtain ⟨x, w, rfl, rx, rw'⟩ := r
        have rx : x = .int j := rx
        have rw' : w = [] := rw'
        subst rx
        subst rw'
        exact ⟨j, rfl, (inW_ok hj).1, (inW_ok hj).2, p2 _ F1 H1 (.refl g1.at_) (itOk_rng 0 _)⟩
      · cases hl
    · cases hl
theorem zip_get {l m : List D} {i : Nat} {d : D} (h : (List.zipWith (fun a b => D.tup [a, b]) l m)[i]? = some d) : ∃ a b, l[i]? = some a ∧ m[i]? = some b ∧ d = .tup [a, b] := by
  rw [List.getElem?_zipWith] at h
  cases h1 : l[i]? with
  | none => rw [h1] at h; cases h
  | some a =>
    cases h2 : m[i]? with
    | none => rw [h1, h2] at h; cases h
    | some b => rw [h1, h2] at h; cases h; exact ⟨a, b, rfl, rfl, rfl⟩
theorem two_line : (2 : Nat) ≤ sizeLine := by rw [sizeLine_eq]; decide
theorem q_iZp {elts : List Expr} {kk : Nat} {tpos : Pos} (hm : X.mg "zip" = none) (ha : PA X [e, e2] (tA (ct X) W fs)) (hg : Gl X "zip" := by rfl) (hs : starEach [e, e2] X.env = (false, eval e X.env) :: starEach [e2] X.env := by rfl) (hpl : (backTo pos (starEach [e2] X.env)).any (·.1) = false := by rfl) :
    PI X (.Tuple elts kk tpos) (.Call (.Name "zip" p) [e, e2] [] pos) (tI (ct X) W (iZp fs)) :=
  PI.imp (RZ.pi_zipA hg hm ha hs hpl) fun σ H Q ⟨io, F, Γ, A, p⟩ => tA.thenI A p fun avs vs F1 H1 Γ1 g1 hv p1 => by
    obtain ⟨l, hl, p2⟩ := optL_ok p1
    obtain ⟨d, hd, hl⟩ := bind_some hl
    have r := ds_ok hv hd
    unfold zipD at hl
    split at hl
    · rename_i ls ms
      cases hl
      obtain ⟨x, w, rfl, rx, y, w2, rfl, ry, rw'⟩ := r
      have rw' : w2 = [] := rw'
      subst rw'
      obtain ⟨a, xs, rfl, s1, r1, _⟩ := rx
      obtain ⟨b, ys, rfl, s2, r2, _⟩ := ry
      refine ⟨a, b, xs, ys, rfl, .inl ⟨.of (g1.at_.le _ _ s1), .of (g1.at_.le _ _ s2), p2 _ F1 H1 (.refl g1.at_) fun i F2 H2 l1 l2 => ?_⟩⟩
      have t1 : SqL X.K H2 a xs := .of (l2 _ _ (l1 _ _ s1))
      have t2 : SqL X.K H2 b ys := .of (l2 _ _ (l1 _ _ s2))
      refine ⟨fun d hd => ?_, fun hl => ⟨xs, ys, t1, t2, ?_⟩⟩
      · obtain ⟨da, db, ha, hb, rfl⟩ := zip_get hd
        obtain ⟨va, hva, ra⟩ := r1.get ha
        obtain ⟨vb, hvb, rb⟩ := r2.get hb
        refine ⟨⟨xs, ys, va, vb, t1, t2, hva, hvb⟩, fun z H3 hy => ?_⟩
        obtain ⟨T, x1, y1, rfl, hT, rfl, f1, f2⟩ := hy
        have q1 := f1 xs t1
        have q2 := f2 ys t2
        rw [hva] at q1
        rw [hvb] at q2
        cases q1
        cases q2
        exact ⟨_, Ext.tup l2 hT (.cons (ra.mono l1) (.one (rb.mono l1))) two_line⟩
      · rw [List.length_zipWith] at hl
        rw [r1.length, r2.length]
        omega
    · rename_i ls ms
      cases hl
      obtain ⟨x, w, rfl, rx, y, w2, rfl, ry, rw'⟩ := r
      have rw' : w2 = [] := rw'
      subst rw'
      obtain ⟨a, xs, rfl, s1, r1, _⟩ := rx
      obtain ⟨b, ys, rfl, s2, r2, _⟩ := ry
      refine ⟨a, b, xs, ys, rfl, .inr ⟨g1.at_.le.sqT s1, g1.at_.le.sqT s2, p2 _ F1 H1 (.refl g1.at_) fun i F2 H2 l1 l2 => ?_⟩⟩
      have t1 : SqT X.K H2 a xs := (l1.trans l2).sqT s1
      have t2 : SqT X.K H2 b ys := (l1.trans l2).sqT s2
      refine ⟨fun d hd => ?_, fun hl => ⟨xs, ys, t1, t2, ?_⟩⟩
      · obtain ⟨da, db, ha, hb, rfl⟩ := zip_get hd
        obtain ⟨va, hva, ra⟩ := r1.get ha
        obtain ⟨vb, hvb, rb⟩ := r2.get hb
        refine ⟨⟨xs, ys, va, vb, t1, t2, hva, hvb⟩, fun z H3 hy => ?_⟩
        obtain ⟨T, x1, y1, rfl, hT, rfl, f1, f2⟩ := hy
        have q1 := f1 xs t1
        have q2 := f2 ys t2
        rw [hva] at q1
        rw [hvb] at q2
        cases q1
        cases q2
        exact ⟨_, Ext.tup l2 hT (.cons (ra.mono l1) (.one (rb.mono l1))) two_line⟩
      · rw [List.length_zipWith] at hl
        rw [r1.length, r2.length]
        omega
    · cases hl
theorem q_iEnm {elts : List Expr} {kk : Nat} {tpos : Pos} (hm : X.mg "enumerate" = none) (ha : PA X [e] (tA (ct X) W fs)) (hg : Gl X "enumerate" := by rfl) (hs : starEach [e] X.env = [(false, eval e X.env)] := by rfl) :
    PI X (.Tuple elts kk tpos) (.Call (.Name "enumerate" p) [e] [] pos) (tI (ct X) W (iEnm fs)) :=
  PI.imp (pi_enum hg hm ha hs) fun σ H Q ⟨io, F, Γ, A, p⟩ => tA.thenI A p fun avs vs F1 H1 Γ1 g1 hv p1 => by
    obtain ⟨l, hl, p2⟩ := optL_ok p1
    obtain ⟨d, hd, hl⟩ := bind_some hl
    have r := ds_ok hv hd
    unfold enumD at hl
    split at hl
    · rename_i ls
      cases hl
      obtain ⟨x, w, rfl, rx, rw'⟩ := r
      have rw' : w = [] := rw'
      subst rw'
      obtain ⟨a, xs, rfl, s1, r1, _⟩ := rx
      refine ⟨a, xs, rfl, .of (g1.at_.le _ _ s1), p2 _ F1 H1 (.refl g1.at_) fun i F2 H2 l1 l2 => ?_⟩
      have t1 : SqL X.K H2 a xs := .of (l2 _ _ (l1 _ _ s1))
      refine ⟨fun d hd => ?_, fun hl => ⟨xs, t1, ?_⟩⟩
      · rw [enumF_get] at hd
        obtain ⟨da, ha, rfl⟩ := Option.map_eq_some_iff.mp hd
        obtain ⟨va, hva, ra⟩ := r1.get ha
        refine ⟨⟨xs, va, t1, hva⟩, fun z H3 hy => ?_⟩
        obtain ⟨T, x1, rfl, hT, rfl, f1⟩ := hy
        have q1 := f1 xs t1
        rw [hva] at q1
        cases q1
        refine ⟨_, Ext.tup l2 hT (.cons ?_ (.one (ra.mono l1))) two_line⟩
        show V.int _ = V.int _
        rw [Nat.zero_add]
      · rw [enumF_len] at hl
        rw [r1.length]
        exact hl
    · cases hl
end
end Bx
end
end

section
set_option Elab.async false
set_option linter.all false
set_option maxRecDepth 100000
set_option maxHeartbeats 4000000
set_option autoImplicit false
noncomputable section
namespace Bx
open PySem PySem.Spec PyProof.Rows L2
def PU (C : Ct) (io : IO) (ts : List Nat) (σ : St) (F H : Hp) (Γ : Ev) (r : R Unit) (Q : St → Hp → Prop) : Prop :=
  match r with
  | .ok _ Γ' => ∀ σ' F' H', Go C io σ F H Γ σ' F' H' Γ' → (∀ i : Nat, i ∉ ts → σ'[i]? = σ[i]?) → Q σ' H'
  | _ => False
def tG (C : Ct) (ts : List Nat) (g : GS) : TG := fun v σ H Q => ∃ io F Γ d, At C io σ F H Γ ∧ Rep C F d v ∧ PU C io ts σ F H Γ (g d Γ) Q
def tGs (C : Ct) (ts : List Nat) (gs : List GS) : TGs := fun vs σ H Q => ∃ io F Γ l, At C io σ F H Γ ∧ Reps C F l vs ∧ PU C io ts σ F H Γ (gAll gs l Γ) Q
theorem PG.imp {X : Cx} {e : Expr} {t t' : TG} (h : PG X e t) (k : ∀ v σ H Q, t' v σ H Q → t v σ H Q) : PG X e t' := ⟨fun pins s σ H v u Q I r q => h.run pins s σ H v u Q I r (k v σ H Q q)⟩
theorem PGs.imp {X : Cx} {e : List Expr} {t t' : TGs} (h : PGs X e t) (k : ∀ v σ H Q, t' v σ H Q → t v σ H Q) : PGs X e t' := ⟨fun pins s σ H v u Q I r q => h.run pins s σ H v u Q I r (k v σ H Q q)⟩
section
variable {C : Ct} {io : IO} {W : XW} {σ σ' : St} {F F' H H' : Hp} {Γ Γ' : Ev}
theorem putS_ok {Q : St → Hp → Prop} {i : Nat} {d : D} {v : V} (A : At C io σ F H Γ) (r : Rep C F d v) (p : PU C io [i] σ F H Γ (putS d i Γ Γ[i]?) Q) : Q (σ.set i (some v)) H := by
  cases w : Γ[i]? with
  | none => rw [w] at p; exact p.elim
  | some sd =>
    rw [w] at p
    have p : PU C io [i] σ F H Γ (if sd.tag = none then R.ok () (Γ.set i (.fr d)) else .bad) Q := p
    split at p
    · exact p _ F H (Go.put A rfl fun _ => ⟨v, rfl, r⟩) fun j hj => List.getElem?_set_ne fun e => hj (by rw [e]; exact List.mem_cons_self)
    · exact p.elim
end
section
variable {X : Cx} {W : XW} {e : Expr} {es : List Expr} {pos : Pos}
theorem q_gVar (i : Nat) {x : Str} (hN : X.N.Nodup) (hi : X.N[i]? = some x := by rfl) (hx : Loc X.env.scope x := by first | exact Or.inl rfl | exact Or.inr rfl) (hf : X.fn x = true ∨ X.env.scope.names.lookup x = some .local := by first | exact .inl rfl | exact .inr rfl) : PG X (.Name x pos) (tG (ct X) [i] (gVar i)) :=
  PG.imp (pg_name hN hi hx hf) fun v σ H Q ⟨io, F, Γ, d, A, r, p⟩ => putS_ok A r p
theorem q_gNil : PGs X [] (tGs (ct X) [] []) := PGs.imp pgs_nil fun vs σ H Q ⟨io, F, Γ, l, A, r, p⟩ => by
  cases l with
  | nil =>
    have r : vs = [] := r
    exact ⟨r, p σ F H (.refl A) fun _ _ => rfl⟩
  | cons d l => exact p.elim
theorem q_gCons {g : GS} {gs : List GS} {t1 t2 : List Nat} (h1 : PG X e (tG (ct X) t1 g)) (h2 : PGs X es (tGs (ct X) t2 gs)) (hs : (assignEach (e :: es) X.env).map (·.2) = assign e X.env :: (assignEach es X.env).map (·.2) := by rfl) : PGs X (e :: es) (tGs (ct X) (t1 ++ t2) (g :: gs)) :=
  PGs.imp (pgs_cons h1 h2 hs) fun vs σ H Q ⟨io, F, Γ, l, A, r, p⟩ => by
    cases l with
    | nil => exact p.elim
    | cons d l =>
      obtain ⟨v, w, rfl, r1, r2⟩ := r
      have p : PU (ct X) io (t1 ++ t2) σ F H Γ ((g d Γ).bind fun _ Γ' => gAll gs l Γ') Q := p
      refine ⟨v, w, rfl, io, F, Γ, d, A, r1, ?_⟩
      cases w2 : g d Γ with
      | bad => rw [w2] at p; exact p
      | exc c Γ' => rw [w2] at p; exact p
      | ok u Γ1 =>
        rw [w2] at p
        refine fun σ1 F1 H1 g1 n1 => ⟨io, F1, Γ1, l, g1.at_, r2.mono g1.ff, ?_⟩
        have p : PU (ct X) io (t1 ++ t2) σ F H Γ (gAll gs l Γ1) Q := p
        cases w3 : gAll gs l Γ1 with
        | bad => rw [w3] at p; exact p
        | exc c Γ' => rw [w3] at p; exact p
        | ok u Γ2 =>
          rw [w3] at p
          exact fun σ2 F2 H2 g2 n2 => p σ2 F2 H2 (g1.trans g2) fun i hi => (n2 i fun q => hi (List.mem_append_right _ q)).trans (n1 i fun q => hi (List.mem_append_left _ q))
theorem gAll_len : ∀ {gs : List GS} {l : List D} {Γ Γ' : Ev}, gAll gs l Γ = .ok () Γ' → l.length = gs.length
  | [], [], _, _, _ => rfl
  | [], _ :: _, _, _, h => by cases h
  | _ :: _, [], _, _, h => by cases h
  | g :: gs, d :: ds, Γ, Γ', h => by
    have h : (g d Γ).bind (fun _ Γ' => gAll gs ds Γ') = .ok () Γ' := h
    cases w : g d Γ with
    | bad => rw [w] at h; cases h
    | exc c Γ' => rw [w] at h; cases h
    | ok u Γ1 =>
      rw [w] at h
      rw [List.length_cons, List.length_cons, gAll_len h]
theorem q_gTup {gs : List GS} {ts : List Nat} {k : Nat} (hc : X.calm = true) (h : PGs X es (tGs (ct X) ts gs)) (hn : (assignEach es X.env).length = gs.length := by rfl) (hst : (assignEach es X.env).findIdx? (·.1) = none := by rfl) : PG X (.Tuple es k pos) (tG (ct X) ts (gTup gs)) :=
  PG.imp (pg_tup hc h hn hst) fun v σ H Q ⟨io, F, Γ, d, A, r, p⟩ => by
    cases d with
    | tup l =>
      obtain ⟨a, xs, e, s, r1, z⟩ := r
      have p : PU (ct X) io ts σ F H Γ (gAll gs l Γ) Q := p
      refine ⟨a, xs, e, A.le.sqT s, ?_, io, F, Γ, l, A, r1, p⟩
      rw [r1.length]
      cases w : gAll gs l Γ with
      | bad => rw [w] at p; exact p.elim
      | exc c Γ' => rw [w] at p; exact p.elim
      | ok u Γ1 => exact gAll_len w
    | _ => exact p.elim
end
section
variable {C : Ct} {io : IO} {W : XW} {σ σ' : St} {F F' H H' : Hp} {Γ Γ' : Ev}
theorem Go.forget (A : At C io σ F H Γ) : ∀ vs : List Nat, Go C io σ F H Γ (wipe σ vs) F H (Bx.forget vs Γ)
  | [] => .refl A
  | i :: r => (Go.forget A r).trans (Go.put (Go.forget A r).at_ (sd := .no) rfl fun _ => trivial)
theorem forget_get : ∀ {vs : List Nat} {Γ : Ev} {i : Nat}, i ∉ vs → (forget vs Γ)[i]? = Γ[i]?
  | [], _, _, _ => rfl
  | j :: r, Γ, i, h => by
    show ((forget r Γ).set j SD.no)[i]? = _
    rw [List.getElem?_set_ne (fun e => h (by rw [e]; exact List.mem_cons_self)), forget_get fun q => h (List.mem_cons_of_mem _ q)]
theorem restore_len : ∀ (vs : List Nat) (Γ0 Γ : Ev), (restore Γ0 vs Γ).length = Γ.length
  | [], _, _ => rfl
  | i :: r, Γ0, Γ => by
    unfold restore
    split
    · rw [List.length_set, restore_len r]
    · exact restore_len r _ _
theorem restore_out : ∀ {vs : List Nat} {Γ0 Γ : Ev} {i : Nat}, i ∉ vs → (restore Γ0 vs Γ)[i]? = Γ[i]?
  | [], _, _, _, _ => rfl
  | j :: r, Γ0, Γ, i, h => by
    have h2 := restore_out (vs := r) (Γ0 := Γ0) (Γ := Γ) (i := i) fun q => h (List.mem_cons_of_mem _ q)
    unfold restore
    split
    · rw [List.getElem?_set_ne (fun e => h (by rw [e]; exact List.mem_cons_self)), h2]
    · exact h2
theorem restore_in : ∀ {vs : List Nat} {Γ0 Γ : Ev} {i : Nat}, i ∈ vs → Γ0.length = Γ.length → (restore Γ0 vs Γ)[i]? = Γ0[i]?
  | [], _, _, _, h, _ => by cases h
  | j :: r, Γ0, Γ, i, h, hl => by
    unfold restore
    by_cases e : j = i
    · subst e
      cases w : Γ0[j]? with
      | none =>
        have h3 : Γ0.length ≤ j := List.getElem?_eq_none_iff.mp w
        show (restore Γ0 r Γ)[j]? = none
        exact List.getElem?_eq_none_iff.mpr (by rw [restore_len, ← hl]; exact h3)
      | some sd =>
        have h3 := (List.getElem?_eq_some_iff.mp w).1
        show ((restore Γ0 r Γ).set j sd)[j]? = some sd
        exact List.getElem?_set_self (by rw [restore_len, ← hl]; exact h3)
    · have hr : i ∈ r := by
        rcases List.mem_cons.mp h with q | q
        · exact absurd q.symm e
        · exact q
      have h2 := restore_in hr hl (Γ := Γ)
      split
      · rw [List.getElem?_set_ne e, h2]
      · exact h2
theorem noOwn_ok : ∀ {vs : List Nat} {Γ : Ev}, noOwn Γ vs = true → ∀ i ∈ vs, ∀ sd, Γ[i]? = some sd → sd.own = false
  | [], _, _, i, h, _, _ => by cases h
  | j :: r, Γ, hn, i, h, sd, e => by
    have hn : (ownN Γ[j]? && noOwn Γ r) = true := hn
    rw [Bool.and_eq_true] at hn
    rcases List.mem_cons.mp h with q | q
    · subst q
      have h1 := hn.1
      rw [e] at h1
      have h1 : (!sd.own) = true := h1
      cases w : sd.own with
      | false => rfl
      | true => rw [w] at h1; cases h1
    · exact noOwn_ok hn.2 i q sd e
theorem OwnAt.restore {vs : List Nat} (hl : Γ.length = Γ'.length) (hn : noOwn Γ vs = true) {i : Nat} {a : Addr} (h : OwnAt H (Bx.restore Γ vs Γ') σ i a) : i ∉ vs ∧ OwnAt H Γ' (wipe σ vs) i a := by
  obtain ⟨sd, e1, e2, v, e3, e4⟩ := h
  by_cases hi : i ∈ vs
  · rw [restore_in hi hl] at e1
    rw [noOwn_ok hn i hi sd e1] at e2
    cases e2
  · rw [restore_out hi] at e1
    exact ⟨hi, sd, e1, e2, v, by rw [wipe_out hi]; exact e3, e4⟩
theorem Go.restore {vs : List Nat} (A : At C io σ F H Γ) (hn : noOwn Γ vs = true) (g : Go C io (wipe σ vs) F H (Bx.forget vs Γ) (wipe σ vs) F' H' Γ') : Go C io σ F H Γ σ F' H' (Bx.restore Γ vs Γ') := by
  have hl : Γ.length = Γ'.length := by
    rw [A.len, g.at_.len, wipe_length]
  have o1 : ∀ {i a}, OwnAt H' (Bx.restore Γ vs Γ') σ i a → i ∉ vs ∧ OwnAt H' Γ' (wipe σ vs) i a := by
    rintro i a ⟨sd, e1, e2, v, e3, e4⟩
    by_cases hi : i ∈ vs
    · rw [restore_in hi hl] at e1
      rw [noOwn_ok hn i hi sd e1] at e2
      cases e2
    · rw [restore_out hi] at e1
      exact ⟨hi, sd, e1, e2, v, by rw [wipe_out hi]; exact e3, e4⟩
  have o2 : ∀ {i a}, OwnAt H (Bx.forget vs Γ) (wipe σ vs) i a → OwnAt H Γ σ i a := by
    rintro i a ⟨sd, e1, e2, v, e3, e4⟩
    have hi : i ∉ vs := fun hi => (wipe_some e3).2 hi
    rw [forget_get hi] at e1
    exact ⟨sd, e1, e2, v, (wipe_some e3).1, e4⟩
  have o3 : ∀ {i a}, OwnAt H Γ σ i a → OwnAt H (Bx.forget vs Γ) (wipe σ vs) i a := by
    rintro i a ⟨sd, e1, e2, v, e3, e4⟩
    have hi : i ∉ vs := fun hi => by
      rw [noOwn_ok hn i hi sd e1] at e2
      cases e2
    exact ⟨sd, by rw [forget_get hi]; exact e1, e2, v, by rw [wipe_out hi]; exact e3, e4⟩
  refine ⟨g.ff, fun b o h n => g.keep b o h fun ⟨i, q⟩ => n ⟨i, o2 q⟩, g.live, fun b h q => ?_, fun b ⟨i, q⟩ => ?_, rfl, ⟨g.at_.le, g.at_.pin, by rw [restore_len, ← hl]; exact A.len, fun i sd e => ?_, fun i j a h1 h2 => g.at_.ne i j a (o1 h1).2 (o1 h2).2⟩⟩
  · rcases g.new b h q with z | ⟨i, z⟩
    · exact .inl z
    · exact .inr ⟨i, o2 z⟩
  · rcases g.own b ⟨i, (o1 q).2⟩ with ⟨j, z⟩ | z
    · exact .inl ⟨j, o2 z⟩
    · exact .inr z
  · by_cases hi : i ∈ vs
    · rw [restore_in hi hl] at e
      have q := A.slot i sd e
      have hs := noOwn_ok hn i hi sd e
      cases sd with
      | no => trivial
      | fr d => obtain ⟨v, e1, r⟩ := q; exact ⟨v, e1, r.mono g.ff⟩
      | fu d => obtain ⟨v, e1, r⟩ := q; exact ⟨v, e1, RepN.mono g.ff r⟩
      | fx x => obtain ⟨v, e1, r⟩ := q; exact ⟨v, e1, FXOk.mono g.ff r⟩
      | _ => cases hs
    · rw [restore_out hi] at e
      have q := g.at_.slot i sd e
      rw [wipe_out hi] at q
      exact q
end
section
variable {C : Ct} {io : IO} {W : XW} {σ σ' : St} {F F' H H' : Hp} {Γ Γ' : Ev}
theorem Go.other (g : Go C io σ F H Γ σ' F' H' Γ') {p : Addr} (h0 : H p = none) (hf : F' p = none) (no : ¬ OwnA H' Γ' σ' p) (o : HO) : Go C io σ F H Γ σ' F' (L2.upd H' p o) Γ' where
  ff := g.ff
  keep := fun b u h n => by
    rw [upd_ne (ne_of_none h h0)]
    exact g.keep b u h n
  live := fun b h => by
    by_cases e : b = p
    · rw [e, upd_same]; simp
    · rw [upd_ne e]; exact g.live b h
  new := g.new
  own := fun b h => g.own b ((g.at_.heldA fun c hc => upd_ne fun z => no (by rw [← z]; exact hc)).mp h)
  ln := g.ln
  at_ := by
    have ag : ∀ c, OwnA H' Γ' σ' c → L2.upd H' p o c = H' c := fun c hc => upd_ne fun z => no (by rw [← z]; exact hc)
    refine ⟨fun a u h => ?_, g.at_.pin, g.at_.len, fun i sd e => ?_, fun i j a h1 h2 => g.at_.ne i j a ((g.at_.heldH ag).mp h1) ((g.at_.heldH ag).mp h2)⟩
    · rw [upd_ne (ne_of_none h hf)]; exact g.at_.le a u h
    · have q := g.at_.slot i sd e
      have own : ∀ {sd : SD}, Γ'[i]? = some sd → sd.smp = true → (∃ a, σ'[i]? = some (some (V.ref a)) ∧ F' a = none ∧ OwnOk C F' H' a sd ∧ ∀ k, sd.tag = some k → io.adr k = some a) → (∃ a, σ'[i]? = some (some (V.ref a)) ∧ F' a = none ∧ OwnOk C F' (L2.upd H' p o) a sd ∧ ∀ k, sd.tag = some k → io.adr k = some a) := by
        rintro sd es so ⟨a, e1, e2, e3, e4⟩
        have hne : a ≠ p := fun z => no ⟨i, OwnAt.of es so (by rw [← z]; exact e1)⟩
        exact ⟨a, e1, e2, e3.heap (upd_ne hne), e4⟩
      cases sd with
      | no => trivial
      | fr d => exact q
      | fu d => exact q
      | fx x => exact q
      | ob t x => exact g.at_.obUp e (le.refl _) (fun b hb => (g.at_.ownAt_none hb).1) fun b hb => ag b ⟨i, hb⟩
      | ow t l => exact own e rfl q
      | od t l => exact own e rfl q
      | ot t l => exact own e rfl q
theorem wipe_in : ∀ {vs : List Nat} {i : Nat} {σ : St}, i ∈ vs → i < σ.length → (wipe σ vs)[i]? = some none
  | [], _, _, h, _ => by cases h
  | j :: r, i, σ, h, hl => by
    show ((wipe σ r).set j none)[i]? = some none
    by_cases e : j = i
    · subst e
      exact List.getElem?_set_self (by rw [wipe_length]; exact hl)
    · rw [List.getElem?_set_ne e]
      rcases List.mem_cons.mp h with q | q
      · exact absurd q.symm e
      · exact wipe_in q hl
theorem wipe_eq {vs ts : List Nat} {σ σ2 : St} (hl : σ2.length = σ.length) (hs : ∀ i ∈ ts, i ∈ vs) (h : ∀ i : Nat, i ∉ ts → σ2[i]? = (wipe σ vs)[i]?) : wipe σ2 vs = wipe σ vs := by
  apply List.ext_getElem?
  intro i
  by_cases hi : i ∈ vs
  · by_cases hlt : i < σ.length
    · rw [wipe_in hi hlt, wipe_in hi (by rw [hl]; exact hlt)]
    · rw [List.getElem?_eq_none_iff.mpr (by rw [wipe_length]; omega), List.getElem?_eq_none_iff.mpr (by rw [wipe_length]; omega)]
  · rw [wipe_out hi, h i fun q => hi (hs i q)]
end
abbrev W0 : XW := fun _ _ _ => False
section
variable {X : Cx} {W : XW}
theorem q_yes : PTs X [] (tB (ct X) W sYes) :=
  ⟨fun pins s σ H Q I ⟨io, F, Γ, A, p⟩ => pts_nil.run pins s σ H Q I (PB.val A p)⟩
theorem q_one1 {c : Expr} {f : SB} (h : PT X c (tB (ct X) W f)) : PTs X [c] (tB (ct X) W f) := pts_one h
theorem nox_bind {α β : Type} {r : R α} {k : α → Ev → R β} : nox (r.bind k) = match r with
    | .ok a Γ => nox (k a Γ)
    | _ => .bad := by cases r <;> rfl
theorem lc_read {C : Ct} {W : XW} {src : SI} {vs ts : List Nat} {g : GS} {test : SB} {elt : SE} (hts : ∀ i ∈ ts, i ∈ vs) {σ : St} {H : Hp} {Q : VK} (h : tX C W (sLc src vs g test elt) σ H Q) : tLc (tI C W src) (tG C ts g) (tB C W0 test) (tX C W0 elt) vs σ H Q := by
  obtain ⟨io, F, Γ, A, p⟩ := h
  unfold tLc tI
  refine ⟨io, F, Γ, A, ?_⟩
  unfold sLc at p
  cases w : src Γ with
  | bad => rw [w] at p; exact p
  | exc c Γ' => rw [w] at p; exact p
  | ok l Γ1 =>
    rw [w] at p
    intro J F1 H1 g1 hJ Dd hD
    have p : PX C io W σ F H Γ (if noOwn Γ1 vs = true ∧ l.length ≤ sizeLine then (lcF (lcTurn vs g test elt) l [] (forget vs Γ1)).bind fun r Γ' => .ok (.n r) (restore Γ1 vs Γ') else .bad) Q := p
    split at p
    case isFalse => exact p.elim
    rename_i hn
    obtain ⟨hn, hz⟩ := hn
    have p := PX.go g1 p
    have A1 := g1.at_
    have B1 := (Go.forget A1 vs).at_
    refine ⟨fun i m H2 => m = l.length - i ∧ i ≤ l.length ∧ ∃ (acc : List D) (xs : List V) (F2 : Hp) (Γ2 : Ev), Go C io (wipe σ vs) F1 H1 (forget vs Γ1) (wipe σ vs) F2 H2 Γ2 ∧ F2 Dd = none ∧ ¬ OwnA H2 Γ2 (wipe σ vs) Dd ∧ H2 Dd = some (.lst xs) ∧ Reps C F2 acc xs ∧ acc.length ≤ i ∧
        PX C io W σ F1 H1 Γ1 ((lcF (lcTurn vs g test elt) (l.drop i) acc Γ2).bind fun r Γ' => R.ok (AV.n r) (restore Γ1 vs Γ')) Q, ?_, ?_⟩
    · exact ⟨l.length, rfl, Nat.zero_le _, [], [], F1, forget vs Γ1, (Go.upd B1 hD (.lst [])), A1.fnone hD, (fun q => B1.notOwn hD ((B1.updOwn hD).mp q)), upd_same, .nil, Nat.le_refl _, p⟩
    · rintro i m H2 ⟨rfl, hi, acc, xs, F2, Γ2, g2, hDF, hDo, hDH, hacc, hal, p2⟩
      have A2 := g2.at_
      have hJ2 := hJ i F2 H2 g2.ff A2.le
      by_cases hlt : i < l.length
      · obtain ⟨hgo, hyld⟩ := hJ2.1 _ (List.getElem?_eq_getElem hlt)
        refine .inr ⟨hgo, _, fun H' h => ⟨l.length - (i + 1), by omega, h⟩, fun x H3 hy => ?_⟩
        obtain ⟨F3, ext, hx⟩ := hyld x H3 hy
        have A3 := A2.ext ext
        have hDo' : ¬ OwnA H3 Γ2 (wipe σ vs) Dd := fun q => hDo ((A2.heldLeA ext.hh).mp q)
        have g3 := g2.trans (Go.ext A2 ext)
        have drop_eq : l.drop i = l[i] :: l.drop (i + 1) := List.drop_eq_getElem_cons hlt
        have p3 : PX C io W σ F1 H1 Γ1 (((lcTurn vs g test elt l[i] Γ2).bind fun o Γ' => lcF (lcTurn vs g test elt) (l.drop (i + 1)) (match o with | some y => acc ++ [y] | none => acc) Γ').bind fun r Γ' => .ok (.n r) (restore Γ1 vs Γ')) Q := by
          rw [drop_eq] at p2
          exact p2
        have hDH3 : H3 Dd = some (.lst xs) := ext.hh _ _ hDH
        have hDF3 : F3 Dd = none := by
          cases w3 : F3 Dd with
          | none => rfl
          | some o =>
            have q := ext.new Dd hDF (by rw [w3]; simp)
            rw [hDH] at q; cases q
        unfold lcTurn at p3
        rw [nox_bind] at p3
        refine ⟨io, F3, Γ2, l[i], A3, hx, ?_⟩
        cases wg : g l[i] Γ2 with
        | bad => rw [wg] at p3; exact p3
        | exc c Γ' => rw [wg] at p3; exact p3
        | ok u Γ3 =>
          rw [wg] at p3
          intro σ4 F4 H4 g4 n4
          have hl4 : σ4.length = σ.length := by
            have e1 := g4.ln
            rw [wipe_length] at e1
            exact e1
          have hw : wipe σ4 vs = wipe σ vs := wipe_eq hl4 hts n4
          have g34 := g3.trans g4
          have hDo3 : ¬ OwnA H4 Γ3 σ4 Dd := fun q => by
            rcases g4.own Dd q with z | z
            · exact hDo' z
            · rw [hDH3] at z; cases z
          have hDH4 : H4 Dd = some (.lst xs) := g4.keep Dd _ hDH3 hDo'
          have hDF4 : F4 Dd = none := by
            cases w4 : F4 Dd with
            | none => rfl
            | some o =>
              rcases g4.new Dd hDF3 (by rw [w4]; simp) with z | z
              · rw [hDH3] at z; cases z
              · exact absurd z hDo'
          refine ⟨hw, io, F4, Γ3, g4.at_, ?_⟩
          have p4 : PX C io W σ F1 H1 Γ1 (((nox ((test Γ3).bind fun b Γ3 => if b = true then (elt Γ3).bind (lcEnd vs) else .ok none (forget vs Γ3))).bind fun o Γ' => lcF (lcTurn vs g test elt) (l.drop (i + 1)) (match o with | some y => acc ++ [y] | none => acc) Γ').bind fun r Γ' => .ok (.n r) (restore Γ1 vs Γ')) Q := p3
          rw [nox_bind] at p4
          cases wt : test Γ3 with
          | bad => rw [wt] at p4; exact p4
          | exc c Γ' => rw [wt] at p4; exact p4.elim
          | ok b Γ4 =>
            rw [wt] at p4
            intro F5 H5 g5
            have hDo4 : ¬ OwnA H5 Γ4 σ4 Dd := fun q => by
              rcases g5.own Dd q with z | z
              · exact hDo3 z
              · rw [hDH4] at z; cases z
            have hDH5 : H5 Dd = some (.lst xs) := g5.keep Dd _ hDH4 hDo3
            have hDF5 : F5 Dd = none := by
              cases w5 : F5 Dd with
              | none => rfl
              | some o =>
                rcases g5.new Dd hDF4 (by rw [w5]; simp) with z | z
                · rw [hDH4] at z; cases z
                · exact absurd z hDo3
            cases b with
            | false =>
              refine iteF ?_
              refine ⟨rfl, hlt, acc, xs, F5, forget vs Γ4, ?_, hDF5, ?_, hDH5, (hacc.mono ext.ff).mono (g4.ff.trans g5.ff), by omega, p4⟩
              · have q := (g34.trans g5).trans (Go.forget g5.at_ vs)
                rw [hw] at q
                exact q
              · intro q
                rw [← hw] at q
                rcases (Go.forget g5.at_ vs).own Dd q with z | z
                · exact hDo4 z
                · rw [hDH5] at z; cases z
            | true =>
              refine iteT ⟨io, F5, Γ4, g5.at_, ?_⟩
              have p5 : PX C io W σ F1 H1 Γ1 (((nox ((elt Γ4).bind (lcEnd vs))).bind fun o Γ' => lcF (lcTurn vs g test elt) (l.drop (i + 1)) (match o with | some y => acc ++ [y] | none => acc) Γ').bind fun r Γ' => .ok (.n r) (restore Γ1 vs Γ')) Q := p4
              rw [nox_bind] at p5
              cases we : elt Γ4 with
              | bad => rw [we] at p5; exact p5
              | exc c Γ' => rw [we] at p5; exact p5.elim
              | ok av Γ5 =>
                rw [we] at p5
                intro v F6 H6 g6 hv
                have p6 : PX C io W σ F1 H1 Γ1 (((nox (lcEnd vs av Γ5)).bind fun o Γ' => lcF (lcTurn vs g test elt) (l.drop (i + 1)) (match o with | some y => acc ++ [y] | none => acc) Γ').bind fun r Γ' => .ok (.n r) (restore Γ1 vs Γ')) Q := p5
                cases wy : frV av with
                | none =>
                  unfold lcEnd at p6
                  rw [wy] at p6
                  exact p6.elim
                | some y =>
                  unfold lcEnd at p6
                  rw [wy] at p6
                  have ry := frV_ok hv wy
                  have hDo5 : ¬ OwnA H6 Γ5 σ4 Dd := fun q => by
                    rcases g6.own Dd q with z | z
                    · exact hDo4 z
                    · rw [hDH5] at z; cases z
                  have hDH6 : H6 Dd = some (.lst xs) := g6.keep Dd _ hDH5 hDo4
                  have hDF6 : F6 Dd = none := by
                    cases w6 : F6 Dd with
                    | none => rfl
                    | some o =>
                      rcases g6.new Dd hDF5 (by rw [w6]; simp) with z | z
                      · rw [hDH5] at z; cases z
                      · exact absurd z hDo4
                  have A6 := (Go.forget g6.at_ vs).at_
                  rw [hw] at A6
                  have no6 : ¬ OwnA H6 (forget vs Γ5) (wipe σ vs) Dd := fun z => by
                    rw [← hw] at z
                    rcases (Go.forget g6.at_ vs).own Dd z with z | z
                    · exact hDo5 z
                    · rw [hDH6] at z; cases z
                  have r6 : Reps C F6 acc xs := (hacc.mono ext.ff).mono (g4.ff.trans (g5.ff.trans g6.ff))
                  refine ⟨xs, hDH6, by rw [r6.length]; omega, rfl, hlt, acc ++ [y], xs ++ [v], F6, forget vs Γ5, ?_, hDF6, ?_, upd_same, r6.append (.one ry), by rw [List.length_append, List.length_singleton]; omega, p6⟩
                  · have q := ((g34.trans g5).trans g6).trans (Go.forget g6.at_ vs)
                    rw [hw] at q
                    exact q.other hD hDF6 no6 _
                  · exact fun z => no6 ((A6.heldA fun c hc => upd_ne fun e => no6 (by rw [← e]; exact hc)).mp z)
      · refine .inl ⟨hJ2.2 (by omega), ?_⟩
        have hi' : i = l.length := by omega
        rw [hi', List.drop_length] at p2
        have p2 : PX C io W σ F1 H1 Γ1 (.ok (.n acc) (restore Γ1 vs Γ2)) Q := p2
        have g5 := Go.restore A1 hn g2
        refine p2 (.ref Dd) F2 H2 g5 ⟨Dd, xs, rfl, .inl hD, hDF, fun ⟨j, q⟩ => hDo ⟨j, (OwnAt.restore ?_ hn q).2⟩, hDH, hacc, by omega⟩
        rw [A1.len, g2.at_.len, wipe_length]
end
end Bx
end
end

section
set_option Elab.async false
set_option linter.all false
set_option maxRecDepth 100000
set_option maxHeartbeats 4000000
set_option autoImplicit false
noncomputable section
namespace Bx
open PySem PySem.Spec PyProof.Rows L2
structure Gs (C : Ct) (io : IO) (σ : St) (F H : Hp) (Γ : Ev) (σ' : St) (F' H' : Hp) (Γ' : Ev) : Prop where
  keep : ∀ b o, H b = some o → ¬ OwnA H Γ σ b → (F b = none ∨ io.pin b ≠ none) → H' b = some o
  live : ∀ b, H b ≠ none → H' b ≠ none
  new : ∀ b, F b = none → F' b ≠ none → H b = none ∨ OwnA H Γ σ b
  own : ∀ b, OwnA H' Γ' σ' b → OwnA H Γ σ b ∨ H b = none
  ln : σ'.length = σ.length
  at_ : At C io σ' F' H' Γ'
section
variable {C : Ct} {io : IO} {σ σ' σ2 : St} {F F' F2 H H' H2 : Hp} {Γ Γ' Γ2 : Ev}
theorem Go.gs (g : Go C io σ F H Γ σ' F' H' Γ') : Gs C io σ F H Γ σ' F' H' Γ' := ⟨fun b o h n _ => g.keep b o h n, g.live, g.new, g.own, g.ln, g.at_⟩
theorem Gs.refl (A : At C io σ F H Γ) : Gs C io σ F H Γ σ F H Γ := (Go.refl A).gs
theorem Gs.trans (a : Gs C io σ F H Γ σ' F' H' Γ') (b : Gs C io σ' F' H' Γ' σ2 F2 H2 Γ2) : Gs C io σ F H Γ σ2 F2 H2 Γ2 where
  keep := fun c o h n p => by
    refine b.keep c o (a.keep c o h n p) (fun q => ?_) ?_
    · rcases a.own c q with q | q
      · exact n q
      · rw [h] at q; cases q
    · rcases p with p | p
      · refine .inl ?_
        cases w : F' c with
        | none => rfl
        | some u =>
          rcases a.new c p (by rw [w]; simp) with z | z
          · rw [h] at z; cases z
          · exact absurd z n
      · exact .inr p
  live := fun c h => b.live c (a.live c h)
  new := fun c h q => by
    by_cases e : F' c = none
    · rcases b.new c e q with z | z
      · refine .inl ?_
        cases w : H c with
        | none => rfl
        | some o => exact absurd z (a.live c (by rw [w]; simp))
      · rcases a.own c z with z | z
        · exact .inr z
        · exact .inl z
    · exact a.new c h e
  own := fun c h => by
    rcases b.own c h with q | q
    · exact a.own c q
    · refine .inr ?_
      cases w : H c with
      | none => rfl
      | some o => exact absurd q (a.live c (by rw [w]; simp))
  ln := b.ln.trans a.ln
  at_ := b.at_
theorem Gs.back (g : Gs C io σ F H Γ σ' F' H' Γ') {b : Addr} (h : H' b = none) : H b = none := by
  cases w : H b with
  | none => rfl
  | some o => exact absurd h (g.live b (by rw [w]; simp))
theorem Gs.newA (g : Gs C io σ F H Γ σ' F' H' Γ') {b : Addr} (h : NewA Γ' σ' H' b) : NewA Γ σ H b := by
  rcases h with h | h
  · exact .inl (g.back h)
  · rcases g.own b h with q | q
    · exact .inr q
    · exact .inl q
theorem At.new_pin (A : At C io σ F H Γ) {b : Addr} (h : NewA Γ σ H b) : io.pin b = none := by
  have f : F b = none := by
    rcases h with h | h
    · exact A.fnone h
    · exact (A.own_none h).1
  cases w : io.pin b with
  | none => rfl
  | some o => have q := A.pin _ _ w; rw [f] at q; cases q
end
def RtOk (C : Ct) (io : IO) (N0 : Addr → Prop) (F H : Hp) (Γ : Ev) (σ : St) (av : AV) (v : V) : Prop :=
  match av with
  | .u x => RepN C (fun b => io.pin b = none) F x v
  | av => AVOk C N0 F H Γ σ av v
theorem AVOk.rt {C : Ct} {io : IO} {σ σ' : St} {F F' H H' : Hp} {Γ Γ' : Ev} {av : AV} {v : V} (A : At C io σ F H Γ) (h : AVOk C (NewA Γ σ H) F' H' Γ' σ' av v) : RtOk C io (NewA Γ σ H) F' H' Γ' σ' av v := by
  cases av with
  | u x => exact RepN.weak (fun b q => A.new_pin q) h
  | d x => exact h
  | s i => exact h
  | n l => exact h
theorem RtOk.start {C : Ct} {io : IO} {N0 N1 : Addr → Prop} {σ : St} {F H : Hp} {Γ : Ev} {av : AV} {v : V} (k : ∀ b, N1 b → N0 b) (h : RtOk C io N1 F H Γ σ av v) : RtOk C io N0 F H Γ σ av v := by
  cases av with
  | u x => exact h
  | d x => exact h
  | s i => exact h
  | n l => obtain ⟨a, xs, e, h0, r⟩ := h; exact ⟨a, xs, e, k _ h0, r⟩
def PF (C : Ct) (io : IO) (W : XW) (σ : St) (F H : Hp) (Γ : Ev) (r : R Fl) (D : Ends) : Prop :=
  match r with
  | .ok .nx Γ' => ∀ σ' F' H', Gs C io σ F H Γ σ' F' H' Γ' → D.nx σ' H'
  | .ok .bk Γ' => ∀ σ' F' H', Gs C io σ F H Γ σ' F' H' Γ' → D.bk σ' H'
  | .ok .ct Γ' => ∀ σ' F' H', Gs C io σ F H Γ σ' F' H' Γ' → D.ct σ' H'
  | .ok (.rt av) Γ' => ∀ v σ' F' H', Gs C io σ F H Γ σ' F' H' Γ' → RtOk C io (NewA Γ σ H) F' H' Γ' σ' av v → D.rt v H'
  | .exc c Γ' => ∀ σ' F' H', Gs C io σ F H Γ σ' F' H' Γ' → W c σ' H'
  | .bad => False
def tS (C : Ct) (W : XW) (s : SS) : TS := fun D σ H => ∃ io F Γ, At C io σ F H Γ ∧ PF C io W σ F H Γ (s Γ) D
section
variable {C : Ct} {io : IO} {W : XW} {σ σ' : St} {F F' H H' : Hp} {Γ Γ' : Ev} {D D' : Ends}
theorem PF.gs (g : Gs C io σ F H Γ σ' F' H' Γ') {r : R Fl} (p : PF C io W σ F H Γ r D) : PF C io W σ' F' H' Γ' r D := by
  cases r with
  | ok f Γ2 =>
    cases f with
    | nx => exact fun σ2 F2 H2 g2 => p σ2 F2 H2 (g.trans g2)
    | bk => exact fun σ2 F2 H2 g2 => p σ2 F2 H2 (g.trans g2)
    | ct => exact fun σ2 F2 H2 g2 => p σ2 F2 H2 (g.trans g2)
    | rt av => exact fun v σ2 F2 H2 g2 h => p v σ2 F2 H2 (g.trans g2) (h.start fun b e => g.newA e)
  | exc c Γ2 => exact fun σ2 F2 H2 g2 => p σ2 F2 H2 (g.trans g2)
  | bad => exact p
theorem PF.go (g : Go C io σ F H Γ σ' F' H' Γ') {r : R Fl} (p : PF C io W σ F H Γ r D) : PF C io W σ' F' H' Γ' r D := PF.gs g.gs p
theorem tX.thenF {f : SE} {k : AV → Ev → R Fl} (A : At C io σ F H Γ) (p : PF C io W σ F H Γ ((f Γ).bind k) D) {Q' : VK}
    (h : ∀ av v F' H' Γ', Go C io σ F H Γ σ F' H' Γ' → AVOk C (NewA Γ σ H) F' H' Γ' σ av v → PF C io W σ F' H' Γ' (k av Γ') D → Q' v H') : tX C W f σ H Q' := by
  refine ⟨io, F, Γ, A, ?_⟩
  cases e : f Γ with
  | ok av Γ' =>
    rw [e] at p
    exact fun v F' H' g hv => h av v F' H' Γ' g hv (PF.go g p)
  | exc c Γ' => rw [e] at p; exact fun F' H' g => p σ F' H' g.gs
  | bad => rw [e] at p; exact p
theorem tB.thenF {f : SB} {k : Bool → Ev → R Fl} (A : At C io σ F H Γ) (p : PF C io W σ F H Γ ((f Γ).bind k) D) {Q' : Bool → Hp → Prop}
    (h : ∀ b F' H' Γ', Go C io σ F H Γ σ F' H' Γ' → PF C io W σ F' H' Γ' (k b Γ') D → Q' b H') : tB C W f σ H Q' := by
  refine ⟨io, F, Γ, A, ?_⟩
  cases e : f Γ with
  | ok av Γ' =>
    rw [e] at p
    exact fun F' H' g => h av F' H' Γ' g (PF.go g p)
  | exc c Γ' => rw [e] at p; exact fun F' H' g => p σ F' H' g.gs
  | bad => rw [e] at p; exact p
theorem tA.thenF {f : SA} {k : List AV → Ev → R Fl} (A : At C io σ F H Γ) (p : PF C io W σ F H Γ ((f Γ).bind k) D) {Q' : List V → Hp → Prop}
    (h : ∀ avs vs F' H' Γ', Go C io σ F H Γ σ F' H' Γ' → AVsOk C (NewA Γ σ H) F' H' Γ' σ avs vs → PF C io W σ F' H' Γ' (k avs Γ') D → Q' vs H') : tA C W f σ H Q' := by
  refine ⟨io, F, Γ, A, ?_⟩
  cases e : f Γ with
  | ok av Γ' =>
    rw [e] at p
    exact fun v F' H' g hv => h av v F' H' Γ' g hv (PF.go g p)
  | exc c Γ' => rw [e] at p; exact fun F' H' g => p σ F' H' g.gs
  | bad => rw [e] at p; exact p
theorem At.setOwn {i : Nat} {a : Addr} {t : Option Nat} {l m : List Bx.D} {ys : List V} (A : At C io σ F H Γ) (e : Γ[i]? = some (.ow t l)) (ea : σ[i]? = some (some (.ref a))) (r : Reps C F m ys) (z : m.length ≤ sizeLine) : Go C io σ F H Γ σ F (L2.upd H a (.lst ys)) (Γ.set i (.ow t m)) := by
  obtain ⟨a', xs, e1, e2, e3, e4, e5, e6⟩ := A.ow e
  rw [ea] at e1
  cases e1
  have hi := (List.getElem?_eq_some_iff.mp e).1
  have own : ∀ {j : Nat} {b : Addr}, OwnAt (L2.upd H a (.lst ys)) (Γ.set i (.ow t m)) σ j b → OwnAt H Γ σ j b := by
    intro j b q
    by_cases q4 : j = i
    · subst q4
      exact OwnAt.of e rfl (OwnAt.smp q (List.getElem?_set_self hi) rfl)
    · exact (A.heldJ (List.getElem?_set_ne (Ne.symm q4)) rfl fun c hc => upd_ne fun z => q4 (A.ne j i c hc (by rw [z]; exact e5))).mp q
  refine ⟨le.refl _, fun b o h n => ?_, fun b h => ?_, fun b h q => absurd h q, fun b ⟨j, q⟩ => .inl ⟨j, own q⟩, rfl, ⟨fun b o h => ?_, A.pin, by rw [List.length_set]; exact A.len, fun j sd q => ?_, fun j k b h1 h2 => A.ne j k b (own h1) (own h2)⟩⟩
  · rw [upd_ne (fun q => n ⟨i, by rw [q]; exact e5⟩)]; exact h
  · by_cases q : b = a
    · rw [q, upd_same]; simp
    · rw [upd_ne q]; exact h
  · rw [upd_ne (ne_of_none h e2)]; exact A.le b o h
  · rcases set_get q with ⟨q4, q5, _⟩ | ⟨q4, q5⟩
    · subst q4
      rw [q5]
      exact ⟨a, ea, e2, ⟨ys, upd_same, r, z⟩, e6⟩
    · have w := A.slot j sd q5
      have oth : ∀ {sd : SD}, Γ[j]? = some sd → sd.smp = true → (∃ a, σ[j]? = some (some (V.ref a)) ∧ F a = none ∧ OwnOk C F H a sd ∧ ∀ k, sd.tag = some k → io.adr k = some a) → (∃ b, σ[j]? = some (some (V.ref b)) ∧ F b = none ∧ OwnOk C F (L2.upd H a (.lst ys)) b sd ∧ ∀ k, sd.tag = some k → io.adr k = some b) := by
        rintro sd es so ⟨b, w1, w2, w3, w4⟩
        have hne : b ≠ a := fun z => q4 (A.ne j i a (OwnAt.of es so (by rw [← z]; exact w1)) e5)
        exact ⟨b, w1, w2, w3.heap (upd_ne hne), w4⟩
      cases sd with
      | no => trivial
      | fr d => exact w
      | fu d => exact w
      | fx x => exact w
      | ob t x => exact A.obUp q5 (le.refl _) (fun b hb => (A.ownAt_none hb).1) fun b hb => upd_ne fun z => q4 (A.ne j i b hb (by rw [z]; exact e5))
      | ow t l => exact oth q5 rfl w
      | od t l => exact oth q5 rfl w
      | ot t l => exact oth q5 rfl w
theorem Go.putOwn {i : Nat} {sd : SD} {l : List Bx.D} {v : V} (g : Go C io σ F H Γ σ' F' H' Γ') (hv : AVOk C (NewA Γ σ H) F' H' Γ' σ' (.n l) v) (hi : Γ'[i]? = some sd) : Go C io σ F H Γ (σ'.set i (some v)) F' H' (Γ'.set i (.ow none l)) := by
  obtain ⟨a, xs, rfl, n0, f0, no, ha, r, z⟩ := hv
  have hlt := (List.getElem?_eq_some_iff.mp hi).1
  have hls : i < σ'.length := by rw [← g.at_.len]; exact hlt
  have own : ∀ {j : Nat} {b : Addr}, OwnAt H' (Γ'.set i (.ow none l)) (σ'.set i (some (.ref a))) j b → (j = i ∧ b = a) ∨ (j ≠ i ∧ OwnAt H' Γ' σ' j b) := by
    rintro j b ⟨sd, q1, q2, v, q3, q9⟩
    rcases set_get q1 with ⟨q4, q5, _⟩ | ⟨q4, q5⟩
    · subst q4
      rw [List.getElem?_set_self hls] at q3
      cases q3
      rw [q5] at q9
      have q9 : V.ref a = .ref b := q9
      cases q9
      exact .inl ⟨rfl, rfl⟩
    · rcases set_get q3 with ⟨w, _⟩ | ⟨_, w⟩
      · exact absurd w q4
      · exact .inr ⟨q4, sd, q5, q2, v, w, q9⟩
  refine ⟨g.ff, g.keep, g.live, g.new, fun b ⟨j, q⟩ => ?_, by rw [List.length_set]; exact g.ln, ⟨g.at_.le, g.at_.pin, by rw [List.length_set, List.length_set]; exact g.at_.len, fun j sd q => ?_, fun j k b h1 h2 => ?_⟩⟩
  · rcases own q with ⟨_, q2⟩ | ⟨_, q2⟩
    · rw [q2]
      rcases n0 with w | w
      · exact .inr w
      · exact .inl w
    · exact g.own b ⟨j, q2⟩
  · rcases set_get q with ⟨q4, q5, _⟩ | ⟨q4, q5⟩
    · subst q4
      rw [q5]
      exact ⟨a, List.getElem?_set_self hls, f0, ⟨xs, ha, r, z⟩, fun k q => by cases q⟩
    · exact SlotOk.ne_slot q4 (g.at_.slot j sd q5)
  · rcases own h1 with ⟨q1, q2⟩ | ⟨q1, q2⟩
    · rcases own h2 with ⟨q3, q4⟩ | ⟨q3, q4⟩
      · rw [q1, q3]
      · rw [q2] at q4; exact absurd ⟨k, q4⟩ no
    · rcases own h2 with ⟨q3, q4⟩ | ⟨q3, q4⟩
      · rw [q4] at q2; exact absurd ⟨j, q2⟩ no
      · exact g.at_.ne j k b q2 q4
end
section
variable {X : Cx} {W : XW} {e elt tg iter : Expr} {es ifs : List Expr} {st : Stmt} {rest body : List Stmt} {pos : Pos} {f : SE} {fs : SA} {s t : SS} {c : SB} {src : SI} {g : GS} {ts : List Nat}
theorem q_lc {scope : Scope} (own : List (Str × Nat)) {test : SB} (hc : X.calm = true) (hN : X.N.Nodup) (hi : PI X tg iter (tI (ct X) W src)) (ok : blkC X.N X.env.scope scope own = true)
    (hg : ∀ (s : Shared) (H : Hp) (C : Addr) (cl : List (Str × Addr)) (fp : List Addr), PG (X.blk s H scope (compEnvC scope cl C X.env) fp) tg (tG (ct X) ts g))
    (ht : ∀ (s : Shared) (H : Hp) (C : Addr) (cl : List (Str × Addr)) (fp : List Addr), PTs (X.blk s H scope (compEnvC scope cl C X.env) fp) ifs (tB (ct X) W0 test))
    (he : ∀ (s : Shared) (H : Hp) (C : Addr) (cl : List (Str × Addr)) (fp : List Addr), PE (X.blk s H scope (compEnvC scope cl C X.env) fp) elt (tX (ct X) W0 f))
    (hts : ∀ i ∈ ts, i ∈ own.map (·.2) := by decide) (hs : ∀ x, foldedSetIterable iter X.env x = pure x := by intro _; rfl) : PE X (.ListComp elt [⟨tg, iter, ifs, 0⟩] scope pos) (tX (ct X) W (sLc src (own.map (·.2)) g test f)) :=
  PE.imp (pe_lc hc hN hi (blkOk_by ok) hg ht he hs) fun σ H Q h => lc_read hts h
theorem asg_read {i : Nat} {D : Ends} {σ : St} {H : Hp} (h : tS (ct X) W (sAsg f (gVar i)) D σ H) : tX (ct X) W f σ H fun x H1 => D.nx (σ.set i (some x)) H1 := by
  obtain ⟨io, F, Γ, A, p⟩ := h
  refine tX.thenF A p fun av v F1 H1 Γ1 g1 hv p1 => ?_
  cases w : frV av with
  | none => rw [w] at p1; exact p1.elim
  | some d =>
    rw [w] at p1
    have p2 : PF (ct X) io W σ F1 H1 Γ1 (nxU (putS d i Γ1 Γ1[i]?)) D := p1
    cases q : Γ1[i]? with
    | none => rw [q] at p2; exact p2.elim
    | some sd =>
      rw [q] at p2
      have p3 : PF (ct X) io W σ F1 H1 Γ1 (nxU (if sd.tag = none then R.ok () (Γ1.set i (.fr d)) else .bad)) D := p2
      split at p3
      · exact p3 _ F1 H1 (Go.gs (Go.put (sd := .fr d) (o := some v) g1.at_ rfl fun _ => ⟨v, rfl, frV_ok hv w⟩))
      · exact p3.elim
theorem own_read {i : Nat} {D : Ends} {σ : St} {H : Hp} (h : tS (ct X) W (sOwn f i) D σ H) : tX (ct X) W f σ H fun x H1 => D.nx (σ.set i (some x)) H1 := by
  obtain ⟨io, F, Γ, A, p⟩ := h
  refine ⟨io, F, Γ, A, ?_⟩
  unfold sOwn at p
  cases w : f Γ with
  | bad => rw [w] at p; exact p
  | exc c Γ' => rw [w] at p; exact fun F' H' g => p σ F' H' g.gs
  | ok av Γ1 =>
    rw [w] at p
    intro v F1 H1 g1 hv
    have p : PF (ct X) io W σ F H Γ (ownV i Γ1 av) D := p
    cases av with
    | d x => exact p.elim
    | u x => exact p.elim
    | s j => exact p.elim
    | n l =>
      have p2 : PF (ct X) io W σ F H Γ (ownS l i Γ1 Γ1[i]?) D := p
      cases q : Γ1[i]? with
      | none => rw [q] at p2; exact p2.elim
      | some sd =>
        rw [q] at p2
        have p3 : PF (ct X) io W σ F H Γ (if sd.tag = none then R.ok .nx (Γ1.set i (.ow none l)) else .bad) D := p2
        split at p3
        · exact p3 _ F1 H1 (Go.putOwn g1 hv q).gs
        · exact p3.elim
theorem setU_read {i : Nat} {D : Ends} {σ : St} {H : Hp} (h : tS (ct X) W (sSetU f i) D σ H) : tX (ct X) W f σ H fun x H1 => D.nx (σ.set i (some x)) H1 := by
  obtain ⟨io, F, Γ, A, p⟩ := h
  refine ⟨io, F, Γ, A, ?_⟩
  unfold sSetU at p
  cases w : f Γ with
  | bad => rw [w] at p; exact p
  | exc c Γ' => rw [w] at p; exact fun F' H' g => p σ F' H' g.gs
  | ok av Γ1 =>
    rw [w] at p
    intro v F1 H1 g1 hv
    have p : PF (ct X) io W σ F H Γ (setUV i Γ1 av) D := p
    cases av with
    | d x => exact p.elim
    | n x => exact p.elim
    | s j => exact p.elim
    | u x =>
      have p2 : PF (ct X) io W σ F H Γ (match Γ1[i]? with
        | some sd => if sd.tag = none then .ok .nx (Γ1.set i (.fu x)) else .bad
        | none => .bad) D := p
      cases q : Γ1[i]? with
      | none => rw [q] at p2; exact p2.elim
      | some sd =>
        rw [q] at p2
        have p3 : PF (ct X) io W σ F H Γ (if sd.tag = none then R.ok .nx (Γ1.set i (.fu x)) else .bad) D := p2
        split at p3
        · have g2 := Go.put (i := i) (sd := .fu x) (o := some v) g1.at_ rfl (fun _ => ⟨v, rfl, RepN.weak (fun b q => A.new_pin q) hv⟩)
          exact p3 _ F1 H1 (g1.trans g2).gs
        · exact p3.elim
theorem q_set (i : Nat) {x : Str} {p' : Pos} (hN : X.N.Nodup) (he : PE X e (tX (ct X) W f)) (hi : X.N[i]? = some x := by rfl) (hx : Loc X.env.scope x := by first | exact Or.inl rfl | exact Or.inr rfl) (hs : swapsWith e (some (.Name x p')) pos.line X.env = pure false := by rfl)
    (hf : X.fn x = true ∨ X.env.scope.names.lookup x = some .local := by first | exact .inl rfl | exact .inr rfl) : PS X (.Assign [.Name x p'] e pos) (tS (ct X) W (sAsg f (gVar i))) :=
  PS.imp (ps_set hN hi hx he hs hf) fun D σ H h => asg_read h
theorem q_own (i : Nat) {x : Str} {p' : Pos} (hN : X.N.Nodup) (he : PE X e (tX (ct X) W f)) (hi : X.N[i]? = some x := by rfl) (hx : Loc X.env.scope x := by first | exact Or.inl rfl | exact Or.inr rfl) (hs : swapsWith e (some (.Name x p')) pos.line X.env = pure false := by rfl)
    (hf : X.fn x = true ∨ X.env.scope.names.lookup x = some .local := by first | exact .inl rfl | exact .inr rfl) : PS X (.Assign [.Name x p'] e pos) (tS (ct X) W (sOwn f i)) :=
  PS.imp (ps_set hN hi hx he hs hf) fun D σ H h => own_read h
theorem q_setU (i : Nat) {x : Str} {p' : Pos} (hN : X.N.Nodup) (he : PE X e (tX (ct X) W f)) (hi : X.N[i]? = some x := by rfl) (hx : Loc X.env.scope x := by first | exact Or.inl rfl | exact Or.inr rfl) (hs : swapsWith e (some (.Name x p')) pos.line X.env = pure false := by rfl)
    (hf : X.fn x = true ∨ X.env.scope.names.lookup x = some .local := by first | exact .inl rfl | exact .inr rfl) : PS X (.Assign [.Name x p'] e pos) (tS (ct X) W (sSetU f i)) :=
  PS.imp (ps_set hN hi hx he hs hf) fun D σ H h => setU_read h
theorem q_asg (he : PE X e (tX (ct X) W f)) (hg : PG X tg (tG (ct X) ts g)) (hs : swapsWithSole [tg] e pos.line X.env = pure false := by rfl) (hw : swappedStores [tg] e X.env = pure none := by rfl)
    (h1 : (assignEach [tg] X.env).map (·.2) = [assign tg X.env] := by rfl) : PS X (.Assign [tg] e pos) (tS (ct X) W (sAsg f g)) :=
  PS.imp (ps_asg he hg hs hw h1) fun D σ H ⟨io, F, Γ, A, p⟩ => tX.thenF A p fun av v F1 H1 Γ1 g1 hv p1 => by
    cases w : frV av with
    | none => rw [w] at p1; exact p1.elim
    | some d =>
      rw [w] at p1
      refine ⟨io, F1, Γ1, d, g1.at_, frV_ok hv w, ?_⟩
      have p2 : PF (ct X) io W σ F1 H1 Γ1 (nxU (g d Γ1)) D := p1
      cases w2 : g d Γ1 with
      | bad => rw [w2] at p2; exact p2
      | exc c Γ' => rw [w2] at p2; exact p2
      | ok u Γ' => rw [w2] at p2; exact fun σ' F' H' g1 _ => p2 σ' F' H' g1.gs
theorem esc_read {σ : St} {H : Hp} {Q : VK} (h : tX (ct X) W (sEsc f) σ H Q) : tX (ct X) W f σ H Q := by
  obtain ⟨io, F, Γ, A, p⟩ := h
  refine ⟨io, F, Γ, A, ?_⟩
  unfold sEsc at p
  cases w : f Γ with
  | ok av Γ' =>
    rw [w] at p
    exact fun v F' H' g hv => esc_ok A g hv p
  | exc c Γ' => rw [w] at p; exact p
  | bad => rw [w] at p; exact p
theorem q_setLc (i : Nat) {y : Str} {py spos : Pos} {scope : Scope} (own : List (Str × Nat)) {test : SB} (hc : X.calm = true) (hN : X.N.Nodup) (hi : PI X tg iter (tI (ct X) W src)) (ok : blkC X.N X.env.scope scope own = true)
    (hg : ∀ (s : Shared) (H : Hp) (C : Addr) (cl : List (Str × Addr)) (fp : List Addr), PG (X.blk s H scope (compEnvC scope cl C X.env) fp) tg (tG (ct X) ts g))
    (ht : ∀ (s : Shared) (H : Hp) (C : Addr) (cl : List (Str × Addr)) (fp : List Addr), PTs (X.blk s H scope (compEnvC scope cl C X.env) fp) ifs (tB (ct X) W0 test))
    (he : ∀ (s : Shared) (H : Hp) (C : Addr) (cl : List (Str × Addr)) (fp : List Addr), PE (X.blk s H scope (compEnvC scope cl C X.env) fp) elt (tX (ct X) W0 f))
    (hsw : swapsWith (.ListComp elt [⟨tg, iter, ifs, 0⟩] scope pos) (some (.Name y py)) spos.line X.env = pure true := by exact sw_true rfl rfl rfl (by decide +kernel))
    (hy : X.N[i]? = some y := by rfl) (hyl : X.env.scope.names.lookup y = some .local := by rfl)
    (hts : ∀ i ∈ ts, i ∈ own.map (·.2) := by decide) (hs : ∀ x, foldedSetIterable iter X.env x = pure x := by intro _; rfl) : PS X (.Assign [.Name y py] (.ListComp elt [⟨tg, iter, ifs, 0⟩] scope pos) spos) (tS (ct X) W (sAsg (sEsc (sLc src (own.map (·.2)) g test f)) (gVar i))) :=
  PS.imp (ps_setLc hc hN hy hyl hsw hi (blkOk_by ok) hg ht he hs) fun D σ H h => lc_read hts (esc_read (asg_read h))
theorem q_end : PSs X [] (tS (ct X) W sSkip) := PSs.imp pss_nil fun D σ H ⟨io, F, Γ, A, p⟩ => p σ F H (.refl A)
theorem q_last (h : PS X st (tS (ct X) W s)) : PSs X [st] (tS (ct X) W s) := pss_one h
theorem q_seq (h1 : PS X st (tS (ct X) W s)) (h2 : PSs X rest (tS (ct X) W t)) : PSs X (st :: rest) (tS (ct X) W (sSeq s t)) :=
  PSs.imp (pss_cons h1 h2) fun D σ H ⟨io, F, Γ, A, p⟩ => by
    refine ⟨io, F, Γ, A, ?_⟩
    unfold sSeq at p
    cases w : s Γ with
    | bad => rw [w] at p; exact p
    | exc c Γ' => rw [w] at p; exact p
    | ok fl Γ' =>
      rw [w] at p
      cases fl with
      | nx => exact fun σ' F' H' g => ⟨io, F', Γ', g.at_, PF.gs g p⟩
      | bk => exact p
      | ct => exact p
      | rt av => exact p
theorem q_expr (he : PE X e (tX (ct X) W f)) (hs : swapsWith e none pos.line X.env = pure false := by rfl) : PS X (.Expr e pos) (tS (ct X) W (sDrop f)) :=
  PS.imp (ps_expr he hs) fun D σ H ⟨io, F, Γ, A, p⟩ => tX.thenF A p fun av v F1 H1 Γ1 g1 hv p1 => p1 σ F1 H1 (.refl g1.at_)
theorem q_ret (he : PE X e (tX (ct X) W f)) : PS X (.Return (some e) pos) (tS (ct X) W (sRet f)) :=
  PS.imp (ps_ret he) fun D σ H ⟨io, F, Γ, A, p⟩ => by
    refine ⟨io, F, Γ, A, ?_⟩
    unfold sRet at p
    cases w : f Γ with
    | bad => rw [w] at p; exact p
    | exc c Γ' => rw [w] at p; exact fun F' H' g => p σ F' H' g.gs
    | ok av Γ1 =>
      rw [w] at p
      intro v F1 H1 g1 hv
      have p : PF (ct X) io W σ F H Γ (retV Γ1 av) D := p
      cases av with
      | d x => exact p v σ F1 H1 g1.gs hv
      | u x => exact p v σ F1 H1 g1.gs (AVOk.rt (av := .u x) A hv)
      | n l => exact p v σ F1 H1 g1.gs hv
      | s i =>
        have hv : σ[i]? = some (some v) := hv
        have p : PF (ct X) io W σ F H Γ (retS i Γ1 Γ1[i]?) D := p
        cases q : Γ1[i]? with
        | none => rw [q] at p; exact p.elim
        | some sd =>
          rw [q] at p
          cases sd with
          | no => exact p.elim
          | fr d =>
            obtain ⟨u, e1, r⟩ := g1.at_.fr q
            rw [hv] at e1
            cases e1
            exact p v σ F1 H1 g1.gs r
          | fu d => exact p.elim
          | fx x => exact p.elim
          | ob t x => exact p.elim
          | od t l => exact p.elim
          | ot t l => exact p.elim
          | ow t l =>
            cases t with
            | some k => exact p.elim
            | none =>
              obtain ⟨a, xs, e1, e2, e3, ⟨e4, ez⟩, e5, _⟩ := g1.at_.ow q
              rw [hv] at e1
              cases e1
              have ss : σ.set i (some (.ref a)) = σ := by
                apply List.ext_getElem?
                intro j
                by_cases z : i = j
                · subst z
                  rw [List.getElem?_set_self (List.getElem?_eq_some_iff.mp hv).1, hv]
                · rw [List.getElem?_set_ne z]
              have g2 := Go.put (i := i) (sd := .no) (o := some (.ref a)) g1.at_ rfl (fun _ => trivial)
              rw [ss] at g2
              refine p (.ref a) σ F1 H1 (g1.trans g2).gs ⟨a, xs, rfl, g1.newA (.inr ⟨i, e5⟩), e2, ?_, e3, e4, ez⟩
              rintro ⟨j, hj⟩
              have q4 : OwnAt H1 Γ1 σ j a := OwnAt.put (Γ := Γ1) (σ := σ) (i := i) (sd := .no) (o := some (.ref a)) rfl (by rw [ss]; exact hj)
              have q5 := g1.at_.ne j i a q4 e5
              subst q5
              obtain ⟨sd, w1, w2, _⟩ := hj
              rcases set_get w1 with ⟨_, w3, _⟩ | ⟨w3, _⟩
              · rw [w3] at w2; cases w2
              · exact w3 rfl
theorem q_if {a b : List Stmt} {ce : Expr} (hc : PT X ce (tB (ct X) W c)) (ha : PSs X a (tS (ct X) W s)) (hb : PSs X b (tS (ct X) W t)) : PS X (.If ce a b pos) (tS (ct X) W (sIf c s t)) :=
  PS.imp (ps_if hc ha hb) fun D σ H ⟨io, F, Γ, A, p⟩ => tB.thenF A p fun k F1 H1 Γ1 g1 p1 => by
    cases k with
    | true => exact iteT ⟨io, F1, Γ1, g1.at_, p1⟩
    | false => exact iteF ⟨io, F1, Γ1, g1.at_, p1⟩
theorem Go.drop {C : Ct} {io : IO} {σ : St} {F H : Hp} {Γ : Ev} (A : At C io σ F H Γ) (i : Nat) : Go C io σ F H Γ σ F H (Γ.set i .no) := by
  have own : ∀ {j : Nat} {b : Addr}, OwnAt H (Γ.set i .no) σ j b → OwnAt H Γ σ j b := by
    rintro j b ⟨sd, q1, q2, v, q3, q9⟩
    rcases set_get q1 with ⟨_, q5, _⟩ | ⟨_, q5⟩
    · rw [q5] at q2; cases q2
    · exact ⟨sd, q5, q2, v, q3, q9⟩
  refine ⟨le.refl _, fun _ _ h _ => h, fun _ h => h, fun b h q => absurd h q, fun b ⟨j, q⟩ => .inl ⟨j, own q⟩, rfl, ⟨A.le, A.pin, by rw [List.length_set]; exact A.len, fun j sd q => ?_, fun j k b h1 h2 => A.ne j k b (own h1) (own h2)⟩⟩
  rcases set_get q with ⟨_, q5, _⟩ | ⟨_, q5⟩
  · rw [q5]; trivial
  · exact A.slot j sd q5
theorem Go.drops {C : Ct} {io : IO} {σ : St} {F H : Hp} {Γ : Ev} (A : At C io σ F H Γ) : ∀ vs : List Nat, Go C io σ F H Γ σ F H (Bx.forget vs Γ)
  | [] => .refl A
  | i :: r => (Go.drops A r).trans (Go.drop (Go.drops A r).at_ i)
theorem q_fgt (vs : List Nat) (h : PSs X body (tS (ct X) W s)) : PSs X body (tS (ct X) W (fgt vs s)) :=
  PSs.imp h fun D σ H ⟨io, F, Γ, A, p⟩ => by
    refine ⟨io, F, Γ, A, ?_⟩
    unfold fgt at p
    cases w : s Γ with
    | bad => rw [w] at p; exact p
    | exc c Γ' => rw [w] at p; exact p
    | ok fl Γ' =>
      rw [w] at p
      cases fl with
      | nx => exact fun σ' F' H' g => p σ' F' H' (g.trans (Go.drops g.at_ vs).gs)
      | ct => exact fun σ' F' H' g => p σ' F' H' (g.trans (Go.drops g.at_ vs).gs)
      | bk => exact p
      | rt av => exact p
abbrev IO.at_ (io : IO) (P : Hp) (h : Bx.le io.pin P) : IO := ⟨io.adr, P, io.kp, fun Q e => (io.kpp Q e).trans h⟩
theorem soft_get {Γ : Ev} {i : Nat} : (soft Γ)[i]? = (Γ[i]?).map sft := List.getElem?_map
theorem OwnAt.soft {H : Hp} {Γ : Ev} {σ : St} {i : Nat} {a : Addr} : OwnAt H (Bx.soft Γ) σ i a ↔ OwnAt H Γ σ i a := by
  unfold OwnAt
  rw [soft_get]
  cases w : Γ[i]? with
  | none => simp
  | some sd =>
    cases sd with
    | fx x => cases x <;> simp [SD.own, Held]
    | _ => simp [SD.own, Held]
theorem OwnA.soft {H : Hp} {Γ : Ev} {σ : St} {a : Addr} : OwnA H (Bx.soft Γ) σ a ↔ OwnA H Γ σ a := ⟨fun ⟨i, h⟩ => ⟨i, OwnAt.soft.mp h⟩, fun ⟨i, h⟩ => ⟨i, OwnAt.soft.mpr h⟩⟩
theorem At.softP {C : Ct} {io : IO} {σ : St} {F H P : Hp} {Γ : Ev} (A : At C io σ F H Γ) (hP : Bx.le P F) (hQ : Bx.le io.pin P) : At C (io.at_ P hQ) σ F H (Bx.soft Γ) where
  le := A.le
  pin := hP
  len := by rw [← A.len]; exact List.length_map _
  slot := fun i sd e => by
    rw [soft_get] at e
    obtain ⟨sd', e1, e2⟩ := Option.map_eq_some_iff.mp e
    have q := A.slot i sd' e1
    cases sd' with
    | fu d => cases e2; obtain ⟨v, w1, w2⟩ := q; exact ⟨v, w1, RepN.rep w2⟩
    | fx x =>
      cases x with
      | k d => cases e2; exact q
      | w es => cases e2; obtain ⟨v, w1, w2⟩ := q; exact ⟨v, w1, FXOk.rep w2⟩
      | z k n => cases e2; trivial
      | o c fs => cases e2; exact q
    | no => cases e2; exact q
    | fr d => cases e2; exact q
    | ow t l => cases e2; exact q
    | od t l => cases e2; exact q
    | ot t l => cases e2; exact q
    | ob t x => cases e2; exact q
  ne := fun i j a h1 h2 => A.ne i j a (OwnAt.soft.mp h1) (OwnAt.soft.mp h2)
theorem At.unpin {C : Ct} {io : IO} {σ : St} {F H P : Hp} {Γ : Ev} (hP : Bx.le io.pin P) (A : At C (io.at_ P hP) σ F H Γ) : At C io σ F H Γ where
  le := A.le
  pin := hP.trans A.pin
  len := A.len
  slot := fun i sd e => by
    have q := A.slot i sd e
    have k : ∀ b, P b = none → io.pin b = none := fun b h => by
      cases w : io.pin b with
      | none => rfl
      | some o => have z := hP _ _ w; rw [h] at z; cases z
    cases sd with
    | fu d => obtain ⟨v, w1, w2⟩ := q; exact ⟨v, w1, RepN.weak k w2⟩
    | fx x => obtain ⟨v, w1, w2⟩ := q; exact ⟨v, w1, FXOk.weak hP w2⟩
    | _ => exact q
  ne := A.ne
theorem Gs.unpin {C : Ct} {io : IO} {σ σ' : St} {F F' H H' P : Hp} {Γ Γ' : Ev} (hP : Bx.le io.pin P) (g : Gs C (io.at_ P hP) σ F H Γ σ' F' H' Γ') : Gs C io σ F H Γ σ' F' H' Γ' :=
  ⟨fun b o h n p => g.keep b o h n (p.imp id fun q => by
    cases w : io.pin b with
    | none => exact absurd w q
    | some u => show P b ≠ none; rw [hP _ _ w]; simp), g.live, g.new, g.own, g.ln, g.at_.unpin hP⟩
theorem PF.pin {C : Ct} {io : IO} {W : XW} {σ : St} {F H P : Hp} {Γ : Ev} {D : Ends} (hP : Bx.le io.pin P) {r : R Fl} (p : PF C io W σ F H Γ r D) : PF C (io.at_ P hP) W σ F H Γ r D := by
  cases r with
  | bad => exact p
  | exc c Γ' => exact fun σ' F' H' g => p σ' F' H' (g.unpin hP)
  | ok f Γ' =>
    cases f with
    | nx => exact fun σ' F' H' g => p σ' F' H' (g.unpin hP)
    | bk => exact fun σ' F' H' g => p σ' F' H' (g.unpin hP)
    | ct => exact fun σ' F' H' g => p σ' F' H' (g.unpin hP)
    | rt av => exact fun v σ' F' H' g h => p v σ' F' H' (g.unpin hP) (by
        cases av with
        | u x => exact RepN.weak (fun b h => (by
            cases w : io.pin b with
            | none => rfl
            | some o => have z := hP _ _ w; have h : P b = none := h; rw [h] at z; cases z)) h
        | d x => exact h
        | s i => exact h
        | n l => exact h)
theorem Gs.soft {C : Ct} {io : IO} {σ : St} {F H : Hp} {Γ : Ev} (A : At C io σ F H Γ) : Gs C io σ F H Γ σ F H (Bx.soft Γ) :=
  ⟨fun _ _ h _ _ => h, fun _ h => h, fun b h q => absurd h q, fun b h => .inl (OwnA.soft.mp h), rfl, A.softP A.pin (Bx.le.refl _)⟩
theorem q_for {g : GS} (hp : PassesOwn (model X.prog X.w) X.A X.env X.xe) (hc : X.calm = true) (hi : PI X tg iter (tI (ct X) W src)) (hg : PG X tg (tG (ct X) ts g)) (hb : PSs X body (tS (ct X) W s)) (hs : ∀ x, foldedSetIterable iter X.env x = pure x := by intro _; rfl) : PS X (.For tg iter body [] pos) (tS (ct X) W (sFor src g s)) :=
  PS.imp (ps_for hp hc hi hg hb hs) fun D σ H ⟨io0, F, Γ, A, p⟩ => by
    unfold tFor tI
    refine ⟨io0, F, Γ, A, ?_⟩
    unfold sFor at p
    cases w : src Γ with
    | bad => rw [w] at p; exact p
    | exc c Γ' => rw [w] at p; exact fun F' H' g => p σ F' H' g.gs
    | ok l Γ0 =>
      rw [w] at p
      intro J F1 H1 g1 hJ
      obtain ⟨Γ1, e1⟩ : ∃ Γ1, Γ1 = soft Γ0 := ⟨_, rfl⟩
      have p : PF (ct X) io0 W σ F H Γ (forF (fun d Γ => gThen s (g d Γ)) l (soft Γ0)) D := p
      rw [← e1] at p
      have hP : le io0.pin F1 := g1.at_.pin
      have A1 : At (ct X) (io0.at_ F1 hP) σ F1 H1 Γ1 := by rw [e1]; exact g1.at_.softP (le.refl _) hP
      have p0 : PF (ct X) (io0.at_ F1 hP) W σ F1 H1 Γ1 (forF (fun d Γ => gThen s (g d Γ)) l Γ1) D := by
        have g2 := Gs.soft g1.at_
        rw [← e1] at g2
        exact PF.pin hP (PF.gs g2 (PF.go g1 p))
      obtain ⟨io, eio⟩ : ∃ io, io = io0.at_ F1 hP := ⟨_, rfl⟩
      have epin : io.pin = F1 := by rw [eio]
      rw [← eio] at A1 p0
      refine ⟨fun i m σ2 H2 => m = l.length - i ∧ i ≤ l.length ∧ ∃ (F2 : Hp) (Γ2 : Ev), At (ct X) io σ2 F2 H2 Γ2 ∧ PF (ct X) io W σ2 F2 H2 Γ2 (forF (fun d Γ => gThen s (g d Γ)) (l.drop i) Γ2) D, ⟨l.length, rfl, Nat.zero_le _, F1, Γ1, A1, p0⟩, ?_⟩
      rintro i m σ2 H2 ⟨rfl, hi, F2, Γ2, A2, p2⟩
      have hJ2 := hJ i F2 H2 (by rw [← epin]; exact A2.pin) A2.le
      by_cases hlt : i < l.length
      · obtain ⟨hgo, hyld⟩ := hJ2.1 _ (List.getElem?_eq_getElem hlt)
        have dr : l.drop i = l[i] :: l.drop (i + 1) := List.drop_eq_getElem_cons hlt
        rw [dr] at p2
        unfold forF at p2
        refine .inr ⟨hgo, _, fun σ' H' h => ⟨l.length - (i + 1), by omega, h⟩, fun x H3 hy => ?_⟩
        obtain ⟨F3, ext, hx⟩ := hyld x H3 hy
        have A3 := A2.ext ext
        have p3 := PF.go (Go.ext A2 ext) p2
        refine ⟨io, F3, Γ2, l[i], A3, hx, ?_⟩
        cases wg : g l[i] Γ2 with
        | bad => rw [wg] at p3; exact p3
        | exc c Γ' => rw [wg] at p3; exact p3
        | ok u Γ3 =>
          rw [wg] at p3
          intro σ4 F4 H4 g4 _
          refine ⟨io, F4, Γ3, g4.at_, ?_⟩
          have p4 : PF (ct X) io W σ4 F4 H4 Γ3 (match s Γ3 with
            | .ok .nx Γ' => forF (fun d Γ => gThen s (g d Γ)) (l.drop (i + 1)) Γ'
            | .ok .ct Γ' => forF (fun d Γ => gThen s (g d Γ)) (l.drop (i + 1)) Γ'
            | .ok .bk Γ' => .ok .nx Γ'
            | x => x) D := PF.go g4 p3
          cases ws : s Γ3 with
          | bad => rw [ws] at p4; exact p4
          | exc c Γ' => rw [ws] at p4; exact p4
          | ok fl Γ' =>
            rw [ws] at p4
            cases fl with
            | nx => exact fun σ5 F5 H5 g5 => ⟨rfl, hlt, F5, Γ', g5.at_, PF.gs g5 p4⟩
            | ct => exact fun σ5 F5 H5 g5 => ⟨rfl, hlt, F5, Γ', g5.at_, PF.gs g5 p4⟩
            | bk => exact p4
            | rt av => exact p4
      · refine .inl ⟨hJ2.2 (by omega), ?_⟩
        have hi' : i = l.length := by omega
        rw [hi', List.drop_length] at p2
        exact p2 σ2 F2 H2 (.refl A2)
end
end Bx
end
end

section
set_option Elab.async false
set_option linter.all false
set_option maxRecDepth 100000
set_option maxHeartbeats 4000000
set_option autoImplicit false
noncomputable section
namespace Bx
open PySem PySem.Spec PyProof.Rows L2
def rM (C : Ct) (g : List D → List D → Option (List D × Rs)) : V → List V → Hp → VK → Prop := fun x vs H Q => ∃ F a xs l as m d, le F H ∧ x = .ref a ∧ H a = some (.lst xs) ∧ Reps C F l xs ∧ Reps C F as vs ∧ g l as = some (m, .d d) ∧
  ∀ ys v, Reps C F m ys → Rep C F d v → Q v (upd H a (.lst ys))
section
variable {X : Cx} {W : XW} {e : Expr} {es : List Expr} {f fe : SE} {fs : SA} {pos apos : Pos}
theorem mt_appS : MtR X "list.append" (rM (ct X) appD) := by
  intro pins s σ H x xs v us Q I rx rxs ⟨F, a, ys, l, as, m, d, lf, e1, e2, r1, r2, hg, hq⟩
  unfold appD at hg
  split at hg
  · split at hg
    · rename_i y hl
      cases hg
      obtain ⟨z, w, rfl, rz, rw'⟩ := r2
      have rw' : w = [] := rw'
      subst rw'
      exact mt_append pins s σ H x [z] v us Q I rx rxs ⟨a, ys, z, e1, rfl, e2, by rw [r1.length]; exact hl, hq _ _ (r1.append (.one rz)) rfl⟩
    · cases hg
  · cases hg
theorem mt_extS : MtR X "list.extend" (rM (ct X) extD) := by
  intro pins s σ H x xs v us Q I rx rxs ⟨F, a, ys, l, as, m, d, lf, e1, e2, r1, r2, hg, hq⟩
  unfold extD at hg
  split at hg
  · split at hg
    · rename_i y hl
      cases hg
      obtain ⟨z, w, rfl, rz, rw'⟩ := r2
      have rw' : w = [] := rw'
      subst rw'
      obtain ⟨b, zs, rfl, s1, r3, _⟩ := rz
      exact mt_extend pins s σ H x [.ref b] v us Q I rx rxs ⟨a, b, ys, zs, e1, rfl, e2, lf _ _ s1, by rw [r1.length, r3.length]; exact hl, hq _ _ (r1.append r3) rfl⟩
    · cases hg
  · cases hg
theorem mt_pop0S : MtR X "list.pop" (rM (ct X) popD) := by
  intro pins s σ H x xs v us Q I rx rxs ⟨F, a, ys, l, as, m, d, lf, e1, e2, r1, r2, hg, hq⟩
  unfold popD at hg
  split at hg
  · split at hg
    · rename_i y hl
      cases hg
      have r2 : xs = [] := r2
      subst r2
      obtain ⟨z, hz, rz⟩ := r1.get hl
      exact mt_pop pins s σ H x [] v us Q I rx rxs ⟨a, ys, z, e1, rfl, e2, by rw [r1.length]; exact hz, hq _ _ r1.dropLast rz⟩
    · cases hg
  · split at hg
    · rename_i i hi
      split at hg
      · rename_i k hk
        split at hg
        · rename_i y hl
          cases hg
          obtain ⟨z, w, rfl, rz, rw'⟩ := r2
          have rw' : w = [] := rw'
          subst rw'
          have rz : z = .int i := rz
          subst rz
          obtain ⟨z, hz, rz⟩ := r1.get hl
          exact mt_popAt pins s σ H x [.int i] v us Q I rx rxs ⟨a, ys, i, k, z, e1, rfl, e2, by have := inW_ok hi; omega, by have := inW_ok hi; omega, by rw [r1.length]; exact hk, hz, hq _ _ (r1.eraseIdx _) rz⟩
        · cases hg
      · cases hg
    · cases hg
  · cases hg
def MtLen (g : List D → List D → Option (List D × Rs)) : Prop := ∀ l as m r, l.length ≤ sizeLine → g l as = some (m, r) → m.length ≤ sizeLine ∧ ∃ d, r = .d d
theorem len_app : MtLen appD := by
  intro l as m r hl h
  unfold appD at h
  split at h
  · split at h
    · cases h
      rename_i q
      exact ⟨by rw [List.length_append, List.length_singleton]; omega, _, rfl⟩
    · cases h
  · cases h
theorem len_ext : MtLen extD := by
  intro l as m r hl h
  unfold extD at h
  split at h
  · split at h
    · cases h
      rename_i q
      exact ⟨by rw [List.length_append]; omega, _, rfl⟩
    · cases h
  · cases h
theorem len_pop : MtLen popD := by
  intro l as m r hl h
  unfold popD at h
  split at h
  · split at h
    · cases h
      exact ⟨by rw [List.length_dropLast]; omega, _, rfl⟩
    · cases h
  · split at h
    · split at h
      · split at h
        · cases h
          exact ⟨Nat.le_trans (len_erase _ _) hl, _, rfl⟩
        · cases h
      · cases h
    · cases h
  · cases h
theorem isOw_ok {o : Option SD} (h : isOw o = true) : ∃ t l, o = some (.ow t l) := by
  cases o with
  | none => cases h
  | some sd => cases sd with
    | ow t l => exact ⟨t, l, rfl⟩
    | _ => cases h
theorem meth_read {name : Str} {id : String} {g : List D → List D → Option (List D × Rs)} (hL : MtLen g) {i : Nat} {σ : St} {H : Hp} {Q : VK} {t : TA} (h : tX (ct X) W (sMeth i g fs) σ H Q) (k : ∀ H Q', tA (ct X) W fs σ H Q' → t σ H Q') : tBM X.K "list" (rM (ct X) g) (tVar i) t σ H Q := by
  obtain ⟨io, F, Γ, A, p⟩ := h
  unfold sMeth at p
  split at p
  case isFalse => exact p.elim
  rename_i ho
  obtain ⟨t0, l0, e0⟩ := isOw_ok ho
  obtain ⟨a, xs, e1, e2, e3, e4, e5, e6⟩ := A.ow e0
  refine ⟨.ref a, e1, .inl ⟨rfl, xs, .of e3⟩, k H _ ?_⟩
  refine tA.then A p fun avs vs F1 H1 Γ1 g1 hv p1 => ?_
  cases hd : ds avs with
  | none => rw [hd] at p1; exact p1.elim
  | some as =>
    rw [hd] at p1
    have p2 : PX (ct X) io W σ F1 H1 Γ1 (methS i Γ1 (fun l => g l as) Γ1[i]?) Q := p1
    cases q : Γ1[i]? with
    | none => rw [q] at p2; exact p2.elim
    | some sd =>
      rw [q] at p2
      cases sd with
      | ow t l =>
        obtain ⟨b, ys, w1, w2, w3, ⟨w4, wz⟩, w5, w6⟩ := g1.at_.ow q
        rw [e1] at w1
        cases w1
        have p3 : PX (ct X) io W σ F1 H1 Γ1 (match g l as with
          | some (m, r) => .ok r.av (Γ1.set i (.ow t m))
          | none => .bad) Q := p2
        cases hg : g l as with
        | none => rw [hg] at p3; exact p3.elim
        | some mr =>
          obtain ⟨m, r⟩ := mr
          rw [hg] at p3
          obtain ⟨hz, d, rfl⟩ := hL _ _ _ _ wz hg
          exact ⟨F1, a, ys, l, as, m, d, g1.at_.le, rfl, w3, w4, ds_ok hv hd, hg, fun zs v rz rv => p3 v F1 _ (At.setOwn g1.at_ q e1 rz hz) rv⟩
      | _ => exact p2.elim
theorem q_meth (i : Nat) {x name : Str} {id : String} {g : List D → List D → Option (List D × Rs)} {px : Pos} (pa : PlainAttrs "list") (slot : Slot "list" name id) (hty : typeOf (.builtin id) = pure (.type "method_descriptor")) (hm : MtR X id (rM (ct X) g)) (hL : MtLen g) (ha : PA X (e :: es) (tA (ct X) W fs))
    (hN : X.N[i]? = some x := by rfl) (hv : Vis X.env.scope x := by first | exact Or.inl rfl | exact Or.inr (Or.inl rfl) | exact Or.inr (Or.inr rfl)) (hd : (x == ("__debug__" : Str)) = false := by decide) (hcd : (x == ("__classdict__" : Str)) = false := by decide)
    (hbase : attributeBase (.Name x px) name X.env (eval (.Name x px) X.env) = eval (.Name x px) X.env := by rfl)
    (hfew : ((backTo pos (starEach (e :: es) X.env)).all (fun x => !x.1) && (backToKw pos (keywordEach [] X.env)).all (fun x => x.1.isSome)
      && decide ((e :: es).length + ([] : List Keyword).length + (if ([] : List Keyword).isEmpty then 0 else 1) < 30)) = true := by rfl)
    (hline : (apos.endLine == pos.line) = true := by rfl) (hs : starEach (e :: es) X.env = (false, eval e X.env) :: starEach es X.env := by rfl) (hplain : (backTo pos (starEach es X.env)).any (·.1) = false := by rfl) :
    PE X (.Call (.Attribute (.Name x px) name apos) (e :: es) [] pos) (tX (ct X) W (sMeth i g fs)) :=
  PE.imp (pe_bm pa slot hty hm (pe_var (i := i) hN hv hd hcd) ha hbase hfew hline hs hplain) fun σ H Q h => meth_read (name := name) (id := id) hL h fun _ _ q => q
theorem stoS_ok {C : Ct} {io : IO} {σ : St} {F H : Hp} {Γ : Ev} {i : Nat} {d : Bx.D} {k : Int} {v : V} {a : Addr} (A : At C io σ F H Γ) (ea : σ[i]? = some (some (.ref a))) (r : Rep C F d v) {u : Unit} {Γ' : Ev} (h : stoS i d k Γ Γ[i]? = .ok u Γ') :
    ∃ xs j, H a = some (.lst xs) ∧ ixN xs.length k = some j ∧ Go C io σ F H Γ σ F (upd H a (.lst (xs.set j v))) Γ' := by
  cases q : Γ[i]? with
  | none => rw [q] at h; cases h
  | some sd =>
    rw [q] at h
    cases sd with
    | ow t l =>
      obtain ⟨b, xs, w1, w2, w3, ⟨w4, wz⟩, w5, w6⟩ := A.ow q
      rw [ea] at w1
      cases w1
      have h : (match ixN l.length k with
        | some j => R.ok () (Γ.set i (.ow t (l.set j d)))
        | none => .bad) = .ok u Γ' := h
      cases hj : ixN l.length k with
      | none => rw [hj] at h; cases h
      | some j =>
        rw [hj] at h
        cases h
        exact ⟨xs, j, w3, by rw [w4.length]; exact hj, At.setOwn A q ea (w4.set r j) (by rw [List.length_set]; exact wz)⟩
    | _ => cases h
theorem q_gSto (i : Nat) {x : Str} {px : Pos} (hi : PE X e (tX (ct X) W f)) (hN : X.N[i]? = some x := by rfl) (hv : Vis X.env.scope x := by first | exact Or.inl rfl | exact Or.inr (Or.inl rfl) | exact Or.inr (Or.inr rfl)) (hd : (x == ("__debug__" : Str)) = false := by decide) (hcd : (x == ("__classdict__" : Str)) = false := by decide)
    (ha : ∀ v, assign (.Subscript (.Name x px) e pos) X.env v = (do
      let ov ← holding [v] (eval (.Name x px) X.env)
      let iv ← holding [v, ov] (eval e X.env)
      standAt pos
      holding [v, ov, iv] (setItem ov iv v)
      release [v, ov, iv] []) := by intro _; rfl) :
    PG X (.Subscript (.Name x px) e pos) (tG (ct X) [] (gSto i f)) :=
  PG.imp (pg_sub (pe_var (i := i) hN hv hd hcd) hi set_list ha) fun v σ H Q ⟨io, F, Γ, d, A, r, p⟩ => by
    have p : PU (ct X) io [] σ F H Γ (if isOw Γ[i]? = true then bindU (f Γ) fun av Γ' => optU ((rd Γ' av).bind intD) fun k => stoS i d k Γ' Γ'[i]? else .bad) Q := p
    split at p
    case isFalse => exact p.elim
    rename_i ho
    obtain ⟨t0, l0, e0⟩ := isOw_ok ho
    obtain ⟨a, xs, e1, e2, e3, e4, e5, e6⟩ := A.ow e0
    refine ⟨.ref a, e1, io, F, Γ, A, ?_⟩
    cases w : f Γ with
    | bad => rw [w] at p; exact p.elim
    | exc c Γ' => rw [w] at p; exact p.elim
    | ok av Γ1 =>
      rw [w] at p
      have p : PU (ct X) io [] σ F H Γ (optU ((rd Γ1 av).bind intD) fun k => stoS i d k Γ1 Γ1[i]?) Q := p
      intro u F1 H1 g1 hu
      cases hk : (rd Γ1 av).bind intD with
      | none => rw [hk] at p; exact p.elim
      | some k =>
        rw [hk] at p
        have p : PU (ct X) io [] σ F H Γ (stoS i d k Γ1 Γ1[i]?) Q := p
        obtain ⟨y, hy, hk⟩ := bind_some hk
        have hu' : u = .int k := by
          cases y with
          | int z => cases hk; exact hu.int g1.at_ hy
          | _ => cases hk
        cases hs : stoS i d k Γ1 Γ1[i]? with
        | bad => rw [hs] at p; exact p.elim
        | exc c Γ' => rw [hs] at p; exact p.elim
        | ok u2 Γ2 =>
          rw [hs] at p
          obtain ⟨ys, j, w1, w2, g2⟩ := stoS_ok g1.at_ e1 (r.mono g1.ff) hs
          exact ⟨a, ys, k, j, rfl, hu', w1, w2, p σ F1 _ (g1.trans g2) fun _ _ => rfl⟩
@[simp] def iaddD : Bx.D → Bx.D → Option Rs
  | .int a, .int b => some (.d (.int (a + b)))
  | .str a, .str b => if a.length + b.length ≤ sizeLine then some (.d (.str (a ++ b))) else none
  | _, _ => none
@[simp] def imulD : Bx.D → Bx.D → Option Rs
  | .int a, .int b => if mul64 a b = true then some (.d (.int (a * b))) else none
  | _, _ => none
end
end Bx
end
end

section
set_option Elab.async false
set_option linter.all false
set_option maxRecDepth 100000
set_option maxHeartbeats 4000000
set_option autoImplicit false
noncomputable section
namespace Bx
open PySem PySem.Spec PyProof.Rows L2
structure FnG (P : Program) (w : World) (K : PySem.W.Frag) (mg : Str → Option Value) (base : Heap) (k : Nat) (f : Addr) (fd : FuncData) (ps : List Str) (sp : Sp) : Prop where
  arity : ∀ zs H Q E, sp zs H Q E → zs.length = ps.length
  go : ∀ (A : Around) (out : List Env) (s : Shared) (H : Hp) (as : Args) (us : List Value) (zs : List V) (Q : VK) (E : XK), Room k A → A.guards = some [] → Env0 P w K mg base A out s H → BindsTo s fd as (ps.zip us) → Vals zs us → sp zs H Q E →
    codeAny (model P w) A (.call (.ref f) as) (CR (L2.CX P w) out P w H s Q E) s
theorem FnG.mono {P : Program} {w : World} {K : PySem.W.Frag} {mg : Str → Option Value} {base : Heap} {j k : Nat} {f : Addr} {fd : FuncData} {ps : List Str} {sp : Sp} (G : FnG P w K mg base j f fd ps sp) (h : j ≤ k) : FnG P w K mg base k f fd ps sp :=
  ⟨G.arity, fun A out s H as us zs Q E r => G.go A out s H as us zs Q E (r.mono h)⟩
theorem FnG.imp {P : Program} {w : World} {K : PySem.W.Frag} {mg : Str → Option Value} {base : Heap} {k : Nat} {f : Addr} {fd : FuncData} {ps : List Str} {sp sp' : Sp} (G : FnG P w K mg base k f fd ps sp) (h : ∀ zs H Q E, sp' zs H Q E → sp zs H Q E) : FnG P w K mg base k f fd ps sp' :=
  ⟨fun zs H Q E q => G.arity zs H Q E (h _ _ _ _ q), fun A out s H as us zs Q E r g e b v q => G.go A out s H as us zs Q E r g e b v (h _ _ _ _ q)⟩
section
variable {X : Cx} {k : Nat} {f : Addr} {fd : FuncData} {ps : List Str} {sp : Sp} {E : St → XK} {x : Str} {p pos : Pos} {e : Expr} {es : List Expr} {t : TA}
theorem runG {pins : List (Addr × Obj)} {σ : St} {H : Hp} {s : Shared} {Q : VK} {us : List Value} {zs : List V} (G : FnG X.prog X.w X.K X.mg X.base k f fd ps sp) (hr : Room k X.A) (hg : X.A.guards = some []) (hb : Binds X.K fd ps []) (hx : PassesAt (L2.CX X.prog X.w) X σ (E σ))
    (I : Inv X pins σ H s) (rv : Vals zs us) (h : sp zs H Q (E σ)) : wpAny (model X.prog X.w) X.A (call (.ref f) us) (EP X pins σ Q) X.xe s := by
  have hl : us.length = ps.length := rv.length ▸ G.arity _ _ _ _ h
  have bt := hb s us I.kIn (by rw [List.append_nil]; exact hl)
  rw [List.append_nil] at bt
  refine wpAny_call (codeAny_mono (G.go X.A X.stack s H ⟨us, []⟩ us zs Q (E σ) hr hg I.env0 bt rv h) ?_)
  intro res s' hres
  match res, hres with
  | .error e, q => exact hx pins H s e s' I q
  | .ok (.ret u), q => exact I.after q
  | .ok .next, q => exact False.elim q
  | .ok .brk, q => exact False.elim q
  | .ok .cont, q => exact False.elim q
def tCallG (sp : Sp) (E : St → XK) (t : TA) : TE := fun σ H Q => t σ H fun zs H1 => sp zs H1 Q (E σ)
theorem pe_callG (G : FnG X.prog X.w X.K X.mg X.base k f fd ps sp) (hr : Room k X.A) (hgd : X.A.guards = some []) (hg : Gl X x) (hm : X.mg x = some (.ref f)) (hk : PySem.W.keepIn X.K (.ref f) = true) (hb : Binds X.K fd ps []) (hx : ∀ σ, PassesAt (L2.CX X.prog X.w) X σ (E σ))
    (ha : PA X (e :: es) t) (hdb : (x == ("__debug__" : Str)) = false) (he : starEach (e :: es) X.env = (false, eval e X.env) :: starEach es X.env) (hpl : (backTo pos (starEach es X.env)).any (·.1) = false) :
    PE X (.Call (.Name x p) (e :: es) [] pos) (tCallG sp E t) :=
  ⟨fun pins s σ H Q I h => wpAny_Call_Name_kw (ld_glob I hg hm (PySem.W.callWith_K (h₀ := X.base) I.ok.mod.kin hk
    (thn (ha.run pos pins s σ H _ I h) fun us s1 ⟨zs, H1, I1, rv, q⟩ => ⟨I1.kIn, runG G hr hgd hb (hx σ) I1 rv q⟩) he hpl) hdb)⟩
end
inductive FR where
  | ok (r : AV) (o : Ev) | exc (c : Str) (o : Ev) | bad
@[simp] def maskS (j : Nat) : SD → SD
  | .ow (some k) l => if k = j then .ow (some k) l else .no
  | .od (some k) l => if k = j then .od (some k) l else .no
  | .ot (some k) l => if k = j then .ot (some k) l else .no
  | .ob (some k) o => if k = j then .ob (some k) o else .no
  | _ => .no
@[simp] def maskF : Nat → Nat → Ev → Ev
  | _, 0, _ => []
  | j, n + 1, s :: t => maskS j s :: maskF (j + 1) n t
  | j, n + 1, [] => .no :: maskF (j + 1) n []
def fin (n : Nat) : R Fl → FR
  | .ok .nx Γ => .ok (.d .non) (maskF 0 n Γ)
  | .ok (.rt (.s _)) _ => .bad
  | .ok (.rt av) Γ => .ok av (maskF 0 n Γ)
  | .exc c Γ => .exc c (maskF 0 n Γ)
  | _ => .bad
@[simp] theorem fin_nx {n : Nat} {Γ : Ev} : fin n (.ok .nx Γ) = .ok (.d .non) (maskF 0 n Γ) := rfl
@[simp] theorem fin_d {n : Nat} {x : D} {Γ : Ev} : fin n (.ok (.rt (.d x)) Γ) = .ok (.d x) (maskF 0 n Γ) := rfl
@[simp] theorem fin_u {n : Nat} {x : D} {Γ : Ev} : fin n (.ok (.rt (.u x)) Γ) = .ok (.u x) (maskF 0 n Γ) := rfl
@[simp] theorem fin_n {n : Nat} {x : List D} {Γ : Ev} : fin n (.ok (.rt (.n x)) Γ) = .ok (.n x) (maskF 0 n Γ) := rfl
@[simp] theorem fin_exc {n : Nat} {c : Str} {Γ : Ev} : fin n (.exc c Γ) = .exc c (maskF 0 n Γ) := rfl
@[simp] theorem fin_bad {n : Nat} : fin n .bad = .bad := rfl
@[simp] theorem fin_ite {n : Nat} {p : Prop} [Decidable p] {a b : R Fl} : fin n (if p then a else b) = if p then fin n a else fin n b := by split <;> rfl
@[simp] def fnM (np n : Nat) (body : SS) (args : Ev) : FR := if args.length = np then fin np (body (args ++ List.replicate (n - np) .no)) else .bad
def ca (C : Ct) (c : Str) : Value := (C.mg c).getD .none
def PFR (C : Ct) (io : IO) (σ : St) (F H : Hp) (Γ : Ev) (r : FR) (Q : VK) (E : XK) : Prop :=
  match r with
  | .ok av o => ∀ v F' H', Gs C io σ F H Γ σ F' H' o → RtOk C io (NewA Γ σ H) F' H' o σ av v → Q v H'
  | .exc c o => ∀ F' H', Gs C io σ F H Γ σ F' H' o → E (ca C c) none H'
  | .bad => False
def spM (C : Ct) (m : Ev → FR) : Sp := fun zs H Q E => ∃ io F args, At C io (zs.map some) F H args ∧ io.pin = F ∧ (∀ (j : Nat) (sd : SD), args[j]? = some sd → sd.own = true → sd.tag = some j) ∧
  (∀ (j : Nat) (a : Addr), io.adr j = some a → zs[j]? = some (.ref a)) ∧ PFR C io (zs.map some) F H args (m args) Q E
section
variable {C : Ct} {io : IO} {σ σ' : St} {F F' H H' : Hp} {Γ Γ' : Ev}
theorem maskS_get {j : Nat} {s : SD} : maskS j s = .no ∨ (maskS j s = s ∧ s.own = true ∧ s.tag = some j) := by
  cases s with
  | ow t l =>
    cases t with
    | none => exact .inl rfl
    | some k =>
      by_cases e : k = j
      · subst e; exact .inr ⟨by simp, rfl, rfl⟩
      · exact .inl (by simp [e])
  | od t l =>
    cases t with
    | none => exact .inl rfl
    | some k =>
      by_cases e : k = j
      · subst e; exact .inr ⟨by simp, rfl, rfl⟩
      · exact .inl (by simp [e])
  | ot t l =>
    cases t with
    | none => exact .inl rfl
    | some k =>
      by_cases e : k = j
      · subst e; exact .inr ⟨by simp, rfl, rfl⟩
      · exact .inl (by simp [e])
  | ob t l =>
    cases t with
    | none => exact .inl rfl
    | some k =>
      by_cases e : k = j
      · subst e; exact .inr ⟨by simp, rfl, rfl⟩
      · exact .inl (by simp [e])
  | _ => exact .inl rfl
theorem maskF_len : ∀ (n k : Nat) (Γ : Ev), (maskF k n Γ).length = n
  | 0, _, _ => rfl
  | n + 1, k, [] => by simp [maskF_len n]
  | n + 1, k, s :: t => by simp [maskF_len n]
theorem maskF_get : ∀ {n k : Nat} {Γ : Ev} {j : Nat} {sd : SD}, (maskF k n Γ)[j]? = some sd → sd = .no ∨ (Γ[j]? = some sd ∧ sd.own = true ∧ sd.tag = some (k + j))
  | 0, _, _, _, _, h => by simp at h
  | n + 1, k, [], 0, sd, h => by simp at h; exact .inl h.symm
  | n + 1, k, [], j + 1, sd, h => by
    have h : (maskF (k + 1) n [])[j]? = some sd := by simpa using h
    rcases maskF_get h with q | q
    · exact .inl q
    · simp at q
  | n + 1, k, s :: t, 0, sd, h => by
    have h : maskS k s = sd := by simpa using h
    rcases maskS_get (j := k) (s := s) with q | q
    · exact .inl (by rw [← h, q])
    · refine .inr ⟨by rw [← h, q.1]; rfl, by rw [← h, q.1]; exact q.2.1, by rw [← h, q.1]; exact q.2.2⟩
  | n + 1, k, s :: t, j + 1, sd, h => by
    have h : (maskF (k + 1) n t)[j]? = some sd := by simpa using h
    rcases maskF_get h with q | q
    · exact .inl q
    · exact .inr ⟨by simpa using q.1, q.2.1, by rw [q.2.2]; congr 1; omega⟩
theorem start_get {N : List Str} {zs : List V} {j : Nat} (h : j < zs.length) : (L2.start N zs)[j]? = (zs.map some)[j]? := by
  unfold L2.start
  rw [List.getElem?_append_left (by simpa using h)]
theorem At.entry {N : List Str} {zs : List V} (hn : zs.length ≤ N.length) (A : At C io (zs.map some) F H Γ) : At C io (L2.start N zs) F H (Γ ++ List.replicate (N.length - Γ.length) .no) := by
  have hl : Γ.length = zs.length := by rw [A.len, List.length_map]
  have key : ∀ {i : Nat} {sd : SD}, (Γ ++ List.replicate (N.length - Γ.length) SD.no)[i]? = some sd → (i < zs.length ∧ Γ[i]? = some sd ∧ (L2.start N zs)[i]? = (zs.map some)[i]?) ∨ sd = .no := by
    intro i sd h
    by_cases hi : i < zs.length
    · rw [List.getElem?_append_left (by omega)] at h
      exact .inl ⟨hi, h, start_get hi⟩
    · rw [List.getElem?_append_right (by omega), List.getElem?_replicate] at h
      split at h
      · cases h; exact .inr rfl
      · cases h
  have own : ∀ {i : Nat} {a : Addr}, OwnAt H (Γ ++ List.replicate (N.length - Γ.length) SD.no) (L2.start N zs) i a → OwnAt H Γ (zs.map some) i a := by
    rintro i a ⟨sd, e1, e2, v, e3, e4⟩
    rcases key e1 with ⟨_, q, z⟩ | q
    · exact ⟨sd, q, e2, v, by rw [← z]; exact e3, e4⟩
    · rw [q] at e2; cases e2
  refine ⟨A.le, A.pin, ?_, fun i sd e => ?_, fun i j a h1 h2 => A.ne i j a (own h1) (own h2)⟩
  · unfold L2.start
    rw [List.length_append, List.length_append, List.length_replicate, List.length_replicate, List.length_map]
    omega
  · rcases key e with ⟨_, q, z⟩ | q
    · rw [z]; exact A.slot i sd q
    · rw [q]; trivial
theorem OwnA.entry {N : List Str} {zs : List V} (hn : zs.length ≤ N.length) (A : At C io (zs.map some) F H Γ) {a : Addr} (h : OwnA H (Γ ++ List.replicate (N.length - Γ.length) SD.no) (L2.start N zs) a) : OwnA H Γ (zs.map some) a := by
  obtain ⟨i, sd, e1, e2, v, e3, e4⟩ := h
  have hl : Γ.length = zs.length := by rw [A.len, List.length_map]
  by_cases hi : i < zs.length
  · rw [List.getElem?_append_left (by omega)] at e1
    rw [start_get hi] at e3
    exact ⟨i, sd, e1, e2, v, e3, e4⟩
  · rw [List.getElem?_append_right (by omega), List.getElem?_replicate] at e1
    split at e1
    · cases e1; cases e2
    · cases e1
theorem Gs.fin {N : List Str} {zs : List V} (hn : zs.length ≤ N.length) (A : At C io (zs.map some) F H Γ) (hio : ∀ (j : Nat) (a : Addr), io.adr j = some a → zs[j]? = some (.ref a))
    (g : Gs C io (L2.start N zs) F H (Γ ++ List.replicate (N.length - Γ.length) .no) σ' F' H' Γ') : Gs C io (zs.map some) F H Γ (zs.map some) F' H' (maskF 0 Γ.length Γ') ∧ ∀ a, OwnA H' (maskF 0 Γ.length Γ') (zs.map some) a → OwnA H' Γ' σ' a := by
  have hl : Γ.length = zs.length := by rw [A.len, List.length_map]
  have up : ∀ {i : Nat} {a : Addr}, OwnAt H' (maskF 0 Γ.length Γ') (zs.map some) i a → OwnAt H' Γ' σ' i a := by
    rintro i a ⟨sd, e1, e2, v, e3, e4⟩
    rcases maskF_get e1 with q | ⟨q1, q2, q3⟩
    · rw [q] at e2; cases e2
    · rw [Nat.zero_add] at q3
      have sl := g.at_.slot i sd q1
      have ad : ∃ b, σ'[i]? = some (some (V.ref b)) ∧ io.adr i = some b := by
        cases sd with
        | no => cases q2
        | fr d => cases q2
        | fu d => cases q2
        | fx x => cases q2
        | ow t l => obtain ⟨b, w1, w2, w3, w4⟩ := sl; exact ⟨b, w1, w4 _ q3⟩
        | od t l => obtain ⟨b, w1, w2, w3, w4⟩ := sl; exact ⟨b, w1, w4 _ q3⟩
        | ot t l => obtain ⟨b, w1, w2, w3, w4⟩ := sl; exact ⟨b, w1, w4 _ q3⟩
        | ob t o =>
          obtain ⟨x, fp, w1, _, _, _, _, w4⟩ := sl
          obtain ⟨b, rfl, w5⟩ := w4 _ q3
          exact ⟨b, w1, w5⟩
      obtain ⟨b, w1, w2⟩ := ad
      have w3 := hio i b w2
      rw [List.getElem?_map, w3] at e3
      have e3 : (some (some (V.ref b)) : Option (Option V)) = some (some v) := e3
      cases e3
      exact ⟨sd, q1, q2, _, w1, e4⟩
  refine ⟨⟨fun b o h n q => g.keep b o h (fun w => n (OwnA.entry hn A w)) q, g.live, fun b h q => (g.new b h q).imp id fun w => OwnA.entry hn A w, fun b ⟨i, q⟩ => (g.own b ⟨i, up q⟩).imp (fun w => OwnA.entry hn A w) id, rfl, ⟨g.at_.le, g.at_.pin, by rw [maskF_len]; exact A.len, fun i sd e => ?_, fun i j a h1 h2 => g.at_.ne i j a (up h1) (up h2)⟩⟩, fun a ⟨i, q⟩ => ⟨i, up q⟩⟩
  rcases maskF_get e with q | ⟨q1, q2, q3⟩
  · rw [q]; trivial
  · rw [Nat.zero_add] at q3
    have sl := g.at_.slot i sd q1
    cases sd with
    | no => cases q2
    | fr d => cases q2
    | fu d => cases q2
    | fx x => cases q2
    | ow t l =>
      obtain ⟨b, w1, w2, w3, w4⟩ := sl
      have w5 := hio i b (w4 _ q3)
      exact ⟨b, by rw [List.getElem?_map, w5]; rfl, w2, w3, w4⟩
    | od t l =>
      obtain ⟨b, w1, w2, w3, w4⟩ := sl
      have w5 := hio i b (w4 _ q3)
      exact ⟨b, by rw [List.getElem?_map, w5]; rfl, w2, w3, w4⟩
    | ot t l =>
      obtain ⟨b, w1, w2, w3, w4⟩ := sl
      have w5 := hio i b (w4 _ q3)
      exact ⟨b, by rw [List.getElem?_map, w5]; rfl, w2, w3, w4⟩
    | ob t o =>
      obtain ⟨x, fp, w1, z2, z3, z4, z5, w4⟩ := sl
      obtain ⟨b, rfl, w6⟩ := w4 _ q3
      have w5 := hio i b w6
      exact ⟨.ref b, fp, by rw [List.getElem?_map, w5]; rfl, z2, z3, z4, z5, w4⟩
theorem RtOk.fin {zs : List V} {N0 N1 : Addr → Prop} {av : AV} {v : V} {Γ2 : Ev} (k : ∀ b, N1 b → N0 b) (ho : ∀ a, OwnA H' Γ2 (zs.map some) a → OwnA H' Γ' σ' a) (hs : ∀ i, av ≠ .s i) (h : RtOk C io N1 F' H' Γ' σ' av v) : RtOk C io N0 F' H' Γ2 (zs.map some) av v := by
  cases av with
  | u x => exact h
  | d x => exact h
  | s i => exact absurd rfl (hs i)
  | n l =>
    obtain ⟨a, xs, e, h0, f0, no, r⟩ := h
    exact ⟨a, xs, e, k _ h0, f0, fun q => no (ho a q), r⟩
end
theorem fnG_of {P : Program} {w : World} {K : PySem.W.Frag} {mg : Str → Option Value} {base : Heap} {k : Nat} {f : Addr} {name qual : Str} {params : Arguments} {body : List Stmt} {scope : Scope} {dV kV doc pm cdv ct oc : Value} {an od : Option Addr}
    {osl : Array (Option Value)} {N ps : List Str} {m : SS} (lk : K.lookup f = some ⟨oc, od, .func (PySem.W.fnOf name qual params body scope dV kV doc pm an cdv ct), osl⟩) (hcd : PySem.W.codeIn K cdv qual = true) (S : FnScope N ps scope)
    (hbody : ∀ (A : Around) (out : List Env) (s : Shared) (H : Hp) (E : XK), Room k (A.deeper (envOfC qual scope s.heap.objs.size f cdv)) → (A.deeper (envOfC qual scope s.heap.objs.size f cdv)).guards = some [] →
      PSs (cxOf (L2.CX P w) P w K mg base N qual scope f cdv A out s H E) body (tS ⟨K, mg, P, w⟩ (fun c _ H' => E (ca ⟨K, mg, P, w⟩ c) none H') m)) :
    FnG P w K mg base (k + 1) f (PySem.W.fnOf name qual params body scope dV kV doc pm an cdv ct) ps (spM ⟨K, mg, P, w⟩ (fnM ps.length N.length m)) := by
  have ar : ∀ {zs H Q E}, spM ⟨K, mg, P, w⟩ (fnM ps.length N.length m) zs H Q E → zs.length = ps.length := by
    rintro zs H Q E ⟨io, F, args, hA, hpin, htag, hio, hq⟩
    unfold fnM at hq
    split at hq
    · rename_i q
      rw [← q, hA.len, List.length_map]
    · exact hq.elim
  refine ⟨fun zs H Q E h => ar h, ?_⟩
  intro A out s H as us zs Q E room gds env0 binds rv hsp
  have hl := ar hsp
  obtain ⟨io, F, args, hA, hpin, htag, hio, hq⟩ := hsp
  have npl : ps.length ≤ N.length := by have := congrArg List.length S.pre; rw [List.length_take] at this; omega
  have hn : zs.length ≤ N.length := by omega
  have inK : K.In s.heap := env0.mod.kin.keeps fun b o q => (env0.bs b o q).1
  have noLim : s.heap.NoLimit := env0.mod.nolimit.keeps fun b o q => (env0.bs b o q).1
  have kinds : ∀ y ∈ ps.zip us, scope.names.lookup y.1 = some .local ∨ (scope.names.lookup y.1 = some .cell ∧ ((cellsFrom (s.heap.objs.size + 1) scope.names []).lookup y.1).isSome = true) := fun ⟨n, v⟩ hy =>
    (S.par n (List.of_mem_zip hy).1).imp id fun q => ⟨q, PySem.W.cellsFrom_some _ _ _ (.inl q)⟩
  refine codeAny_call_function room.depth (inK _ _ lk) rfl S.co S.gen rfl (PySem.W.codeRec_of inK hcd) (binds _ _ _ _ (wpAny_newFunctionEnv_cells S.kind kinds fun env he s1 x => ?_))
  subst he
  refine ⟨noLim.keeps x.toInCall.keep, codeAny_func ?_⟩
  have hb := hbody A out s H E (room.deeper _) gds
  have I0 : Inv (cxOf (L2.CX P w) P w K mg base N qual scope f cdv A out s H E) [] (L2.start N zs) H s1 := inv_start S room.hd env0 hl rv x
  have ent := hA.entry hn
  have alen : args.length = ps.length := by rw [hA.len, List.length_map, hl]
  have want : tS ⟨K, mg, P, w⟩ (fun c _ H' => E (ca ⟨K, mg, P, w⟩ c) none H') m { nx := fun _ H' => Q .non H', rt := Q } (L2.start N zs) H := by
    refine ⟨io, F, _, ent, ?_⟩
    unfold fnM at hq
    rw [if_pos alen, ← alen] at hq
    have nw : ∀ b, NewA (args ++ List.replicate (N.length - args.length) SD.no) (L2.start N zs) H b → NewA args (zs.map some) H b := fun b q => q.imp id fun w => OwnA.entry hn hA w
    cases wm : m (args ++ List.replicate (N.length - args.length) .no) with
    | bad => rw [wm] at hq; exact hq
    | exc c Γ' =>
      rw [wm] at hq
      intro σ' F' H' g
      exact hq F' H' (Gs.fin hn hA hio g).1
    | ok fl Γ' =>
      rw [wm] at hq
      cases fl with
      | bk => exact hq.elim
      | ct => exact hq.elim
      | nx =>
        intro σ' F' H' g
        exact hq .non F' H' (Gs.fin hn hA hio g).1 rfl
      | rt av =>
        intro v σ' F' H' g hv
        have gf := Gs.fin hn hA hio g
        cases av with
        | s i => exact hq.elim
        | d x => exact hq v F' H' gf.1 hv
        | u x => exact hq v F' H' gf.1 hv
        | n l => exact hq v F' H' gf.1 (RtOk.fin (av := .n l) nw gf.2 (fun i q => by cases q) hv)
  refine wpAny_mono (hb.run [] s1 (L2.start N zs) H _ I0 want) (fun fl s' hs => ?_) fun e s' hs => hs
  have done : ∀ {σ' : St} {H' : Hp} {v : V} {u : Value}, Inv (cxOf (L2.CX P w) P w K mg base N qual scope f cdv A out s H E) [] σ' H' s' → RelV v u → Q v H' → CE out P w H s Q u s' :=
    fun {σ' H' v u} J r q => ⟨v, H', J.os, J.bare, J.base, J.hok, r, q⟩
  match fl, hs with
  | .ret u, ⟨v, σ', H', J, r, q⟩ => exact done J r q
  | .next, ⟨σ', H', J, q⟩ => exact done (v := V.non) (u := Value.none) J rfl q
  | .brk, ⟨_, _, _, q⟩ => exact q.elim
  | .cont, ⟨_, _, _, q⟩ => exact q.elim
end Bx
end
end

section
set_option Elab.async false
set_option linter.all false
set_option maxRecDepth 100000
set_option maxHeartbeats 4000000
set_option autoImplicit false
noncomputable section
namespace Bx
open PySem PySem.Spec PyProof.Rows L2
@[simp] def OD.hd : OD → Bool
  | .fr _ => false
  | _ => true
@[simp] def frzL : OD → Option D
  | .fr d => some d
  | .ow l => some (.lst l)
  | .od l => some (.dct l)
  | .ot l => some (.dtt l)
  | _ => none
@[simp] def frzF : List (Str × OD) → Option (List (Str × D))
  | [] => some []
  | (n, o) :: r => (frzL o).bind fun d => (frzF r).map fun l => (n, d) :: l
@[simp] def frzO : OD → Option FX
  | .ins c fs => (frzF fs).map fun l => .o c l
  | _ => none
@[simp] def SD.len : SD → Bool
  | .ow _ _ => true
  | .od _ _ => true
  | .ot _ _ => true
  | .ob _ o => (frzO o).isSome
  | _ => false
@[simp] def cargO (b : Bool) (j : Nat) (o : OD) : Option SD := if b = true then (if o.hd = true then some (.ob (some j) o) else none) else (frzO o).map .fx
@[simp] def cargS (b : Bool) (j : Nat) : Option SD → Option SD
  | some (.ow _ l) => some (if b = true then .ow (some j) l else .fr (.lst l))
  | some (.od _ l) => some (if b = true then .od (some j) l else .fr (.dct l))
  | some (.ot _ l) => some (if b = true then .ot (some j) l else .fr (.dtt l))
  | some (.ob _ o) => cargO b j o
  | some (.fx (.o c fs)) => if b = true then none else some (.fx (.o c fs))
  | _ => none
@[simp] def carg (ios : List Nat) (j : Nat) (Γ : Ev) : AV → Option SD
  | .d x => some (.fr x)
  | .u x => some (.fr x)
  | .n _ => none
  | .s i => cargS (ios.contains j) j Γ[i]?
@[simp] def cargs (ios : List Nat) : Nat → Ev → List AV → Option Ev
  | _, _, [] => some []
  | j, Γ, a :: r => (carg ios j Γ a).bind fun s => (cargs ios (j + 1) Γ r).map fun t => s :: t
@[simp] def owns : List AV → List Nat
  | [] => []
  | .s i :: r => i :: owns r
  | _ :: r => owns r
@[simp] def dist : List Nat → Bool
  | [] => true
  | i :: r => !r.contains i && dist r
@[simp] def isS : AV → Bool
  | .s _ => true
  | _ => false
@[simp] def lentS (Γ : Ev) : AV → Bool
  | .s i => (match Γ[i]? with
    | some (.fx _) => false
    | _ => true)
  | _ => false
@[simp] def lends (ios : List Nat) (Γ : Ev) : Nat → List AV → Bool
  | _, [] => false
  | j, a :: r => (lentS Γ a && !ios.contains j) || lends ios Γ (j + 1) r
@[simp] def retag (old : SD) : SD → SD
  | .ow _ l => .ow old.tag l
  | .od _ l => .od old.tag l
  | .ot _ l => .ot old.tag l
  | .ob _ o => .ob old.tag o
  | _ => .no
@[simp] def wb1 (b : Bool) (i : Nat) (o : SD) (Γ : Ev) : Ev := if b = true then (match Γ[i]? with
  | some s => Γ.set i (retag s o)
  | none => Γ) else Γ
@[simp] def wb (ios : List Nat) : Nat → List AV → Ev → Ev → Ev
  | _, [], _, Γ => Γ
  | _, _, [], Γ => Γ
  | j, .s i :: r, o :: os, Γ => wb ios (j + 1) r os (wb1 (ios.contains j) i o Γ)
  | j, _ :: r, _ :: os, Γ => wb ios (j + 1) r os Γ
@[simp] def safeV : AV → Bool
  | .d x => noL x
  | .n l => noLs l
  | .u _ => true
  | .s _ => false
@[simp] def safeS : SD → Bool
  | .ow _ l => noLs l
  | .od _ _ => false
  | .ot _ _ => false
  | .ob _ _ => false
  | _ => true
@[simp] def safe (b : Bool) (av : AV) (o : Ev) : Bool := if b = true then safeV av && o.all safeS else true
@[simp] def callE (ios : List Nat) (avs : List AV) (Γ : Ev) : FR → R AV
  | .ok av o => if safe (lends ios Γ 0 avs) av o = true ∧ isS av = false then .ok av (wb ios 0 avs o Γ) else .bad
  | .exc c o => if safe (lends ios Γ 0 avs) (.d .non) o = true then .exc c (wb ios 0 avs o Γ) else .bad
  | .bad => .bad
@[simp] def callA (m : Ev → FR) (ios : List Nat) (avs : List AV) (Γ : Ev) : Option Ev → R AV
  | some args => callE ios avs Γ (m args)
  | none => .bad
@[simp] def sCall (m : Ev → FR) (ios : List Nat) (fs : SA) (Γ : Ev) : R AV := (fs Γ).bind fun avs Γ1 => if dist (owns avs) = true then callA m ios avs Γ1 (cargs ios 0 Γ1 avs) else .bad

theorem cargs_get {ios : List Nat} {Γ : Ev} : ∀ {avs : List AV} {k : Nat} {args : Ev}, cargs ios k Γ avs = some args → args.length = avs.length ∧ ∀ (j : Nat) (sd : SD), args[j]? = some sd → ∃ av, avs[j]? = some av ∧ carg ios (k + j) Γ av = some sd
  | [], k, args, h => by
    cases h
    exact ⟨rfl, fun j sd q => by simp at q⟩
  | a :: r, k, args, h => by
    obtain ⟨s, h1, h2⟩ := bind_some (show (carg ios k Γ a).bind _ = some args from h)
    obtain ⟨t, h3, rfl⟩ := Option.map_eq_some_iff.mp h2
    obtain ⟨q1, q2⟩ := cargs_get h3
    refine ⟨by rw [List.length_cons, List.length_cons, q1], fun j sd q => ?_⟩
    cases j with
    | zero => simp at q; exact ⟨a, rfl, by rw [← q]; exact h1⟩
    | succ j =>
      have q : t[j]? = some sd := by simpa using q
      obtain ⟨av, w1, w2⟩ := q2 j sd q
      exact ⟨av, by simpa using w1, by rw [← Nat.add_assoc, Nat.add_right_comm]; exact w2⟩
theorem owns_mem : ∀ {avs : List AV} {j i : Nat}, avs[j]? = some (.s i) → i ∈ owns avs
  | [], j, i, h => by simp at h
  | a :: r, 0, i, h => by
    have h : a = .s i := by simpa using h
    rw [h]
    exact List.mem_cons_self
  | a :: r, j + 1, i, h => by
    have h : r[j]? = some (.s i) := by simpa using h
    have q := owns_mem h
    cases a with
    | s k => exact List.mem_cons_of_mem _ q
    | _ => exact q
theorem dist_owns : ∀ {avs : List AV} {j k i : Nat}, dist (owns avs) = true → avs[j]? = some (.s i) → avs[k]? = some (.s i) → j = k
  | [], j, k, i, _, h, _ => by simp at h
  | a :: r, j, k, i, d, h1, h2 => by
    have tl : dist (owns r) = true := by
      cases a with
      | s q => simp only [owns, dist, Bool.and_eq_true] at d; exact d.2
      | _ => exact d
    cases j with
    | zero =>
      have h1 : a = .s i := by simpa using h1
      subst h1
      simp only [owns, dist, Bool.and_eq_true] at d
      cases k with
      | zero => rfl
      | succ k =>
        have h2 : r[k]? = some (.s i) := by simpa using h2
        have q := owns_mem h2
        simp [q] at d
    | succ j =>
      have h1' : r[j]? = some (.s i) := by simpa using h1
      cases k with
      | zero =>
        have h2' : a = .s i := by simpa using h2
        have q := owns_mem h1'
        rw [h2'] at d
        simp [q] at d
      | succ k =>
        have h2' : r[k]? = some (.s i) := by simpa using h2
        rw [dist_owns tl h1' h2']
theorem lends_get {ios : List Nat} {Γ : Ev} : ∀ {avs : List AV} {k : Nat}, lends ios Γ k avs = false → ∀ (j i : Nat), avs[j]? = some (.s i) → ios.contains (k + j) = true ∨ ∃ x, Γ[i]? = some (.fx x)
  | [], k, _, j, i, h => by simp at h
  | a :: r, k, hl, j, i, h => by
    simp only [lends, Bool.or_eq_false_iff] at hl
    cases j with
    | zero =>
      have h : a = .s i := by simpa using h
      subst h
      rcases Bool.and_eq_false_iff.mp hl.1 with z | z
      · right
        cases hg : Γ[i]? with
        | none =>
          simp [lentS, hg] at z
        | some sd =>
          cases sd with
          | fx x => exact ⟨x, rfl⟩
          | _ => simp [lentS, hg] at z
      · left
        simpa using z
    | succ j =>
      have h : r[j]? = some (.s i) := by simpa using h
      have q := lends_get hl.2 j i h
      rw [← Nat.add_assoc, Nat.add_right_comm]
      exact q
theorem wb1_len {b : Bool} {i : Nat} {o : SD} {Γ : Ev} : (wb1 b i o Γ).length = Γ.length := by
  unfold wb1
  split
  · split
    · exact List.length_set
    · rfl
  · rfl
theorem wb_len {ios : List Nat} : ∀ {avs : List AV} {os : Ev} {k : Nat} {Γ : Ev}, (wb ios k avs os Γ).length = Γ.length
  | [], _, _, _ => by unfold wb; rfl
  | a :: r, [], _, _ => by cases a <;> rfl
  | a :: r, o :: os, k, Γ => by
    cases a with
    | s i => show (wb ios (k + 1) r os _).length = _; rw [wb_len, wb1_len]
    | _ => exact wb_len (avs := r)
theorem wb_get {ios : List Nat} {i : Nat} : ∀ {avs : List AV} {os : Ev} {k : Nat} {Γ : Ev} {sd : SD}, os.length = avs.length → dist (owns avs) = true → (wb ios k avs os Γ)[i]? = some sd →
    (Γ[i]? = some sd ∧ ∀ j : Nat, avs[j]? = some (.s i) → ios.contains (k + j) = false) ∨ ∃ (j : Nat) (o s : SD), avs[j]? = some (.s i) ∧ ios.contains (k + j) = true ∧ os[j]? = some o ∧ Γ[i]? = some s ∧ sd = retag s o
  | [], os, k, Γ, sd, hl, d, h => .inl ⟨by simpa using h, fun j q => by simp at q⟩
  | a :: r, [], k, Γ, sd, hl, d, h => by simp at hl
  | a :: r, o :: os, k, Γ, sd, hl, d, h => by
    have hl' : os.length = r.length := by simpa using hl
    have shift : ∀ {Γ1 : Ev}, ((Γ1[i]? = some sd ∧ ∀ j : Nat, r[j]? = some (.s i) → ios.contains (k + 1 + j) = false) ∨ ∃ (j : Nat) (o s : SD), r[j]? = some (.s i) ∧ ios.contains (k + 1 + j) = true ∧ os[j]? = some o ∧ Γ1[i]? = some s ∧ sd = retag s o) → Γ1 = Γ → a ≠ .s i →
        (Γ[i]? = some sd ∧ ∀ j : Nat, (a :: r)[j]? = some (.s i) → ios.contains (k + j) = false) ∨ ∃ (j : Nat) (o' s : SD), (a :: r)[j]? = some (.s i) ∧ ios.contains (k + j) = true ∧ (o :: os)[j]? = some o' ∧ Γ[i]? = some s ∧ sd = retag s o' := by
      intro Γ1 q e na
      subst e
      rcases q with ⟨q1, q2⟩ | ⟨j, o', s, q1, q2, q3, q4, q5⟩
      · refine .inl ⟨q1, fun j w => ?_⟩
        cases j with
        | zero => exact absurd (by simpa using w) na
        | succ j => rw [← Nat.add_assoc, Nat.add_right_comm]; exact q2 j (by simpa using w)
      · exact .inr ⟨j + 1, o', s, by simpa using q1, by rw [← Nat.add_assoc, Nat.add_right_comm]; exact q2, by simpa using q3, q4, q5⟩
    cases a with
    | d x => exact shift (wb_get hl' d h) rfl (by simp)
    | u x => exact shift (wb_get hl' d h) rfl (by simp)
    | n l => exact shift (wb_get hl' d h) rfl (by simp)
    | s i' =>
      have d' : dist (owns r) = true := by simp only [owns, dist, Bool.and_eq_true] at d; exact d.2
      have h' : (wb ios (k + 1) r os (wb1 (ios.contains k) i' o Γ))[i]? = some sd := h
      have q := wb_get hl' d' h'
      by_cases e : i' = i
      · subst e
        have nr : ∀ j : Nat, r[j]? ≠ some (.s i') := fun j w => by
          have m := owns_mem w
          simp [m] at d
        rcases q with ⟨q1, q2⟩ | ⟨j, o', s, q1, _⟩
        · by_cases b : ios.contains k = true
          · refine .inr ⟨0, o, ?_⟩
            unfold wb1 at q1
            rw [if_pos b] at q1
            cases w : Γ[i']? with
            | none => rw [w] at q1; simp [w] at q1
            | some s =>
              rw [w] at q1
              have q1 : (Γ.set i' (retag s o))[i']? = some sd := q1
              rw [List.getElem?_set_self (List.getElem?_eq_some_iff.mp w).1] at q1
              cases q1
              exact ⟨s, rfl, b, rfl, rfl, rfl⟩
          · refine .inl ⟨?_, fun j w => ?_⟩
            · unfold wb1 at q1
              rw [if_neg b] at q1
              exact q1
            · cases j with
              | zero => simpa using b
              | succ j => exact absurd (by simpa using w) (nr j)
        · exact absurd q1 (nr j)
      · have ne : (wb1 (ios.contains k) i' o Γ)[i]? = Γ[i]? := by
          unfold wb1
          split
          · split
            · exact List.getElem?_set_ne e
            · rfl
          · rfl
        rcases q with ⟨q1, q2⟩ | ⟨j, o', s, q1, q2, q3, q4, q5⟩
        · rw [ne] at q1
          refine .inl ⟨q1, fun j w => ?_⟩
          cases j with
          | zero => simp at w; exact absurd w e
          | succ j => rw [← Nat.add_assoc, Nat.add_right_comm]; exact q2 j (by simpa using w)
        · rw [ne] at q4
          exact .inr ⟨j + 1, o', s, by simpa using q1, by rw [← Nat.add_assoc, Nat.add_right_comm]; exact q2, by simpa using q3, q4, q5⟩
theorem AVsOk.get {C : Ct} {N0 : Addr → Prop} {F H : Hp} {Γ : Ev} {σ : St} : ∀ {avs : List AV} {vs : List V}, AVsOk C N0 F H Γ σ avs vs → vs.length = avs.length ∧ ∀ (j : Nat) (av : AV), avs[j]? = some av → ∃ v, vs[j]? = some v ∧ AVOk C N0 F H Γ σ av v
  | [], vs, h => by
    have h : vs = [] := h
    rw [h]
    exact ⟨rfl, fun j av q => by simp at q⟩
  | a :: r, vs, ⟨v, w, e, h1, h2⟩ => by
    obtain ⟨q1, q2⟩ := AVsOk.get h2
    subst e
    refine ⟨by rw [List.length_cons, List.length_cons, q1], fun j av q => ?_⟩
    cases j with
    | zero => simp at q; rw [← q]; exact ⟨v, rfl, h1⟩
    | succ j =>
      obtain ⟨x, w1, w2⟩ := q2 j av (by simpa using q)
      exact ⟨x, by simpa using w1, w2⟩
mutual
theorem RepN.conv {C : Ct} {N M : Addr → Prop} {F F2 : Hp} (hT : ∀ a xs, SqT C.K F a xs → SqT C.K F2 a xs) (hL : ∀ a xs, F a = some (.lst xs) → N a → F2 a = some (.lst xs) ∧ M a) : ∀ {d : D} {v : V}, RepN C N F d v → RepN C M F2 d v
  | .non, _, h => h
  | .bl _, _, h => h
  | .int _, _, h => h
  | .str _, _, h => h
  | .tup ds, v, h => by
    obtain ⟨a, xs, e, s, r, z⟩ := h
    exact ⟨a, xs, e, hT _ _ s, RepsN.conv hT hL r, z⟩
  | .lst ds, v, h => by
    obtain ⟨a, xs, e, s, n, r, z⟩ := h
    exact ⟨a, xs, e, (hL _ _ s n).1, (hL _ _ s n).2, RepsN.conv hT hL r, z⟩
  | .scr _, _, h => h.elim
  | .dct _, _, h => h.elim
  | .fn _, _, h => h
  | .ex _, _, h => h.elim
  | .dtt _, _, h => h.elim
theorem RepsN.conv {C : Ct} {N M : Addr → Prop} {F F2 : Hp} (hT : ∀ a xs, SqT C.K F a xs → SqT C.K F2 a xs) (hL : ∀ a xs, F a = some (.lst xs) → N a → F2 a = some (.lst xs) ∧ M a) : ∀ {ds : List D} {vs : List V}, RepsN C N F ds vs → RepsN C M F2 ds vs
  | [], _, h => h
  | d :: ds, vs, h => by
    obtain ⟨x, r, e, a, b⟩ := h
    exact ⟨x, r, e, RepN.conv hT hL a, RepsN.conv hT hL b⟩
end
theorem retag_own {s o : SD} (h : (retag s o).own = true) : o.own = true := by
  cases o with
  | ow t l => rfl
  | od t l => rfl
  | ot t l => rfl
  | ob t l => rfl
  | _ => cases h
theorem cargS_io {b : Bool} {j : Nat} {o : Option SD} {sd : SD} (h : cargS b j o = some sd) : ∃ s, o = some s ∧ ((s.own = true ∧ b = true ∧ sd.own = true ∧ sd.tag = some j) ∨ (b = false ∧ sd.own = false)) := by
  cases o with
  | none => cases h
  | some s =>
    cases s with
    | no => cases h
    | fr d => cases h
    | fu d => cases h
    | fx x =>
      cases x with
      | o c fs =>
        refine ⟨_, rfl, ?_⟩
        have h : (if b = true then none else some (SD.fx (.o c fs))) = some sd := h
        split at h
        · cases h
        · rename_i q
          cases h
          exact .inr ⟨by cases b <;> simp_all, rfl⟩
      | _ => cases h
    | ow t l =>
      refine ⟨_, rfl, ?_⟩
      cases b with
      | true => cases h; exact .inl ⟨rfl, rfl, rfl, rfl⟩
      | false => cases h; exact .inr ⟨rfl, rfl⟩
    | od t l =>
      refine ⟨_, rfl, ?_⟩
      cases b with
      | true => cases h; exact .inl ⟨rfl, rfl, rfl, rfl⟩
      | false => cases h; exact .inr ⟨rfl, rfl⟩
    | ot t l =>
      refine ⟨_, rfl, ?_⟩
      cases b with
      | true => cases h; exact .inl ⟨rfl, rfl, rfl, rfl⟩
      | false => cases h; exact .inr ⟨rfl, rfl⟩
    | ob t o =>
      refine ⟨_, rfl, ?_⟩
      have h : cargO b j o = some sd := h
      unfold cargO at h
      split at h
      · rename_i q
        split at h
        · cases h
          exact .inl ⟨rfl, q, rfl, rfl⟩
        · cases h
      · rename_i q
        obtain ⟨x, _, e⟩ := Option.map_eq_some_iff.mp h
        rw [← e]
        exact .inr ⟨by cases b <;> simp_all, rfl⟩
end Bx
end
end

section
set_option Elab.async false
set_option linter.all false
set_option maxRecDepth 100000
set_option maxHeartbeats 4000000
set_option autoImplicit false
noncomputable section
namespace Bx
open PySem PySem.Spec PyProof.Rows L2
section
variable {C : Ct} {io : IO} {σ : St} {F H : Hp} {Γ : Ev} {ios : List Nat} {avs : List AV} {zs : List V} {args : Ev} {N0 : Addr → Prop}
def Lent (ios : List Nat) (avs : List AV) (H : Hp) (Γ : Ev) (σ : St) (a : Addr) : Prop := ∃ j i : Nat, avs[j]? = some (.s i) ∧ ios.contains j = false ∧ (∃ sd, Γ[i]? = some sd ∧ sd.len = true) ∧ OwnAt H Γ σ i a
open Classical in
noncomputable def lentF (L : Addr → Prop) (F H : Hp) : Hp := fun b => if L b then H b else F b
open Classical in
noncomputable def backF (L : Addr → Prop) (F : Hp) : Hp := fun b => if L b then none else F b
theorem lentF_no {L : Addr → Prop} {F H : Hp} {b : Addr} (h : ¬ L b) : lentF L F H b = F b := if_neg h
theorem lentF_yes {L : Addr → Prop} {F H : Hp} {b : Addr} (h : L b) : lentF L F H b = H b := if_pos h
theorem backF_no {L : Addr → Prop} {F : Hp} {b : Addr} (h : ¬ L b) : backF L F b = F b := if_neg h
theorem backF_yes {L : Addr → Prop} {F : Hp} {b : Addr} (h : L b) : backF L F b = none := if_pos h
def adrs (zs : List V) : Nat → Option Addr := fun j => match zs[j]? with
  | some (.ref a) => some a
  | _ => none
theorem adrs_get {zs : List V} {j : Nat} {a : Addr} (h : adrs zs j = some a) : zs[j]? = some (.ref a) := by
  unfold adrs at h
  split at h
  · rename_i b q; cases h; exact q
  · cases h
theorem adrs_of {zs : List V} {j : Nat} {a : Addr} (h : zs[j]? = some (.ref a)) : adrs zs j = some a := by
  unfold adrs
  rw [h]
theorem frzF_not {C : Ct} : ∀ {fs : List (Str × OD)} {vs : List (Str × V)} {fp : List Addr}, (frzF fs).isSome = true → Owtf C F H fs vs → Fpf H fs vs fp → ∀ a ∈ fp, ∀ xs, H a ≠ some (.tup xs) ∧ ∀ o, H a ≠ some (.frz o (.tup xs))
  | [], _, _, _, _, ⟨_, e⟩, a, ha, _ => by rw [e] at ha; cases ha
  | (n, o) :: fs, _, _, h, ⟨x, r, e1, o1, o2⟩, ⟨y, q, f, g, e2, p1, p2, e3⟩, a, ha, xs => by
    rw [e1] at e2; cases e2
    rw [e3] at ha
    have h2 : (frzF fs).isSome = true := by
      cases w : frzF fs with
      | some l => rfl
      | none => cases z : frzL o <;> simp [z, w] at h
    rcases List.mem_append.mp ha with k | k
    · cases o with
      | fr d => have p1 : f = [] := p1; rw [p1] at k; cases k
      | ow l =>
        obtain ⟨b, us, w1, w2, _⟩ := o1
        obtain ⟨c, w3, w4⟩ := p1
        rw [w1] at w3; cases w3
        rw [w4, List.mem_singleton] at k
        rw [k, w2]
        exact ⟨by simp, by simp⟩
      | od l =>
        obtain ⟨b, us, w1, w2, _⟩ := o1
        obtain ⟨c, w3, w4⟩ := p1
        rw [w1] at w3; cases w3
        rw [w4, List.mem_singleton] at k
        rw [k, w2]
        exact ⟨by simp, by simp⟩
      | ot l =>
        obtain ⟨b, us, w1, w2, _⟩ := o1
        obtain ⟨c, w3, w4⟩ := p1
        rw [w1] at w3; cases w3
        rw [w4, List.mem_singleton] at k
        rw [k, w2]
        exact ⟨by simp [rawT], by simp [rawT]⟩
      | tp l => simp at h
      | ls l => simp at h
      | ins c l => simp at h
    · exact frzF_not h2 o2 p2 a k xs
theorem frzF_ok {C : Ct} {G : Hp} (l : Bx.le F G) : ∀ {fs : List (Str × OD)} {ds : List (Str × D)} {vs : List (Str × V)} {fp : List Addr}, frzF fs = some ds → Owtf C F H fs vs → Fpf H fs vs fp → (∀ b ∈ fp, G b = H b) → RepF C G ds vs
  | [], _, _, _, h, q, _, _ => by cases h; exact q
  | (n, o) :: fs, _, _, _, h, ⟨x, r, e1, o1, o2⟩, ⟨y, q, f, g, e2, p1, p2, e3⟩, k => by
    rw [e1] at e2; cases e2
    obtain ⟨d, hd, h⟩ := bind_some (show (frzL o).bind _ = _ from h)
    obtain ⟨l2, hl, h⟩ := Option.map_eq_some_iff.mp h
    rw [← h]
    refine ⟨x, r, e1, ?_, frzF_ok l hl o2 p2 fun b hb => k b (by rw [e3]; exact List.mem_append_right _ hb)⟩
    cases o with
    | fr d => cases hd; exact Rep.mono l o1
    | ow m =>
      cases hd
      obtain ⟨b, us, w1, w2, w5, w6⟩ := o1
      obtain ⟨c, w3, w4⟩ := p1
      rw [w1] at w3; cases w3
      exact ⟨b, us, w1, by rw [k b (by rw [e3, w4]; simp)]; exact w2, w5.mono l, w6⟩
    | od m =>
      cases hd
      obtain ⟨b, us, w1, w2, w5⟩ := o1
      obtain ⟨c, w3, w4⟩ := p1
      rw [w1] at w3; cases w3
      exact ⟨b, us, w1, .inl (by rw [k b (by rw [e3, w4]; simp)]; exact w2), w5.mono l⟩
    | ot m =>
      cases hd
      obtain ⟨b, us, w1, w2, w5⟩ := o1
      obtain ⟨c, w3, w4⟩ := p1
      rw [w1] at w3; cases w3
      exact ⟨b, us, w1, .inl (by rw [k b (by rw [e3, w4]; simp)]; exact w2), w5.mono l⟩
    | tp m => cases hd
    | ls m => cases hd
    | ins c m => cases hd
theorem frzO_not {C : Ct} {o : OD} {v : V} {fp : List Addr} (h : (frzO o).isSome = true) (k : Owt C F H o v) (p : Fp H o v fp) : ∀ a ∈ fp, ∀ xs, H a ≠ some (.tup xs) ∧ ∀ u, H a ≠ some (.frz u (.tup xs)) := by
  cases o with
  | ins c fs =>
    obtain ⟨a, cl, dx, vs, e1, e2, e3, e4, e5, _⟩ := k
    obtain ⟨b, cl2, dy, ys, fps, p1, p2, p3, p4⟩ := p
    rw [e1] at p1; cases p1
    rw [e3] at p2; cases p2
    intro x hx xs
    rw [p4] at hx
    rcases List.mem_cons.mp hx with z | z
    · rw [z, e3]; exact ⟨by simp, by simp⟩
    · rcases List.mem_cons.mp z with z | z
      · rw [z, e4]; exact ⟨by simp, by simp⟩
      · exact frzF_not (by simpa using h) e5 p3 x z xs
  | _ => simp at h
theorem frzO_ok {C : Ct} {pin : Hp} {kp : Option Hp} {G : Hp} (l : Bx.le F G) {o : OD} {y : FX} {v : V} {fp : List Addr} (h : frzO o = some y) (k : Owt C F H o v) (p : Fp H o v fp) (g : ∀ b ∈ fp, G b = H b) : FXOk C pin kp G y v := by
  cases o with
  | ins c fs =>
    obtain ⟨a, cl, dx, vs, e1, e2, e3, e4, e5, _⟩ := k
    obtain ⟨b, cl2, dy, ys, fps, p1, p2, p3, p4⟩ := p
    rw [e1] at p1; cases p1
    rw [e3] at p2; cases p2
    obtain ⟨ds, hd, h⟩ := Option.map_eq_some_iff.mp h
    rw [← h]
    exact ⟨a, cl, dx, vs, e1, e2, by rw [g a (by rw [p4]; simp)]; exact e3, frzF_ok l hd e5 p3 fun b hb => g b (by rw [p4]; simp [hb])⟩
  | _ => simp at h
theorem lent_own (A : At C io σ F H Γ) {a : Addr} (h : Lent ios avs H Γ σ a) : F a = none ∧ H a ≠ none ∧ ∀ xs, H a ≠ some (.tup xs) ∧ ∀ o, H a ≠ some (.frz o (.tup xs)) := by
  obtain ⟨j, i, _, _, ⟨sd, e1, e2⟩, o⟩ := h
  obtain ⟨k1, k2⟩ := A.ownAt_none o
  refine ⟨k1, k2, fun xs => ?_⟩
  cases sd with
  | no => cases e2
  | fr d => cases e2
  | fu d => cases e2
  | fx x => cases e2
  | ob t x =>
    obtain ⟨v, fp, w1, w2, w3, _⟩ := A.ob e1
    obtain ⟨sd, q1, _, u, q2, q3⟩ := o
    rw [e1] at q1; cases q1
    rw [w1] at q2; cases q2
    obtain ⟨g, q4, q5⟩ := q3
    rw [Fp.det q4 w3] at q5
    exact frzO_not (by simpa using e2) w2 w3 a q5 xs
  | ow t l => obtain ⟨_, ⟨ys, q, _⟩, _⟩ := A.own_simple e1 rfl (o.smp e1 rfl); rw [q]; exact ⟨by simp, by simp⟩
  | od t l => obtain ⟨_, ⟨ys, q, _⟩, _⟩ := A.own_simple e1 rfl (o.smp e1 rfl); rw [q]; exact ⟨by simp, by simp⟩
  | ot t l => obtain ⟨_, ⟨ys, q, _⟩, _⟩ := A.own_simple e1 rfl (o.smp e1 rfl); rw [q]; exact ⟨by simp [rawT], by simp [rawT]⟩
theorem lent_le (A : At C io σ F H Γ) : le F (lentF (Lent ios avs H Γ σ) F H) := fun b o h => by
  rw [lentF_no fun q => by rw [(lent_own A q).1] at h; cases h]
  exact h
theorem Held.carg {b : Bool} {j : Nat} {s sd : SD} {v : V} {a : Addr} (h : cargS b j (some s) = some sd) (o : sd.own = true) (k : Held H v a sd) : Held H v a s := by
  cases s with
  | no => cases h
  | fr d => cases h
  | fu d => cases h
  | fx x =>
    cases x with
    | o c fs =>
      have h : (if b = true then none else some (SD.fx (.o c fs))) = some sd := h
      split at h
      · cases h
      · cases h; cases o
    | _ => cases h
  | ow t l =>
    cases b with
    | true => cases h; exact k
    | false => cases h; cases o
  | od t l =>
    cases b with
    | true => cases h; exact k
    | false => cases h; cases o
  | ot t l =>
    cases b with
    | true => cases h; exact k
    | false => cases h; cases o
  | ob t x =>
    have h : cargO b j x = some sd := h
    unfold cargO at h
    split at h
    · split at h
      · cases h; exact k
      · cases h
    · obtain ⟨y, _, e⟩ := Option.map_eq_some_iff.mp h
      rw [← e] at o; cases o
theorem Held.retag {s u : SD} {v : V} {a : Addr} (o : u.own = true) : Held H v a (retag s u) ↔ Held H v a u := by
  cases u with
  | no => cases o
  | fr d => cases o
  | fu d => cases o
  | fx x => cases o
  | _ => exact Iff.rfl
theorem Fp.ref : ∀ {o : OD} {v : V} {fp : List Addr}, Fp H o v fp → o.hd = true → ∃ a, v = .ref a
  | .fr _, _, _, _, h => nomatch h
  | .ow _, _, _, ⟨a, e, _⟩, _ => ⟨a, e⟩
  | .od _, _, _, ⟨a, e, _⟩, _ => ⟨a, e⟩
  | .ot _, _, _, ⟨a, e, _⟩, _ => ⟨a, e⟩
  | .tp _, _, _, ⟨a, _, _, e, _⟩, _ => ⟨a, e⟩
  | .ls _, _, _, ⟨a, _, _, e, _⟩, _ => ⟨a, e⟩
  | .ins _ _, _, _, ⟨a, _, _, _, _, e, _⟩, _ => ⟨a, e⟩
theorem arg_own (hv : AVsOk C N0 F H Γ σ avs zs) (hc : cargs ios 0 Γ avs = some args) {j : Nat} {a : Addr} (h : OwnAt H args (zs.map some) j a) : ∃ i, avs[j]? = some (.s i) ∧ ios.contains j = true ∧ OwnAt H Γ σ i a ∧ ∃ sd, args[j]? = some sd ∧ sd.tag = some j := by
  obtain ⟨sd, e1, e2, vv, e3, e4⟩ := h
  obtain ⟨av, q1, q2⟩ := (cargs_get hc).2 j sd e1
  rw [Nat.zero_add] at q2
  obtain ⟨v, w1, w2⟩ := hv.get.2 j av q1
  rw [List.getElem?_map, w1] at e3
  have e3 : (some (some v) : Option (Option V)) = some (some vv) := e3
  cases e3
  cases av with
  | d x => cases q2; cases e2
  | u x => cases q2; cases e2
  | n l => cases q2
  | s i =>
    have q2 : cargS (ios.contains j) j Γ[i]? = some sd := q2
    obtain ⟨s, z1, z3⟩ := cargS_io q2
    rw [z1] at q2
    rcases z3 with ⟨z2, z4, z5, z6⟩ | ⟨_, z5⟩
    · exact ⟨i, q1, z4, ⟨s, z1, z2, _, w2, Held.carg q2 e2 e4⟩, sd, e1, z6⟩
    · rw [z5] at e2; cases e2
theorem At.call (A : At C io σ F H Γ) (hv : AVsOk C N0 F H Γ σ avs zs) (hd : dist (owns avs) = true) (hc : cargs ios 0 Γ avs = some args) : At C (IO.of (adrs zs) (lentF (Lent ios avs H Γ σ) F H)) (zs.map some) (lentF (Lent ios avs H Γ σ) F H) H args where
  le := fun b o h => by
    by_cases q : Lent ios avs H Γ σ b
    · rw [lentF_yes q] at h; exact h
    · rw [lentF_no q] at h; exact A.le b o h
  pin := le.refl _
  len := by rw [(cargs_get hc).1, List.length_map, hv.get.1]
  slot := fun j sd e1 => by
    obtain ⟨av, q1, q2⟩ := (cargs_get hc).2 j sd e1
    rw [Nat.zero_add] at q2
    obtain ⟨v, w1, w2⟩ := hv.get.2 j av q1
    have es : (zs.map some)[j]? = some (some v) := by rw [List.getElem?_map, w1]; rfl
    rw [es]
    cases av with
    | d x => cases q2; exact ⟨v, rfl, Rep.mono (lent_le A) w2⟩
    | u x => cases q2; exact ⟨v, rfl, Rep.mono (lent_le A) (RepN.rep w2)⟩
    | n l => cases q2
    | s i =>
      have w2 : σ[i]? = some (some v) := w2
      have q2 : cargS (ios.contains j) j Γ[i]? = some sd := q2
      obtain ⟨s, z1, z3⟩ := cargS_io q2
      rw [z1] at q2
      have nol : ∀ {a : Addr}, ios.contains j = true → OwnAt H Γ σ i a → ¬ Lent ios avs H Γ σ a := by
        rintro a b o ⟨k, i', y1, y2, _, y3⟩
        have := A.ne i i' a o y3
        subst this
        have := dist_owns hd q1 y1
        subst this
        rw [b] at y2; cases y2
      have sl := A.slot i s z1
      cases s with
      | no => cases q2
      | fr d => cases q2
      | fu d => cases q2
      | fx x =>
        cases x with
        | o c fs =>
          have q2 : (if ios.contains j = true then none else some (SD.fx (.o c fs))) = some sd := q2
          split at q2
          · cases q2
          · cases q2
            obtain ⟨u, y1, p, cl, dx, vs, y2, y3, y4, y5⟩ := sl
            rw [w2] at y1; cases y1
            exact ⟨v, rfl, p, cl, dx, vs, y2, y3, lent_le A _ _ y4, y5.mono (lent_le A)⟩
        | _ => cases q2
      | ow t l =>
        obtain ⟨a, y1, y2, ⟨xs, y3, y4, y6⟩, y5⟩ := sl
        rw [w2] at y1; cases y1
        have o : OwnAt H Γ σ i a := OwnAt.of z1 rfl w2
        cases b : ios.contains j with
        | true =>
          rw [b] at q2; cases q2
          exact ⟨a, rfl, by rw [lentF_no (nol b o)]; exact y2, ⟨xs, y3, y4.mono (lent_le A), y6⟩, fun k h => by cases h; exact adrs_of w1⟩
        | false =>
          rw [b] at q2; cases q2
          exact ⟨.ref a, rfl, a, xs, rfl, by rw [lentF_yes ⟨j, i, q1, b, ⟨_, z1, rfl⟩, o⟩]; exact y3, y4.mono (lent_le A), y6⟩
      | od t l =>
        obtain ⟨a, y1, y2, ⟨xs, y3, y4⟩, y5⟩ := sl
        rw [w2] at y1; cases y1
        have o : OwnAt H Γ σ i a := OwnAt.of z1 rfl w2
        cases b : ios.contains j with
        | true =>
          rw [b] at q2; cases q2
          exact ⟨a, rfl, by rw [lentF_no (nol b o)]; exact y2, ⟨xs, y3, y4.mono (lent_le A)⟩, fun k h => by cases h; exact adrs_of w1⟩
        | false =>
          rw [b] at q2; cases q2
          exact ⟨.ref a, rfl, a, xs, rfl, .inl (by rw [lentF_yes ⟨j, i, q1, b, ⟨_, z1, rfl⟩, o⟩]; exact y3), y4.mono (lent_le A)⟩
      | ot t l =>
        obtain ⟨a, y1, y2, ⟨xs, y3, y4⟩, y5⟩ := sl
        rw [w2] at y1; cases y1
        have o : OwnAt H Γ σ i a := OwnAt.of z1 rfl w2
        cases b : ios.contains j with
        | true =>
          rw [b] at q2; cases q2
          exact ⟨a, rfl, by rw [lentF_no (nol b o)]; exact y2, ⟨xs, y3, y4.mono (lent_le A)⟩, fun k h => by cases h; exact adrs_of w1⟩
        | false =>
          rw [b] at q2; cases q2
          exact ⟨.ref a, rfl, a, xs, rfl, .inl (by rw [lentF_yes ⟨j, i, q1, b, ⟨_, z1, rfl⟩, o⟩]; exact y3), y4.mono (lent_le A)⟩
      | ob t x =>
        have q2 : cargO (ios.contains j) j x = some sd := q2
        unfold cargO at q2
        obtain ⟨u, fp, y1, y2, y3, y4, y5, _, y7⟩ := A.ob z1
        rw [w2] at y1; cases y1
        split at q2
        · rename_i hb
          split at q2
          · rename_i hb2
            cases q2
            obtain ⟨a, rfl⟩ := Fp.ref y3 hb2
            exact ⟨.ref a, fp, rfl, y2.mono (lent_le A), y3, y4, fun b hb3 => by rw [lentF_no (nol hb (y7 b hb3))]; exact y5 b hb3, fun k h => by cases h; exact ⟨a, rfl, adrs_of w1⟩⟩
          · cases q2
        · rename_i hb
          obtain ⟨y, hy, e⟩ := Option.map_eq_some_iff.mp q2
          rw [← e]
          have hb : ios.contains j = false := by cases w : ios.contains j with
            | false => rfl
            | true => exact absurd w hb
          exact ⟨v, rfl, frzO_ok (lent_le A) hy y2 y3 fun b hb3 => lentF_yes ⟨j, i, q1, hb, ⟨_, z1, (by show (frzO x).isSome = true; rw [hy]; rfl)⟩, y7 b hb3⟩⟩
  ne := fun j k a h1 h2 => by
    obtain ⟨i, q1, _, q3, _⟩ := arg_own hv hc h1
    obtain ⟨i', w1, _, w3, _⟩ := arg_own hv hc h2
    have := A.ne i i' a q3 w3
    subst this
    exact dist_owns hd q1 w1
theorem Go.call (A : At C io σ F H Γ) (hv : AVsOk C N0 F H Γ σ avs zs) (hd : dist (owns avs) = true) (hc : cargs ios 0 Γ avs = some args) {F' H' : Hp} {o : Ev}
    (g : Gs C (IO.of (adrs zs) (lentF (Lent ios avs H Γ σ) F H)) (zs.map some) (lentF (Lent ios avs H Γ σ) F H) H args (zs.map some) F' H' o) (hs : lends ios Γ 0 avs = true → o.all safeS = true) :
    Go C io σ F H Γ σ (backF (Lent ios avs H Γ σ) F') H' (wb ios 0 avs o Γ) ∧
    (∀ {d : D} {v : V}, (lends ios Γ 0 avs = true → noL d = true) → Rep C F' d v → Rep C (backF (Lent ios avs H Γ σ) F') d v) ∧
    (∀ {d : List D} {v : List V}, (lends ios Γ 0 avs = true → noLs d = true) → Reps C F' d v → Reps C (backF (Lent ios avs H Γ σ) F') d v) ∧
    (∀ {d : D} {v : V}, RepN C (fun b => lentF (Lent ios avs H Γ σ) F H b = none) F' d v → RepN C (NewA Γ σ H) (backF (Lent ios avs H Γ σ) F') d v) ∧
    (∀ a, NewA args (zs.map some) H a → NewA Γ σ H a) ∧ (∀ a, OwnA H' (wb ios 0 avs o Γ) σ a → NewA args (zs.map some) H a → OwnA H' o (zs.map some) a) := by
  have ol : o.length = avs.length := by
    rw [g.at_.len, List.length_map, hv.get.1]
  have fle : le (lentF (Lent ios avs H Γ σ) F H) F' := g.at_.pin
  have argO : ∀ {a : Addr}, OwnA H args (zs.map some) a → OwnA H Γ σ a := fun ⟨j, q⟩ => by
    obtain ⟨i, _, _, w, _⟩ := arg_own hv hc q
    exact ⟨i, w⟩
  have naw : ∀ a, NewA args (zs.map some) H a → NewA Γ σ H a := fun a q => q.imp id argO
  have nolend : lends ios Γ 0 avs = false → ∀ a, ¬ Lent ios avs H Γ σ a := fun hl a ⟨j, i, q1, q2, ⟨sd, q3, q4⟩, _⟩ => by
    rcases lends_get hl j i q1 with w | ⟨x, w⟩
    · rw [Nat.zero_add] at w
      rw [w] at q2; cases q2
    · rw [w] at q3; cases q3; cases q4
  have cv : ∀ a xs, SqT C.K F' a xs → SqT C.K (backF (Lent ios avs H Γ σ) F') a xs := fun a xs h => by
    rcases h with h | h
    · refine .inl ?_
      have nl : ¬ Lent ios avs H Γ σ a := fun q => by
        obtain ⟨w1, w2, w3⟩ := lent_own A q
        cases e : H a with
        | none => exact w2 e
        | some u =>
          have z := fle a u (by rw [lentF_yes q]; exact e)
          rcases h with h | ⟨ob, h⟩
          · rw [z] at h; cases h; exact (w3 xs).1 e
          · rw [z] at h; cases h; exact (w3 xs).2 ob e
      rcases h with h | ⟨ob, h⟩
      · exact .inl (by rw [backF_no nl]; exact h)
      · exact .inr ⟨ob, by rw [backF_no nl]; exact h⟩
    · exact .inr h
  have sub : ∀ {d : D} {v : V}, (lends ios Γ 0 avs = true → noL d = true) → Rep C F' d v → Rep C (backF (Lent ios avs H Γ σ) F') d v := by
    intro d v hn r
    cases hl : lends ios Γ 0 avs with
    | false => exact Rep.mono (fun b u h => by rw [backF_no (nolend hl b)]; exact h) r
    | true => exact RepN.rep (RepN.conv (N := fun _ => False) (M := fun _ => False) cv (fun _ _ _ q => q.elim) (Rep.noN (hn hl) r))
  have subs : ∀ {d : List D} {v : List V}, (lends ios Γ 0 avs = true → noLs d = true) → Reps C F' d v → Reps C (backF (Lent ios avs H Γ σ) F') d v := by
    intro d v hn r
    cases hl : lends ios Γ 0 avs with
    | false => exact Reps.mono (fun b u h => by rw [backF_no (nolend hl b)]; exact h) r
    | true => exact RepsN.rep (RepsN.conv (N := fun _ => False) (M := fun _ => False) cv (fun _ _ _ q => q.elim) (Reps.noN (hn hl) r))
  have ff : le F (backF (Lent ios avs H Γ σ) F') := fun b u h => by
    have nl : ¬ Lent ios avs H Γ σ b := fun q => by rw [(lent_own A q).1] at h; cases h
    rw [backF_no nl]
    exact fle b u (by rw [lentF_no nl]; exact h)
  have bn : ∀ {a : Addr}, F' a = none → backF (Lent ios avs H Γ σ) F' a = none := by
    intro a ha
    by_cases nl : Lent ios avs H Γ σ a
    · exact backF_yes nl
    · rw [backF_no nl]; exact ha
  have nar : ∀ {i : Nat} {a : Addr}, (∀ j, avs[j]? = some (.s i) → ios.contains (0 + j) = false) → OwnAt H Γ σ i a → ¬ OwnA H args (zs.map some) a := by
    rintro i a hno oat ⟨j, q⟩
    obtain ⟨i', y1, y2, y3, _⟩ := arg_own hv hc q
    have := A.ne i i' a oat y3
    subst this
    have := hno j y1
    rw [Nat.zero_add] at this
    rw [y2] at this; cases this
  have stay : ∀ {i : Nat} {a : Addr}, (∀ j, avs[j]? = some (.s i) → ios.contains (0 + j) = false) → OwnAt H Γ σ i a → H' a = H a := by
    intro i a hno oat
    cases e : H a with
    | none => exact absurd e (A.ownAt_none oat).2
    | some z => exact g.keep a z e (nar hno oat) (by
        cases w : lentF (Lent ios avs H Γ σ) F H a with
        | none => exact .inl rfl
        | some z => exact .inr (by show lentF (Lent ios avs H Γ σ) F H a ≠ none; rw [w]; simp))
  have nF : ∀ {i : Nat} {a : Addr}, (∀ j, avs[j]? = some (.s i) → ios.contains (0 + j) = false) → OwnAt H Γ σ i a → backF (Lent ios avs H Γ σ) F' a = none := by
    intro i a hno oat
    by_cases nl : Lent ios avs H Γ σ a
    · exact backF_yes nl
    · rw [backF_no nl]
      cases e : F' a with
      | none => rfl
      | some z =>
        rcases g.new a (by rw [lentF_no nl]; exact (A.ownAt_none oat).1) (by rw [e]; simp) with y | y
        · exact absurd y (A.ownAt_none oat).2
        · exact absurd y (nar hno oat)
  -- the caller's own slots behind the call
  have own1 : ∀ {i : Nat} {a : Addr}, OwnAt H' (wb ios 0 avs o Γ) σ i a → (OwnAt H Γ σ i a ∧ ∀ j, avs[j]? = some (.s i) → ios.contains (0 + j) = false) ∨ ∃ j, avs[j]? = some (.s i) ∧ ios.contains (0 + j) = true ∧ OwnAt H' o (zs.map some) j a := by
    intro i a q
    obtain ⟨sd, e1, e2, v, e3, e4⟩ := id q
    rcases wb_get ol hd e1 with ⟨q0, hno⟩ | ⟨j, u, s, q1, q2, q3, q4, q5⟩
    · exact .inl ⟨(A.heldJ (by rw [e1, q0]) rfl fun c hc => stay hno hc).mp q, hno⟩
    · refine .inr ⟨j, q1, q2, u, q3, retag_own (by rw [← q5]; exact e2), v, ?_, ?_⟩
      · obtain ⟨v', w1, w2⟩ := hv.get.2 j _ q1
        have w2 : σ[i]? = some (some v') := w2
        rw [e3] at w2; cases w2
        rw [List.getElem?_map, w1]; rfl
      · rw [q5] at e4 e2
        exact (Held.retag (retag_own e2)).mp e4
  have val : ∀ {i j : Nat} {a : Addr}, avs[j]? = some (.s i) → (zs.map some)[j]? = some (some (.ref a)) → σ[i]? = some (some (.ref a)) := by
    intro i j a q1 q2
    obtain ⟨v, w1, w2⟩ := hv.get.2 j _ q1
    rw [List.getElem?_map, w1] at q2
    have q2 : (some (some v) : Option (Option V)) = some (some (.ref a)) := q2
    cases q2
    exact w2
  refine ⟨⟨ff, fun b u h n => g.keep b u h (fun q => n (argO q)) (by
      cases w : lentF (Lent ios avs H Γ σ) F H b with
      | none => exact .inl rfl
      | some z => exact .inr (by show lentF (Lent ios avs H Γ σ) F H b ≠ none; rw [w]; simp)), g.live, fun b h q => ?_, fun b ⟨i, q⟩ => (by
      rcases own1 q with ⟨q, _⟩ | ⟨j, _, _, q⟩
      · exact .inl ⟨i, q⟩
      · exact (g.own b ⟨j, q⟩).imp argO id), rfl,
    ⟨fun b u h => ?_, A.pin.trans ff, by rw [wb_len]; exact A.len, fun i sd e => ?_, fun i j a h1 h2 => (by
      have cross : ∀ {i j k : Nat}, OwnAt H Γ σ i a → (∀ j, avs[j]? = some (.s i) → ios.contains (0 + j) = false) → OwnAt H' o (zs.map some) k a → i = j := fun {i j k} w1 w2 w3 => by
        rcases g.own a ⟨k, w3⟩ with z | z
        · exact absurd z (nar w2 w1)
        · exact absurd z (A.ownAt_none w1).2
      rcases own1 h1 with ⟨w1, w2⟩ | ⟨k, w1, w2, w3⟩
      · rcases own1 h2 with ⟨z1, z2⟩ | ⟨l, z1, z2, z3⟩
        · exact A.ne i j a w1 z1
        · exact cross w1 w2 z3
      · rcases own1 h2 with ⟨z1, z2⟩ | ⟨l, z1, z2, z3⟩
        · exact (cross z1 z2 w3).symm
        · have := g.at_.ne k l a w3 z3
          subst this
          rw [w1] at z1; cases z1; rfl)⟩⟩, sub, subs, ?_, naw, ?_⟩
  · have nl : ¬ Lent ios avs H Γ σ b := fun w => by rw [backF_yes w] at q; exact q rfl
    rw [backF_no nl] at q
    exact (g.new b (by rw [lentF_no nl]; exact h) q).imp id argO
  · by_cases nl : Lent ios avs H Γ σ b
    · rw [backF_yes nl] at h; cases h
    · rw [backF_no nl] at h; exact g.at_.le b u h
  · rcases wb_get ol hd e with ⟨q, hno⟩ | ⟨j, u, s, q1, q2, q3, q4, q5⟩
    · have sl := A.slot i sd q
      have oth : ∀ {sd : SD}, Γ[i]? = some sd → sd.smp = true → (∃ a, σ[i]? = some (some (V.ref a)) ∧ F a = none ∧ OwnOk C F H a sd ∧ ∀ k, sd.tag = some k → io.adr k = some a) →
          (∃ a, σ[i]? = some (some (V.ref a)) ∧ backF (Lent ios avs H Γ σ) F' a = none ∧ OwnOk C (backF (Lent ios avs H Γ σ) F') H' a sd ∧ ∀ k, sd.tag = some k → io.adr k = some a) := by
        rintro sd es so ⟨a, w1, w2, w3, w4⟩
        have oat : OwnAt H Γ σ i a := OwnAt.of es so w1
        exact ⟨a, w1, nF hno oat, (w3.mono ff).heap (stay hno oat), w4⟩
      cases sd with
      | no => trivial
      | fr d => obtain ⟨v, w1, w2⟩ := sl; exact ⟨v, w1, w2.mono ff⟩
      | fu d => obtain ⟨v, w1, w2⟩ := sl; exact ⟨v, w1, RepN.mono ff w2⟩
      | fx x => obtain ⟨v, w1, w2⟩ := sl; exact ⟨v, w1, FXOk.mono ff w2⟩
      | ob t x => exact A.obUp q ff (fun b hb => nF hno hb) fun b hb => stay hno hb
      | ow t l => exact oth q rfl sl
      | od t l => exact oth q rfl sl
      | ot t l => exact oth q rfl sl
    · have w := g.at_.slot j u q3
      have sf : lends ios Γ 0 avs = true → safeS u = true := fun hl => List.all_eq_true.mp (hs hl) u (List.mem_of_getElem? q3)
      have tg : ∀ {a : Addr}, σ[i]? = some (some (V.ref a)) → ∀ k, s.tag = some k → io.adr k = some a := by
        intro a ha k hk
        have sl := A.slot i s q4
        cases s with
        | no => cases hk
        | fr d => cases hk
        | fu d => cases hk
        | fx x => cases hk
        | ow t l => obtain ⟨b, y1, y2, y3, y4⟩ := sl; rw [ha] at y1; cases y1; exact y4 k hk
        | od t l => obtain ⟨b, y1, y2, y3, y4⟩ := sl; rw [ha] at y1; cases y1; exact y4 k hk
        | ot t l => obtain ⟨b, y1, y2, y3, y4⟩ := sl; rw [ha] at y1; cases y1; exact y4 k hk
        | ob t x =>
          obtain ⟨b, fp, y1, _, _, _, _, y4⟩ := sl
          rw [ha] at y1; cases y1
          obtain ⟨c, y5, y6⟩ := y4 k hk
          cases y5
          exact y6
      rw [q5]
      cases u with
      | no => trivial
      | fr d => trivial
      | fu d => trivial
      | fx x => trivial
      | ow t l =>
        obtain ⟨a, y1, y2, ⟨xs, y3, y4, y6⟩, y5⟩ := w
        have hσ := val q1 y1
        exact ⟨a, hσ, bn y2, ⟨xs, y3, subs (fun hl => sf hl) y4, y6⟩, tg hσ⟩
      | od t l =>
        obtain ⟨a, y1, y2, ⟨xs, y3, y4⟩, y5⟩ := w
        have hσ := val q1 y1
        refine ⟨a, hσ, bn y2, ⟨xs, y3, ?_⟩, tg hσ⟩
        cases hl : lends ios Γ 0 avs with
        | false => exact RepKv.mono (fun b u h => by rw [backF_no (nolend hl b)]; exact h) y4
        | true => have z := sf hl; cases z
      | ot t l =>
        obtain ⟨a, y1, y2, ⟨xs, y3, y4⟩, y5⟩ := w
        have hσ := val q1 y1
        refine ⟨a, hσ, bn y2, ⟨xs, y3, ?_⟩, tg hσ⟩
        cases hl : lends ios Γ 0 avs with
        | false => exact RepTk.mono (fun b u h => by rw [backF_no (nolend hl b)]; exact h) y4
        | true => have z := sf hl; cases z
      | ob t x =>
        obtain ⟨v, fp, y1, y2, y3, y4, y5, y6⟩ := w
        obtain ⟨v', w1, w2⟩ := hv.get.2 j _ q1
        have w2 : σ[i]? = some (some v') := w2
        rw [List.getElem?_map, w1] at y1
        have y1 : (some (some v') : Option (Option V)) = some (some v) := y1
        cases y1
        have lf : lends ios Γ 0 avs = false := by
          cases hl : lends ios Γ 0 avs with
          | false => rfl
          | true => have z := sf hl; cases z
        refine ⟨_, fp, w2, y2.mono (fun b u h => by rw [backF_no (nolend lf b)]; exact h), y3, y4, fun b hb => bn (y5 b hb), fun k hk => ?_⟩
        have hk : s.tag = some k := hk
        have sl := A.slot i s q4
        cases s with
        | no => cases hk
        | fr d => cases hk
        | fu d => cases hk
        | fx x => cases hk
        | ow t l => obtain ⟨b, k1, k2, k3, k4⟩ := sl; rw [w2] at k1; cases k1; exact ⟨b, rfl, k4 k hk⟩
        | od t l => obtain ⟨b, k1, k2, k3, k4⟩ := sl; rw [w2] at k1; cases k1; exact ⟨b, rfl, k4 k hk⟩
        | ot t l => obtain ⟨b, k1, k2, k3, k4⟩ := sl; rw [w2] at k1; cases k1; exact ⟨b, rfl, k4 k hk⟩
        | ob t x =>
          obtain ⟨b, fp, k1, _, _, _, _, k4⟩ := sl
          rw [w2] at k1; cases k1
          exact k4 k hk
  · intro d v r
    refine RepN.conv cv (fun a xs h n => ?_) r
    have nl : ¬ Lent ios avs H Γ σ a := fun q => by
      have n : lentF (Lent ios avs H Γ σ) F H a = none := n
      rw [lentF_yes q] at n
      exact (lent_own A q).2.1 n
    refine ⟨by rw [backF_no nl]; exact h, ?_⟩
    exact (g.new a n (by rw [h]; simp)).imp id argO
  · rintro a ⟨i, q⟩ hna
    rcases own1 q with ⟨w1, w2⟩ | ⟨j, _, _, w3⟩
    · rcases hna with z | z
      · exact absurd z (A.ownAt_none w1).2
      · exact absurd z (nar w2 w1)
    · exact ⟨j, w3⟩
end
def wx (C : Ct) (W : XW) : WX := fun cls d σ H => ∃ c, cls = ca C c ∧ d = none ∧ W c σ H
theorem takes0 {X : Cx} : Takes X (wx (ct X) W0) := fun u s' ⟨a, B, sI, pins, σ, H, cls, d, e, I, nb, up, sky, na, os, ag, w⟩ => by
  obtain ⟨c, _, _, h⟩ := w
  exact h.elim
theorem takesB {X : Cx} {E : XK} (t : Takes X fun cls d _ H => E cls d H) : Takes X (wx (ct X) fun c _ H' => E (ca (ct X) c) none H') := t.imp fun cls d σ H ⟨c, e1, e2, h⟩ => by
  rw [e1, e2]
  exact h
section
variable {X : Cx} {W : XW} {k : Nat} {f : Addr} {fd : FuncData} {ps : List Str} {x : Str} {p pos : Pos} {e : Expr} {es : List Expr} {fs : SA} {m : Ev → FR}
theorem q_call (ios : List Nat) (G : FnG X.prog X.w X.K X.mg X.base k f fd ps (spM (ct X) m)) (hr : Room k X.A) (hgd : X.A.guards = some []) (tk : Takes X (wx (ct X) W)) (hm : X.mg x = some (.ref f)) (hk : PySem.W.keepIn X.K (.ref f) = true) (hb : Binds X.K fd ps [])
    (ha : PA X (e :: es) (tA (ct X) W fs)) (hg : Gl X x := by rfl) (hdb : (x == ("__debug__" : Str)) = false := by decide) (he : starEach (e :: es) X.env = (false, eval e X.env) :: starEach es X.env := by rfl)
    (hpl : (backTo pos (starEach es X.env)).any (·.1) = false := by rfl) : PE X (.Call (.Name x p) (e :: es) [] pos) (tX (ct X) W (sCall m ios fs)) :=
  PE.imp (pe_callG (E := WE (wx (ct X) W)) G hr hgd hg hm hk hb (fun σ => passAt tk σ) ha hdb he hpl) fun σ H Q ⟨io, F, Γ, A, p⟩ => by
    have p : PX (ct X) io W σ F H Γ ((fs Γ).bind fun avs Γ1 => if dist (owns avs) = true then callA m ios avs Γ1 (cargs ios 0 Γ1 avs) else .bad) Q := p
    refine ⟨io, F, Γ, A, ?_⟩
    cases wf : fs Γ with
    | bad => rw [wf] at p; exact p
    | exc c Γ' => rw [wf] at p; exact p
    | ok avs Γ1 =>
      rw [wf] at p
      intro zs F1 H1 g1 hv
      have p : PX (ct X) io W σ F H Γ (if dist (owns avs) = true then callA m ios avs Γ1 (cargs ios 0 Γ1 avs) else .bad) Q := p
      split at p
      case isFalse => exact p.elim
      rename_i hd
      have p := PX.go g1 p
      cases hc : cargs ios 0 Γ1 avs with
      | none => rw [hc] at p; exact p.elim
      | some args =>
        rw [hc] at p
        have p : PX (ct X) io W σ F1 H1 Γ1 (callE ios avs Γ1 (m args)) Q := p
        refine ⟨_, _, args, At.call g1.at_ hv hd hc, rfl, ?_, fun j a q => adrs_get q, ?_⟩
        · intro j sd q1 q2
          obtain ⟨av, y1, y2⟩ := (cargs_get hc).2 j sd q1
          rw [Nat.zero_add] at y2
          cases av with
          | d x => cases y2; cases q2
          | u x => cases y2; cases q2
          | n l => cases y2
          | s i =>
            obtain ⟨s, z1, z3⟩ := cargS_io (show cargS (ios.contains j) j Γ1[i]? = some sd from y2)
            rcases z3 with ⟨_, _, _, z6⟩ | ⟨_, z5⟩
            · exact z6
            · rw [z5] at q2; cases q2
        · cases hm : m args with
          | bad => rw [hm] at p; exact p.elim
          | exc c o =>
            rw [hm] at p
            have p : PX (ct X) io W σ F1 H1 Γ1 (if safe (lends ios Γ1 0 avs) (.d .non) o = true then .exc c (wb ios 0 avs o Γ1) else .bad) Q := p
            split at p
            case isFalse => exact p.elim
            rename_i hs
            intro F' H' g
            obtain ⟨g2, _⟩ := Go.call g1.at_ hv hd hc g (fun hl => by
              unfold safe at hs
              rw [if_pos hl, Bool.and_eq_true] at hs
              exact hs.2)
            exact ⟨c, rfl, rfl, p _ _ g2⟩
          | ok av o =>
            rw [hm] at p
            have p : PX (ct X) io W σ F1 H1 Γ1 (if safe (lends ios Γ1 0 avs) av o = true ∧ isS av = false then .ok av (wb ios 0 avs o Γ1) else .bad) Q := p
            split at p
            case isFalse => exact p.elim
            rename_i hs
            obtain ⟨hs, hns⟩ := hs
            have hs1 : lends ios Γ1 0 avs = true → safeV av = true ∧ o.all safeS = true := fun hl => by
              unfold safe at hs
              rw [if_pos hl, Bool.and_eq_true] at hs
              exact hs
            intro v F' H' g hav
            obtain ⟨g2, sub, subs, subu, naw, ow2⟩ := Go.call g1.at_ hv hd hc g (fun hl => (hs1 hl).2)
            refine p v _ _ g2 ?_
            cases av with
            | d x => exact sub (fun hl => (hs1 hl).1) hav
            | u x => exact subu hav
            | s i => cases hns
            | n l =>
              obtain ⟨a, xs, e, h0, f0, no, ha, r, z⟩ := hav
              refine ⟨a, xs, e, naw a h0, ?_, fun q => no (ow2 a q h0), ha, subs (fun hl => (hs1 hl).1) r, z⟩
              by_cases nl : Lent ios avs H1 Γ1 σ a
              · exact backF_yes nl
              · rw [backF_no nl]; exact f0
end
end Bx
end
end

section
set_option Elab.async false
set_option linter.all false
set_option maxRecDepth 100000
set_option maxHeartbeats 4000000
set_option autoImplicit false
noncomputable section
namespace Bx
open PySem PySem.Spec PyProof.Rows L2
structure CallD (P : Program) (w : World) (K : PySem.W.Frag) (mg : Str → Option Value) (base : Heap) (k : Nat) (x : Str) (m : Ev → FR) : Prop where
  ex : ∃ (f : Addr) (fd : FuncData) (ps : List Str), FnG P w K mg base k f fd ps (spM ⟨K, mg, P, w⟩ m) ∧ mg x = some (.ref f) ∧ PySem.W.keepIn K (.ref f) = true ∧ Binds K fd ps []
theorem CallD.mono {P : Program} {w : World} {K : PySem.W.Frag} {mg : Str → Option Value} {base : Heap} {j k : Nat} {x : Str} {m : Ev → FR} (c : CallD P w K mg base j x m) (h : j ≤ k) : CallD P w K mg base k x m := by
  obtain ⟨f, fd, ps, g, r⟩ := c.ex
  exact ⟨f, fd, ps, g.mono h, r⟩
section
variable {X : Cx} {W : XW} {k j : Nat} {x : Str} {p pos : Pos} {e : Expr} {es : List Expr} {fs : SA} {m : Ev → FR}
theorem q_callD (ios : List Nat) (c : CallD X.prog X.w X.K X.mg X.base j x m) (hr : Room k X.A) (hgd : X.A.guards = some []) (tk : Takes X (wx (ct X) W)) (ha : PA X (e :: es) (tA (ct X) W fs)) (hj : j ≤ k := by decide)
    (hg : Gl X x := by rfl) (hdb : (x == ("__debug__" : Str)) = false := by decide) (he : starEach (e :: es) X.env = (false, eval e X.env) :: starEach es X.env := by rfl)
    (hpl : (backTo pos (starEach es X.env)).any (·.1) = false := by rfl) : PE X (.Call (.Name x p) (e :: es) [] pos) (tX (ct X) W (sCall m ios fs)) := by
  obtain ⟨f, fd, ps, g, h1, h2, h3⟩ := c.ex
  exact q_call ios g (hr.mono hj) hgd tk h1 h2 h3 ha hg hdb he hpl
end
section
variable {P : Program} {w : World} {K : PySem.W.Frag} {mg : Str → Option Value} {base : Heap}
theorem callD_of {x : Str} {qual : Str} {st : Stmt} {f : Addr} {fd : FuncData} {N ps : List Str} {k : Nat} {m : SS} (U : Fun K x qual st f fd) (hx : mg x = some (.ref f)) (b : Binds K fd ps []) (S : FnScope N ps (defScope st))
    (hbody : ∀ (cdv : Value) (A : Around) (out : List Env) (s : Shared) (H : Hp) (E : XK), Room k (A.deeper (envOfC qual (defScope st) s.heap.objs.size f cdv)) → (A.deeper (envOfC qual (defScope st) s.heap.objs.size f cdv)).guards = some [] →
      PSs (cxOf (L2.CX P w) P w K mg base N qual (defScope st) f cdv A out s H E) (defBody st) (tS ⟨K, mg, P, w⟩ (fun c _ H' => E (ca ⟨K, mg, P, w⟩ c) none H') m)) : CallD P w K mg base (k + 1) x (fnM ps.length N.length m) := by
  obtain ⟨oc, od, kV, doc, pm, an, cdv, ct, osl, rfl, lk, hcd⟩ := U.ex
  exact ⟨f, _, ps, fnG_of lk hcd S fun A out s H E => hbody cdv A out s H E, hx, U.kp, b⟩
end
theorem At.script {P : Program} {w : World} {K : PySem.W.Frag} {mg : Str → Option Value} {H : Hp} {a : Addr} {ns : List Int} (h : SqL K H a (ns.map V.int)) (hz : ns.length ≤ sizeLine) : At ⟨K, mg, P, w⟩ (IO.of (fun _ => none) H) [some (.ref a)] H H [.fr (.scr (ns.map D.int))] where
  le := le.refl _
  pin := le.refl _
  len := rfl
  slot := fun i sd e => by
    cases i with
    | zero =>
      cases e
      exact ⟨.ref a, rfl, a, _, rfl, h, Reps.of_ints ns, by rw [List.length_map]; exact hz⟩
    | succ i => simp at e
  ne := fun i j b ⟨sd, e, o, _⟩ _ => by
    cases i with
    | zero => cases e; cases o
    | succ i => simp at e
theorem law_goes {P : Program} {w : World} {K : PySem.W.Frag} {mg mb : Str → Option Value} {k : Nat} {fa a : Addr} {x : Str} {m : Ev → FR} {s : Shared} {us : List Value} {ns : List Int}
    (inK : K.In s.heap) (nsG : s.heap.Ns mainGlobals mg) (nsB : s.heap.Ns builtinsNs mb) (boot : ∀ y : Str, y ≠ "__name__" → mb y = bootBuiltins y) (nol : s.heap.NoLimit) (g0 : s.gens = #[]) (hmg : mg x = some (.ref fa))
    (scr : s.heap.get? a = some { cls := .type "list", data := .seq us.toArray }) (iare : IntsAre us ns) (hz : ns.length ≤ sizeLine) (room : Room k callerA)
    (G : ∀ base : Heap, K.In base → base.Ns mainGlobals mg → CallD P w K mg base k x m)
    (hm : ∃ o, m [.fr (.scr (ns.map D.int))] = .ok (.d (.bl true)) o) :
    codeAny (model P w) callerA (.call (.ref fa) ⟨[.ref a], []⟩) (fun r s' => r = .ok (.ret (.bool true)) ∧ OldK s.heap s'.heap ∧ s'.os = s.os ∧ AllBare s'.gens) s := by
  have vints := vals_ints iare
  have ulen := iare.length
  have core : ∀ T : Hp, Only T → SqL K T a (ns.map V.int) → HOk P w T s.heap → (∀ b, T b ≠ none → b = a) → (T a ≠ none → K.lookup a = none) →
      codeAny (model P w) callerA (.call (.ref fa) ⟨[.ref a], []⟩) (fun r s' => r = .ok (.ret (.bool true)) ∧ OldK s.heap s'.heap ∧ s'.os = s.os ∧ AllBare s'.gens) s := by
    intro T only sq ok sole apart
    have hid : ∀ {b : Addr} {u : Obj}, s.heap.get? b = some u → T b = none → (hidT s.heap T).get? b = some u := fun e n => hidT_get e n
    have dictFree : ∀ {b : Addr} {u : Obj} {es : Array DictEntry} {n : Nat}, s.heap.get? b = some u → u.data = .dict es n → T b = none := by
      intro b u es n e d
      cases q : T b with
      | none => rfl
      | some z =>
        obtain rfl : b = a := sole b (by rw [q]; simp)
        rw [scr] at e
        cases e
        have dd : Data.seq us.toArray _ = Data.dict es n := d
        cases dd
    have keepNs : ∀ {b : Addr} {f : Str → Option Value}, s.heap.Ns b f → (hidT s.heap T).Ns b f := fun {b f} ⟨u, es, n, e, d, r⟩ => ⟨u, es, n, hid e (dictFree e d), d, r⟩
    have inB : K.In (hidT s.heap T) := by
      intro b u e
      refine hid (inK b u e) ?_
      cases q : T b with
      | none => rfl
      | some z =>
        obtain rfl : b = a := sole b (by rw [q]; simp)
        rw [apart (by rw [q]; simp)] at e
        cases e
    have md : Mod K mg (hidT s.heap T) := ⟨inB, keepNs nsG, ⟨mb, keepNs nsB, boot⟩, let ⟨mc, h1, h2⟩ := nol; ⟨mc, keepNs h1, h2⟩⟩
    have env : Env0 P w K mg (hidT s.heap T) callerA [] s T := ⟨rfl, md, fun b u e => of_hidT e, Nat.le_of_eq (hidT_size _ _), trivial, fun b hb => (nomatch hb), ok, .of_eq g0⟩
    obtain ⟨f, fd, ps, g, h1, _, h3⟩ := (G _ inB (keepNs nsG)).ex
    rw [hmg] at h1
    cases h1
    have sp : spM ⟨K, mg, P, w⟩ m [.ref a] T (fun v _ => v = .bl true) (fun _ _ _ => False) := by
      refine ⟨_, _, _, At.script sq hz, rfl, fun j sd e o => ?_, fun j b q => ?_, ?_⟩
      · cases j with
        | zero => cases e; cases o
        | succ j => simp at e
      · cases q
      · obtain ⟨o, ho⟩ := hm
        rw [ho]
        exact fun v F' H' _ hv => hv
    have pl : ([Value.ref a] : List Value).length = ps.length := g.arity _ _ _ _ sp
    have bt := h3 s [.ref a] inK (by rw [List.append_nil]; exact pl)
    rw [List.append_nil] at bt
    refine codeAny_mono (g.go callerA [] s T ⟨[.ref a], []⟩ [.ref a] [.ref a] (fun v _ => v = .bl true) (fun _ _ _ => False) room rfl env bt (.cons rfl .nil) sp) ?_
    · intro r s' hr
      match r, hr with
      | .error e, hr =>
        obtain ⟨_, _, _, _, _, _, _, _, _, _, _, _, z⟩ := hr
        exact z.elim
      | .ok .next, hr => exact hr.elim
      | .ok .brk, hr => exact hr.elim
      | .ok .cont, hr => exact hr.elim
      | .ok (.ret u), hr =>
        obtain ⟨v, T', os, bare, un, ok', rv, hv⟩ := hr
        have hv : v = .bl true := hv
        subst hv
        obtain rfl : u = Value.bool true := rv
        refine ⟨rfl, OldK.of_keep fun b z e => ?_, os, bare⟩
        cases q : T b with
        | none => exact un.keep b z e q (fun y => nomatch y) (by simp)
        | some y =>
          rcases only b with n | ⟨ob, xs, n⟩
          · rw [q] at n; cases n
          · obtain ⟨e1, _⟩ := ok b _ n
            obtain ⟨e2, _⟩ := ok' b _ (un.frzs b ob _ n)
            rw [e] at e1
            cases e1
            exact e2
  cases hk : K.lookup a with
  | some u =>
    have e := inK a u hk
    rw [scr] at e
    cases e
    refine core (fun _ => none) (fun _ => .inl rfl) (.inr ⟨_, us.toArray, _, hk, rfl, rfl, rfl, by rw [List.size_toArray, ulen]; exact hz, by simpa using vints⟩) (fun b u z => nomatch (show (none : Option HO) = some u from z)) (fun b z => absurd rfl z) fun z => absurd rfl z
  | none =>
    have T0 : ∀ b : Addr, b ≠ a → (fun b => if b = a then some (HO.frz { cls := .type "list", data := .seq us.toArray } (.lst (ns.map V.int))) else none) b = none := fun b h => if_neg h
    refine core (fun b => if b = a then some (.frz { cls := .type "list", data := .seq us.toArray } (.lst (ns.map V.int))) else none) (fun b => ?_) (.inl (.inr ⟨{ cls := .type "list", data := .seq us.toArray }, if_pos rfl⟩)) (fun b u z => ?_) (fun b z => ?_) fun _ => hk
    · by_cases h : b = a
      · exact .inr ⟨_, _, if_pos h⟩
      · exact .inl (T0 b h)
    · by_cases h : b = a
      · subst h
        have z2 := (if_pos rfl).symm.trans z
        cases z2
        exact ⟨scr, by rw [List.length_map]; exact hz, us, _, vints, scr⟩
      · have z2 := (T0 b h).symm.trans z
        cases z2
    · by_cases h : b = a
      · exact h
      · exact absurd (T0 b h) z
theorem law_walk {l : PySem.W.OpenLaw} {n k : Nat} {q : Program} {loose : List Str} {XP : (Str → Option Value) → Heap → Prop} {YP : World → Heap → Prop} {d : DefRec} {K : Params → PySem.W.Frag} {m : Ev → FR}
    (hn : l.most = some n) (hn2 : n ≤ sizeLine) (hdf : d.params.defaults = []) (room : Room k callerA) (hY : ∀ (w : World) (h : Heap), YP w h → (K w.params).In h) (hm : ∀ ns : List Int, ns.length ≤ n → ∃ o, m [.fr (.scr (ns.map D.int))] = .ok (.d (.bl true)) o)
    (G : ∀ (w : World) (mg : Str → Option Value) (h : Heap), (K w.params).In h → h.Ns mainGlobals mg → ∀ base : Heap, (K w.params).In base → base.Ns mainGlobals mg → CallD l.prog w (K w.params) mg base k d.name m) :
    PySem.W.WalkO q loose XP YP l.row.toRowW d [] (fun f vs => PySem.call f vs) := by
  refine Att.attach_call hn hdf ?_
  intro w s₀ s₁ mg mb fa o pm cd doc a us ns Gr Y ho hd hcd hmg hobj hints hlen hg
  have inK := hY w _ Y
  exact law_goes inK Gr.T.g Gr.T.b Gr.T.builtins Gr.T.nolimit hg hmg hobj hints (Nat.le_trans hlen hn2) room (G w mg _ inK Gr.T.g) (hm ns hlen)
end Bx
end
end

section
set_option Elab.async false
set_option linter.all false
set_option maxRecDepth 100000
set_option maxHeartbeats 4000000
set_option autoImplicit false
noncomputable section
namespace Bx
open PySem PySem.Spec PyProof.Rows L2
@[simp] def lenD : List D → Option Rs
  | [.lst l] => some (.d (.int l.length))
  | [.scr l] => some (.d (.int l.length))
  | [.tup l] => some (.d (.int l.length))
  | [.str z] => if z.length ≤ sizeLine then some (.d (.int z.length)) else none
  | _ => none
@[simp] def maxD : List D → Option Rs
  | [.int i, .int j] => some (.d (.int (max i j)))
  | _ => none
@[simp] def minD : List D → Option Rs
  | [.int i, .int j] => some (.d (.int (min i j)))
  | _ => none
@[simp] def absD : List D → Option Rs
  | [.int i] => some (.d (.int (if i < 0 then -i else i)))
  | _ => none
@[simp] def intC : List D → Option Rs
  | [.int i] => some (.d (.int i))
  | [.bl k] => some (.d (.int (if k then 1 else 0)))
  | _ => none
@[simp] def boolC : List D → Option Rs
  | [.int i] => some (.d (.bl (i != 0)))
  | [.bl k] => some (.d (.bl k))
  | _ => none
@[simp] def strC : List D → Option Rs
  | [.int i] => if i.natAbs.log2 < 1920 then some (.d (.str (toString i))) else none
  | [.str x] => some (.d (.str x))
  | _ => none
@[simp] def intsD : List D → Option (List Int)
  | [] => some []
  | .int i :: r => (intsD r).map fun l => i :: l
  | _ => none
@[simp] def sumD : List D → Option Rs
  | [.lst l] => (intsD l).map fun ns => .d (.int ns.sum)
  | _ => none
@[simp] def mx : List Int → Option Int
  | [] => none
  | x :: r => some (r.foldl max x)
@[simp] def mn : List Int → Option Int
  | [] => none
  | x :: r => some (r.foldl min x)
@[simp] def maxL : List D → Option Rs
  | [.lst l] => ((intsD l).bind mx).map fun m => .d (.int m)
  | _ => none
@[simp] def minL : List D → Option Rs
  | [.lst l] => ((intsD l).bind mn).map fun m => .d (.int m)
  | _ => none
def srt (l : List Int) : List Int := l.mergeSort (fun a b => decide (a ≤ b))
theorem srt_perm (l : List Int) : (srt l).Perm l := List.mergeSort_perm _ _
theorem srt_sorted (l : List Int) : (srt l).Pairwise (· ≤ ·) := by
  have h := List.pairwise_mergeSort (le := fun a b : Int => decide (a ≤ b)) (fun a b c h1 h2 => by simp only [decide_eq_true_eq] at *; omega) (fun a b => by simp only [Bool.or_eq_true, decide_eq_true_eq]; omega) l
  exact h.imp fun h => of_decide_eq_true h
@[simp] def sortedD : List D → Option Rs
  | [.lst l] => (intsD l).map fun ns => .n ((srt ns).map .int)
  | _ => none
@[simp] def listC : List D → Option Rs
  | [.lst l] => some (.n l)
  | [.scr l] => some (.n l)
  | [.tup l] => some (.n l)
  | _ => none
@[simp] def tupC : List D → Option Rs
  | [.lst l] => some (.t l)
  | [.scr l] => some (.t l)
  | [.tup l] => some (.d (.tup l))
  | _ => none
@[simp] def isTy (T : String) : D → Option Bool
  | .non => some false
  | .bl _ => some (T == "bool" || T == "int")
  | .int _ => some (T == "int")
  | .str _ => some (T == "str")
  | .tup _ => some (T == "tuple")
  | .lst _ => some (T == "list")
  | .scr _ => some (T == "list")
  | .dct _ => some (T == "dict")
  | _ => none
@[simp] def blR (o : Option Bool) : Option Rs := o.map fun b => .d (.bl b)
@[simp] def sIsi (T : String) (f : SE) (Γ : Ev) : R AV := (f Γ).bind fun av Γ' => opt ((rd Γ' av).bind fun d => blR (isTy T d)) Γ'
@[simp] def anyTy : List String → D → Option Bool
  | [], _ => some false
  | T :: r, d => (isTy T d).bind fun b => (anyTy r d).map fun c => b || c
@[simp] def sIsiT (Ts : List String) (f : SE) (Γ : Ev) : R AV := (f Γ).bind fun av Γ' => opt ((rd Γ' av).bind fun d => blR (anyTy Ts d)) Γ'
@[simp] def tRng (l : Option (List D)) : Option (List D) := match l with
  | some l => if l.length ≤ 2 ^ 24 then some l else none
  | none => none
@[simp] def optN (o : Option (List D)) (Γ : Ev) : R AV := match o with
  | some l => if l.length ≤ sizeLine then .ok (.n l) Γ else .bad
  | none => .bad
@[simp] def sLRg1 (f : SE) (Γ : Ev) : R AV := (f Γ).bind fun a Γ1 => optN ((rd Γ1 a).bind fun x => rngD1 [x]) Γ1
@[simp] def sLRg2 (f g : SE) (Γ : Ev) : R AV := (f Γ).bind fun a Γ1 => (g Γ1).bind fun b Γ2 => optN ((rd Γ2 a).bind fun x => (rd Γ2 b).bind fun y => rngD2 [x, y]) Γ2

section
variable {X : Cx} {C : Ct} {F H : Hp}
theorem RdVs.one {x : V} {xs : List V} {d : D} (h : RdVs C F H xs [d]) : ∃ x, xs = [x] ∧ RdV C F H x d := by
  cases xs with
  | nil => cases h
  | cons x r =>
    obtain ⟨e, m, q, h1, h2⟩ := h
    cases q
    cases r with
    | nil => exact ⟨x, rfl, h1⟩
    | cons y s => obtain ⟨_, _, q, _⟩ := h2; cases q
theorem RdVs.two {xs : List V} {d e : D} (h : RdVs C F H xs [d, e]) : ∃ x y, xs = [x, y] ∧ RdV C F H x d ∧ RdV C F H y e := by
  cases xs with
  | nil => cases h
  | cons x r =>
    obtain ⟨e, m, q, h1, h2⟩ := h
    cases q
    obtain ⟨y, q, h3⟩ := RdVs.one (x := .non) h2
    rw [q]
    exact ⟨x, y, rfl, h1, h3⟩
theorem ints_rep : ∀ {l : List D} {ns : List Int} {xs : List V}, intsD l = some ns → Reps C F l xs → xs = ns.map V.int
  | [], ns, xs, h, r => by cases h; exact r
  | .int i :: l, ns, xs, h, r => by
    obtain ⟨m, hm, rfl⟩ := Option.map_eq_some_iff.mp (show (intsD l).map _ = some ns from h)
    obtain ⟨x, w, rfl, rx, rw'⟩ := r
    have rx : x = .int i := rx
    rw [rx, ints_rep hm rw']
    rfl
  | .non :: _, _, _, h, _ => by cases h
  | .bl _ :: _, _, _, h, _ => by cases h
  | .str _ :: _, _, _, h, _ => by cases h
  | .tup _ :: _, _, _, h, _ => by cases h
  | .lst _ :: _, _, _, h, _ => by cases h
  | .scr _ :: _, _, _, h, _ => by cases h
  | .dct _ :: _, _, _, h, _ => by cases h
  | .fn _ :: _, _, _, h, _ => by cases h
  | .ex _ :: _, _, _, h, _ => by cases h
  | .dtt _ :: _, _, _, h, _ => by cases h
theorem intsD_len : ∀ {l : List D} {ns : List Int}, intsD l = some ns → ns.length = l.length
  | [], ns, h => by cases h; rfl
  | .int i :: l, ns, h => by
    obtain ⟨m, hm, rfl⟩ := Option.map_eq_some_iff.mp (show (intsD l).map _ = some ns from h)
    rw [List.length_cons, List.length_cons, intsD_len hm]
  | .non :: _, _, h => by cases h
  | .bl _ :: _, _, h => by cases h
  | .str _ :: _, _, h => by cases h
  | .tup _ :: _, _, h => by cases h
  | .lst _ :: _, _, h => by cases h
  | .scr _ :: _, _, h => by cases h
  | .dct _ :: _, _, h => by cases h
  | .fn _ :: _, _, h => by cases h
  | .ex _ :: _, _, h => by cases h
  | .dtt _ :: _, _, h => by cases h
@[simp] theorem intsD_map (ns : List Int) : intsD (ns.map D.int) = some ns := by
  induction ns with
  | nil => rfl
  | cons x r ih => simp [ih]
theorem c_len : CallR X (.builtin "len") (rC (ct X) lenD) := by
  intro pins s σ H xs us Q I rx ⟨F, l, r, lf, hx, hg, hq⟩
  unfold lenD at hg
  split at hg
  · cases hg
    obtain ⟨x, rfl, a, ys, rfl, ha, rr, _⟩ := RdVs.one (x := .non) hx
    exact call_len_seq pins s σ H _ us Q I rx ⟨a, ys, rfl, .inl (.of ha), hq _ (by show _ = _; rw [rr.length])⟩
  · cases hg
    obtain ⟨x, rfl, a, ys, rfl, ha, rr, _⟩ := RdVs.one (x := .non) hx
    exact call_len_seq pins s σ H _ us Q I rx ⟨a, ys, rfl, .inl ha, hq _ (by show _ = _; rw [rr.length])⟩
  · cases hg
    obtain ⟨x, rfl, a, ys, rfl, ha, rr, _⟩ := RdVs.one (x := .non) hx
    exact call_len_seq pins s σ H _ us Q I rx ⟨a, ys, rfl, .inr (lf.sqT ha), hq _ (by show _ = _; rw [rr.length])⟩
  · split at hg
    · cases hg
      rename_i z hz
      obtain ⟨x, rfl, e⟩ := RdVs.one (x := .non) hx
      have e : x = .str z := e
      subst e
      exact call_len_str pins s σ H _ us Q I rx ⟨z, rfl, hz, hq _ rfl⟩
    · cases hg
  · cases hg
theorem c_max (hc : X.calm = true) : CallR X (.builtin "max") (rC (ct X) maxD) := by
  intro pins s σ H xs us Q I rx ⟨F, l, r, lf, hx, hg, hq⟩
  unfold maxD at hg
  split at hg
  · cases hg
    rename_i i j
    obtain ⟨x, y, rfl, e1, e2⟩ := RdVs.two hx
    have e1 : x = .int i := e1
    have e2 : y = .int j := e2
    subst e1
    subst e2
    refine call_max2 hc pins s σ H _ us Q I rx ⟨i, j, rfl, hq _ ?_⟩
    show V.int _ = V.int _
    congr 1
    split <;> omega
  · cases hg
theorem c_min (hc : X.calm = true) : CallR X (.builtin "min") (rC (ct X) minD) := by
  intro pins s σ H xs us Q I rx ⟨F, l, r, lf, hx, hg, hq⟩
  unfold minD at hg
  split at hg
  · cases hg
    rename_i i j
    obtain ⟨x, y, rfl, e1, e2⟩ := RdVs.two hx
    have e1 : x = .int i := e1
    have e2 : y = .int j := e2
    subst e1
    subst e2
    refine call_min2 hc pins s σ H _ us Q I rx ⟨i, j, rfl, hq _ ?_⟩
    show V.int _ = V.int _
    congr 1
    split <;> omega
  · cases hg
theorem c_abs : CallR X (.builtin "abs") (rC (ct X) absD) := by
  intro pins s σ H xs us Q I rx ⟨F, l, r, lf, hx, hg, hq⟩
  unfold absD at hg
  split at hg
  · cases hg
    rename_i i
    obtain ⟨x, rfl, e⟩ := RdVs.one (x := .non) hx
    have e : x = .int i := e
    subst e
    exact call_abs pins s σ H _ us Q I rx ⟨i, rfl, hq _ rfl⟩
  · cases hg
theorem c_int : CallR X (.type "int") (rC (ct X) intC) := by
  intro pins s σ H xs us Q I rx ⟨F, l, r, lf, hx, hg, hq⟩
  unfold intC at hg
  split at hg
  · cases hg
    rename_i i
    obtain ⟨x, rfl, e⟩ := RdVs.one (x := .non) hx
    have e : x = .int i := e
    subst e
    exact call_int1 pins s σ H _ us Q I rx (.inl ⟨i, rfl, hq _ rfl⟩)
  · cases hg
    rename_i i
    obtain ⟨x, rfl, e⟩ := RdVs.one (x := .non) hx
    have e : x = .bl i := e
    subst e
    exact call_int1 pins s σ H _ us Q I rx (.inr ⟨i, rfl, hq _ rfl⟩)
  · cases hg
theorem fold_max : ∀ (r : List Int) (x : Int), (r.foldl max x ∈ x :: r) ∧ ∀ y ∈ x :: r, y ≤ r.foldl max x
  | [], x => ⟨List.mem_cons_self, fun y hy => by simp at hy; rw [hy]; exact Int.le_refl _⟩
  | z :: r, x => by
    obtain ⟨h1, h2⟩ := fold_max r (max x z)
    refine ⟨?_, fun y hy => ?_⟩
    · rw [List.foldl_cons]
      rcases List.mem_cons.mp h1 with q | q
      · rw [q]
        rcases Int.le_total x z with w | w
        · rw [Int.max_eq_right w]; simp
        · rw [Int.max_eq_left w]; simp
      · exact List.mem_cons_of_mem _ (List.mem_cons_of_mem _ q)
    · rw [List.foldl_cons]
      have h3 := h2 (max x z) List.mem_cons_self
      rcases List.mem_cons.mp hy with q | q
      · omega
      · rcases List.mem_cons.mp q with q | q
        · omega
        · exact h2 y (List.mem_cons_of_mem _ q)
theorem c_maxL (hc : X.calm = true) : CallR X (.builtin "max") (rC (ct X) maxL) := by
  intro pins s σ H xs us Q I rx ⟨F, l, r, lf, hx, hg, hq⟩
  unfold maxL at hg
  split at hg
  · rename_i m
    obtain ⟨k, hk, rfl⟩ := Option.map_eq_some_iff.mp hg
    obtain ⟨ns, hn, hk⟩ := bind_some hk
    obtain ⟨x, rfl, a, ys, rfl, ha, rr, _⟩ := RdVs.one (x := .non) hx
    rw [ints_rep hn rr] at ha
    cases ns with
    | nil => cases hk
    | cons z t =>
      cases hk
      obtain ⟨w1, w2⟩ := fold_max t z
      refine cr_max hc pins s σ H _ us Q I rx ⟨a, z :: t, rfl, .of ha, by simp, fun M h1 h2 => hq _ ?_⟩
      have e1 := h2 _ w1
      have e2 := w2 _ h1
      show V.int _ = V.int _
      congr 1
      omega
  · cases hg
theorem c_list : CallR X (.type "list") (rC (ct X) listC) := by
  intro pins s σ H xs us Q I rx ⟨F, l, r, lf, hx, hg, hq⟩
  unfold listC at hg
  split at hg
  · cases hg
    obtain ⟨x, rfl, a, ys, rfl, ha, rr, hz⟩ := RdVs.one (x := .non) hx
    exact call_list_of pins s σ H _ us Q I rx ⟨a, ys, rfl, .inl (.of ha), fun p hp => hq _ rr hz p hp⟩
  · cases hg
    obtain ⟨x, rfl, a, ys, rfl, ha, rr, hz⟩ := RdVs.one (x := .non) hx
    exact call_list_of pins s σ H _ us Q I rx ⟨a, ys, rfl, .inl ha, fun p hp => hq _ rr hz p hp⟩
  · cases hg
    obtain ⟨x, rfl, a, ys, rfl, ha, rr, hz⟩ := RdVs.one (x := .non) hx
    exact call_list_of pins s σ H _ us Q I rx ⟨a, ys, rfl, .inr (lf.sqT ha), fun p hp => hq _ rr hz p hp⟩
  · cases hg
theorem c_tup : CallR X (.type "tuple") (rC (ct X) tupC) := by
  intro pins s σ H xs us Q I rx ⟨F, l, r, lf, hx, hg, hq⟩
  unfold tupC at hg
  split at hg
  · cases hg
    obtain ⟨x, rfl, a, ys, rfl, ha, rr, hz⟩ := RdVs.one (x := .non) hx
    exact call_tuple_of pins s σ H _ us Q I rx ⟨a, ys, rfl, .inl ⟨.of ha, fun p hp => hq.2 _ rr hz p hp⟩⟩
  · cases hg
    obtain ⟨x, rfl, a, ys, rfl, ha, rr, hz⟩ := RdVs.one (x := .non) hx
    exact call_tuple_of pins s σ H _ us Q I rx ⟨a, ys, rfl, .inl ⟨ha, fun p hp => hq.2 _ rr hz p hp⟩⟩
  · cases hg
    obtain ⟨x, rfl, a, ys, rfl, ha, rr, hz⟩ := RdVs.one (x := .non) hx
    exact call_tuple_of pins s σ H _ us Q I rx ⟨a, ys, rfl, .inr ⟨lf.sqT ha, hq _ ⟨a, ys, rfl, ha, rr, hz⟩⟩⟩
  · cases hg
def tyD : D → String
  | .non => "NoneType"
  | .bl _ => "bool"
  | .int _ => "int"
  | .str _ => "str"
  | .tup _ => "tuple"
  | .lst _ => "list"
  | .scr _ => "list"
  | .dct _ => "dict"
  | .fn _ => "function"
  | .ex _ => "Exception"
  | .dtt _ => "dict"
theorem tyx_of {x : V} {d : D} {T : String} {b : Bool} (lf : le F H) (hx : RdV C F H x d) (h : isTy T d = some b) : TyX C.K H x (.type (tyD d)) := by
  cases d with
  | non => have hx : x = .non := hx; rw [hx]; exact .base .non
  | bl b => have hx : x = .bl b := hx; rw [hx]; exact .base (.bl b)
  | int b => have hx : x = .int b := hx; rw [hx]; exact .base (.int b)
  | str b => have hx : x = .str b := hx; rw [hx]; exact .base (.str b)
  | tup l =>
    obtain ⟨a, xs, rfl, s, _⟩ := hx
    rcases lf.sqT s with (h | ⟨o, h⟩) | ⟨o, its, n, h1, h2, _⟩
    · exact .base (.tup h)
    · exact .fTuple h
    · exact .kTuple h1 h2
  | lst l =>
    obtain ⟨a, xs, rfl, s, _⟩ := hx
    exact .base (.lst s)
  | scr l =>
    obtain ⟨a, xs, rfl, s, _⟩ := hx
    rcases s with (h | ⟨o, h⟩) | ⟨o, its, n, h1, h2, _⟩
    · exact .base (.lst h)
    · exact .base (.frz h)
    · exact .kList h1 h2
  | dct l =>
    obtain ⟨a, xs, rfl, s, _⟩ := hx
    rcases s with h | ⟨o, h⟩
    · exact .base (.dK h)
    · exact .fDict h
  | fn n => cases h
  | ex n => cases h
  | dtt n => cases h
def TyOkS (T : String) : Bool := T == "int" || T == "bool" || T == "str" || T == "tuple" || T == "list" || T == "dict"
theorem kit_is {K : PySem.W.Frag} {d : D} {T : String} {b : Bool} (hT : TyOkS T = true) (h : isTy T d = some b) : PySem.W.kitOne K (.type (tyD d)) (.type T) = some b := by
  refine kit_ty ?_
  unfold TyOkS at hT
  simp only [Bool.or_eq_true, beq_iff_eq] at hT
  rcases hT with ((((rfl | rfl) | rfl) | rfl) | rfl) | rfl <;> cases d <;> first | (cases h; done) | (cases h; dsimp only [tyD]; decide +kernel)
end
section
variable {X : Cx} {W : XW} {a b : Expr} {pos p p2 p3 : Pos} {fa fb : SE}
theorem isi_go {T : String} {f : SE} {σ : St} {H : Hp} {Q : VK} (hT : TyOkS T = true) (h : tX (ct X) W (sIsi T f) σ H Q) : tCB (rIsi X.K) (tCons (tX (ct X) W f) (tCons (tC (.ty T)) tNil)) σ H Q := by
  obtain ⟨io, F, Γ, A, q⟩ := h
  refine tX.then A q fun av v F1 H1 Γ1 g1 hv p1 => ?_
  obtain ⟨r, hr, p3⟩ := opt_ok p1
  obtain ⟨d, hd, hr⟩ := bind_some hr
  obtain ⟨b, hb, rfl⟩ := Option.map_eq_some_iff.mp (show (isTy T d).map (fun b => Rs.d (.bl b)) = some r from hr)
  exact ⟨v, .ty T, .type (tyD d), .type T, b, rfl, .ty T, tyx_of (C := ct X) g1.at_.le (hv.rdv g1.at_ hd) hb, kit_is hT hb, PX.val g1.at_ p3 rfl⟩
theorem q_isi {T : String} {x : Str} (hm : X.mg "isinstance" = none) (hmT : X.mg x = none) (ha : PE X a (tX (ct X) W fa)) (hT : TyOkS T = true := by decide) (hg : Gl X "isinstance" := by rfl) (hgT : Gl X x := by rfl) (hv : bootBuiltins x = some (.type T) := by decide +kernel)
    (hn : x ≠ "__name__" := by decide) (hd : (x == ("__debug__" : Str)) = false := by decide) (he : starEach [a, .Name x p2] X.env = (false, eval a X.env) :: starEach [.Name x p2] X.env := by rfl) (hpl : (backTo pos (starEach [.Name x p2] X.env)).any (·.1) = false := by rfl)
    (he2 : starEach [.Name x p2] X.env = (false, eval (.Name x p2) X.env) :: starEach [] X.env := by rfl) : PE X (.Call (.Name "isinstance" p) [a, .Name x p2] [] pos) (tX (ct X) W (sIsi T fa)) :=
  PE.imp (pe_callB call_isi hg hm (by decide +kernel) (pa_cons ha (pa_cons (pe_bltn hgT hmT hv (v := .ty T) rfl hn hd) pa_nil he2) he) (by decide) (by decide) he hpl) fun σ H Q h => isi_go hT h
theorem kitAny2 {K : PySem.W.Frag} {t u1 u2 : Value} {b1 b2 : Bool} (h1 : PySem.W.kitOne K t u1 = some b1) (h2 : PySem.W.kitOne K t u2 = some b2) : PySem.W.kitAny K t [u1, u2] = some (b1 || b2) := by
  cases b1 with
  | true => exact kitAny_cons h1 (fun q => by cases q) fun _ => rfl
  | false =>
    refine kitAny_cons h1 (fun _ => ?_) fun q => by cases q
    cases b2 with
    | true => exact kitAny_cons h2 (fun q => by cases q) fun _ => rfl
    | false => exact kitAny_cons h2 (fun _ => kitAny_nil) fun q => by cases q
theorem q_isi2 {T U : String} {x y : Str} {kk : Nat} {p4 : Pos} (hm : X.mg "isinstance" = none) (hmT : X.mg x = none) (hmU : X.mg y = none) (ha : PE X a (tX (ct X) W fa)) (hT : TyOkS T = true := by decide) (hU : TyOkS U = true := by decide) (hg : Gl X "isinstance" := by rfl) (hgT : Gl X x := by rfl) (hgU : Gl X y := by rfl)
    (hv : bootBuiltins x = some (.type T) := by decide +kernel) (hv2 : bootBuiltins y = some (.type U) := by decide +kernel) (hn : x ≠ "__name__" := by decide) (hn2 : y ≠ "__name__" := by decide) (hd : (x == ("__debug__" : Str)) = false := by decide) (hd2 : (y == ("__debug__" : Str)) = false := by decide)
    (he : starEach [a, .Tuple [.Name x p2, .Name y p3] kk p4] X.env = (false, eval a X.env) :: starEach [.Tuple [.Name x p2, .Name y p3] kk p4] X.env := by rfl) (hpl : (backTo pos (starEach [.Tuple [.Name x p2, .Name y p3] kk p4] X.env)).any (·.1) = false := by rfl)
    (he2 : starEach [.Tuple [.Name x p2, .Name y p3] kk p4] X.env = (false, eval (.Tuple [.Name x p2, .Name y p3] kk p4) X.env) :: starEach [] X.env := by rfl) (he3 : starEach [.Name x p2, .Name y p3] X.env = (false, eval (.Name x p2) X.env) :: starEach [.Name y p3] X.env := by rfl)
    (he4 : starEach [.Name y p3] X.env = (false, eval (.Name y p3) X.env) :: starEach [] X.env := by rfl) :
    PE X (.Call (.Name "isinstance" p) [a, .Tuple [.Name x p2, .Name y p3] kk p4] [] pos) (tX (ct X) W (sIsiT [T, U] fa)) :=
  PE.imp (pe_callB call_isiT hg hm (by decide +kernel) (pa_cons ha (pa_cons (pe_tup (pa_cons (pe_bltn hgT hmT hv (v := .ty T) rfl hn hd) (pa_cons (pe_bltn hgU hmU hv2 (v := .ty U) rfl hn2 hd2) pa_nil he4) he3)) pa_nil he2) he) (by decide) (by decide) he hpl) fun σ H Q ⟨io, F, Γ, A, q⟩ => by
    refine tX.then A q fun av v F1 H1 Γ1 g1 hv p1 => ?_
    obtain ⟨r, hr, p3⟩ := opt_ok p1
    obtain ⟨d, hd, hr⟩ := bind_some hr
    obtain ⟨b, hb, rfl⟩ := Option.map_eq_some_iff.mp (show (anyTy [T, U] d).map (fun b => Rs.d (.bl b)) = some r from hr)
    obtain ⟨b1, hb1, hb⟩ := bind_some (show (isTy T d).bind _ = some b from hb)
    obtain ⟨c, hc, rfl⟩ := Option.map_eq_some_iff.mp hb
    obtain ⟨b2, hb2, hc⟩ := bind_some (show (isTy U d).bind _ = some c from hc)
    obtain ⟨c2, hc2, rfl⟩ := Option.map_eq_some_iff.mp hc
    cases hc2
    refine ⟨by show 2 ≤ sizeLine; rw [sizeLine_eq]; decide, fun tp htp => ?_⟩
    have hx := hv.rdv g1.at_ hd
    have g2 := Go.laid g1.at_ htp (.tup [V.ty T, V.ty U])
    refine ⟨v, tp, [.ty T, .ty U], .type (tyD d), [.type T, .type U], (b1 || (b2 || false)), rfl, upd_same, .cons (.ty T) (.cons (.ty U) .nil), tyx_of (C := ct X) g2.at_.le ((hv.go g2).rdv g2.at_ (by
      have e : rd Γ1 av = some d := hd
      exact e)) hb1, ?_, PX.val g2.at_ (PX.go g2 p3) rfl⟩
    rw [Bool.or_false]
    exact kitAny2 (kit_is hT hb1) (kit_is hU hb2)

theorem rg_len {lo : Int} {n : Nat} : (rgD lo n).length = n := by unfold rgD; rw [List.length_map, List.length_range]
theorem rg_rep {C : Ct} {F : Hp} (a b : Int) : Reps C F (rgD a (b - a).toNat) (rgV a b) := by
  unfold rgD rgV
  have h : ∀ l : List Nat, Reps C F (l.map fun i => D.int (a + (i : Nat))) (l.map fun i => V.int (a + (i : Nat))) := by
    intro l
    induction l with
    | nil => exact .nil
    | cons x r ih => exact .cons rfl ih
  exact h _
theorem optN_ok {C : Ct} {io : IO} {σ : St} {F H : Hp} {Γ Γ0 : Ev} {Q : VK} {o : Option (List D)} (p : PX C io W σ F H Γ (optN o Γ0) Q) : ∃ l, o = some l ∧ l.length ≤ sizeLine ∧ PX C io W σ F H Γ (.ok (.n l) Γ0) Q := by
  cases o with
  | none => exact p.elim
  | some l =>
    have p : PX C io W σ F H Γ (if l.length ≤ sizeLine then .ok (.n l) Γ0 else .bad) Q := p
    split at p
    · exact ⟨l, rfl, ‹_›, p⟩
    · exact p.elim
theorem q_lrg1 (hc : X.calm = true) (hm : X.mg "list" = none) (hmr : X.mg "range" = none) (ha : PE X a (tX (ct X) W fa)) (hg : Gl X "list" := by rfl) (hgr : Gl X "range" := by rfl) (na : starEach [a] X.env = (false, eval a X.env) :: starEach [] X.env := by rfl)
    (nr : starEach [.Call (.Name "range" p2) [a] [] p3] X.env = (false, eval (.Call (.Name "range" p2) [a] [] p3) X.env) :: starEach [] X.env := by rfl) : PE X (.Call (.Name "list" p) [.Call (.Name "range" p2) [a] [] p3] [] pos) (tX (ct X) W (sLRg1 fa)) :=
  PE.imp (pe_listRg hc hg hm (prg_1 hgr hmr ha na) nr) fun σ H Q ⟨io, F, Γ, A, q⟩ => tX.then A q fun av v F1 H1 Γ1 g1 hv p1 => by
    obtain ⟨l, hl, hz, p2⟩ := optN_ok p1
    obtain ⟨d, hd, hl⟩ := bind_some hl
    unfold rngD1 at hl
    split at hl
    · rename_i j e
      cases e
      split at hl
      · rename_i hj
        cases hl
        refine ⟨j, hv.int g1.at_ hd, ⟨by omega, by omega, (inW_ok hj).1, (inW_ok hj).2, ?_⟩, PX.newLst g1.at_ p2 (by have := rg_rep (C := ct X) (F := F1) 0 j; rw [Int.sub_zero] at this; exact this) hz⟩
        rw [rg_len, sizeLine_eq] at hz
        rw [Int.sub_zero]
        omega
      · cases hl
    · cases hl
theorem q_lrg2 (hc : X.calm = true) (hm : X.mg "list" = none) (hmr : X.mg "range" = none) (ha : PE X a (tX (ct X) W fa)) (hb : PE X b (tX (ct X) W fb)) (hg : Gl X "list" := by rfl) (hgr : Gl X "range" := by rfl) (na : starEach [a, b] X.env = (false, eval a X.env) :: starEach [b] X.env := by rfl)
    (nb : starEach [b] X.env = (false, eval b X.env) :: starEach [] X.env := by rfl) (hp : (backTo p3 (starEach [b] X.env)).any (·.1) = false := by rfl)
    (nr : starEach [.Call (.Name "range" p2) [a, b] [] p3] X.env = (false, eval (.Call (.Name "range" p2) [a, b] [] p3) X.env) :: starEach [] X.env := by rfl) : PE X (.Call (.Name "list" p) [.Call (.Name "range" p2) [a, b] [] p3] [] pos) (tX (ct X) W (sLRg2 fa fb)) :=
  PE.imp (pe_listRg hc hg hm (prg_2 hgr hmr ha hb na nb hp) nr) fun σ H Q ⟨io, F, Γ, A, q⟩ => tX.then A q fun av v F1 H1 Γ1 g1 hv p1 => tX.then g1.at_ p1 fun bv u F2 H2 Γ2 g2 hu p2 => by
    obtain ⟨l, hl, hz, p2⟩ := optN_ok p2
    obtain ⟨d, hd, hl⟩ := bind_some hl
    obtain ⟨e, he, hl2⟩ := bind_some hl
    clear hl
    unfold rngD2 at hl2
    split at hl2
    · rename_i i j q
      cases q
      split at hl2
      · rename_i hj
        cases hl2
        rw [rg_len, sizeLine_eq] at hz
        exact ⟨i, j, (hv.go g2).int g2.at_ hd, hu.int g2.at_ he, ⟨(inW_ok hj.1).1, (inW_ok hj.1).2, (inW_ok hj.2).1, (inW_ok hj.2).2, by omega⟩, PX.newLst g2.at_ p2 (rg_rep i j) (by rw [sizeLine_eq, rg_len]; omega)⟩
      · cases hl2
    · cases hl2
end
end Bx
end
end

section
set_option Elab.async false
set_option linter.all false
set_option maxRecDepth 100000
set_option maxHeartbeats 4000000
set_option autoImplicit false
noncomputable section
namespace Bx
open PySem PySem.Spec PyProof.Rows L2
abbrev veB : List Value := [.type "ValueError", .type "Exception", .type "BaseException", .type "object"]
structure ExcK (K : PySem.W.Frag) (mg : Str → Option Value) (x : Str) : Prop where
  ex : ∃ c : Addr, mg x = some (.ref c) ∧ PySem.W.excIn K c veB "ValueError.__new__" = true ∧ PySem.W.keepIn K (.ref c) = true ∧ PySem.W.subIn K (.ref c) (.type "BaseException") = some true ∧ PySem.W.typeIn K (.ref c) = some (.type "type")
@[simp] def sRaise (c : Str) (Γ : Ev) : R Fl := .exc c Γ
section
variable {X : Cx} {W : XW}
theorem q_raise {x m : Str} {j : Nat} {p p2 pos pos' : Pos} (hc : X.calm = true) (tk : Takes X (wx (ct X) W)) (k : ExcK X.K X.mg x) (hg : Gl X x := by rfl) (hdb : (x == ("__debug__" : Str)) = false := by decide) :
    PS X (.Raise (some (.Call (.Name x p) [.Constant (.str m) j p2] [] pos)) none pos') (tS (ct X) W (sRaise x)) := by
  obtain ⟨c, h1, h2, h3, h4, h5⟩ := k.ex
  refine PS.imp (ps_raise hc tk (pmk_own PySem.F.excBase_ValueError h2 h1 h3 (raises_own h4 h5) hg hdb)) fun D σ H ⟨io, F, Γ, A, q⟩ => ?_
  refine ⟨x, ?_, rfl, q σ F H (.refl A)⟩
  show Value.ref c = (X.mg x).getD .none
  rw [h1]
  rfl
end
@[simp] def noLx : Nat → List D → Bool
  | _, [] => true
  | 0, _ :: r => noLs r
  | k + 1, d :: r => noL d && noLx k r
def noLk (l : List (Key × D)) : Bool := noLs (l.map (·.2))
theorem RepKv.noN {C : Ct} {F G : Hp} (h : ∀ {d : D} {v : V}, noL d = true → Rep C F d v → Rep C G d v) : ∀ {l : List (Key × D)} {kvs : List (Key × V)}, noLk l = true → RepKv C F l kvs → RepKv C G l kvs
  | [], _, _, r => r
  | (k, d) :: l, _, hn, ⟨x, r, e, a, b⟩ => by
    unfold noLk at hn
    simp only [List.map_cons, noLs, Bool.and_eq_true] at hn
    exact ⟨x, r, e, h hn.1 a, RepKv.noN h (by unfold noLk; exact hn.2) b⟩
theorem Reps.noK {C : Ct} {F G : Hp} (h : ∀ {d : D} {v : V}, noL d = true → Rep C F d v → Rep C G d v) : ∀ {l : List D} {xs : List V}, noLs l = true → Reps C F l xs → Reps C G l xs
  | [], _, _, r => r
  | d :: l, _, hn, ⟨x, r, e, a, b⟩ => by
    simp only [noLs, Bool.and_eq_true] at hn
    exact ⟨x, r, e, h hn.1 a, Reps.noK h hn.2 b⟩
theorem NkV.noN {C : Ct} {F G : Hp} (h : ∀ {d : D} {v : V}, noL d = true → Rep C F d v → Rep C G d v) {k : NK} {v : V} (q : NkV C F k v) : NkV C G k v := NkV.of (h (noL_kD k) q.rep)
theorem RepTk.noN {C : Ct} {F G : Hp} (h : ∀ {d : D} {v : V}, noL d = true → Rep C F d v → Rep C G d v) : ∀ {l : List (NK × D)} {es : List (NK × Addr × V)}, noLs (l.map (·.2)) = true → RepTk C F l es → RepTk C G l es
  | [], _, _, r => r
  | (k, d) :: l, _, hn, ⟨b, x, r, e, n, z, a, q⟩ => by
    simp only [List.map_cons, noLs, Bool.and_eq_true] at hn
    exact ⟨b, x, r, e, NkV.noN h n, z, h hn.1 a, RepTk.noN h hn.2 q⟩
mutual
@[simp] def noLo : OD → Bool
  | .fr d => noL d
  | .ow l => noLs l
  | .od l => noLk l
  | .ot l => noLs (l.map (·.2))
  | .tp os => noLos os
  | .ls os => noLos os
  | .ins _ fs => noLof fs
@[simp] def noLos : List OD → Bool
  | [] => true
  | o :: os => noLo o && noLos os
@[simp] def noLof : List (Str × OD) → Bool
  | [] => true
  | (_, o) :: os => noLo o && noLof os
end
mutual
theorem Owt.noN {C : Ct} {F G H : Hp} (h : ∀ {d : D} {v : V}, noL d = true → Rep C F d v → Rep C G d v) : ∀ {o : OD} {v : V}, noLo o = true → Owt C F H o v → Owt C G H o v
  | .fr _, _, hn, q => h hn q
  | .ow _, _, hn, ⟨b, xs, d, hb, q, z⟩ => ⟨b, xs, d, hb, Reps.noK h hn q, z⟩
  | .od _, _, hn, ⟨b, xs, d, hb, q⟩ => ⟨b, xs, d, hb, RepKv.noN h hn q⟩
  | .ot _, _, hn, ⟨b, xs, d, hb, q⟩ => ⟨b, xs, d, hb, RepTk.noN h hn q⟩
  | .tp _, _, hn, ⟨b, xs, d, hb, q, z⟩ => ⟨b, xs, d, hb, Owts.noN h hn q, z⟩
  | .ls _, _, hn, ⟨b, xs, d, hb, q, z⟩ => ⟨b, xs, d, hb, Owts.noN h hn q, z⟩
  | .ins _ _, _, hn, ⟨b, cl, dx, xs, d, m, hb, ho, q, nd⟩ => ⟨b, cl, dx, xs, d, m, hb, ho, Owtf.noN h hn q, nd⟩
theorem Owts.noN {C : Ct} {F G H : Hp} (h : ∀ {d : D} {v : V}, noL d = true → Rep C F d v → Rep C G d v) : ∀ {o : List OD} {v : List V}, noLos o = true → Owts C F H o v → Owts C G H o v
  | [], _, _, q => q
  | _ :: _, _, hn, ⟨x, r, e, h1, h2⟩ => by
    simp only [noLos, Bool.and_eq_true] at hn
    exact ⟨x, r, e, Owt.noN h hn.1 h1, Owts.noN h hn.2 h2⟩
theorem Owtf.noN {C : Ct} {F G H : Hp} (h : ∀ {d : D} {v : V}, noL d = true → Rep C F d v → Rep C G d v) : ∀ {o : List (Str × OD)} {v : List (Str × V)}, noLof o = true → Owtf C F H o v → Owtf C G H o v
  | [], _, _, q => q
  | (_, _) :: _, _, hn, ⟨x, r, e, h1, h2⟩ => by
    simp only [noLof, Bool.and_eq_true] at hn
    exact ⟨x, r, e, Owt.noN h hn.1 h1, Owtf.noN h hn.2 h2⟩
end
@[simp] def keepS : SD → SD
  | .fr d => if noL d = true then .fr d else .no
  | .fu d => if noL d = true then .fu d else .no
  | .ow t l => if noLs l = true then .ow t l else .no
  | .od t l => if noLk l = true then .od t l else .no
  | .fx (.k d) => .fx (.k d)
  | .ob t o => if noLo o = true then .ob t o else .no
  | _ => .no
@[simp] def thawE (Γ : Ev) : Ev := Γ.map keepS
@[simp] def thawM (i : Nat) (ds : List D) (k : Nat) (g : List D → List D → Option (List D × Rs)) (l as : List D) (Γ : Ev) : R Fl := match g l as with
  | some (m, r) => if noLs m = true ∧ noLx k ds = true then .ok .nx ((thawE Γ).set i (.fu (.tup (ds.set k (.lst m))))) else .bad
  | none => .bad
@[simp] def thawA (i : Nat) (es : List D) (k : Nat) (g : List D → List D → Option (List D × Rs)) (l : List D) (Γ : Ev) : Option (List D) → R Fl
  | some as => thawM i es k g l as Γ
  | none => .bad
@[simp] def thawL (i : Nat) (es : List D) (k : Nat) (g : List D → List D → Option (List D × Rs)) (fs : SA) (Γ : Ev) : Option D → R Fl
  | some (.lst l) => (fs Γ).bind fun avs Γ1 => thawA i es k g l Γ1 (ds avs)
  | _ => .bad
@[simp] def thawS (i k : Nat) (g : List D → List D → Option (List D × Rs)) (fs : SA) (Γ : Ev) : Option SD → R Fl
  | some (.fu (.tup es)) => thawL i es k g fs Γ es[k]?
  | _ => .bad
@[simp] def sThaw (i k : Nat) (g : List D → List D → Option (List D × Rs)) (fs : SA) (Γ : Ev) : R Fl := thawS i k g fs Γ Γ[i]?
theorem RepsN.get {C : Ct} {N : Addr → Prop} {F : Hp} : ∀ {l : List D} {xs : List V}, RepsN C N F l xs → ∀ {i : Nat} {d : D}, l[i]? = some d → ∃ x, xs[i]? = some x ∧ RepN C N F d x
  | [], _, _, i, d, h => by simp at h
  | e :: l, _, ⟨x, r, rfl, a, b⟩, 0, d, h => by
    have h : e = d := by simpa using h
    exact ⟨x, rfl, by rw [← h]; exact a⟩
  | e :: l, _, ⟨x, r, rfl, a, b⟩, i + 1, d, h => by
    have h : l[i]? = some d := by simpa using h
    obtain ⟨y, h1, h2⟩ := RepsN.get b h
    exact ⟨y, by simpa using h1, h2⟩
theorem RepsN.thaw {C : Ct} {N : Addr → Prop} {F F2 : Hp} (hT : ∀ a xs, SqT C.K F a xs → SqT C.K F2 a xs) : ∀ {k : Nat} {l : List D} {xs : List V} {d : D} {v : V}, noLx k l = true → RepsN C N F l xs → xs[k]? = some v → RepN C N F2 d v → RepsN C N F2 (l.set k d) xs
  | k, [], xs, d, v, _, h, hx, _ => by
    have h : xs = [] := h
    rw [h] at hx
    simp at hx
  | 0, e :: l, _, d, v, hn, ⟨x, r, rfl, a, b⟩, hx, hd => by
    have hx : x = v := by simpa using hx
    exact ⟨x, r, rfl, by rw [hx]; exact hd, RepsN.weak (fun _ q => q) (Reps.noN (by simpa using hn) (RepsN.rep (RepsN.conv (M := N) (N := fun _ => False) hT (fun _ _ _ q => q.elim) (Reps.noN (by simpa using hn) (RepsN.rep b)))))⟩
  | k + 1, e :: l, _, d, v, hn, ⟨x, r, rfl, a, b⟩, hx, hd => by
    simp only [noLx, Bool.and_eq_true] at hn
    exact ⟨x, r, rfl, RepN.conv (N := fun _ => False) hT (fun _ _ _ q => q.elim) (Rep.noN hn.1 (RepN.rep a)), RepsN.thaw hT hn.2 b (by simpa using hx) hd⟩
theorem keepS_is {s : SD} : keepS s = .no ∨ (keepS s = s ∧ ((∃ d, s = .fr d ∧ noL d = true) ∨ (∃ d, s = .fu d ∧ noL d = true) ∨ (∃ t l, s = .ow t l ∧ noLs l = true) ∨ (∃ t l, s = .od t l ∧ noLk l = true) ∨ (∃ d, s = .fx (.k d)) ∨ ∃ t o, s = .ob t o ∧ noLo o = true)) := by
  cases s with
  | fr d =>
    cases h : noL d with
    | true => exact .inr ⟨by simp [h], .inl ⟨d, rfl, h⟩⟩
    | false => exact .inl (by simp [h])
  | fu d =>
    cases h : noL d with
    | true => exact .inr ⟨by simp [h], .inr (.inl ⟨d, rfl, h⟩)⟩
    | false => exact .inl (by simp [h])
  | ow t l =>
    cases h : noLs l with
    | true => exact .inr ⟨by simp [h], .inr (.inr (.inl ⟨t, l, rfl, h⟩))⟩
    | false => exact .inl (by simp [h])
  | od t l =>
    cases h : noLk l with
    | true => exact .inr ⟨by simp [h], .inr (.inr (.inr (.inl ⟨t, l, rfl, h⟩)))⟩
    | false => exact .inl (by simp [h])
  | fx x =>
    cases x with
    | k d => exact .inr ⟨rfl, .inr (.inr (.inr (.inr (.inl ⟨d, rfl⟩))))⟩
    | _ => exact .inl rfl
  | ob t o =>
    cases h : noLo o with
    | true => exact .inr ⟨by simp [h], .inr (.inr (.inr (.inr (.inr ⟨t, o, rfl, h⟩))))⟩
    | false => exact .inl (by simp [h])
  | _ => exact .inl rfl
theorem thawE_get {Γ : Ev} {i : Nat} : (thawE Γ)[i]? = (Γ[i]?).map keepS := List.getElem?_map
theorem OwnAt.thawSet {C : Ct} {io : IO} {σ : St} {F H : Hp} {Γ : Ev} (A : At C io σ F H Γ) {a : Addr} (na : ¬ OwnA H Γ σ a) {u : HO} {sd0 : SD} (h0 : sd0.own = false) {i j : Nat} {b : Addr} (h : OwnAt (L2.upd H a u) ((thawE Γ).set i sd0) σ j b) : OwnAt H Γ σ j b := by
  obtain ⟨sd, q1, q2, v, q3, q9⟩ := id h
  rcases set_get q1 with ⟨q4, q5, _⟩ | ⟨q4, q5⟩
  · rw [q5, h0] at q2; cases q2
  · rw [thawE_get] at q5
    obtain ⟨s, w1, w2⟩ := Option.map_eq_some_iff.mp q5
    rcases keepS_is (s := s) with q | ⟨q, _⟩
    · rw [q] at w2; rw [← w2] at q2; cases q2
    · rw [q] at w2
      subst w2
      exact (A.heldJ (by rw [q1, w1]) rfl fun c hc => upd_ne fun z => na ⟨j, by rw [← z]; exact hc⟩).mp h
theorem Gs.thaw {C : Ct} {io : IO} {σ : St} {F H : Hp} {Γ : Ev} (A : At C io σ F H Γ) {i k : Nat} {ds l m : List D} {ys : List V} (hm : noLs m = true) (hx : noLx k ds = true) (hr : Reps C F m ys) (hz : m.length ≤ sizeLine) {p a : Addr} {xs : List V}
    (ep : σ[i]? = some (some (.ref p))) (et : SqT C.K F p xs) (ea : xs[k]? = some (.ref a)) : (∃ zs, F a = some (.lst zs) ∧ Reps C F l zs) → io.pin a = none → RepsN C (fun b => io.pin b = none) F ds xs → ds.length ≤ sizeLine →
    Gs C io σ F H Γ σ (L2.upd F a (.lst ys)) (L2.upd H a (.lst ys)) ((thawE Γ).set i (.fu (.tup (ds.set k (.lst m))))) := by
  rintro ⟨zs, fa, _⟩ pa rds dz
  have ha := A.le _ _ fa
  have hT : ∀ b us, SqT C.K F b us → SqT C.K (L2.upd F a (.lst ys)) b us := fun b us h => by
    rcases h with h | h
    · refine .inl ?_
      by_cases q : b = a
      · rw [q] at h
        rcases h with h | ⟨o, h⟩
        · rw [fa] at h; cases h
        · rw [fa] at h; cases h
      · rcases h with h | ⟨o, h⟩
        · exact .inl (by rw [upd_ne q]; exact h)
        · exact .inr ⟨o, by rw [upd_ne q]; exact h⟩
    · exact .inr h
  have keepN : ∀ {d : D} {v : V} {N : Addr → Prop}, noL d = true → Rep C F d v → RepN C N (L2.upd F a (.lst ys)) d v := fun hn r => RepN.conv (N := fun _ => False) hT (fun _ _ _ q => q.elim) (Rep.noN hn r)
  have keepNs : ∀ {d : List D} {v : List V} {N : Addr → Prop}, noLs d = true → Reps C F d v → RepsN C N (L2.upd F a (.lst ys)) d v := fun hn r => RepsN.conv (N := fun _ => False) hT (fun _ _ _ q => q.elim) (Reps.noN hn r)
  have na : ¬ OwnA H Γ σ a := fun q => by rw [(A.own_none q).1] at fa; cases fa
  have own : ∀ {j : Nat} {b : Addr}, OwnAt (L2.upd H a (.lst ys)) ((thawE Γ).set i (.fu (.tup (ds.set k (.lst m))))) σ j b → OwnAt H Γ σ j b := fun q => OwnAt.thawSet A na rfl q
  refine ⟨fun b o h n p => ?_, fun b h => ?_, fun b h q => ?_, fun b ⟨j, q⟩ => .inl ⟨j, own q⟩, rfl, ⟨fun b o h => ?_, fun b o h => ?_, by rw [List.length_set]; unfold thawE; rw [List.length_map]; exact A.len, fun j sd q => ?_, fun j k b h1 h2 => A.ne j k b (own h1) (own h2)⟩⟩
  · have nb : b ≠ a := fun z => by
      rcases p with p | p
      · rw [z, fa] at p; cases p
      · rw [z] at p; exact p pa
    rw [upd_ne nb]; exact h
  · by_cases q : b = a
    · rw [q, upd_same]; simp
    · rw [upd_ne q]; exact h
  · by_cases z : b = a
    · rw [z, fa] at h; cases h
    · rw [upd_ne z] at q; exact absurd h q
  · by_cases z : b = a
    · rw [z, upd_same] at h ⊢; exact h
    · rw [upd_ne z] at h ⊢; exact A.le b o h
  · have z : b ≠ a := fun z => by rw [z, pa] at h; cases h
    rw [upd_ne z]; exact A.pin b o h
  · rcases set_get q with ⟨q4, q5, _⟩ | ⟨q4, q5⟩
    · subst q4
      rw [q5]
      refine ⟨.ref p, ep, p, xs, rfl, hT _ _ et, ?_, by rw [List.length_set]; exact dz⟩
      exact RepsN.thaw hT hx rds ea ⟨a, ys, rfl, upd_same, pa, keepNs hm hr, hz⟩
    · rw [thawE_get] at q5
      obtain ⟨s, w1, w2⟩ := Option.map_eq_some_iff.mp q5
      have sl := A.slot j s w1
      rcases keepS_is (s := s) with z | ⟨z, z2⟩
      · rw [z] at w2; rw [← w2]; trivial
      · rw [z] at w2
        subst w2
        rcases z2 with ⟨d, rfl, hn⟩ | ⟨d, rfl, hn⟩ | ⟨t, l2, rfl, hn⟩ | ⟨t, l2, rfl, hn⟩ | ⟨d, rfl⟩ | ⟨t, o2, rfl, hn⟩
        · obtain ⟨v, y1, y2⟩ := sl
          exact ⟨v, y1, RepN.rep (keepN (N := fun _ => True) hn y2)⟩
        · obtain ⟨v, y1, y2⟩ := sl
          exact ⟨v, y1, keepN hn (RepN.rep y2)⟩
        · obtain ⟨b, y1, y2, ⟨us, y3, y4, y6⟩, y5⟩ := sl
          have nb : b ≠ a := fun q => by rw [q, fa] at y2; cases y2
          exact ⟨b, y1, by rw [upd_ne nb]; exact y2, ⟨us, by rw [upd_ne nb]; exact y3, RepsN.rep (keepNs (N := fun _ => True) hn y4), y6⟩, y5⟩
        · obtain ⟨b, y1, y2, ⟨us, y3, y4⟩, y5⟩ := sl
          have nb : b ≠ a := fun q => by rw [q, fa] at y2; cases y2
          exact ⟨b, y1, by rw [upd_ne nb]; exact y2, ⟨us, by rw [upd_ne nb]; exact y3, RepKv.noN (fun hn r => RepN.rep (keepN (N := fun _ => True) hn r)) hn y4⟩, y5⟩
        · obtain ⟨v, y1, P, y2, y3⟩ := sl
          exact ⟨v, y1, P, y2, RepN.conv hT (fun b us w1 w2 => ⟨by
            have nb : b ≠ a := fun q => by
              rw [q] at w2
              cases w : P a with
              | none => exact w2 w
              | some o => have := io.kpp P y2 _ _ w; rw [pa] at this; cases this
            rw [upd_ne nb]; exact w1, w2⟩) y3⟩
        · obtain ⟨v, fp, y1, y2, y3, y4, y5, y6, y7⟩ := A.ob w1
          have nb : ∀ b ∈ fp, b ≠ a := fun b hb q => na ⟨j, by rw [← q]; exact y7 b hb⟩
          have ag : ∀ b ∈ fp, L2.upd H a (.lst ys) b = H b := fun b hb => upd_ne (nb b hb)
          exact ⟨v, fp, y1, Owt.agree ag y3 (Owt.noN (fun hn r => RepN.rep (keepN (N := fun _ => True) hn r)) hn y2), Fp.agree ag y3, y4, fun b hb => by rw [upd_ne (nb b hb)]; exact y5 b hb, y6⟩
section
variable {X : Cx} {W : XW} {e : Expr} {es : List Expr} {fs : SA} {pos apos spos ipos : Pos}
theorem thaw_read {g : List D → List D → Option (List D × Rs)} (hL : MtLen g) {i k : Nat} {σ : St} {H : Hp} {D : Ends} {t : TA} (h : tS (ct X) W (sThaw i k g fs) D σ H) (kk : ∀ H Q', tA (ct X) W fs σ H Q' → t σ H Q') :
    tBM X.K "list" (rM (ct X) g) (tOp (rIxT X.K) (tVar i) (tC (.int (k : Nat)))) t σ H (fun _ H' => D.nx σ H') := by
  obtain ⟨io, F, Γ, A, q⟩ := h
  have q : PF (ct X) io W σ F H Γ (thawS i k g fs Γ Γ[i]?) D := q
  cases e : Γ[i]? with
  | none => rw [e] at q; exact q.elim
  | some sd =>
    rw [e] at q
    cases sd with
    | fu d =>
      cases d with
      | tup es =>
        have q : PF (ct X) io W σ F H Γ (thawL i es k g fs Γ es[k]?) D := q
        cases ek : es[k]? with
        | none => rw [ek] at q; exact q.elim
        | some dk =>
          rw [ek] at q
          cases dk with
          | lst l =>
            obtain ⟨v, ev, p, xs, rfl, et, rr, zz⟩ := A.fu e
            obtain ⟨u, eu, a, zs, rfl, fa, pa, rl, zl⟩ := rr.get ek
            have q : PF (ct X) io W σ F H Γ ((fs Γ).bind fun avs Γ1 => thawA i es k g l Γ1 (ds avs)) D := q
            refine ⟨.ref p, ev, p, xs, (k : Nat), .ref a, rfl, rfl, A.le.sqT et, atI_nat eu, .inl ⟨rfl, zs, .of (A.le _ _ fa)⟩, kk H _ ?_⟩
            refine tA.thenF A q fun avs vs F1 H1 Γ1 g1 hv p1 => ?_
            cases hd : ds avs with
            | none => rw [hd] at p1; exact p1.elim
            | some as =>
              rw [hd] at p1
              have p1 : PF (ct X) io W σ F1 H1 Γ1 (match g l as with
                | some (m, r) => if noLs m = true ∧ noLx k es = true then .ok .nx ((thawE Γ1).set i (.fu (.tup (es.set k (.lst m))))) else .bad
                | none => .bad) D := p1
              cases hg : g l as with
              | none => rw [hg] at p1; exact p1.elim
              | some mr =>
                obtain ⟨m, r⟩ := mr
                rw [hg] at p1
                obtain ⟨hz, d, rfl⟩ := hL _ _ _ _ zl hg
                have p2 : PF (ct X) io W σ F1 H1 Γ1 (if noLs m = true ∧ noLx k es = true then .ok .nx ((thawE Γ1).set i (.fu (.tup (es.set k (.lst m))))) else .bad) D := p1
                clear p1
                by_cases hc : noLs m = true ∧ noLx k es = true
                case neg => rw [if_neg hc] at p2; exact p2.elim
                rw [if_pos hc] at p2
                refine ⟨F1, a, zs, l, as, m, d, g1.at_.le, rfl, g1.at_.le _ _ (g1.ff _ _ fa), (RepsN.rep rl).mono g1.ff, ds_ok hv hd, hg, fun ys w ry rw' => p2 σ (L2.upd F1 a (.lst ys)) _ ?_⟩
                exact Gs.thaw g1.at_ hc.1 hc.2 ry hz ev (g1.ff.sqT et) eu ⟨zs, g1.ff _ _ fa, (RepsN.rep rl).mono g1.ff⟩ pa (RepsN.mono g1.ff rr) zz
          | _ => exact q.elim
      | _ => exact q.elim
    | _ => exact q.elim
theorem q_thaw (i k : Nat) {x name : Str} {id : String} {g : List D → List D → Option (List D × Rs)} {px kp : Pos} {jj : Nat} (pa : PlainAttrs "list") (slot : Slot "list" name id) (hty : typeOf (.builtin id) = pure (.type "method_descriptor")) (hm : MtR X id (rM (ct X) g)) (hL : MtLen g) (ha : PA X (e :: es) (tA (ct X) W fs))
    (hN : X.N[i]? = some x := by rfl) (hv : Vis X.env.scope x := by first | exact Or.inl rfl | exact Or.inr (Or.inl rfl) | exact Or.inr (Or.inr rfl)) (hd : (x == ("__debug__" : Str)) = false := by decide) (hcd : (x == ("__classdict__" : Str)) = false := by decide)
    (hbase : attributeBase (.Subscript (.Name x px) (.Constant (.int (k : Nat)) jj kp) ipos) name X.env (eval (.Subscript (.Name x px) (.Constant (.int (k : Nat)) jj kp) ipos) X.env) = eval (.Subscript (.Name x px) (.Constant (.int (k : Nat)) jj kp) ipos) X.env := by rfl)
    (hfew : ((backTo pos (starEach (e :: es) X.env)).all (fun x => !x.1) && (backToKw pos (keywordEach [] X.env)).all (fun x => x.1.isSome) && decide ((e :: es).length + ([] : List Keyword).length + (if ([] : List Keyword).isEmpty then 0 else 1) < 30)) = true := by rfl)
    (hline : (apos.endLine == pos.line) = true := by rfl) (hs : starEach (e :: es) X.env = (false, eval e X.env) :: starEach es X.env := by rfl) (hplain : (backTo pos (starEach es X.env)).any (·.1) = false := by rfl)
    (hsw : swapsWith (.Call (.Attribute (.Subscript (.Name x px) (.Constant (.int (k : Nat)) jj kp) ipos) name apos) (e :: es) [] pos) none spos.line X.env = pure false := by rfl) :
    PS X (.Expr (.Call (.Attribute (.Subscript (.Name x px) (.Constant (.int (k : Nat)) jj kp) ipos) name apos) (e :: es) [] pos) spos) (tS (ct X) W (sThaw i k g fs)) :=
  PS.imp (ps_expr (pe_bm pa slot hty hm (pe_ix ix_tup (pe_var (i := i) hN hv hd hcd) pe_int (fun _ _ => rfl)) ha hbase hfew hline hs hplain) hsw) fun D σ H h => thaw_read hL h fun _ _ q => q
end
end Bx
end
end

section
set_option Elab.async false
set_option linter.all false
set_option maxRecDepth 100000
set_option maxHeartbeats 4000000
noncomputable section
namespace BxS
open PySem PySem.Spec PyProof.Rows L2
theorem dups_app (l : List Int) (z : Int) : (l ++ [z]).eraseDups.length = if decide (z ∈ l) = true then l.eraseDups.length else l.eraseDups.length + 1 := by
  rw [List.eraseDups_append]
  by_cases h : z ∈ l
  · simp [h, List.removeAll]
  · have e : [z].eraseDups = [z] := by rw [List.eraseDups_cons]; simp
    simp [h, List.removeAll, e]
theorem dups_take (l : List Int) (i : Nat) : (l.take i).eraseDups.length ≤ l.eraseDups.length := by
  conv => rhs; rw [← List.take_append_drop i l, List.eraseDups_append, List.length_append]
  omega
theorem dups_le : ∀ (n : Nat) (l : List Int), l.length ≤ n → l.eraseDups.length ≤ l.length
  | 0, l, h => by
    have : l = [] := List.eq_nil_of_length_eq_zero (by omega)
    subst this
    simp
  | n + 1, [], _ => by simp
  | n + 1, a :: l, h => by
    rw [List.eraseDups_cons]
    have h1 := List.length_filter_le (fun b => !b == a) l
    have h2 := dups_le n (l.filter fun b => !b == a) (by simp at h; omega)
    simp
    omega
section
variable {P : Program} {w : World} {A : Around} {E : Value → Shared → Prop} {s : Shared}
theorem set_update_intsB {I : Addr} {fp wr : List Addr} {G : Array GenState → Array GenState → Prop} {n : Nat} {Pv : Nat → Value → Prop} {St : Nat → Shared → Prop} {R : Result → Shared → Prop}
    (W : WalksS P w A.in1 I fp wr G n Pv St) (S : Addr) (hSf : S ∉ fp) (ns : List Int) (hn : n = ns.length) (hb : ns.eraseDups.length + 1 < scanBound) (hval : ∀ i v, Pv i v → ∃ k t, ns[i]? = some k ∧ v = .int k t) :
    ∀ (k i : Nat) (s : Shared), n - i = k → i ≤ n → St i s → (∃ c, c = (ns.take i).eraseDups.length ∧ SetR w s.heap S (fun j => decide (j ∈ ns.take i)) c) →
      (∀ s' c, Moved (S :: wr) G s s' → c = ns.eraseDups.length → SetR w s'.heap S (fun j => decide (j ∈ ns)) c → R (.ok (.ret .none)) s') →
      codeAny (model P w) A (.builtin "set.update.loop" ⟨[.ref S, .ref I], []⟩) R s := by
  have hSw : S ∉ wr := fun h => hSf (W.sub _ h)
  have hsub : ∀ b ∈ wr, b ∈ S :: wr := fun b hb => List.mem_cons_of_mem _ hb
  intro k
  induction k with
  | zero =>
    intro i s hk' hi hst ⟨c, hc, hS⟩ hR
    have hin : i = n := by omega
    subst hin
    refine codeAny_builtin F.entry_set_update_loop ?_
    rw [Around.under_plainId F.plain_set_update_loop _]
    show wpAny _ A.in1 (pyNext (.ref I) >>= _) _ _ s
    refine wpAny_bind (W.done s _ _ hst fun s' hm => ?_)
    show wpAny _ A.in1 (ret Value.none) _ _ s'
    have e : ns.take i = ns := List.take_of_length_le (by omega)
    rw [e] at hS hc
    exact wpAny_pure (hR s' c (hm.mono hsub) hc (hS.at fun o e => hm.heap S o hSw e))
  | succ k ih =>
    intro i s hk' hi hst ⟨c, hc, hS⟩ hR
    have hlt : i < n := by omega
    refine codeAny_builtin F.entry_set_update_loop ?_
    rw [Around.under_plainId F.plain_set_update_loop _]
    show wpAny _ A.in1 (pyNext (.ref I) >>= _) _ _ s
    refine wpAny_bind (W.item i s _ _ hlt hst fun v s' hP hst' hm => ?_)
    obtain ⟨z, t, hz, rfl⟩ := hval i v hP
    have hS' : SetR w s'.heap S (fun j => decide (j ∈ ns.take i)) c := hS.at fun o e => hm.heap S o hSw e
    show wpAny _ A.in1 (holding [Value.int z t] (setAdd S (.int z t)) >>= _) _ _ s'
    refine wpAny_bind (wpAny_holding ?_)
    unfold setAdd
    refine wpAny_holding ?_
    refine wpAny_bind ((intKind P w).pyHash (k := z) (intKind_is _ _ _ _) ?_)
    have hcb : c ≤ ns.eraseDups.length := by rw [hc]; exact dups_take ns i
    refine setR_add_hashed (s := { s' with toks := s'.toks + 1 }) hS' (by omega) fun h' hsb hS2 => ?_
    have hS3 : SetR w h' S (fun j => decide (j ∈ ns.take (i + 1))) (if decide (z ∈ ns.take i) = true then c else c + 1) := hS2.congr fun j => by
      rw [List.take_add_one, hz]
      simp [List.mem_append]
    have hc3 : (if decide (z ∈ ns.take i) = true then c else c + 1) = (ns.take (i + 1)).eraseDups.length := by
      rw [List.take_add_one, hz, hc]
      exact (dups_app (ns.take i) z).symm
    refine wpAny_pure ⟨plainId_quiet F.plain_set_update_loop _, ih (i + 1) _ (by omega) hlt (W.frame _ s' _ _ hst' (Nat.le_succ _) fun b hb o e => ?_) ⟨_, hc3, hS3⟩ fun s'' c2 hm'' hc'' hS'' => ?_⟩
    · rw [hsb.2 b (fun h : b = S => hSf (by rw [← h]; exact hb))]; exact e
    · refine hR s'' c2 (Moved.trans W.gtrans ((hm.mono hsub).then_heap (Nat.le_succ _) fun b o hb e => ?_) hm'') hc'' hS''
      rw [hsb.2 b (fun h : b = S => hb (by rw [h]; exact List.mem_cons_self))]; exact e
end
section
variable {pg : Program} {wd : World} {ar : Around} {X9 : Value → Shared → Prop} {s : Shared}
set_option maxHeartbeats 8000000 in
theorem set_of_ints {la : Addr} {vals : Array Value} (zs : List Int) {G : Value → Shared → Prop} (calm : ar.handled = none) (seen : s.heap.IsList la vals) (vint : IntsAre vals.toList zs) (room : zs.eraseDups.length + 1 < scanBound)
    (h : ∀ (hp9 : Heap) (tok c : Nat), SetR wd hp9 s.heap.objs.size (fun j => decide (j ∈ zs)) c → c ≤ zs.length → (∀ b o, s.heap.get? b = some o → hp9.get? b = some o) → G (.ref s.heap.objs.size) { s with heap := hp9, toks := tok }) :
    wpAny (model pg wd) ar (call (.type "set") [.ref la]) G X9 s := by
  have zlen : vals.size = zs.length := by
    have q := IntsAre.length vint
    rw [Array.length_toList] at q
    exact q
  obtain ⟨c, rest9, mmro⟩ := F.called_set.mro
  have mmade := F.called_set.made
  have msub := F.called_set.sub
  (refine wpAny_call (codeAny_of_tree ?_))
  (show wpAny _ _ (callAny (.type "set") _) _ _ _)
  (refine wpAny_pure ⟨Code.quiet_builtin _ (by decide +kernel), codeAny_builtin F.entry_type_call ?_⟩)
  rw [Around.under_plain (weight_type_call_type "set" [.ref la] []) rfl]
  have w1 := F.called_set.notType
  have w2 := F.called_set.canCreate
  have mct := F.typeCall_set_1 (.ref la)
  (repeat (any_goals (first | assumption | wp_step)))

  refine codeAny_mono (code_set_led1 (.ref la) (E := X9) (Q₁ := fun made t1 => made = .ref s.heap.objs.size ∧ t1 = { s with heap := s.heap.push { cls := .type "set", dict := none, data := .set #[] 0 (.fresh 0 0 (!wd.params.followText "set-order")) } }) ⟨rfl, rfl⟩) fun r t1 res1 => ?_
  cases r with
  | error e => exact res1
  | ok gl =>
    cases gl with
    | ret made =>
      obtain ⟨rfl, rfl⟩ := res1
      have mS : (s.heap.push { cls := .type "set", dict := none, data := .set #[] 0 (.fresh 0 0 (!wd.params.followText "set-order")) }).get? s.heap.objs.size = some { cls := .type "set", dict := none, data := .set #[] 0 (.fresh 0 0 (!wd.params.followText "set-order")) } := Heap.get?_push_size _ rfl
      have mT : Shared.TypeIs { s with heap := s.heap.push { cls := .type "set", dict := none, data := .set #[] 0 (.fresh 0 0 (!wd.params.followText "set-order")) } } (.ref s.heap.objs.size) "set" := ⟨_, mS, rfl⟩
      have mli := F.called_set.init.lookup
      have mbi := F.called_set.init.bind (.ref s.heap.objs.size)
      (repeat (any_goals (first | assumption | wp_step)))

      refine codeAny_mono (codeAny_call_builtin (R := wants (fun r t2 => r = .none ∧ ∃ hp9 tok c, t2 = { s with heap := hp9, toks := tok } ∧ SetR wd hp9 s.heap.objs.size (fun j => decide (j ∈ zs)) c ∧ c ≤ zs.length ∧
          (∀ b o, s.heap.get? b = some o → hp9.get? b = some o)) X9) F.called_set.init.plain F.entry_set_init (check_set_init_1 mT ?_)) fun q2 t2 res2 => ?_
      · obtain ⟨lo, mol, ocl, ln9, odl⟩ := seen
        obtain ⟨kcls, kdict, kdata, kslots⟩ := lo
        simp only at ocl odl
        subst ocl; subst odl
        have mol' : (s.heap.push { cls := .type "set", dict := none, data := .set #[] 0 (.fresh 0 0 (!wd.params.followText "set-order")) }).get? la = some { cls := .type "list", dict := kdict, data := .seq vals ln9, slots := kslots } := Heap.get?_push_of_some _ mol
        have msls := F.sub_list_set
        have mslf := F.sub_list_frozenset
        have mne : (Value.type "list" == Value.type "dict") = false := by decide
        have ml1 : (s.heap.push { cls := .type "set", dict := none, data := .set #[] 0 (.fresh 0 0 (!wd.params.followText "set-order")) }).IsList la vals := ⟨_, mol', rfl, ln9, rfl⟩
        (unfold Builtin.«set.__init__» noKeywords Builtin.Frozenset.updateFrom)
        generalize mPI : pyIter = ITER
        wp_walk
        subst mPI

        refine wpAny_pyIter_list ml1 ?_
        (refine wpAny_bind (wpAny_runValue ?_))
        have mlS : la < s.heap.objs.size := Heap.lt_size mol
        have mh3 : ar.in1.in1.in1.handled = none := by simp [calm]
        have mz1 : (s.heap.push { cls := .type "set", dict := none, data := .set #[] 0 (.fresh 0 0 (!wd.params.followText "set-order")) }).objs.size = s.heap.objs.size + 1 := Heap.size_push ..
        have mneI : la ≠ (s.heap.push { cls := .type "set", dict := none, data := .set #[] 0 (.fresh 0 0 (!wd.params.followText "set-order")) }).objs.size := by
          rw [Heap.size_push]; exact Nat.ne_of_lt (Nat.lt_succ_of_lt mlS)
        have mSf : s.heap.objs.size ∉ [(s.heap.push { cls := .type "set", dict := none, data := .set #[] 0 (.fresh 0 0 (!wd.params.followText "set-order")) }).objs.size, la] := by
          (rw [Heap.size_push]; simp only [List.mem_cons, List.mem_singleton, List.not_mem_nil, or_false, not_or])
          exact ⟨Nat.ne_of_lt (Nat.lt_succ_self _), Nat.ne_of_gt mlS⟩
        have mval : ∀ (i : Nat) (v : Value), vals[i]? = some v → ∃ k t, zs[i]? = some k ∧ v = .int k t := fun i v got => by
          have ilt : i < zs.length := by rw [← zlen]; exact (Array.getElem?_eq_some_iff.mp got).1
          obtain ⟨t, e⟩ := PyProof.Rows.IntsAre.int_at vint i v (by rw [Array.getElem?_toList]; exact got)
          refine ⟨zs[i], t, List.getElem?_eq_getElem ilt, ?_⟩
          rw [e, List.getD_eq_getElem?_getD, List.getElem?_eq_getElem ilt] <;> rfl
        refine set_update_intsB ((Walks.list mh3 _ la mneI vals).toS) s.heap.objs.size
          mSf zs zlen room mval (vals.size - 0) 0 _ (by omega) (Nat.zero_le _)
          ⟨⟨_, Heap.get?_push_size _ rfl, rfl, rfl⟩, (ml1.push _)⟩ ?mS0 ?mR
        case mS0 =>
          have mget : ((s.heap.push { cls := .type "set", dict := none, data := .set #[] 0 (.fresh 0 0 (!wd.params.followText "set-order")) }).push { cls := .type "list_iterator", data := .fields #[.ref la, .int 0 0] }).get? s.heap.objs.size
              = some { cls := .type "set", dict := none, data := .set #[] 0 (.fresh 0 0 (!wd.params.followText "set-order")) } := Heap.get?_push_of_some _ mS
          exact ⟨0, by simp, setR_new_at mget⟩
        case mR =>
          intro s9 c9 moved cle mS'
          obtain ⟨hp9, g9, d9, tk9, os9⟩ := s9
          have ge : g9 = s.gens := moved.gens
          have de : d9 = s.drawn := moved.drawn
          have oe : os9 = s.os := moved.os
          subst ge; subst de; subst oe
          show wpAny _ _ _ _ _ _
          refine wpAny_pure ?_
          (show wpAny _ _ (ret Value.none) _ _ _)
          have cle : c9 ≤ zs.length := by rw [cle]; exact dups_le _ _ (Nat.le_refl _)
          refine wpAny_pure ⟨rfl, hp9, tk9, c9, rfl, mS', cle, fun b o e => ?_⟩
          have mb0 : b < s.heap.objs.size := Heap.lt_size e
          have mb1 : b ≠ s.heap.objs.size := Nat.ne_of_lt mb0
          have mb2 : b ≠ (s.heap.push { cls := .type "set", dict := none, data := .set #[] 0 (.fresh 0 0 (!wd.params.followText "set-order")) }).objs.size := by
            rw [Heap.size_push]; exact Nat.ne_of_lt (Nat.lt_succ_of_lt mb0)
          exact moved.heap b o (by simp only [List.mem_cons, List.mem_singleton, List.not_mem_nil, or_false, not_or]; exact ⟨mb1, mb2⟩) (Heap.get?_push_of_some _ (Heap.get?_push_of_some _ e))

      · cases q2 with
        | error e => exact res2
        | ok gl2 =>
          cases gl2 with
          | ret r =>
            obtain ⟨rfl, hp9, tok, c9, rfl, mS', cle, kept⟩ := res2
            (repeat (any_goals (first | assumption | wp_step)))
            exact h _ _ _ mS' cle kept
          | _ => exact res2.elim
    | _ => exact res1.elim

end
section
variable {pg : Program} {wd : World} {ar : Around} {X9 : Value → Shared → Prop} {s : Shared} {a : Addr}
theorem sorted_of_set {S : Int → Bool} {n : Nat} {G : Value → Shared → Prop} (R : SetR wd s.heap a S n) (calm : ar.handled = none) (room : n ≤ sizeLine)
    (go : ∀ t p (out : Array Value) (c : Nat) (zs : List Int), (∀ b o, s.heap.get? b = some o → t.heap.get? b = some o) → t.gens = s.gens → t.os = s.os → s.heap.objs.size ≤ p →
      t.heap.get? p = some (seqObj "list" out c) → IntsAre out.toList zs → zs.Pairwise (· < ·) → (∀ k, k ∈ zs ↔ S k = true) → zs.length = n → G (.ref p) t) :
    wpAny (model pg wd) ar (call (.builtin "sorted") [.ref a]) G X9 s := by
  obtain ⟨o, es, ep, tb, ho, hex, hd, gd, nd, hm, hb, hf, hn, hr, hl⟩ := R
  refine Calls.call_function_entry kind_sorted plain_sorted entry_sorted (args_sorted1 _) ?_
  unfold Builtin.«sorted»
  refine wpAny_bind (m := checkCount "sorted" 1 1 _) (wpAny_pure ?_)
  refine wpAny_bind (collect_set (A := ar.in1) calm ⟨o, ho, hex.1, hd⟩ hf hb hr hl fun s1 vs k1 hz g1 o1 pm => ?_)
  have vlen : vs.length = n := by rw [pm.length_eq, List.length_map, Array.length_toList]; exact hn
  have vI : IntsAre vs (vs.map Builtin.Re.reRawOf) := ints_of vs fun v hv => by
    obtain ⟨e, he, q⟩ := List.mem_map.mp (pm.mem_iff.mp hv)
    obtain ⟨k, tk, h1, _⟩ := gd e he
    exact ⟨k, tk, by rw [← q]; exact h1⟩
  have keys : (vs.map Builtin.Re.reRawOf).Perm (es.toList.map keyOf) := by
    have q := pm.map Builtin.Re.reRawOf
    rw [List.map_map] at q
    exact q
  refine wpAny_bind (wpAny_newList ?_ (by rw [vlen]; exact room))
  have oL : (s1.heap.push (seqObj "list" vs.toArray 0)).get? s1.heap.objs.size = some (seqObj "list" vs.toArray 0) := Heap.get?_push_size _ rfl
  refine wpAny_bind (wpAny_holding (wpAny_call_entry slot_list_sort ⟨_, oL, rfl⟩ entry_list_sort (SrtO.list_sort_ord SrtO.swo_int oL (by rw [vlen]; exact room) (fun h2 => SrtO.ints_sortable vI h2) fun out a1 a2 => ⟨_, rfl, ?_⟩) (args_list_sort _)))
  obtain ⟨b1, b2, b3⟩ := SrtO.ints_out vI a1 a2
  obtain ⟨c, hc⟩ := sortedHeap_at (vs := vs) (out := out.toArray) oL
  have pn : (out.map SrtO.iv).Perm (es.toList.map keyOf) := b2.trans keys
  refine wpAny_pure ⟨_, rfl, go _ s1.heap.objs.size out.toArray c (out.map SrtO.iv) (fun b u e => ?_) g1 o1 hz hc (by simpa using b1) (lt_of_le_nodup _ b3 (pn.nodup_iff.mpr nd)) (fun k => by rw [pn.mem_iff, ← hm k]) ?_⟩
  · have q := k1 b u e
    have lt := Heap.lt_size q
    show (sortedHeap (s1.heap.push (seqObj "list" vs.toArray 0)) s1.heap.objs.size vs out.toArray).get? b = some u
    rw [sortedHeap_old (Nat.ne_of_lt lt) (by rw [size_push']; exact Nat.lt_succ_of_lt lt)]
    exact Heap.get?_push_of_some _ q
  · rw [pn.length_eq, List.length_map, Array.length_toList]; exact hn
end
end BxS
set_option autoImplicit false
namespace Bx
open PySem PySem.Spec PyProof.Rows L2
def dsrt (l : List Int) : List Int := srt l.eraseDups
theorem dsrt_mem {l : List Int} {k : Int} : k ∈ dsrt l ↔ k ∈ l := by
  unfold dsrt
  rw [(srt_perm _).mem_iff, List.mem_eraseDups]
theorem lt_uniq : ∀ {a b : List Int}, a.Pairwise (· < ·) → b.Pairwise (· < ·) → (∀ k, k ∈ a ↔ k ∈ b) → a = b
  | [], [], _, _, _ => rfl
  | [], y :: b, _, _, h => absurd ((h y).mpr List.mem_cons_self) (by simp)
  | x :: a, [], _, _, h => absurd ((h x).mp List.mem_cons_self) (by simp)
  | x :: a, y :: b, h1, h2, h => by
    have e : x = y := by
      rcases List.mem_cons.mp ((h x).mp List.mem_cons_self) with q | q
      · exact q
      · rcases List.mem_cons.mp ((h y).mpr List.mem_cons_self) with w | w
        · exact w.symm
        · have u := List.rel_of_pairwise_cons h2 q
          have v := List.rel_of_pairwise_cons h1 w
          omega
    subst e
    rw [lt_uniq (List.Pairwise.of_cons h1) (List.Pairwise.of_cons h2) fun k => ?_]
    have hk := h k
    rw [List.mem_cons, List.mem_cons] at hk
    constructor
    · intro m
      have := List.rel_of_pairwise_cons h1 m
      rcases hk.mp (.inr m) with q | q
      · omega
      · exact q
    · intro m
      have := List.rel_of_pairwise_cons h2 m
      rcases hk.mpr (.inr m) with q | q
      · omega
      · exact q
theorem nodup_eraseDups : ∀ (n : Nat) (l : List Int), l.length ≤ n → l.eraseDups.Nodup
  | _, [], _ => by simp
  | 0, x :: l, h => by simp at h
  | n + 1, x :: l, h => by
    rw [List.eraseDups_cons]
    refine List.nodup_cons.mpr ⟨fun m => ?_, nodup_eraseDups n _ ?_⟩
    · rw [List.mem_eraseDups, List.mem_filter] at m
      simp at m
    · have := List.length_filter_le (fun b => !b == x) l
      simp at h
      omega
theorem dsrt_lt (l : List Int) : (dsrt l).Pairwise (· < ·) := L2.lt_of_le_nodup _ (srt_sorted _) ((srt_perm _).nodup_iff.mpr (nodup_eraseDups _ l (Nat.le_refl _)))
theorem dsrt_eq {l m : List Int} (h : m.Pairwise (· < ·)) (k : ∀ x, x ∈ m ↔ x ∈ l) : m = dsrt l := lt_uniq h (dsrt_lt l) fun x => by rw [k x, dsrt_mem]
def fewD (l : List D) : Bool := decide (l.length ≤ 8000000) && match intsD l with
  | some ns => decide (ns.eraseDups.length < 4000)
  | none => false
@[simp] def dsrtD : D → Option Rs
  | .lst l => if l.length < 4000 ∨ fewD l = true then (intsD l).map fun ns => .n ((dsrt ns).map .int) else none
  | _ => none
@[simp] def sSSet (f : SE) (Γ : Ev) : R AV := (f Γ).bind fun av Γ' => rd1 dsrtD av Γ'
section
variable {X : Cx} {W : XW} {a : Expr} {p p2 p3 pos : Pos} {fa : SE}
def rSetL (K : PySem.W.Frag) (w : World) : List V → Hp → VK → Prop := fun xs H Q => ∃ (l : Addr) (ns : List Int), xs = [.ref l] ∧ SqL K H l (ns.map V.int) ∧ ns.eraseDups.length + 1 < scanBound ∧ ∀ p c, H p = none → c ≤ ns.length → Q (.ref p) (upd H p (SetO w p (fun j => decide (j ∈ ns)) c))
theorem c_setL (hc : X.calm = true) : CallR X (.type "set") (rSetL X.K X.w) := by
  intro pins s σ H xs us Q I rx ⟨l, ns, hx, hs, hz, hq⟩
  subst hx
  obtain ⟨its, rv, hl, _⟩ := I.list hs
  rw [Vals.ref1 rx]
  refine BxS.set_of_ints ns (I.ok.hd hc) hl.isList (by simpa using rv.ints) hz fun h' tk c R hc' keep => ?_
  exact ⟨.ref _, upd H s.heap.objs.size (SetO X.w s.heap.objs.size (fun j => decide (j ∈ ns)) c), I.laid (t' := tk) keep (Nat.le_refl _) (setO_new R), rfl, hq _ c (I.hok.fresh (Nat.le_refl _)) hc'⟩
def rSortSet (w : World) : List V → Hp → VK → Prop := fun vs H Q => ∃ (a : Addr) (S : Int → Bool) (n : Nat), vs = [V.ref a] ∧ H a = some (SetO w a S n) ∧ n ≤ sizeLine ∧
  ∀ (ns : List Int) (p : Addr), ns.Pairwise (· < ·) → (∀ k : Int, k ∈ ns ↔ S k = true) → ns.length = n → H p = none → Q (.ref p) (upd H p (.lst (ns.map V.int)))
theorem c_sortSet (hc : X.calm = true) : CallR X (.builtin "sorted") (rSortSet X.w) := by
  intro pins s σ H xs us Q I rx ⟨a, S, n, hx, ha, hz, hq⟩
  subst hx
  rw [Vals.ref1 rx]
  refine BxS.sorted_of_set (setO_get I ha) (I.ok.hd hc) hz fun t p out c ns k g o hp hg hi hs hm hl => ?_
  have zlen : (ns.map V.int).length ≤ sizeLine := by rw [List.length_map, hl]; exact hz
  have free : H p = none := I.hok.fresh hp
  have J : Inv X pins σ (upd H p (.lst (ns.map V.int))) { s with heap := t.heap, gens := t.gens, drawn := t.drawn, toks := t.toks } :=
    I.call (ch := []) (Un.laid k hp free) (I.hok.laid k hp ⟨zlen, out.toList, c, vals_of_ints hi, hg⟩) (by rw [g]; exact I.bare) (fun _ z => nomatch z)
  have e : t = { s with heap := t.heap, gens := t.gens, drawn := t.drawn, toks := t.toks } := by
    cases t
    cases s
    cases o
    rfl
  rw [e]
  exact ⟨.ref p, _, J, rfl, hq ns p hs hm hl free⟩
theorem upd_upd {H : Hp} {p q : Addr} {o u : HO} {C : Ct} {io : IO} {σ : St} {F : Hp} {Γ : Ev} (A : At C io σ F H Γ) (hp : H p = none) (hq : (L2.upd H p o) q = none) : Go C io σ F H Γ σ F (L2.upd (L2.upd H p o) q u) Γ := (Go.upd A hp o).trans (Go.upd (A.upd hp) hq u)
theorem q_sset (hc : X.calm = true) (hm : X.mg "sorted" = none) (hms : X.mg "set" = none) (ha : PE X a (tX (ct X) W fa)) (hg : Gl X "sorted" := by rfl) (hgs : Gl X "set" := by rfl) (na : starEach [a] X.env = (false, eval a X.env) :: starEach [] X.env := by rfl)
    (hp : (backTo p3 (starEach [] X.env)).any (·.1) = false := by rfl) (nr : starEach [.Call (.Name "set" p2) [a] [] p3] X.env = (false, eval (.Call (.Name "set" p2) [a] [] p3) X.env) :: starEach [] X.env := by rfl)
    (hp2 : (backTo pos (starEach [] X.env)).any (·.1) = false := by rfl) : PE X (.Call (.Name "sorted" p) [.Call (.Name "set" p2) [a] [] p3] [] pos) (tX (ct X) W (sSSet fa)) :=
  PE.imp (pe_callB (c_sortSet hc) hg hm (by decide +kernel) (pa_cons (pe_callTy (c_setL hc) hgs hms (by decide +kernel) (pa_cons ha pa_nil na) (by decide) (by decide) na hp) pa_nil nr) (by decide) (by decide) nr hp2) fun σ H Q ⟨io, F, Γ, A, q⟩ => by
    refine tX.then A q fun av v F1 H1 Γ1 g1 hv p1 => ?_
    obtain ⟨r, hr, p3⟩ := opt_ok p1
    obtain ⟨d, hd, hr⟩ := bind_some hr
    unfold dsrtD at hr
    split at hr
    · rename_i l
      split at hr
      · rename_i hz
        obtain ⟨ns, hn, rfl⟩ := Option.map_eq_some_iff.mp hr
        obtain ⟨b, xs, rfl, hb, rr, _⟩ := hv.lst g1.at_ hd
        rw [ints_rep hn rr] at hb
        have hl := intsD_len hn
        have hdl := BxS.dups_le _ ns (Nat.le_refl _)
        have hz1 : ns.eraseDups.length < 4000 ∧ ns.length ≤ 8000000 := by
          rcases hz with hz | hz
          · exact ⟨by omega, by omega⟩
          · unfold fewD at hz
            rw [hn, Bool.and_eq_true, decide_eq_true_eq] at hz
            exact ⟨of_decide_eq_true hz.2, by omega⟩
        refine ⟨b, ns, rfl, .of hb, by unfold scanBound; omega, fun s c hs hcs => ?_⟩
        refine ⟨s, _, c, rfl, upd_same, by rw [sizeLine_eq]; omega, fun zs t hz4 hz2 hz3 ht => ?_⟩
        have e : zs = dsrt ns := dsrt_eq hz4 fun k => by rw [hz2]; exact decide_eq_true_iff
        subst e
        have g2 := upd_upd (u := .lst ((dsrt ns).map V.int)) g1.at_ hs ht
        have ht1 : H1 t = none := by
          by_cases w : t = s
          · rw [w]; exact hs
          · rw [upd_ne w] at ht; exact ht
        exact p3 _ _ _ g2 ⟨t, _, rfl, .inl ht1, g1.at_.fnone ht1, (g1.at_.upd hs).notOwnU ht, upd_same, Reps.of_ints _, by rw [List.length_map, hz3, sizeLine_eq]; omega⟩
      · cases hr
    · cases hr
end
end Bx
end
end

section
set_option Elab.async false
set_option linter.all false
set_option maxRecDepth 100000
set_option maxHeartbeats 4000000
set_option autoImplicit false
noncomputable section
namespace Bx
open PySem PySem.Spec PyProof.Rows L2
@[simp] def itemsA : D → Option (List D)
  | .lst l => some l
  | .scr l => some l
  | .tup l => some l
  | .str x => some (x.cps.toList.map fun c => D.str ⟨#[c]⟩)
  | _ => none
@[simp] def iAny (f : SE) (Γ : Ev) : R (List D) := (f Γ).bind fun av Γ' => optL ((frV av).bind itemsA) Γ'
section
variable {X : Cx} {W : XW} {tg e : Expr} {f : SE} {st : Stmt} {s : SS} {rest : List Stmt}
theorem pit_same {C : Ct} {io : IO} {σ : St} {F H : Hp} {Γ : Ev} {Q : It → Hp → Prop} {g h : SI} (e : g Γ = h Γ) (p : PIt C io W σ F H Γ (g Γ) Q) : PIt C io W σ F H Γ (h Γ) Q := by
  rw [← e]
  exact p
theorem q_iAny (ha : PE X e (tX (ct X) W f)) : PI X tg e (tI (ct X) W (iAny f)) := by
  refine ⟨fun pins s σ H Q I ⟨io, F, Γ, A, p⟩ => ?_⟩
  have lst := (q_iLst (tg := tg) ha).run pins s σ H Q I
  have tpl := (q_iTpl (tg := tg) ha).run pins s σ H Q I
  have txt := (q_iTxt (tg := tg) ha).run pins s σ H Q I
  cases w : f Γ with
  | bad =>
    have e : iAny f Γ = .bad := by simp [w]
    rw [e] at p
    exact p.elim
  | exc c Γ' => exact lst ⟨io, F, Γ, A, pit_same (by unfold iAny iLst; simp only [w, R.bind]) p⟩
  | ok av Γ1 =>
    cases h : frV av with
    | none => exact lst ⟨io, F, Γ, A, pit_same (by unfold iAny iLst; simp only [w, R.bind, h, Option.bind_none, Option.bind_some, itemsA, itemsD, optL]) p⟩
    | some d =>
      cases d with
      | lst l => exact lst ⟨io, F, Γ, A, pit_same (by unfold iAny iLst; simp only [w, R.bind, h, Option.bind_none, Option.bind_some, itemsA, itemsD, optL]) p⟩
      | scr l => exact lst ⟨io, F, Γ, A, pit_same (by unfold iAny iLst; simp only [w, R.bind, h, Option.bind_none, Option.bind_some, itemsA, itemsD, optL]) p⟩
      | tup l => exact tpl ⟨io, F, Γ, A, pit_same (by unfold iAny iTpl; simp only [w, R.bind, h, Option.bind_none, Option.bind_some, itemsA, itemsT, optL]) p⟩
      | str l => exact txt ⟨io, F, Γ, A, pit_same (by unfold iAny iTxt; simp only [w, R.bind, h, Option.bind_none, Option.bind_some, itemsA, strD, optL]) p⟩
      | non => exact lst ⟨io, F, Γ, A, pit_same (by unfold iAny iLst; simp only [w, R.bind, h, Option.bind_none, Option.bind_some, itemsA, itemsD, optL]) p⟩
      | bl _ => exact lst ⟨io, F, Γ, A, pit_same (by unfold iAny iLst; simp only [w, R.bind, h, Option.bind_none, Option.bind_some, itemsA, itemsD, optL]) p⟩
      | int _ => exact lst ⟨io, F, Γ, A, pit_same (by unfold iAny iLst; simp only [w, R.bind, h, Option.bind_none, Option.bind_some, itemsA, itemsD, optL]) p⟩
      | dct _ => exact lst ⟨io, F, Γ, A, pit_same (by unfold iAny iLst; simp only [w, R.bind, h, Option.bind_none, Option.bind_some, itemsA, itemsD, optL]) p⟩
      | fn _ => exact lst ⟨io, F, Γ, A, pit_same (by unfold iAny iLst; simp only [w, R.bind, h, Option.bind_none, Option.bind_some, itemsA, itemsD, optL]) p⟩
      | ex _ => exact lst ⟨io, F, Γ, A, pit_same (by unfold iAny iLst; simp only [w, R.bind, h, Option.bind_none, Option.bind_some, itemsA, itemsD, optL]) p⟩
      | dtt _ => exact lst ⟨io, F, Γ, A, pit_same (by unfold iAny iLst; simp only [w, R.bind, h, Option.bind_none, Option.bind_some, itemsA, itemsD, optL]) p⟩
theorem q_fgt1 (vs : List Nat) (h : PS X st (tS (ct X) W s)) : PS X st (tS (ct X) W (fgt vs s)) :=
  PS.imp h fun D σ H ⟨io, F, Γ, A, p⟩ => by
    refine ⟨io, F, Γ, A, ?_⟩
    unfold fgt at p
    cases w : s Γ with
    | bad => rw [w] at p; exact p
    | exc c Γ' => rw [w] at p; exact p
    | ok fl Γ' =>
      rw [w] at p
      cases fl with
      | nx => exact fun σ' F' H' g => p σ' F' H' (g.trans (Go.drops g.at_ vs).gs)
      | ct => exact fun σ' F' H' g => p σ' F' H' (g.trans (Go.drops g.at_ vs).gs)
      | bk => exact p
      | rt av => exact p
end
section
variable {P : Program} {w : World} {K : PySem.W.Frag} {mg : Str → Option Value} {base : Heap}
theorem callD_bad {x : Str} {qual : Str} {st : Stmt} {f : Addr} {fd : FuncData} {ps : List Str} (k : Nat) (U : Fun K x qual st f fd) (hx : mg x = some (.ref f)) (b : Binds K fd ps []) : CallD P w K mg base k x (fun _ => .bad) :=
  ⟨f, fd, ps, ⟨fun zs H Q E ⟨io, F, args, _, _, _, _, h⟩ => h.elim, fun A out s H as us zs Q E _ _ _ _ _ ⟨io, F, args, _, _, _, _, h⟩ => h.elim⟩, hx, U.kp, b⟩
end
theorem hu64 {k : Nat} {A : Around} (r : Room k A) : A.units + 64 < cLine := by have := r.un; omega
theorem kon_mk {C : Ct} {x : Str} {a : Addr} {o : Obj} {its : Array Value} {n : Nat} {l : List D} {xs : List V} (h1 : C.mg x = some (.ref a)) (h2 : C.K.lookup a = some o) (h3 : o.cls = .type "tuple") (h4 : o.data = .seq its n) (h5 : its.size ≤ sizeLine) (h6 : Vals xs its.toList) (h7 : ∀ F, Reps C F l xs) (h8 : l.length ≤ sizeLine) : Kon C x (.tup l) :=
  ⟨.ref a, .ref a, h1, rfl, fun F => ⟨a, xs, rfl, .inr ⟨o, its, n, h2, h3, h4, h5, h6⟩, h7 F, h8⟩⟩
end Bx
end
end

section
set_option Elab.async false
set_option linter.all false
set_option maxRecDepth 100000
set_option maxHeartbeats 4000000
set_option autoImplicit false
noncomputable section
namespace Bx
open PySem PySem.Spec PyProof.Rows L2
mutual
/-- data that repr may read -/
@[simp] def rl : D → Bool
  | .non => true
  | .bl _ => true
  | .int _ => true
  | .str _ => true
  | .tup l => rls l
  | .lst l => rls l
  | .dct l => rlkv l
  | _ => false
@[simp] def rls : List D → Bool
  | [] => true
  | d :: r => rl d && rls r
@[simp] def rlkv : List (Key × D) → Bool
  | [] => true
  | (_, d) :: r => rl d && rlkv r
end
def rpOk (d : D) : Bool := @decide ((rl d = true ∧ dep d ≤ 60) ∧ (py d).showable = true ∧ (py d).shown.length ≤ sizeLine ∧ PyData.strOk (py d).shown = true) (Classical.propDecidable _)
def rp (d : D) : D := .str (py d).shown
@[simp] def reprD : List D → Option Rs
  | [d] => if rpOk d = true then some (.d (rp d)) else none
  | _ => none
end Bx
end
end

section
set_option Elab.async false
set_option linter.all false
set_option maxRecDepth 100000
set_option maxHeartbeats 4000000
set_option autoImplicit false
noncomputable section
namespace BxS
open PySem PySem.Spec PyProof.Rows L2 HT
end BxS
namespace Bx
open PySem PySem.Spec PyProof.Rows L2
@[simp] def revD : D → Option Rs
  | .lst l => some (.n l.reverse)
  | .tup l => some (.t l.reverse)
  | _ => none
@[simp] def sRev (f : SE) (Γ : Ev) : R AV := (f Γ).bind fun av Γ' => rd1 revD av Γ'
end Bx
end
end

section
set_option Elab.async false
set_option linter.all false
set_option maxRecDepth 100000
set_option maxHeartbeats 4000000
set_option autoImplicit false
noncomputable section
namespace BxE
open PySem PySem.W PySem.Calls PyProof.Rows PyProof.V PySem.Spec
abbrev Held (h : Heap) (e it : Addr) (i : Int) (item : Value) (a : Addr) (f : Bool) : Prop :=
  h.get? e = some { cls := .type "enumerate", dict := none, data := .fields #[rawInt a, .bool f, .ref it, rawInt i, .none, item], slots := #[] }
section
variable {prog : Program} {w : World} {A : Around} {E : Value → Shared → Prop} {s : Shared}
theorem next_held {e it l a : Addr} {i : Nat} {items : Array Value} {x item : Value} {f : Bool} {oa : Obj} {Q : Option Value → Shared → Prop}
    (he : Held s.heap e it i item a f) (ha : s.heap.get? a = some oa) (hae : a ≠ e) (hai : a ≠ it) (hit : s.heap.IsListIter it l i) (hl : s.heap.IsList l items) (hx : items[i]? = some x) (hne : e ≠ it)
    (hQ : ∀ h', Held h' e it ((i : Int) + 1) item a true → h'.IsListIter it l (i + 1) →
      h'.get? s.heap.objs.size = some { cls := .type "tuple", data := .seq #[.int i s.toks, x] } → h'.objs.size = s.heap.objs.size + 1 →
      (∀ b o, b ≠ e → b ≠ it → s.heap.get? b = some o → h'.get? b = some o) → Q (some (.ref s.heap.objs.size)) { s with heap := h', toks := s.toks + 1 }) :
    wpAny (model prog w) A (pyNext (.ref e)) Q E s := by
  obtain ⟨hp, g, d, tk, os⟩ := s
  have hT : Shared.TypeIs ⟨hp, g, d, tk, os⟩ (.ref e) "enumerate" := ⟨_, he, rfl⟩
  unfold pyNext
  refine wpAny_bind (wpAny_attempt (wpAny_callSpecial?_slot (name := Str.ofString "__next__") hT PySem.F.slot_enumerate_next
    (wpAny_call_entry PySem.F.slot_enumerate_next hT PySem.F.entry_enumerate_next ?_ (PySem.F.args_enumerate_next_1 _))))
  show wpAny _ _ (field (.ref e) 2 >>= _) _ _ _
  refine wpAny_bind (wpAny_field he rfl (x := .ref it) rfl ?_)
  refine wpAny_bind (wpAny_nextOf_list_item hit hl hx fun h1 hit1 hs1 => ?_)
  replace hs1 : Heap.SameBut it hp h1 := hs1
  have he1 : Held h1 e it i item a f := (hs1.2 e hne).trans he
  show wpAny _ _ (field (.ref e) 3 >>= _) _ _ ⟨h1, g, d, tk, os⟩
  refine wpAny_bind (wpAny_field he1 rfl (x := rawInt i) rfl ?_)
  show wpAny _ _ (field (.ref e) 4 >>= _) _ _ ⟨h1, g, d, tk, os⟩
  refine wpAny_bind (wpAny_field he1 rfl (x := .none) rfl ?_)
  show wpAny _ _ (mkInt i >>= _) _ _ ⟨h1, g, d, tk, os⟩
  refine wpAny_bind (wpAny_mkInt ?_)
  show wpAny _ _ (setField (.ref e) 3 (rawInt ((i : Int) + 1)) >>= _) _ _ ⟨h1, g, d, tk + 1, os⟩
  refine wpAny_bind (wpAny_setField_rec he1 (by simp) fun h2 he2 hs2 => ?_)
  replace hs2 : Heap.SameBut e h1 h2 := hs2
  replace he2 : Held h2 e it ((i : Int) + 1) item a f := he2
  show wpAny _ _ (setField (.ref e) 4 .none >>= _) _ _ ⟨h2, g, d, tk + 1, os⟩
  refine wpAny_bind (wpAny_setField_rec he2 (by simp) fun h3 he3 hs3 => ?_)
  replace hs3 : Heap.SameBut e h2 h3 := hs3
  replace he3 : Held h3 e it ((i : Int) + 1) item a f := he3
  show wpAny _ _ (newTuple [.int i tk, x] >>= _) _ _ ⟨h3, g, d, tk + 1, os⟩
  refine wpAny_bind (wpAny_newTuple ?_)
  have he4 : Held (h3.push { cls := .type "tuple", data := .seq #[.int i tk, x] }) e it ((i : Int) + 1) item a f := Heap.get?_push_of_some _ he3
  generalize hh4 : h3.push { cls := .type "tuple", data := .seq #[.int i tk, x] } = h4 at he4
  have hsz : h3.objs.size = hp.objs.size := by rw [hs3.1, hs2.1, hs1.1]
  have hel : e < hp.objs.size := Heap.lt_size he
  have ht4 : h4.get? hp.objs.size = some { cls := .type "tuple", data := .seq #[.int i tk, x] } := by rw [← hh4, ← hsz]; exact Heap.get?_push_size _ rfl
  have hz4 : h4.objs.size = hp.objs.size + 1 := by rw [← hh4, Heap.size_push, hsz]
  have hk4 : ∀ b o, b ≠ e → b ≠ it → hp.get? b = some o → h4.get? b = some o := fun b o hbe hbi hb => by
    rw [← hh4]; exact Heap.get?_push_of_some _ (hs3.extBut b o hbe (hs2.extBut b o hbe (hs1.extBut b o hbi hb)))
  have hit4 : h4.IsListIter it l (i + 1) := by
    rw [← hh4]; obtain ⟨o, ho, r⟩ := (hit1.extBut hs2.extBut (Ne.symm hne)).extBut hs3.extBut (Ne.symm hne); exact ⟨o, Heap.get?_push_of_some _ ho, r⟩
  show wpAny _ _ (Builtin.SmallTypes.ownedTupleIsFree (.ref e) >>= _) _ _ ⟨h4, g, d, tk + 1, os⟩
  rw [hsz]
  clear hh4 he3 hs3 he2 hs2 he1 hs1 hit1 hsz h3 h2 h1
  have ha4 : h4.get? a = some oa := hk4 a oa hae hai ha
  have fin : ∀ h5 : Heap, Held h5 e it ((i : Int) + 1) item a true → Heap.SameBut e h4 h5 → Q (some (.ref hp.objs.size)) ⟨h5, g, d, tk + 1, os⟩ := fun h5 he5 hs5 =>
    hQ h5 he5 (hit4.extBut hs5.extBut (Ne.symm hne)) (hs5.extBut _ _ (Nat.ne_of_gt hel) ht4) (by show h5.objs.size = hp.objs.size + 1; rw [hs5.1, hz4]) fun b o hbe hbi hb => hs5.extBut b o hbe (hk4 b o hbe hbi hb)
  refine wpAny_bind ?_
  unfold Builtin.SmallTypes.ownedTupleIsFree
  refine wpAny_bind (wpAny_field he4 rfl (x := rawInt a) rfl ?_)
  show wpAny _ _ (loadIfAlive ((a : Int).toNat) >>= _) _ _ _
  rw [Int.toNat_natCast]
  refine wpAny_bind (kdx_alive ha4 ?_)
  simp only [Option.isNone_some, Bool.false_eq_true, if_false]
  refine wpAny_bind (wpAny_field he4 rfl (x := .bool f) rfl ?_)
  cases f with
  | true =>
    rw [if_neg (show ¬ ((Value.bool true != Value.bool true) = true) from Bool.false_ne_true)]
    refine wpAny_pure ?_
    simp only [Bool.false_eq_true, if_false]
    exact wpAny_pure ⟨_, rfl, wpAny_pure (fin h4 he4 (Heap.SameBut.refl _ _))⟩
  | false =>
    rw [if_pos (show (Value.bool false != Value.bool true) = true from rfl)]
    refine wpAny_bind (wpAny_setField_rec he4 (by simp) fun h5 he5 hs5 => ?_)
    replace hs5 : Heap.SameBut e h4 h5 := hs5
    replace he5 : Held h5 e it ((i : Int) + 1) item a true := he5
    refine wpAny_pure ?_
    simp only [Bool.false_eq_true, if_false]
    exact wpAny_pure ⟨_, rfl, wpAny_pure (fin h5 he5 hs5)⟩
theorem end_held {e it l a : Addr} {i : Nat} {items : Array Value} {item : Value} {f : Bool} {Q : Option Value → Shared → Prop} (hh : A.handled = none)
    (he : Held s.heap e it i item a f) (hit : s.heap.IsListIter it l i) (hl : s.heap.IsList l items) (hx : items[i]? = none)
    (hQ : ∀ h', Heap.ExtBut it s.heap h' → Q none { s with heap := h' }) : wpAny (model prog w) A (pyNext (.ref e)) Q E s := by
  have hT : s.TypeIs (.ref e) "enumerate" := ⟨_, he, rfl⟩
  unfold pyNext
  refine wpAny_bind (wpAny_attempt (wpAny_callSpecial?_slot (name := Str.ofString "__next__") hT PySem.F.slot_enumerate_next
    (wpAny_call_entry PySem.F.slot_enumerate_next hT PySem.F.entry_enumerate_next ?_ (PySem.F.args_enumerate_next_1 _))))
  show wpAny _ _ (field (.ref e) 2 >>= _) _ _ _
  refine wpAny_bind (wpAny_field he rfl (x := .ref it) rfl ?_)
  refine wpAny_bind (wpAny_nextOf_list_end hh hit hl hx fun h' x he' hx' => ?_)
  obtain ⟨o, ho, hc⟩ := hx'
  refine wpAny_bind (wpAny_isInstance (T := "StopIteration") (b := true) ⟨o, ho, hc⟩ isSubtype_stop ?_)
  exact wpAny_pure (hQ _ he')
end
theorem no_len_enum : typeLookup (.type "enumerate") "__len__" = pure none := by rw [typeLookup_type, builtinLookup_eq_fast]; kernel_rfl
theorem no_hint_enum : typeLookup (.type "enumerate") "__length_hint__" = pure none := by rw [typeLookup_type, builtinLookup_eq_fast]; kernel_rfl
structure Src (prog : Program) (w : World) (T : String) (I : Addr) (wr : List Addr) (n : Nat) (V : Nat → Array Value → Prop) (St : Addr → Nat → Heap → Prop) : Prop where
  mem : I ∈ wr
  type : ∀ (S : Addr) (i : Nat) (s : Shared), St S i s.heap → s.TypeIs (.ref I) T
  notList : (Value.type T == Value.type "list") = false
  notTuple : (Value.type T == Value.type "tuple") = false
  hint : ∀ (A : Around) (E : Value → Shared → Prop) (s : Shared) (Q : Bool → Shared → Prop), s.TypeIs (.ref I) T → (∀ b, Q b s) → wpAny (model prog w) A (Builtin.List.listLengthHint (.ref I)) Q E s
  self : ∀ (A : Around) (E : Value → Shared → Prop) (S : Addr) (i : Nat) (s : Shared) (Q : Value → Shared → Prop), St S i s.heap → Q (.ref I) s → wpAny (model prog w) A (pyIter (.ref I)) Q E s
  keep : ∀ (S : Addr) (i : Nat) (h h' : Heap), St S i h → (∀ b o, b ≠ S → h.get? b = some o → h'.get? b = some o) → St S i h'
  next : ∀ (A : Around) (E : Value → Shared → Prop) (S : Addr) (i : Nat) (s : Shared) (Q : Option Value → Shared → Prop), i < n → St S i s.heap → S < s.heap.objs.size →
    (∀ h' tk vs, V i vs → St S (i + 1) h' → h'.get? s.heap.objs.size = some { cls := .type "tuple", data := .seq vs } → (∀ b o, b ∉ wr → s.heap.get? b = some o → h'.get? b = some o) → Q (some (.ref s.heap.objs.size)) { s with heap := h', toks := tk }) →
    wpAny (model prog w) A (pyNext (.ref I)) Q E s
  done : ∀ (A : Around) (E : Value → Shared → Prop) (S : Addr) (s : Shared) (Q : Option Value → Shared → Prop), A.handled = none → St S n s.heap →
    (∀ h', (∀ b o, b ∉ wr → s.heap.get? b = some o → h'.get? b = some o) → Q none { s with heap := h' }) → wpAny (model prog w) A (pyNext (.ref I)) Q E s
structure MadeT (V : Nat → Array Value → Prop) (lo : Addr) (h : Heap) (as : List Addr) : Prop where
  rise : as.Pairwise (· < ·)
  above : ∀ a ∈ as, lo < a
  pairs : ∀ (j : Nat) (a : Addr), as[j]? = some a → ∃ vs, V j vs ∧ h.get? a = some { cls := .type "tuple", data := .seq vs }
theorem MadeT.there {V : Nat → Array Value → Prop} {lo : Addr} {h : Heap} {as : List Addr} (g : MadeT V lo h as) {a : Addr} (ha : a ∈ as) : a < h.objs.size := by
  obtain ⟨j, hj⟩ := List.mem_iff_getElem?.mp ha
  obtain ⟨_, _, e⟩ := g.pairs j a hj
  exact Heap.lt_size e
section
variable {prog : Program} {w : World} {A : Around} {s : Shared} {R : Result → Shared → Prop} {T : String} {I : Addr} {wr : List Addr} {n : Nat} {V : Nat → Array Value → Prop} {St : Addr → Nat → Heap → Prop}
theorem loopT {S : Addr} (K : Src prog w T I wr n V St) (hh : A.handled = none) (hwr : ∀ b ∈ wr, b < S) (hn : n ≤ sizeLine) (res : Value) {h1 : Heap}
    (hR : ∀ h' tk acc c as, (∀ b o, b ≠ S → b ∉ wr → h1.get? b = some o → h'.get? b = some o) → h'.get? S = some { cls := .type "list", dict := none, data := .seq acc c, slots := #[] } → as.length = n → MadeT V S h' as →
      acc.toList = as.map Value.ref → R (.ok (.ret res)) { s with heap := h', toks := tk }) :
    ∀ (k i : Nat) (h : Heap) (tk c : Nat) (acc : Array Value) (as : List Addr), n - i = k → i ≤ n → St S i h → (∀ b o, b ≠ S → b ∉ wr → h1.get? b = some o → h.get? b = some o) →
      h.get? S = some { cls := .type "list", dict := none, data := .seq acc c, slots := #[] } → acc.toList = as.map Value.ref → as.length = i → MadeT V S h as →
      codeAny (model prog w) A (.builtin "list.extend.loop" ⟨[.ref S, .ref I, res], []⟩) R { s with heap := h, toks := tk } := by
  have hSw : S ∉ wr := fun z => Nat.lt_irrefl _ (hwr S z)
  have hup : ∀ {a : Addr}, S < a → a ∉ wr := fun h z => Nat.lt_irrefl _ (Nat.lt_trans h (hwr _ z))
  intro k
  induction k with
  | zero =>
    intro i h tk c acc as hk hi hst hkeep hS hacc hal hG
    have hin : i = n := by omega
    subst hin
    refine codeAny_builtin PySem.F.entry_extend_loop ?_
    rw [Around.under_plainId PySem.F.plain_extend_loop _]
    show wpAny _ A.in1 (pyNext (.ref I) >>= _) _ _ _
    refine wpAny_bind (K.done A.in1 _ S { s with heap := h, toks := tk } _ hh hst fun h' he => ?_)
    refine wpAny_pure (hR h' tk acc c as (fun b o h1 h2 e => he b o h2 (hkeep b o h1 h2 e)) (he S _ hSw hS) hal ⟨hG.rise, hG.above, fun j a hj => ?_⟩ hacc)
    obtain ⟨vs, e1, e3⟩ := hG.pairs j a hj
    exact ⟨vs, e1, he a _ (hup (hG.above a (List.mem_of_getElem? hj))) e3⟩
  | succ k ih =>
    intro i h tk c acc as hk hi hst hkeep hS hacc hal hG
    have hlt : i < n := by omega
    have hsz : acc.size = i := by rw [← Array.length_toList, hacc, List.length_map, hal]
    have hSl : S < h.objs.size := Heap.lt_size hS
    refine codeAny_builtin PySem.F.entry_extend_loop ?_
    rw [Around.under_plainId PySem.F.plain_extend_loop _]
    show wpAny _ A.in1 (pyNext (.ref I) >>= _) _ _ _
    refine wpAny_bind (K.next A.in1 _ S i { s with heap := h, toks := tk } _ hlt hst hSl fun h' tk' vs hV hst' ht hkp => ?_)
    dsimp only at ht hkp ⊢
    have hS' := hkp S _ hSw hS
    have up : ∀ b o, b ≠ S → h'.get? b = some o → (h'.update S (Obj.mapSeq (·.push (Value.ref h.objs.size)))).get? b = some o := fun b o hb e => (Heap.get?_update_other _ _ (Ne.symm hb)).trans e
    show wpAny _ A.in1 (updateSeq S (·.push (Value.ref h.objs.size)) >>= _) _ _ _
    refine wpAny_bind ?_
    refine wpAny_updateSeq hS' rfl (wpAny_pure ⟨plainId_quiet PySem.F.plain_extend_loop _, ih (i + 1) _ tk' _ (acc.push (Value.ref h.objs.size)) (as ++ [h.objs.size]) (by omega) hlt (K.keep S _ _ _ hst' up)
      (fun b o h1 h2 e => up b o h1 (hkp b o h2 (hkeep b o h1 h2 e))) (Heap.get?_update_self _ hS' rfl) (by rw [Array.toList_push, hacc, List.map_append]; rfl) (by rw [List.length_append, hal]; rfl) ⟨?_, ?_, ?_⟩⟩) (by rw [hsz]; omega) (by show (acc.push (Value.ref h.objs.size)).size ≤ sizeLine + 1; rw [Array.size_push, hsz]; omega)
    · refine List.pairwise_append.mpr ⟨hG.rise, List.pairwise_singleton _ _, fun a ha b hb => ?_⟩
      rw [List.mem_singleton.mp hb]
      exact hG.there ha
    · intro a ha
      rcases List.mem_append.mp ha with ha | ha
      · exact hG.above a ha
      · rw [List.mem_singleton.mp ha]; exact hSl
    · intro j b hj
      rcases Nat.lt_trichotomy j as.length with h1 | h1 | h1
      · rw [List.getElem?_append_left h1] at hj
        obtain ⟨vs', e1, e3⟩ := hG.pairs j b hj
        have hb := hG.above b (List.mem_of_getElem? hj)
        exact ⟨vs', e1, up b _ (Nat.ne_of_gt hb) (hkp b _ (hup hb) e3)⟩
      · subst h1
        have hb : h.objs.size = b := by simpa using hj
        subst hb
        exact ⟨vs, by rw [hal]; exact hV, up _ _ (Nat.ne_of_gt hSl) ht⟩
      · have hnone : (as ++ [h.objs.size])[j]? = none := List.getElem?_eq_none (by rw [List.length_append, List.length_singleton]; omega)
        rw [hnone] at hj; cases hj
theorem extT {S : Addr} (K : Src prog w T I wr n V St) (hh : A.handled = none) (hwr : ∀ b ∈ wr, b < S) (hn : n ≤ sizeLine) (res : Value) (c0 : Nat) (hst : St S 0 s.heap) (hS : s.heap.get? S = some { cls := .type "list", data := .seq #[] c0 })
    (hR : ∀ h' tk acc c as, (∀ b o, b ≠ S → b ∉ wr → s.heap.get? b = some o → h'.get? b = some o) → h'.get? S = some { cls := .type "list", dict := none, data := .seq acc c, slots := #[] } → as.length = n → MadeT V S h' as →
      acc.toList = as.map Value.ref → R (.ok (.ret res)) { s with heap := h', toks := tk }) :
    wpAny (model prog w) A.in1 (Builtin.List.listExtendWith (.ref S) (.ref I) res)
      (fun fin s' => match fin with | .done f => R (.ok f) s' | .again c' => c'.quiet = true ∧ codeAny (model prog w) A c' R s') (fun e s' => R (.error e) s') s := by
  have hSI : S ≠ I := Nat.ne_of_gt (hwr I K.mem)
  have key : ∀ (h : Heap) (c1 tk : Nat), (∀ b o, b ≠ S → s.heap.get? b = some o → h.get? b = some o) → h.get? S = some { cls := .type "list", data := .seq #[] c1 } →
      codeAny (model prog w) A (.builtin "list.extend.loop" ⟨[.ref S, .ref I, res], []⟩) R { s with heap := h, toks := tk } := fun h c1 tk hk hS1 =>
    loopT (s := s) (h1 := s.heap) K hh hwr hn res hR n 0 h tk c1 #[] [] (Nat.sub_zero _) (Nat.zero_le _) (K.keep S 0 _ _ hst hk) (fun b o hb _ e => hk b o hb e) hS1 rfl rfl ⟨List.Pairwise.nil, (fun _ ha => nomatch ha), (fun j a hj => by simp at hj)⟩
  unfold Builtin.List.listExtendWith
  refine wpAny_bind (wpAny_typeOf (T := T) (K.type S 0 s hst) ?_)
  have h1 : Builtin.List.listSameRef (.ref S) (.ref I) = false := by simp [Builtin.List.listSameRef, hSI]
  simp only [h1, K.notList, K.notTuple, Bool.or_false, Bool.false_eq_true, if_false]
  refine wpAny_bind (K.self _ _ S 0 _ _ hst ?_)
  refine wpAny_bind (wpAny_holding (K.hint _ _ _ _ (K.type S 0 s hst) fun b => ?_))
  refine wpAny_ite_split (fun _ => ?_) (fun _ => wpAny_pure ⟨plainId_quiet PySem.F.plain_extend_loop _, key _ c0 _ (fun b o _ e => e) hS⟩)
  refine wpAny_bind (wpAny_rule ?_)
  refine wpAny_bind ?_
  show wpAny _ _ (updateSeq S (·.push .none) >>= fun _ => updateSeq S (·.pop)) _ _ _
  refine wpAny_bind (wpAny_updateSeq hS rfl ?_)
  have hS2 := Heap.get?_update_self (Obj.mapSeq (·.push Value.none)) hS rfl
  refine wpAny_updateSeq (hz := by seq_fits) hS2 rfl ?_
  have hS3 := Heap.get?_update_self (Obj.mapSeq (·.pop)) hS2 rfl
  refine wpAny_pure ⟨plainId_quiet PySem.F.plain_extend_loop _, key _ _ _ (fun b o hb e => ?_) hS3⟩
  exact (Heap.get?_update_other _ _ (Ne.symm hb)).trans ((Heap.get?_update_other _ _ (Ne.symm hb)).trans e)
theorem initT {S : Addr} (K : Src prog w T I wr n V St) (hh : A.handled = none) (hwr : ∀ b ∈ wr, b < S) (hn : n ≤ sizeLine) (hst : St S 0 s.heap) (hS : s.heap.get? S = some { cls := .type "list", data := .seq #[] })
    (hR : ∀ h' tk acc c as, (∀ b o, b ≠ S → b ∉ wr → s.heap.get? b = some o → h'.get? b = some o) → h'.get? S = some { cls := .type "list", dict := none, data := .seq acc c, slots := #[] } → as.length = n → MadeT V S h' as →
      acc.toList = as.map Value.ref → R (.ok (.ret .none)) { s with heap := h', toks := tk }) :
    wpAny (model prog w) A.in1 (Builtin.«list.__init__» ⟨[.ref S, .ref I], []⟩)
      (fun fin s' => match fin with | .done f => R (.ok f) s' | .again c' => c'.quiet = true ∧ codeAny (model prog w) A c' R s') (fun e s' => R (.error e) s') s := by
  show wpAny _ _ (do let old ← Builtin.List.listItems (.ref S); Builtin.List.listUpdate (.ref S) (fun _ => #[]); letGo old.toList.reverse; Builtin.List.listExtendWith (.ref S) (.ref I) .none) _ _ s
  refine wpAny_bind ?_
  unfold Builtin.List.listItems
  refine wpAny_bind (wpAny_seqItems hS rfl (wpAny_pure ?_))
  show wpAny _ _ (updateSeq S (fun _ => #[]) >>= fun _ => letGo (#[] : Array Value).toList.reverse >>= fun _ => Builtin.List.listExtendWith (.ref S) (.ref I) .none) _ _ s
  refine wpAny_bind (wpAny_updateSeq hS rfl ?_)
  have hS2 := Heap.get?_update_self (Obj.mapSeq (fun _ => (#[] : Array Value))) hS rfl
  have oth : ∀ b o, b ≠ S → s.heap.get? b = some o → (s.heap.update S (Obj.mapSeq (fun _ => (#[] : Array Value)))).get? b = some o :=
    fun b o hb e => (Heap.get?_update_other _ _ (Ne.symm hb)).trans e
  refine wpAny_bind (wpAny_letGo ?_)
  exact extT K hh hwr hn .none _ (K.keep S 0 _ _ hst oth) hS2 (fun h' tk acc' c' as hk hS' hl hG hacc => hR h' tk acc' c' as (fun b o hb hw e => hk b o hb hw (oth b o hb e)) hS' hl hG hacc)
theorem callT {Q : Value → Shared → Prop} {E : Value → Shared → Prop} (K : Src prog w T I wr n V St) (hh : A.handled = none) (hwr : ∀ b ∈ wr, b < s.heap.objs.size) (hn : n ≤ sizeLine) (hst : St s.heap.objs.size 0 s.heap)
    (hQ : ∀ h' tk acc c as, (∀ b o, b ∉ wr → s.heap.get? b = some o → h'.get? b = some o) → h'.get? s.heap.objs.size = some { cls := .type "list", dict := none, data := .seq acc c, slots := #[] } → as.length = n → MadeT V s.heap.objs.size h' as →
      acc.toList = as.map Value.ref → Q (.ref s.heap.objs.size) { s with heap := h', toks := tk }) :
    wpAny (model prog w) A (call (.type "list") [.ref I]) Q E s := by
  refine callType_codes (Q₁ := fun obj s1 => obj = .ref s.heap.objs.size ∧ s1 = { s with heap := s.heap.push { cls := .type "list", data := .seq #[] } }) PySem.F.called_list (PySem.F.typeCall_list_1 _) PySem.F.entry_list_init
    (code_list_new _ ⟨rfl, rfl⟩) fun obj s1 h1 => ?_
  obtain ⟨rfl, rfl⟩ := h1
  have hS : (s.heap.push { cls := .type "list", data := .seq #[] }).get? s.heap.objs.size = some { cls := .type "list", data := .seq #[] } := Heap.get?_push_size _ rfl
  refine ⟨⟨_, hS, rfl⟩, PySem.F.args_list_init_2 _ _, initT (A := A.in1) K hh hwr hn (K.keep _ 0 _ _ hst fun b o _ e => Heap.get?_push_of_some _ e) hS (fun h' tk acc' c' as hk hS' hl hG hacc => ?_)⟩
  exact ⟨rfl, hQ h' tk acc' c' as (fun b o hw e => hk b o (Nat.ne_of_lt (Heap.lt_size e)) hw (Heap.get?_push_of_some _ e)) hS' hl hG hacc⟩
end
section
variable {prog : Program} {w : World}
def StE (e it l : Addr) (items : Array Value) (S : Addr) (i : Nat) (h : Heap) : Prop :=
  (h.IsListIter it l i ∧ h.IsList l items ∧ S ≠ e ∧ S ≠ it ∧ S ≠ l) ∧ ((∃ old, IsEnum h e it i old) ∨ ∃ old a f oa, Held h e it i old a f ∧ h.get? a = some oa ∧ a ≠ e ∧ a ≠ it ∧ a ≠ S)
theorem srcE (e it l : Addr) (n1 : e ≠ it) (n2 : l ≠ e) (n3 : l ≠ it) (items : Array Value) :
    Src prog w "enumerate" e [e, it] items.size (fun i vs => ∃ t x, items[i]? = some x ∧ vs = #[.int i t, x]) (StE e it l items) where
  mem := by simp
  type := fun S i s st => by
    rcases st.2 with ⟨old, he⟩ | ⟨old, a, f, oa, he, _⟩
    · exact ⟨_, he, rfl⟩
    · exact ⟨_, he, rfl⟩
  notList := by decide
  notTuple := by decide
  hint := fun A E s Q hT h => by
    unfold Builtin.List.listLengthHint
    refine wpAny_bind (wpAny_specialOf hT no_len_enum ?_)
    show wpAny _ A (specialOf (Value.ref e) (Str.ofString "__length_hint__") >>= _) _ _ _
    refine wpAny_bind (wpAny_specialOf hT no_hint_enum ?_)
    exact wpAny_pure (h _)
  self := fun A E S i s Q st h => by
    rcases st.2 with ⟨old, he⟩ | ⟨old, a, f, oa, he, _⟩
    · exact wpAny_pyIter_enum he h
    · have hT : s.TypeIs (.ref e) "enumerate" := ⟨_, he, rfl⟩
      refine wpAny_pyIter_slot hT PySem.F.slot_enumerate_iter (wpAny_call_entry PySem.F.slot_enumerate_iter hT PySem.F.entry_enumerate_iter ?_ (PySem.F.args_enumerate_iter_1 _))
      show wpAny _ _ (ret (.ref e)) _ _ s
      exact wpAny_pure ⟨_, rfl, "enumerate", _, hT, PySem.F.slot_enumerate_next.lookup, h⟩
  keep := fun S i h h' st k => by
    obtain ⟨⟨st1, st2, m1, m2, m3⟩, st3⟩ := st
    refine ⟨⟨st1.at fun o x => k it o (Ne.symm m2) x, st2.at fun o x => k l o (Ne.symm m3) x, m1, m2, m3⟩, ?_⟩
    rcases st3 with ⟨old, he⟩ | ⟨old, a, f, oa, he, ha, q1, q2, q3⟩
    · exact .inl ⟨old, k e _ (Ne.symm m1) he⟩
    · exact .inr ⟨old, a, f, oa, k e _ (Ne.symm m1) he, k a _ q3 ha, q1, q2, q3⟩
  next := fun A E S i s Q hi st hS hQ => by
    obtain ⟨⟨st1, st2, m1, m2, m3⟩, st3⟩ := st
    have hx : items[i]? = some items[i] := Array.getElem?_eq_getElem hi
    have ec : ((i + 1 : Nat) : Int) = (i : Int) + 1 := by omega
    have k1 : s.heap.objs.size ≠ it := by
      obtain ⟨_, x, _⟩ := id st1
      exact Nat.ne_of_gt (Heap.lt_size x)
    rcases st3 with ⟨old, he⟩ | ⟨old, a, f, oa, he, ha, q1, q2, q3⟩
    · refine wpAny_pyNext_enum_item he st1 st2 hx n1 fun h' ho hit' hT hsz hk => hQ h' (s.toks + 1) _ ⟨_, _, hx, rfl⟩ ⟨⟨hit', st2.at fun o x => hk l o n2 n3 x, m1, m2, m3⟩, .inr ⟨_, s.heap.objs.size, false, _, (by rw [ec]; exact ho), hT, Nat.ne_of_gt (Heap.lt_size he), k1, Nat.ne_of_gt hS⟩⟩ hT fun b o hb x => ?_
      exact hk b o (fun y => hb (by simp [y])) (fun y => hb (by simp [y])) x
    · refine next_held he ha q1 q2 st1 st2 hx n1 fun h' ho hit' hT hsz hk => hQ h' (s.toks + 1) _ ⟨_, _, hx, rfl⟩ ⟨⟨hit', st2.at fun o x => hk l o n2 n3 x, m1, m2, m3⟩, .inr ⟨old, a, true, oa, (by rw [ec]; exact ho), hk a _ q1 q2 ha, q1, q2, q3⟩⟩ hT fun b o hb x => ?_
      exact hk b o (fun y => hb (by simp [y])) (fun y => hb (by simp [y])) x
  done := fun A E S s Q hh st hQ => by
    obtain ⟨⟨st1, st2, m1, m2, m3⟩, st3⟩ := st
    have hx : items[items.size]? = none := Array.getElem?_eq_none (Nat.le_refl _)
    rcases st3 with ⟨old, he⟩ | ⟨old, a, f, oa, he, ha, q1, q2, q3⟩
    · exact wpAny_pyNext_enum_end hh he st1 st2 hx fun h' hk => hQ h' fun b o hb x => hk b o (fun y => hb (by simp [y])) x
    · exact end_held hh he st1 st2 hx fun h' hk => hQ h' fun b o hb x => hk b o (fun y => hb (by simp [y])) x
end
end BxE
end
end

section
set_option Elab.async false
set_option linter.all false
set_option maxRecDepth 100000
set_option maxHeartbeats 4000000
set_option autoImplicit false
noncomputable section
namespace BxE
open PySem PySem.Spec PyProof.Rows L2
abbrev St := L2.St
theorem nn {x y : Nat} (h : ¬ (x = y)) : @Ne Addr x y := h
def layO (H : Hp) : List (Addr × HO) → Hp
  | [] => H
  | p :: r => upd (layO H r) p.1 p.2
theorem layO_mem {H : Hp} : ∀ {l : List (Addr × HO)} {b : Addr} {u : HO}, layO H l b = some u → (b, u) ∈ l ∨ H b = some u
  | [], b, u, h => .inr h
  | p :: r, b, u, h => by
    by_cases e : b = p.1
    · subst e
      have h : upd (layO H r) p.1 p.2 p.1 = some u := h
      rw [upd_same] at h
      cases h
      exact .inl List.mem_cons_self
    · have h : upd (layO H r) p.1 p.2 b = some u := h
      rw [upd_ne e] at h
      rcases layO_mem h with q | q
      · exact .inl (List.mem_cons_of_mem _ q)
      · exact .inr q
theorem layO_other {H : Hp} : ∀ {l : List (Addr × HO)} {b : Addr}, (∀ p ∈ l, p.1 ≠ b) → layO H l b = H b
  | [], b, _ => rfl
  | p :: r, b, h => by
    show upd (layO H r) p.1 p.2 b = _
    rw [upd_ne (Ne.symm (h p List.mem_cons_self))]
    exact layO_other fun q hq => h q (List.mem_cons_of_mem _ hq)
theorem layO_keep {H : Hp} {l : List (Addr × HO)} {b : Addr} {u : HO} (hn : ∀ p ∈ l, H p.1 = none) (h : H b = some u) : layO H l b = some u := by
  rw [layO_other fun p hp e => by rw [← e, hn p hp] at h; cases h]
  exact h
section
variable {X : Cx} {pins : List (Addr × Obj)} {σ : St} {H : Hp} {s : Shared}
theorem inv_layO {h' : Heap} {t' : Nat} {l : List (Addr × HO)} (I : Inv X pins σ H s) (k : ∀ b u, s.heap.get? b = some u → h'.get? b = some u) (hp : ∀ p ∈ l, s.heap.objs.size ≤ p.1) (new : ∀ p ∈ l, ObjOk X.prog X.w (layO H l) h' p.1 p.2) :
    Inv X pins σ (layO H l) { s with heap := h', toks := t' } := by
  have hn : ∀ p ∈ l, H p.1 = none := fun p q => I.hok.fresh (hp p q)
  have ne : ∀ b u, s.heap.get? b = some u → ∀ p ∈ l, p.1 ≠ b := fun b u e p q z => by
    have := hp p q
    rw [z] at this
    exact Nat.lt_irrefl _ (Nat.lt_of_lt_of_le (Heap.lt_size e) this)
  refine I.un ⟨fun b u q _ _ _ => k b u q, fun b u q _ _ _ => ⟨u.slots, k b u q⟩, fun b u q n _ => by rw [layO_other (ne b u q)]; exact n, fun b u q _ => ⟨u, k b u q⟩, fun b xs q => layO_keep hn q, fun b u xs q => layO_keep hn q, fun b ps q => ⟨#[], by rw [layO_keep hn q]; simp⟩⟩ fun b u e => ?_
  rcases layO_mem e with q | q
  · exact new _ q
  · exact (I.hok b u q).stay (fun c v _ z => k c v z) (fun c z => layO_keep hn z) fun c xs z => layO_keep hn z
end
def enumV : Nat → List V → List (List V)
  | _, [] => []
  | n, x :: r => [.int (n : Nat), x] :: enumV (n + 1) r
theorem enumV_len : ∀ {l : List V} {n : Nat}, (enumV n l).length = l.length
  | [], n => rfl
  | x :: r, n => by rw [enumV, List.length_cons, List.length_cons, enumV_len]
theorem enumV_get : ∀ {l : List V} {n i : Nat} {x : V}, l[i]? = some x → (enumV n l)[i]? = some [.int ((n + i : Nat)), x]
  | [], n, i, x, h => by simp at h
  | y :: r, n, 0, x, h => by
    have h : y = x := by simpa using h
    rw [h]
    rfl
  | y :: r, n, i + 1, x, h => by
    rw [enumV, List.getElem?_cons_succ, enumV_get (by simpa using h), Nat.add_right_comm n 1 i, Nat.add_assoc]
def Came (X : Cx) (pins : List (Addr × Obj)) (σ : St) (Q : List (List V) → Hp → Prop) (x : Value) (s2 : Shared) : Prop :=
  ∃ (s1 : Shared) (h2 : Heap) (H1 : Hp) (T : String) (I : Addr) (wr : List Addr) (n : Nat) (Vp : Nat → Array Value → Prop) (St : Addr → Nat → Heap → Prop) (ps : List (List V)),
    x = .ref I ∧ s2 = { s1 with heap := h2 } ∧ (∀ b o, s1.heap.get? b = some o → h2.get? b = some o) ∧ Inv X pins σ H1 s1 ∧ Src X.prog X.w T I wr n Vp St ∧ (∀ b ∈ wr, s1.heap.objs.size ≤ b ∧ b < h2.objs.size) ∧ St h2.objs.size 0 h2 ∧ n ≤ sizeLine ∧
    ps.length = n ∧ (∀ i vs, Vp i vs → ∃ ys, ps[i]? = some ys ∧ Vals ys vs.toList ∧ ys.length ≤ sizeLine) ∧ Q ps H1
def PCame (X : Cx) (e : Expr) (te : L2.St → Hp → (List (List V) → Hp → Prop) → Prop) : Prop :=
  ∀ (pins : List (Addr × Obj)) (s : Shared) (σ : L2.St) (H : Hp) (Q : List (List V) → Hp → Prop), Inv X pins σ H s → te σ H Q → wpAny (model X.prog X.w) X.A (eval e X.env) (Came X pins σ Q) X.xe s
def lstO (S : Addr) (as : List Addr) (ps : List (List V)) : List (Addr × HO) := (S, .lst (as.map V.ref)) :: (as.zip ps).map fun q => (q.1, .tup q.2)
def tLstC (te : L2.St → Hp → (List (List V) → Hp → Prop) → Prop) : TE := fun σ H Q => te σ H fun ps H1 => ∀ (as : List Addr) (S : Addr), as.length = ps.length → as.Pairwise (· < ·) → (∀ a ∈ as, S < a) → (∀ b ∈ S :: as, H1 b = none) → Q (.ref S) (layO H1 (lstO S as ps))
section
variable {X : Cx} {e e2 : Expr} {p pos : Pos} {ta : TA}
theorem pe_lstC {te : L2.St → Hp → (List (List V) → Hp → Prop) → Prop} (hc : X.calm = true) (hg : Gl X "list") (hm : X.mg "list" = none) (he : PCame X e te) (na : starEach [e] X.env = (false, eval e X.env) :: starEach [] X.env := by rfl) : PE X (.Call (.Name "list" p) [e] [] pos) (tLstC te) := by
  refine ⟨fun pins s σ H Q I h => ?_⟩
  refine Call_ (ld_blt I hg hm boot_list (PyProof.Rows.callWith_type1 (args_cons (thn (he pins s σ H _ I h) fun x s2 z => args_nil ?_) na) na))
  obtain ⟨s1, h2, H1, T, Ia, wr, n, Vp, St, ps, ex, es, hk, I1, K, hw, hst, hn, hl, hv, q⟩ := z
  subst ex es
  have le : s1.heap.objs.size ≤ h2.objs.size := Nat.le_trans (hw Ia K.mem).1 (Nat.le_of_lt (hw Ia K.mem).2)
  refine callT (s := { s1 with heap := h2 }) K (I1.ok.hd hc) (fun b hb => (hw b hb).2) hn hst fun h' tk acc c as hk2 hS hal hG hacc => ?_
  have hall : ∀ b o, s1.heap.get? b = some o → h'.get? b = some o := fun b o q => hk2 b o (fun z => Nat.lt_irrefl _ (Nat.lt_of_lt_of_le (Heap.lt_size q) (hw b z).1)) (hk b o q)
  have hab : ∀ a ∈ as, s1.heap.objs.size ≤ a := fun a ha => Nat.le_trans le (Nat.le_of_lt (hG.above a ha))
  have hlen : as.length = ps.length := by rw [hal, hl]
  have J := inv_layO (t' := tk) (l := lstO h2.objs.size as ps) I1 hall (fun p hp => by
    rcases List.mem_cons.mp hp with z | z
    · rw [z]; exact le
    · obtain ⟨q, hq, rfl⟩ := List.mem_map.mp z
      exact hab _ (List.of_mem_zip hq).1) (fun p hp => by
    rcases List.mem_cons.mp hp with z | z
    · rw [z]
      refine ⟨by rw [List.length_map, hal]; exact hn, as.map Value.ref, c, ?_, ?_⟩
      · exact vals_refs as
      · rw [hS]
        have e : (as.map Value.ref).toArray = acc := by rw [← hacc]
        rw [e]
    · obtain ⟨⟨a, ys⟩, hq, rfl⟩ := List.mem_map.mp z
      obtain ⟨j, hj, ej⟩ := List.mem_iff_getElem.mp hq
      rw [List.length_zip] at hj
      have ea : as[j]? = some a := by
        rw [List.getElem_zip] at ej
        cases ej
        exact List.getElem?_eq_getElem _
      have ey : ps[j]? = some ys := by
        rw [List.getElem_zip] at ej
        cases ej
        exact List.getElem?_eq_getElem _
      obtain ⟨vs, h3, h4⟩ := hG.pairs j a ea
      obtain ⟨ys', e5, rv, zl⟩ := hv j vs h3
      rw [ey] at e5
      cases e5
      exact ⟨zl, vs.toList, rv, _, h4, rfl, 0, by rw [Array.toArray_toList]⟩)
  refine ⟨.ref h2.objs.size, _, J, rfl, q as h2.objs.size hlen hG.rise hG.above fun b hb => I1.hok.fresh ?_⟩
  rcases List.mem_cons.mp hb with z | z
  · rw [z]; exact le
  · exact hab b z
def tEnC (K : PySem.W.Frag) (ta : TA) : L2.St → Hp → (List (List V) → Hp → Prop) → Prop := fun σ H R => ta σ H fun vs H1 => ∃ a xs, vs = [.ref a] ∧ SqL K H1 a xs ∧ R (enumV 0 xs) H1
theorem pc_enum (hg : Gl X "enumerate") (hm : X.mg "enumerate" = none) (ha : PA X [e] ta) (hs : starEach [e] X.env = [(false, eval e X.env)] := by rfl) : PCame X (.Call (.Name "enumerate" p) [e] [] pos) (tEnC X.K ta) := by
  intro pins s σ H Q I h
  refine Call_ (ld_blt I hg hm boot_enumerate (PyProof.Rows.callWith_type1 (thn (ha.run pos pins s σ H _ I h) fun us s1 ⟨vs, H1, I1, r1, q1⟩ => ?_) hs rfl))
  obtain ⟨a, xs, ex, hq, q⟩ := q1
  subst ex
  cases r1 with
  | cons r rr =>
    cases rr
    cases r
    obtain ⟨its, rv, p', hz⟩ := I1.list hq
    have la : a < s1.heap.objs.size := p'.lt
    refine call_enumerate_list p'.isList fun h' he hit hsz hk => ?_
    have la : (a : Nat) < s1.heap.objs.size := la
    refine ⟨s1, h', H1, "enumerate", _, _, its.toArray.size, _, _, enumV 0 xs, rfl, rfl, hk, I1, srcE (s1.heap.objs.size + 1) s1.heap.objs.size a (Nat.succ_ne_self _) (Nat.ne_of_lt (Nat.lt_succ_of_lt la)) (Nat.ne_of_lt la) its.toArray, fun b hb => ?_, ⟨⟨hit, p'.isList.at fun o x => hk a o x, nn (by omega), nn (by omega), Nat.ne_of_gt (by rw [hsz]; exact Nat.lt_of_lt_of_le la (Nat.le_add_right _ _))⟩, .inl ⟨.none, he⟩⟩, ?_, ?_, fun i vs ⟨t, x, hx, ev⟩ => ?_, q⟩
    · have e' : b = s1.heap.objs.size + 1 ∨ b = s1.heap.objs.size := by simpa using hb
      rcases e' with z | z
      · rw [z]; exact ⟨Nat.le_add_right _ _, by rw [hsz]; exact Nat.lt_succ_self _⟩
      · rw [z]; exact ⟨Nat.le_refl _, by rw [hsz]; exact Nat.lt_add_of_pos_right (by decide)⟩
    · rw [List.size_toArray, ← rv.length]; exact hz
    · rw [enumV_len, List.size_toArray, rv.length]
    · subst ev
      have hx : its[i]? = some x := by simpa using hx
      have hi : i < xs.length := by rw [rv.length]; exact (List.getElem?_eq_some_iff.mp hx).1
      have ey : xs[i]? = some xs[i] := List.getElem?_eq_getElem hi
      obtain ⟨u, hu, ru⟩ := rv.get ey
      rw [hx] at hu
      cases hu
      refine ⟨_, enumV_get ey, .cons ⟨t, ?_⟩ (.cons ru .nil), by rw [sizeLine_eq]; show 2 ≤ _; omega⟩
      rw [Nat.zero_add]
end
end BxE
end
end

section
set_option Elab.async false
set_option linter.all false
set_option maxRecDepth 100000
set_option maxHeartbeats 4000000
set_option autoImplicit false
noncomputable section
namespace Bx
open PySem PySem.Spec PyProof.Rows L2 BxE
@[simp] def sLEnm (fs : SA) (Γ : Ev) : R AV := (fs Γ).bind fun avs Γ' => optN ((ds avs).bind enumD) Γ'
@[simp] def zipLD : List D → Option (List D)
  | [.lst l, .lst m] => some (List.zipWith (fun a b => D.tup [a, b]) l m)
  | _ => none
@[simp] def sLZp (fs : SA) (Γ : Ev) : R AV := (fs Γ).bind fun avs Γ' => optN ((ds avs).bind zipLD) Γ'
section
variable {C : Ct} {io : IO} {σ : L2.St} {F H : Hp} {Γ : Ev}
def tupsO (l : List (Addr × List V)) : List (Addr × HO) := l.map fun q => (q.1, HO.tup q.2)
theorem go_tups (A : At C io σ F H Γ) : ∀ {l : List (Addr × List V)}, (l.map (·.1)).Nodup → (∀ p ∈ l, H p.1 = none) → ∃ F', Go C io σ F H Γ σ F' (layO H (tupsO l)) Γ ∧ ∀ q ∈ l, F' q.1 = some (.tup q.2)
  | [], _, _ => ⟨F, .refl A, fun _ h => nomatch h⟩
  | p :: r, hd, hn => by
    rw [List.map_cons, List.nodup_cons] at hd
    obtain ⟨F1, g1, h1⟩ := go_tups A (l := r) hd.2 fun q hq => hn q (List.mem_cons_of_mem _ hq)
    have hp : layO H (tupsO r) p.1 = none := by
      rw [layO_other fun q hq e => ?_]
      · exact hn p List.mem_cons_self
      · obtain ⟨z, hz, rfl⟩ := List.mem_map.mp hq
        exact hd.1 (by rw [← e]; exact List.mem_map.mpr ⟨z, hz, rfl⟩)
    refine ⟨_, g1.trans (Go.laid g1.at_ hp (.tup p.2)), fun q hq => ?_⟩
    rcases List.mem_cons.mp hq with e | e
    · rw [e]; exact upd_same
    · rw [upd_ne fun z => hd.1 (by rw [← z]; exact List.mem_map.mpr ⟨q, e, rfl⟩)]
      exact h1 q e
theorem rep_tupAt {F' : Hp} {a : Addr} {xs : List V} {l : List D} (h : F' a = some (.tup xs)) (r : Reps C F' l xs) (z : l.length ≤ sizeLine) : Rep C F' (.tup l) (.ref a) := ⟨a, xs, rfl, .inl (.inl h), r, z⟩
theorem reps_enum {F' : Hp} : ∀ {l : List D} {xs : List V} {as : List Addr} {n : Nat}, Reps C F' l xs → as.length = xs.length → (∀ q ∈ as.zip (enumV n xs), F' q.1 = some (.tup q.2)) → Reps C F' (enumF n l) (as.map V.ref)
  | [], _, as, n, h, hl, _ => by
    have h : _ = [] := h
    rw [h] at hl
    have : as = [] := List.length_eq_zero_iff.mp hl
    rw [this]
    exact .nil
  | d :: l, _, [], n, ⟨x, r, e, a, b⟩, hl, _ => by rw [e] at hl; cases hl
  | d :: l, _, c :: as, n, ⟨x, r, e, a, b⟩, hl, hq => by
    rw [e] at hl hq
    refine .cons (rep_tupAt (hq (c, [.int (n : Nat), x]) List.mem_cons_self) (.cons rfl (.one a)) two_line) ?_
    exact reps_enum b (by simpa using hl) fun q hm => hq q (List.mem_cons_of_mem _ hm)
end
section
variable {X : Cx} {W : XW} {e e2 : Expr} {p p2 pos pos2 : Pos} {fs : SA}
theorem lst_end {io : IO} {σ : L2.St} {F1 H1 : Hp} {Γ Γ1 : Ev} {Q : VK} {F H : Hp} {l : List D} {ps : List (List V)} (A : At (ct X) io σ F1 H1 Γ1) (p3 : PX (ct X) io W σ F1 H1 Γ1 (.ok (.n l) Γ1) Q) (hz : l.length ≤ sizeLine)
    (hr : ∀ F' (as : List Addr), le F1 F' → as.length = ps.length → (∀ q ∈ as.zip ps, F' q.1 = some (.tup q.2)) → Reps (ct X) F' l (as.map V.ref)) :
    ∀ (as : List Addr) (S : Addr), as.length = ps.length → as.Pairwise (· < ·) → (∀ a ∈ as, S < a) → (∀ b ∈ S :: as, H1 b = none) → Q (.ref S) (layO H1 (lstO S as ps)) := by
  intro as S hl hp ha hn
  have hS := hn S List.mem_cons_self
  have nd : ((as.zip ps).map (·.1)).Nodup := by
    rw [List.map_fst_zip (by omega)]
    exact hp.imp fun h => Nat.ne_of_lt h
  obtain ⟨F', g, hF⟩ := go_tups A (l := as.zip ps) nd fun q hq => hn _ (List.mem_cons_of_mem _ (List.of_mem_zip hq).1)
  have hS2 : layO H1 (tupsO (as.zip ps)) S = none := by
    rw [layO_other fun q hq z => ?_]
    · exact hS
    · obtain ⟨y, hy, rfl⟩ := List.mem_map.mp hq
      have := ha _ (List.of_mem_zip hy).1
      have z : y.1 = S := z
      rw [z] at this
      exact Nat.lt_irrefl _ this
  exact p3 (.ref S) _ _ (g.trans (Go.upd g.at_ hS2 (.lst (as.map V.ref)))) ⟨S, _, rfl, .inl hS, g.at_.fnone hS2, g.at_.notOwnU hS2, upd_same, hr F' as g.ff hl hF, hz⟩
theorem q_lenm (hc : X.calm = true) (hml : X.mg "list" = none) (hm : X.mg "enumerate" = none) (ha : PA X [e] (tA (ct X) W fs)) (hgl : Gl X "list" := by rfl) (hg : Gl X "enumerate" := by rfl) (hs : starEach [e] X.env = [(false, eval e X.env)] := by rfl)
    (na : starEach [.Call (.Name "enumerate" p2) [e] [] pos2] X.env = (false, eval (.Call (.Name "enumerate" p2) [e] [] pos2) X.env) :: starEach [] X.env := by rfl) :
    PE X (.Call (.Name "list" p) [.Call (.Name "enumerate" p2) [e] [] pos2] [] pos) (tX (ct X) W (sLEnm fs)) :=
  PE.imp (pe_lstC hc hgl hml (pc_enum hg hm ha hs) na) fun σ H Q ⟨io, F, Γ, A, p⟩ => tA.then A p fun avs vs F1 H1 Γ1 g1 hv p1 => by
    obtain ⟨l, hl, hz, p3⟩ := optN_ok p1
    obtain ⟨d, hd, hl⟩ := bind_some hl
    have r := ds_ok hv hd
    unfold enumD at hl
    split at hl
    · rename_i ls
      cases hl
      obtain ⟨x, w, rfl, rx, rw'⟩ := r
      have rw' : w = [] := rw'
      subst rw'
      obtain ⟨a, xs, rfl, s1, r1, _⟩ := rx
      refine ⟨a, xs, rfl, .of (g1.at_.le _ _ s1), lst_end (F := F) (H := H) (Γ := Γ) g1.at_ p3 hz fun F' as lf hla hq => ?_⟩
      rw [enumV_len] at hla
      exact reps_enum (r1.mono lf) hla hq
    · cases hl
end
end Bx
end
end

section
set_option Elab.async false
set_option linter.all false
set_option maxRecDepth 100000
set_option maxHeartbeats 4000000
set_option autoImplicit false
noncomputable section
namespace Bx
open PySem PySem.Spec PyProof.Rows L2
def evens {α : Type} : List α → List α
  | [] => []
  | [x] => [x]
  | x :: _ :: r => x :: evens r
theorem Vals.evens : ∀ {n : Nat} {xs : List V} {us : List Value}, xs.length ≤ n → Vals xs us → Vals (Bx.evens xs) (Bx.evens us)
  | _, [], [], _, _ => .nil
  | _, [], _ :: _, _, h => by cases h
  | _, _ :: _, [], _, h => by cases h
  | _, [x], [u], _, h => h
  | _, [x], _ :: _ :: _, _, h => by cases h with | cons a b => cases b
  | _, _ :: _ :: _, [_], _, h => by cases h with | cons a b => cases b
  | 0, _ :: _ :: _, _ :: _ :: _, hn, _ => by simp at hn
  | n + 1, x :: y :: xs, u :: v :: us, hn, h => by
    cases h with
    | cons a b =>
      cases b with
      | cons b c => exact .cons a (Vals.evens (n := n) (by simp at hn; omega) c)
theorem Reps.evens {C : Ct} {F : Hp} : ∀ {n : Nat} {l : List D} {xs : List V}, l.length ≤ n → Reps C F l xs → Reps C F (Bx.evens l) (Bx.evens xs)
  | _, [], _, _, h => by
    have h : _ = [] := h
    rw [h]
    exact .nil
  | _, [d], _, _, ⟨x, r, e, a, b⟩ => by
    have b : r = [] := b
    rw [e, b]
    exact .one a
  | 0, _ :: _ :: _, _, hn, _ => by simp at hn
  | n + 1, d :: d2 :: l, _, hn, ⟨x, r, e, a, y, r2, e2, a2, b⟩ => by
    rw [e, e2]
    exact .cons a (Reps.evens (n := n) (by simp at hn; omega) b)
@[simp] def evD : D → Option Rs
  | .lst l => some (.n (evens l))
  | _ => none
@[simp] def odD : D → Option Rs
  | .lst l => some (.n (evens (l.drop 1)))
  | _ => none
@[simp] def sEven (f : SE) (Γ : Ev) : R AV := (f Γ).bind fun av Γ' => rd1 evD av Γ'
@[simp] def sOdd (f : SE) (Γ : Ev) : R AV := (f Γ).bind fun av Γ' => rd1 odD av Γ'
@[simp] def rngD3 : List D → Option (List D)
  | [.int i, .int j, .int c] => if inW i = true ∧ inW j = true ∧ c = 2 ∧ i < j then some ((List.range ((j - i - 1) / 2 + 1).toNat).map fun k : Nat => D.int (i + (k : Nat) * 2)) else none
  | _ => none
@[simp] def iRng3 (fs : SA) (Γ : Ev) : R (List D) := (fs Γ).bind fun avs Γ' => optL ((ds avs).bind rngD3) Γ'
end Bx
end
end

section
set_option Elab.async false
set_option linter.all false
set_option maxRecDepth 100000
set_option maxHeartbeats 4000000
set_option autoImplicit false
noncomputable section
namespace Bx
open PySem PySem.Spec PyProof.Rows L2
theorem eqOk_depT {d : D} (h : eqOk d = true) : pl d = true ∧ dep d ≤ 60 ∧ (py d).depth ≤ 60 := by
  unfold eqOk at h
  rw [Bool.and_eq_true] at h
  have h2 := of_decide_eq_true h.2
  have h3 := py_dep d
  exact ⟨h.1, h2, by omega⟩
end Bx
end
end

section
set_option Elab.async false
set_option linter.all false
set_option maxRecDepth 100000
set_option maxHeartbeats 4000000
set_option autoImplicit false
noncomputable section
namespace BxZ
open PySem PySem.Spec PyProof.Rows L2
open PySem.Sem (wp)
abbrev hp1 (h : Heap) (l1 : Addr) : Heap := h.push { cls := .type "list_iterator", data := .fields #[.ref l1, .int 0 0] }
abbrev hp2 (h : Heap) (l1 l2 : Addr) : Heap := (hp1 h l1).push { cls := .type "tuple_iterator", data := .fields #[.ref l2, .int 0 0] }
abbrev hp3 (h : Heap) (l1 l2 : Addr) : Heap := (hp2 h l1 l2).push { cls := .type "tuple", data := .seq #[.ref h.objs.size, .ref (hp1 h l1).objs.size] }
def ItM (K : PySem.W.Frag) (a b : Addr) : It :=
  ⟨fun i H => ∃ (xs ys : List V) (x y : V), SqL K H a xs ∧ SqT K H b ys ∧ xs[i]? = some x ∧ ys[i]? = some y,
    fun i H v H' => ∃ T x y, v = .ref T ∧ H T = none ∧ H' = upd H T (.tup [x, y]) ∧ (∀ xs, SqL K H a xs → xs[i]? = some x) ∧ ∀ ys, SqT K H b ys → ys[i]? = some y,
    fun i H => ∃ xs ys : List V, SqL K H a xs ∧ SqT K H b ys ∧ (xs.length ≤ i ∨ ys.length ≤ i)⟩
def iZm (K : PySem.W.Frag) (ta : TA) : TI := fun σ H R => ta σ H fun vs H1 => ∃ a b xs ys, vs = [.ref a, .ref b] ∧ SqL K H1 a xs ∧ SqT K H1 b ys ∧ R (ItM K a b) H1
end BxZ
namespace Bx
open PySem PySem.Spec PyProof.Rows L2
@[simp] def zipM : List D → Option (List D)
  | [.lst l, .tup m] => some (List.zipWith (fun a b => D.tup [a, b]) l m)
  | _ => none
@[simp] def iZm (fs : SA) (Γ : Ev) : R (List D) := (fs Γ).bind fun avs Γ' => optL ((ds avs).bind zipM) Γ'
end Bx
end
end

section
set_option Elab.async false
set_option linter.all false
set_option maxRecDepth 100000
set_option maxHeartbeats 4000000
set_option autoImplicit false
noncomputable section
namespace Bx
open PySem PySem.Spec PyProof.Rows L2
mutual
/-- data that may be kept -/
def kpd : D → Bool
  | .non => true
  | .bl _ => true
  | .int _ => true
  | .str _ => true
  | .tup l => kpds l
  | .lst l => kpds l
  | .scr _ => false
  | .dct _ => false
  | .fn _ => true
  | .ex _ => false
  | .dtt _ => false
def kpds : List D → Bool
  | [] => true
  | d :: r => kpd d && kpds r
end
@[simp] theorem kpd_non : kpd .non = true := by rw [kpd]
@[simp] theorem kpd_bl (b : Bool) : kpd (.bl b) = true := by rw [kpd]
@[simp] theorem kpd_int (b : Int) : kpd (.int b) = true := by rw [kpd]
@[simp] theorem kpd_str (b : Str) : kpd (.str b) = true := by rw [kpd]
@[simp] theorem kpd_scr (b : List D) : kpd (.scr b) = false := by rw [kpd]
@[simp] theorem kpd_tup (l : List D) : kpd (.tup l) = kpds l := by rw [kpd]
@[simp] theorem kpd_lst (l : List D) : kpd (.lst l) = kpds l := by rw [kpd]
@[simp] theorem kpds_nil : kpds [] = true := by rw [kpds]
@[simp] theorem kpds_cons (d : D) (r : List D) : kpds (d :: r) = (kpd d && kpds r) := by rw [kpds]
mutual
theorem Rep.kp {C : Ct} {F : Hp} : ∀ {d : D} {v : V}, kpd d = true → Rep C F d v → RepN C (fun b => F b ≠ none) F d v
  | .non, _, _, h => h
  | .bl _, _, _, h => h
  | .int _, _, _, h => h
  | .str _, _, _, h => h
  | .tup ds, v, n, h => by
    obtain ⟨a, xs, e, s, r, z⟩ := h
    exact ⟨a, xs, e, s, Reps.kp (by simpa using n) r, z⟩
  | .lst ds, v, n, h => by
    obtain ⟨a, xs, e, s, r, z⟩ := h
    exact ⟨a, xs, e, s, (by show F a ≠ none; rw [s]; simp), Reps.kp (by simpa using n) r, z⟩
  | .scr _, _, n, _ => by rw [kpd] at n; cases n
  | .dct _, _, n, _ => by rw [kpd] at n; cases n
  | .fn _, _, _, h => h
  | .ex _, _, n, _ => by rw [kpd] at n; cases n
  | .dtt _, _, n, _ => by rw [kpd] at n; cases n
theorem Reps.kp {C : Ct} {F : Hp} : ∀ {ds : List D} {vs : List V}, kpds ds = true → Reps C F ds vs → RepsN C (fun b => F b ≠ none) F ds vs
  | [], _, _, h => h
  | d :: ds, vs, n, h => by
    obtain ⟨x, r, e, a, b⟩ := h
    simp only [kpds_cons, Bool.and_eq_true] at n
    exact ⟨x, r, e, Rep.kp n.1 a, Reps.kp n.2 b⟩
end
@[simp] def kpS : SD → SD
  | .fr d => if kpd d = true then .fx (.k d) else .fr d
  | .fu d => if kpd d = true then .fx (.k d) else .fr d
  | .fx (.w es) => .fr (.lst es)
  | .fx (.z _ _) => .no
  | s => s
@[simp] def kpE : Ev → Ev := fun Γ => Γ.map kpS
@[simp] def unkS : SD → SD
  | .fx (.k d) => .fr d
  | .fx (.w es) => .fr (.lst es)
  | .fx (.z _ _) => .no
  | s => s
@[simp] def unkE : Ev → Ev := fun Γ => Γ.map unkS
def unkR : R Fl → R Fl
  | .ok f Γ => .ok f (unkE Γ)
  | .exc c Γ => .exc c (unkE Γ)
  | .bad => .bad
@[simp] theorem unkR_ok {f : Fl} {Γ : Ev} : unkR (.ok f Γ) = .ok f (unkE Γ) := rfl
@[simp] theorem unkR_exc {c : Str} {Γ : Ev} : unkR (.exc c Γ) = .exc c (unkE Γ) := rfl
@[simp] theorem unkR_bad : unkR .bad = .bad := rfl
@[simp] def sKeep (s : SS) (Γ : Ev) : R Fl := unkR (s (kpE Γ))
theorem kpE_get {Γ : Ev} {i : Nat} : (kpE Γ)[i]? = (Γ[i]?).map kpS := List.getElem?_map
theorem unkE_get {Γ : Ev} {i : Nat} : (unkE Γ)[i]? = (Γ[i]?).map unkS := List.getElem?_map
theorem kpS_own {s : SD} : (kpS s).own = s.own := by
  cases s with
  | fr d => cases h : kpd d <;> simp [h, SD.own]
  | fu d => cases h : kpd d <;> simp [h, SD.own]
  | fx x => cases x <;> simp [SD.own]
  | _ => simp
theorem unkS_own {s : SD} : (unkS s).own = s.own := by
  cases s with
  | fx x => cases x <;> simp [SD.own]
  | _ => simp
theorem kpS_self {s : SD} (h : s.own = true) : kpS s = s := by
  cases s with
  | no => cases h
  | fr d => cases h
  | fu d => cases h
  | fx x => cases h
  | ow t l => rfl
  | od t l => rfl
  | ot t l => rfl
  | ob t o => rfl
theorem OwnAt.kp {H : Hp} {Γ : Ev} {σ : St} {i : Nat} {a : Addr} : OwnAt H (kpE Γ) σ i a ↔ OwnAt H Γ σ i a :=
  ⟨fun ⟨sd', e, o, v, q, hh⟩ => by
    rw [kpE_get] at e
    obtain ⟨sd, w1, w2⟩ := Option.map_eq_some_iff.mp e
    have o2 : sd.own = true := by rw [← kpS_own, w2]; exact o
    rw [kpS_self o2] at w2
    subst w2
    exact ⟨sd, w1, o, v, q, hh⟩, fun ⟨sd, w1, o, v, q, hh⟩ => ⟨sd, by
    rw [kpE_get, w1]
    show some (kpS sd) = some sd
    rw [kpS_self o], o, v, q, hh⟩⟩
theorem unkS_self {s : SD} (h : s.own = true) : unkS s = s := by
  cases s with
  | no => cases h
  | fr d => cases h
  | fu d => cases h
  | fx x => cases h
  | ow t l => rfl
  | od t l => rfl
  | ot t l => rfl
  | ob t o => rfl
theorem OwnAt.unk {H : Hp} {Γ : Ev} {σ : St} {i : Nat} {a : Addr} : OwnAt H (unkE Γ) σ i a ↔ OwnAt H Γ σ i a :=
  ⟨fun ⟨sd', e, o, v, q, hh⟩ => by
    rw [unkE_get] at e
    obtain ⟨sd, w1, w2⟩ := Option.map_eq_some_iff.mp e
    have o2 : sd.own = true := by rw [← unkS_own, w2]; exact o
    rw [unkS_self o2] at w2
    subst w2
    exact ⟨sd, w1, o, v, q, hh⟩, fun ⟨sd, w1, o, v, q, hh⟩ => ⟨sd, by
    rw [unkE_get, w1]
    show some (unkS sd) = some sd
    rw [unkS_self o], o, v, q, hh⟩⟩
theorem OwnA.kp {H : Hp} {Γ : Ev} {σ : St} {a : Addr} : OwnA H (kpE Γ) σ a ↔ OwnA H Γ σ a := ⟨fun ⟨i, h⟩ => ⟨i, OwnAt.kp.mp h⟩, fun ⟨i, h⟩ => ⟨i, OwnAt.kp.mpr h⟩⟩
theorem OwnA.unk {H : Hp} {Γ : Ev} {σ : St} {a : Addr} : OwnA H (unkE Γ) σ a ↔ OwnA H Γ σ a := ⟨fun ⟨i, h⟩ => ⟨i, OwnAt.unk.mp h⟩, fun ⟨i, h⟩ => ⟨i, OwnAt.unk.mpr h⟩⟩
def IO.kept (io : IO) (F : Hp) : IO := ⟨io.adr, F, some F, fun Q e => by cases e; exact Bx.le.refl _⟩
section
variable {C : Ct} {io : IO} {W : XW} {σ σ' : St} {F F' H H' : Hp} {Γ Γ' : Ev} {D : Ends}
theorem At.kp (A : At C io σ F H Γ) : At C (io.kept F) σ F H (kpE Γ) where
  le := A.le
  pin := Bx.le.refl _
  len := by rw [← A.len]; exact List.length_map _
  slot := fun i sd e => by
    rw [kpE_get] at e
    obtain ⟨sd', e1, e2⟩ := Option.map_eq_some_iff.mp e
    have q := A.slot i sd' e1
    cases sd' with
    | no => cases e2; trivial
    | fr d =>
      obtain ⟨v, w1, w2⟩ := q
      cases h : kpd d with
      | true =>
        simp only [kpS, h, if_true] at e2
        cases e2
        exact ⟨v, w1, F, rfl, w2.kp h⟩
      | false =>
        simp only [kpS, h] at e2
        cases e2
        exact ⟨v, w1, w2⟩
    | fu d =>
      obtain ⟨v, w1, w2⟩ := q
      cases h : kpd d with
      | true =>
        simp only [kpS, h, if_true] at e2
        cases e2
        exact ⟨v, w1, F, rfl, Rep.kp h (RepN.rep w2)⟩
      | false =>
        simp only [kpS, h] at e2
        cases e2
        exact ⟨v, w1, RepN.rep w2⟩
    | fx x =>
      obtain ⟨v, w1, w2⟩ := q
      cases x with
      | k d =>
        cases e2
        obtain ⟨P, w3, w4⟩ := w2
        refine ⟨v, w1, F, rfl, RepN.weak (fun b h => ?_) w4⟩
        cases w : P b with
        | none => exact absurd w h
        | some o => have := A.pin _ _ (io.kpp P w3 _ _ w); rw [this]; simp
      | w es => cases e2; exact ⟨v, w1, FXOk.rep w2⟩
      | z k n => cases e2; trivial
      | o c fs => cases e2; exact ⟨v, w1, w2⟩
    | ow t l => cases e2; exact q
    | od t l => cases e2; exact q
    | ot t l => cases e2; exact q
    | ob t o => cases e2; exact q
  ne := fun i j a h1 h2 => A.ne i j a (OwnAt.kp.mp h1) (OwnAt.kp.mp h2)
theorem At.unkp {P : Hp} (hP : Bx.le io.pin P) (A : At C (io.kept P) σ F H Γ) : At C io σ F H (unkE Γ) where
  le := A.le
  pin := hP.trans A.pin
  len := by rw [← A.len]; exact List.length_map _
  slot := fun i sd e => by
    rw [unkE_get] at e
    obtain ⟨sd', e1, e2⟩ := Option.map_eq_some_iff.mp e
    have q := A.slot i sd' e1
    cases sd' with
    | no => cases e2; trivial
    | fr d => cases e2; exact q
    | fu d => cases e2; obtain ⟨v, w1, w2⟩ := q; exact ⟨v, w1, RepN.weak (fun b h => hP.nowhere h) w2⟩
    | fx x =>
      obtain ⟨v, w1, w2⟩ := q
      cases x with
      | k d => cases e2; obtain ⟨P, _, w4⟩ := w2; exact ⟨v, w1, RepN.rep w4⟩
      | w es => cases e2; exact ⟨v, w1, FXOk.rep w2⟩
      | z k n => cases e2; trivial
      | o c fs => cases e2; exact ⟨v, w1, w2⟩
    | ow t l => cases e2; exact q
    | od t l => cases e2; exact q
    | ot t l => cases e2; exact q
    | ob t o => cases e2; exact q
  ne := fun i j a h1 h2 => A.ne i j a (OwnAt.unk.mp h1) (OwnAt.unk.mp h2)
theorem Gs.unkp (A : At C io σ F H Γ) (g : Gs C (io.kept F) σ F H (kpE Γ) σ' F' H' Γ') : Gs C io σ F H Γ σ' F' H' (unkE Γ') :=
  ⟨fun b o h n p => g.keep b o h (fun q => n (OwnA.kp.mp q)) (p.imp id fun q => by
    cases w : io.pin b with
    | none => exact absurd w q
    | some u => show F b ≠ none; rw [A.pin _ _ w]; simp), g.live, fun b h q => (g.new b h q).imp id OwnA.kp.mp, fun b h => (g.own b (OwnA.unk.mp h)).imp OwnA.kp.mp id, g.ln, g.at_.unkp A.pin⟩
theorem AVOk.unk {N0 N1 : Addr → Prop} (hN : ∀ b, N1 b → N0 b) {av : AV} {v : V} (h : AVOk C N1 F H Γ σ av v) : AVOk C N0 F H (unkE Γ) σ av v := by
  cases av with
  | d x => exact h
  | u x => exact RepN.weak hN h
  | s i => exact h
  | n l =>
    obtain ⟨a, xs, e1, e2, e3, e4, e5⟩ := h
    exact ⟨a, xs, e1, hN _ e2, e3, fun q => e4 (OwnA.unk.mp q), e5⟩
theorem PF.kp (A : At C io σ F H Γ) {r : R Fl} (p : PF C io W σ F H Γ (unkR r) D) : PF C (io.kept F) W σ F H (kpE Γ) r D := by
  cases r with
  | bad => exact p
  | exc c Γ' => exact fun σ' F' H' g => p σ' F' H' (g.unkp A)
  | ok f Γ' =>
    cases f with
    | nx => exact fun σ' F' H' g => p σ' F' H' (g.unkp A)
    | bk => exact fun σ' F' H' g => p σ' F' H' (g.unkp A)
    | ct => exact fun σ' F' H' g => p σ' F' H' (g.unkp A)
    | rt av => exact fun v σ' F' H' g h => p v σ' F' H' (g.unkp A) (by
        cases av with
        | u x => exact RepN.weak (fun b h => A.pin.nowhere h) h
        | d x => exact h
        | s i => exact h
        | n l =>
          obtain ⟨a, xs, e1, e2, e3, e4, e5⟩ := h
          exact ⟨a, xs, e1, e2.imp id OwnA.kp.mp, e3, fun q => e4 (OwnA.unk.mp q), e5⟩)
end
@[simp] def setW (i : Nat) (Γ : Ev) : Option (List D) → R Fl
  | some l => if l.length ≤ 1000 then (match Γ[i]? with
    | some sd => if sd.tag = none then .ok .nx (Γ.set i (.fx (.w l))) else .bad
    | none => .bad) else .bad
  | none => .bad
@[simp] def sSetW (fs : SA) (i : Nat) (Γ : Ev) : R Fl := (fs Γ).bind fun avs Γ' => setW i Γ' (us avs)
end Bx
end
end

section
set_option Elab.async false
set_option linter.all false
set_option maxRecDepth 100000
set_option maxHeartbeats 4000000
set_option autoImplicit false
noncomputable section
namespace Bx
open PySem PySem.Spec PyProof.Rows L2
@[simp] def isFL : D → Bool
  | .lst l => noLs l
  | _ => false
@[simp] def lenWL : List D → Nat
  | [] => 0
  | .lst l :: r => max l.length (lenWL r)
  | _ :: r => lenWL r
@[simp] def zOf : Option SD → Option (List Bool × Nat)
  | some (.fx (.w es)) => some (es.map isFL, lenWL es)
  | some (.fx (.z k n)) => some (k, n)
  | _ => none
@[simp] def zApp : Nat → List D → Option Nat
  | n, [d] => if noL d = true ∧ n < 1000000 then some (n + 1) else none
  | _, _ => none
@[simp] def zClr : Nat → List D → Option Nat
  | n, [] => some n
  | _, _ => none
@[simp] def thawZ (i : Nat) (K : List Bool) (o : Option Nat) (Γ : Ev) : R Fl := match o with
  | some m => .ok .nx ((thawE Γ).set i (.fx (.z K m)))
  | none => .bad
@[simp] def thawZs (i k : Nat) (gz : Nat → List D → Option Nat) (fs : SA) (Γ : Ev) : Option (List Bool × Nat) → R Fl
  | some z => if z.1[k]? = some true ∧ z.2 ≤ 1000000 then (fs Γ).bind fun avs Γ1 => thawZ i z.1 ((ds avs).bind (gz z.2)) Γ1 else .bad
  | none => .bad
@[simp] def sThawL (i k : Nat) (gz : Nat → List D → Option Nat) (fs : SA) (Γ : Ev) : R Fl := thawZs i k gz fs Γ (zOf Γ[i]?)
end Bx
end
end

section
set_option Elab.async false
set_option linter.all false
set_option maxRecDepth 100000
set_option maxHeartbeats 4000000
set_option autoImplicit false
noncomputable section
namespace Bx
open PySem PySem.Spec PyProof.Rows L2
def srtOk (l : List D) : Bool := @decide (eqOk (.lst l) = true ∧ PySem.W.AllAlike (l.map py) ∧ PySem.W.Sortable (l.map py) ∧ l.length ≤ sizeLine) (Classical.propDecidable _)
theorem srtOk_ok {l : List D} (h : srtOk l = true) : eqOk (.lst l) = true ∧ PySem.W.AllAlike (l.map py) ∧ PySem.W.Sortable (l.map py) ∧ l.length ≤ sizeLine := by
  unfold srtOk at h
  exact @of_decide_eq_true _ (Classical.propDecidable _) h
theorem srtOk_of {l : List D} (h : eqOk (.lst l) = true ∧ PySem.W.AllAlike (l.map py) ∧ PySem.W.Sortable (l.map py) ∧ l.length ≤ sizeLine) : srtOk l = true := by
  unfold srtOk
  exact @decide_eq_true _ (Classical.propDecidable _) h
def srtD (l : List D) : List D := l.mergeSort (PySem.W.dataLe false py)
def sortedT : List D → Option Rs
  | [.lst l] => if srtOk l = true then some (.n (srtD l)) else none
  | _ => none
theorem srtD_perm (l : List D) : (srtD l).Perm l := List.mergeSort_perm _ _
theorem pys_map : ∀ l : List D, pys l = l.map py
  | [] => rfl
  | d :: r => by rw [pys, pys_map r]; rfl
theorem dep_in : ∀ {l : List D} {d : D}, d ∈ l → dep d ≤ deps l
  | e :: r, d, m => by
    simp only [deps]
    rcases List.mem_cons.mp m with q | q
    · rw [q]; omega
    · have := dep_in q; omega
section
variable {X : Cx}
theorem each_of {I : Heap} {C : Ct} {F : Hp} : ∀ {l : List D} {ys : List V} {its : List Value}, Reps C F l ys → Vals ys its → PySem.W.EachIs (fun v d => ∃ x, RelV x v ∧ Rep C F d x) its l
  | [], _, _, h, r => by
    have h : _ = [] := h
    rw [h] at r
    cases r
    exact .nil
  | d :: l, _, _, ⟨x, w, e, h1, h2⟩, r => by
    rw [e] at r
    cases r with
    | cons r1 r2 => exact .cons ⟨x, r1, h1⟩ (each_of (I := I) h2 r2)
theorem each_back {C : Ct} {F : Hp} : ∀ {l : List D} {its : List Value}, PySem.W.EachIs (fun v d => ∃ x, RelV x v ∧ Rep C F d x) its l → ∃ ys, Vals ys its ∧ Reps C F l ys
  | _, _, .nil => ⟨[], .nil, rfl⟩
  | _, _, .cons ⟨x, h1, h2⟩ t => by
    obtain ⟨ys, h3, h4⟩ := each_back t
    exact ⟨x :: ys, .cons h1 h3, x, ys, rfl, h2, h4⟩
theorem c_sortedT (hu : X.A.units + 64 < cLine) : CallR X (.builtin "sorted") (rC (ct X) sortedT) := by
  intro pins s σ H xs us Q I rx ⟨F, l, r, lf, hx, hg, hq⟩
  unfold sortedT at hg
  split at hg
  · rename_i m
    split at hg
    · rename_i hm
      cases hg
      obtain ⟨h1, h2, h3, h4⟩ := srtOk_ok hm
      obtain ⟨p1, d1, q1⟩ := eqOk_depT h1
      obtain ⟨w, rfl, a, ys, rfl, ha, rr, hz⟩ := RdVs.one (x := .non) hx
      obtain ⟨its, rv, hl, _⟩ := I.list (.of ha : SqL X.K H a ys)
      have pm : pls m = true := by simpa using p1
      obtain ⟨as, r1⟩ := Dp.readsAll I (pys m) ys its (dps_of (C := ct X) pm (rr.mono lf)) rv
      rw [Vals.ref1 rx]
      rw [pys_map] at r1
      refine PySem.W.sorted_data (enc := py) hl.isList (each_of (I := s.heap) rr rv) (PySem.W.readsAll_each py r1) h2 h3 h4 (fun b hb => ?_) fun out ho e => ?_
      · have := py_dep b
        have k := dep_in hb
        simp only [dep] at d1
        omega
      · have e : PySem.W.EachIs (fun v d => ∃ x, RelV x v ∧ Rep (ct X) F d x) out (srtD m) := e
        obtain ⟨zs, e1, e2⟩ := each_back e
        obtain ⟨n, hn⟩ := sortedAll_at s.heap its (List.toArray out)
        have hln : (srtD m).length ≤ sizeLine := by rw [(srtD_perm m).length_eq]; exact hz
        have hzs : zs.length ≤ sizeLine := by rw [Reps.length e2]; exact hln
        refine ⟨.ref (s.heap.objs.size + 1), upd H (s.heap.objs.size + 1) (.lst zs), I.laid (t' := s.toks) (fun b u => sortedAll_old) (Nat.le_succ _) ⟨hzs, out, n, e1, hn⟩, rfl, hq zs e2 hln _ (I.hok.fresh (Nat.le_succ _))⟩
    · cases hg
  · cases hg
end
end Bx
end
end

section
set_option Elab.async false
set_option linter.all false
set_option maxRecDepth 100000
set_option maxHeartbeats 4000000
set_option autoImplicit false
noncomputable section
namespace Bx
open PySem PySem.Spec PyProof.Rows L2
@[simp] def keyD : Bx.D → Option Key
  | .int i => some (.inl i)
  | .str x => some (.inr x)
  | _ => none
def dgetK (l : List (Key × Bx.D)) (k : Key) : Option Bx.D := (l.find? fun kv => decide (kv.1 = k)).map (·.2)
def dputK (l : List (Key × Bx.D)) (k : Key) (d : Bx.D) : List (Key × Bx.D) := if (l.any fun kv => decide (kv.1 = k)) = true then l.map (fun kv => if kv.1 = k then (kv.1, d) else kv) else l ++ [(k, d)]
@[simp] def ixK : Bx.D → Bx.D → Option Rs
  | .dct l, k => (keyD k).bind fun k => (dgetK l k).map Rs.d
  | _, _ => none
@[simp] def inK : Bx.D → Bx.D → Option Bool
  | k, .dct l => (keyD k).map fun k => (dgetK l k).isSome
  | _, _ => none
@[simp] def dctD : Bx.D → Option (List (Key × Bx.D))
  | .dct l => some l
  | _ => none
@[simp] def get2E (l : List (Key × Bx.D)) (c : AV) (Γ : Ev) : Option Key → R AV
  | some k => (match dgetK l k with
    | some d => .ok (.d d) Γ
    | none => (match frV c with
      | some d => .ok (.d d) Γ
      | none => .bad))
  | none => .bad
@[simp] def get2D (b c : AV) (Γ : Ev) : Option (List (Key × Bx.D)) → R AV
  | some l => get2E l c Γ ((rd Γ b).bind keyD)
  | none => .bad
@[simp] def sGet2 (f fk fd : SE) (Γ : Ev) : R AV := (f Γ).bind fun a Γ1 => if ((rd Γ1 a).bind dctD).isSome = true then (fk Γ1).bind fun b Γ2 => (fd Γ2).bind fun c Γ3 => get2D b c Γ3 ((rd Γ3 a).bind dctD) else .bad
@[simp] def isOd : Option SD → Bool
  | some (.od _ _) => true
  | _ => false
@[simp] def putKL (i : Nat) (d : Bx.D) (Γ : Ev) (t : Option Nat) (l : List (Key × Bx.D)) : Option Key → R Unit
  | some k => if l.length < sizeLine then .ok () (Γ.set i (.od t (dputK l k d))) else .bad
  | none => .bad
@[simp] def putKS (i : Nat) (d : Bx.D) (k : Option Key) (Γ : Ev) : Option SD → R Unit
  | some (.od t l) => putKL i d Γ t l k
  | _ => .bad
@[simp] def sPutK (i : Nat) (fk fv : SE) (Γ : Ev) : R Fl := (fv Γ).bind fun av Γ1 => optD (frV av) (fun d Γ1 => if isOd Γ1[i]? = true then (fk Γ1).bind fun b Γ2 => nxU (putKS i d ((rd Γ2 b).bind keyD) Γ2 Γ2[i]?) else .bad) Γ1
@[simp] def newKS (i : Nat) (Γ : Ev) : Option SD → R Fl
  | some sd => if sd.tag = none then .ok .nx (Γ.set i (.od none [])) else .bad
  | none => .bad
@[simp] def sNewK (i : Nat) (Γ : Ev) : R Fl := newKS i Γ Γ[i]?
def keysI : List (Key × Bx.D) → Option (List Int)
  | [] => some []
  | (.inl i, _) :: r => (keysI r).map (i :: ·)
  | _ => none
@[simp] def sortedK : List Bx.D → Option Rs
  | [.dct l] => (keysI l).bind fun ks => if ks.length < 64 then some (.n ((srt ks).map Bx.D.int)) else none
  | _ => none

theorem RepKv.get {C : Ct} {F : Hp} (k : Key) : ∀ {l : List (Key × Bx.D)} {kvs : List (Key × V)}, RepKv C F l kvs → (dgetK l k = none ∧ valV kvs k = none) ∨ ∃ d v, dgetK l k = some d ∧ valV kvs k = some v ∧ Rep C F d v
  | [], _, h => by
    have h : _ = [] := h
    rw [h]
    exact .inl ⟨rfl, rfl⟩
  | (j, d) :: l, _, ⟨x, r, e, h1, h2⟩ => by
    rw [e]
    by_cases q : j = k
    · exact .inr ⟨d, x, by simp [dgetK, q], valV_pos q, h1⟩
    · have ih := RepKv.get k h2
      have e1 : dgetK ((j, d) :: l) k = dgetK l k := by simp [dgetK, q]
      have e2 : valV ((j, x) :: r) k = valV r k := valV_neg q
      rw [e1, e2]
      exact ih
theorem RepKv.any {C : Ct} {F : Hp} (k : Key) : ∀ {l : List (Key × Bx.D)} {kvs : List (Key × V)}, RepKv C F l kvs → (l.any fun kv => decide (kv.1 = k)) = kvs.any fun kv => decide (kv.1 = k)
  | [], _, h => by
    have h : _ = [] := h
    rw [h]
    rfl
  | (j, d) :: l, _, ⟨x, r, e, h1, h2⟩ => by
    rw [e, List.any_cons, List.any_cons, RepKv.any k h2]
theorem RepKv.map {C : Ct} {F : Hp} {k : Key} {d : Bx.D} {v : V} (hv : Rep C F d v) : ∀ {l : List (Key × Bx.D)} {kvs : List (Key × V)}, RepKv C F l kvs → RepKv C F (l.map fun kv => if kv.1 = k then (kv.1, d) else kv) (kvs.map fun kv => if kv.1 = k then (kv.1, v) else kv)
  | [], _, h => by
    have h : _ = [] := h
    rw [h]
    rfl
  | (j, d') :: l, _, ⟨x, r, e, h1, h2⟩ => by
    rw [e, List.map_cons, List.map_cons]
    by_cases q : j = k
    · simp only [q, if_true]
      exact ⟨v, _, rfl, hv, RepKv.map hv h2⟩
    · simp only [q, if_false]
      exact ⟨x, _, rfl, h1, RepKv.map hv h2⟩
theorem RepKv.snoc {C : Ct} {F : Hp} {k : Key} {d : Bx.D} {v : V} (hv : Rep C F d v) : ∀ {l : List (Key × Bx.D)} {kvs : List (Key × V)}, RepKv C F l kvs → RepKv C F (l ++ [(k, d)]) (kvs ++ [(k, v)])
  | [], _, h => by
    have h : _ = [] := h
    rw [h]
    exact ⟨v, [], rfl, hv, rfl⟩
  | (j, d') :: l, _, ⟨x, r, e, h1, h2⟩ => by
    rw [e]
    exact ⟨x, _, rfl, h1, RepKv.snoc hv h2⟩
theorem RepKv.put {C : Ct} {F : Hp} {k : Key} {d : Bx.D} {v : V} {l : List (Key × Bx.D)} {kvs : List (Key × V)} (h : RepKv C F l kvs) (hv : Rep C F d v) : RepKv C F (dputK l k d) (putK kvs k v) := by
  unfold dputK putK
  rw [h.any k]
  split
  · exact h.map hv
  · exact h.snoc hv
theorem RepKv.length {C : Ct} {F : Hp} : ∀ {l : List (Key × Bx.D)} {kvs : List (Key × V)}, RepKv C F l kvs → kvs.length = l.length
  | [], _, h => by
    have h : _ = [] := h
    rw [h]
    rfl
  | (j, d') :: l, _, ⟨x, r, e, h1, h2⟩ => by rw [e, List.length_cons, List.length_cons, RepKv.length h2]
theorem RepKv.keys {C : Ct} {F : Hp} : ∀ {l : List (Key × Bx.D)} {kvs : List (Key × V)}, RepKv C F l kvs → kvs.map (·.1) = l.map (·.1)
  | [], _, h => by
    have h : _ = [] := h
    rw [h]
    rfl
  | (j, d') :: l, _, ⟨x, r, e, h1, h2⟩ => by rw [e, List.map_cons, List.map_cons, RepKv.keys h2]
theorem At.od {C : Ct} {io : IO} {σ : St} {F H : Hp} {Γ : Ev} {i : Nat} {t : Option Nat} {l : List (Key × Bx.D)} (A : At C io σ F H Γ) (e : Γ[i]? = some (.od t l)) : ∃ a kvs, σ[i]? = some (some (.ref a)) ∧ F a = none ∧ H a = some (.dK kvs) ∧ RepKv C F l kvs ∧ OwnAt H Γ σ i a ∧ ∀ k, t = some k → io.adr k = some a := by
  obtain ⟨a, e1, e2, ⟨xs, e3, e4⟩, e5⟩ := A.slot i _ e
  exact ⟨a, xs, e1, e2, e3, e4, OwnAt.of e rfl e1, e5⟩
section
variable {X : Cx} {W : XW} {o e f : Expr} {st : Stmt} {pos p : Pos} {fo fk fd fv fe : SE}
@[simp] def notinK : Bx.D → Bx.D → Option Bool := fun a b => (inK a b).map (!·)
end
end Bx
end
end

section
set_option Elab.async false
set_option linter.all false
set_option maxRecDepth 100000
set_option maxHeartbeats 4000000
set_option autoImplicit false
noncomputable section
namespace Bx
open PySem PySem.Spec PyProof.Rows L2
@[simp] def augKL (i : Nat) (g : Bx.D → Bx.D → Option Rs) (fe : SE) (Γ1 : Ev) (l : List (Key × Bx.D)) : Option Key → R Fl
  | some k => (match dgetK l k with
    | some d => (fe Γ1).bind fun c Γ2 => (rd2 g (.d d) c Γ2).bind fun av Γ3 => optD (frV av) (fun d' Γ4 => nxU (putKS i d' (some k) Γ4 Γ4[i]?)) Γ3
    | none => .bad)
  | none => .bad
@[simp] def augKS (i : Nat) (g : Bx.D → Bx.D → Option Rs) (fe : SE) (k : Option Key) (Γ1 : Ev) : Option SD → R Fl
  | some (.od _ l) => augKL i g fe Γ1 l k
  | _ => .bad
@[simp] def sAugK (i : Nat) (fk : SE) (g : Bx.D → Bx.D → Option Rs) (fe : SE) (Γ : Ev) : R Fl := if isOd Γ[i]? = true then (fk Γ).bind fun b Γ1 => augKS i g fe ((rd Γ1 b).bind keyD) Γ1 Γ1[i]? else .bad
@[simp] def lenK : List Bx.D → Option Rs
  | [.dct l] => some (.d (.int l.length))
  | _ => none
end Bx
end
end

section
set_option Elab.async false
set_option linter.all false
set_option maxRecDepth 100000
set_option maxHeartbeats 4000000
set_option autoImplicit false
noncomputable section
namespace Bx
open PySem PySem.Spec PyProof.Rows L2
@[simp] def frz1 (i : Nat) (Γ : Ev) : Option SD → Ev
  | some (.ow none l) => Γ.set i (.fr (.lst l))
  | _ => Γ
@[simp] def frzE : List Nat → Ev → Ev
  | [], Γ => Γ
  | i :: r, Γ => frzE r (frz1 i Γ Γ[i]?)
@[simp] def sFrz (vs : List Nat) (s : SS) (Γ : Ev) : R Fl := s (frzE vs Γ)
section
variable {C : Ct} {io : IO} {σ : L2.St} {F H : Hp}
theorem Go.frzE : ∀ {vs : List Nat} {F : Hp} {Γ : Ev}, At C io σ F H Γ → ∃ F', Go C io σ F H Γ σ F' H (Bx.frzE vs Γ)
  | [], F, Γ, A => ⟨F, .refl A⟩
  | i :: r, F, Γ, A => by
    have h1 : ∃ F', Go C io σ F H Γ σ F' H (frz1 i Γ Γ[i]?) := by
      cases e : Γ[i]? with
      | none => exact ⟨F, .refl A⟩
      | some sd =>
        cases sd with
        | ow t l =>
          cases t with
          | none =>
            obtain ⟨F', v, g, _⟩ := Go.frzSlot A e
            exact ⟨F', g⟩
          | some k => exact ⟨F, .refl A⟩
        | _ => exact ⟨F, .refl A⟩
    obtain ⟨F1, g1⟩ := h1
    obtain ⟨F2, g2⟩ := Go.frzE (vs := r) g1.at_
    exact ⟨F2, g1.trans g2⟩
end
end Bx
end
end

section
set_option Elab.async false
set_option linter.all false
set_option maxRecDepth 100000
set_option maxHeartbeats 4000000
set_option autoImplicit false
noncomputable section
namespace BxE
open PySem PySem.Spec PyProof.Rows L2
open PySem.Sem (wp)
end BxE
namespace Bx
open PySem PySem.Spec PyProof.Rows L2 BxE
@[simp] def zipTD : List D → Option (List D)
  | [.tup l, .tup m] => some (List.zipWith (fun a b => D.tup [a, b]) l m)
  | _ => none
@[simp] def sLZt (fs : SA) (Γ : Ev) : R AV := (fs Γ).bind fun avs Γ' => optN ((ds avs).bind zipTD) Γ'
end Bx
end
end

section
set_option Elab.async false
set_option linter.all false
set_option maxRecDepth 100000
set_option maxHeartbeats 4000000
set_option autoImplicit false
noncomputable section
namespace BxY
open PySem PySem.Spec PyProof.Rows L2
open PySem.Sem (wp)
def It3 (K : PySem.W.Frag) (a b c : Addr) : It :=
  ⟨fun i H => ∃ (xs ys zs : List V) (x y z : V), SqL K H a xs ∧ SqT K H b ys ∧ SqT K H c zs ∧ xs[i]? = some x ∧ ys[i]? = some y ∧ zs[i]? = some z,
    fun i H v H' => ∃ T x y z, v = .ref T ∧ H T = none ∧ H' = upd H T (.tup [x, y, z]) ∧ (∀ xs, SqL K H a xs → xs[i]? = some x) ∧ (∀ ys, SqT K H b ys → ys[i]? = some y) ∧ ∀ zs, SqT K H c zs → zs[i]? = some z,
    fun i H => ∃ xs ys zs : List V, SqL K H a xs ∧ SqT K H b ys ∧ SqT K H c zs ∧ (xs.length ≤ i ∨ ys.length ≤ i ∨ zs.length ≤ i)⟩
def iZ3 (K : PySem.W.Frag) (ta : TA) : TI := fun σ H R => ta σ H fun vs H1 => ∃ a b c xs ys zs, vs = [.ref a, .ref b, .ref c] ∧ SqL K H1 a xs ∧ SqT K H1 b ys ∧ SqT K H1 c zs ∧ R (It3 K a b c) H1
end BxY
namespace Bx
open PySem PySem.Spec PyProof.Rows L2
def zip3D : List D → List D → List D → List D
  | a :: l, b :: m, c :: n => .tup [a, b, c] :: zip3D l m n
  | _, _, _ => []
@[simp] def zipL3 : List D → Option (List D)
  | [.lst l, .tup m, .tup n] => some (zip3D l m n)
  | _ => none
@[simp] def iZ3 (fs : SA) (Γ : Ev) : R (List D) := (fs Γ).bind fun avs Γ' => optL ((ds avs).bind zipL3) Γ'
end Bx
end
end

section
set_option Elab.async false
set_option linter.all false
set_option maxRecDepth 100000
set_option maxHeartbeats 4000000
set_option autoImplicit false
noncomputable section
namespace BxV
open PySem PySem.Spec PyProof.Rows L2
end BxV
namespace Bx
open PySem PySem.Spec PyProof.Rows L2
@[simp] def valsK : Bx.D → Option (List Bx.D)
  | .dct l => some (l.map (·.2))
  | _ => none
@[simp] def sLVals (f : SE) (Γ : Ev) : R AV := (f Γ).bind fun av Γ' => match (rd Γ' av).bind valsK with
  | some l => if l.length ≤ 1000 then .ok (.n l) Γ' else .bad
  | none => .bad
theorem RepKv.vals {C : Ct} {F : Hp} : ∀ {l : List (Key × Bx.D)} {kvs : List (Key × V)}, RepKv C F l kvs → Reps C F (l.map (·.2)) (kvs.map (·.2))
  | [], _, h => by
    have h : _ = [] := h
    rw [h]
    rfl
  | (k, d) :: ds, _, h => by
    obtain ⟨x, r, e, a, b⟩ := h
    rw [e]
    exact ⟨x, _, rfl, a, RepKv.vals b⟩
section
variable {X : Cx} {W : XW} {o : Expr} {f : SE} {p pos apos mpos : Pos}
@[simp] def cntL : Bx.D → List Bx.D → Option Rs
  | .lst l, [.int k] => (intsD l).map fun ns => .d (.int (ns.count k : Nat))
  | _, _ => none
@[simp] def isLsO : Option Bx.D → Bool
  | some (.lst _) => true
  | _ => false
@[simp] def sLCnt (fo : SE) (fs : SA) (Γ : Ev) : R AV := (fo Γ).bind fun a Γ1 => if isLsO (rd Γ1 a) = true then (fs Γ1).bind fun bs Γ2 => opt ((rd Γ2 a).bind fun x => (ds bs).bind fun ys => cntL x ys) Γ2 else .bad
end
end Bx
end
end

section
set_option Elab.async false
set_option linter.all false
set_option maxRecDepth 100000
set_option maxHeartbeats 4000000
set_option autoImplicit false
noncomputable section
namespace Bx
open L2
theorem lcF_pure {turn : D → Ev → R (Option D)} {t : D → Option D} {Γ : Ev} : ∀ {l acc : List D}, (∀ d ∈ l, turn d Γ = .ok (t d) Γ) → lcF turn l acc Γ = .ok (acc ++ l.filterMap t) Γ
  | [], acc, _ => by simp [lcF]
  | d :: l, acc, h => by
    have h1 := h d List.mem_cons_self
    unfold lcF
    rw [h1]
    simp only [R.bind]
    rw [lcF_pure fun e he => h e (List.mem_cons_of_mem _ he)]
    cases w : t d with
    | none => simp [List.filterMap_cons, w]
    | some y => simp [List.filterMap_cons, w]
inductive All2 {α β : Type} (P : α → β → Prop) : List α → List β → Prop where
  | nil : All2 P [] []
  | cons {a : α} {b : β} {l : List α} {m : List β} (h : P a b) (t : All2 P l m) : All2 P (a :: l) (b :: m)
theorem All2.length {α β : Type} {P : α → β → Prop} {l : List α} {m : List β} (h : All2 P l m) : m.length = l.length := by
  induction h with
  | nil => rfl
  | cons _ _ ih => simp [ih]
theorem lcF_st {S : Type} {turn : D → Ev → R (Option D)} (G : S → Ev) (I : S → Prop) (P : D → D → Prop) : ∀ {l acc : List D} {s : S}, I s → (∀ d ∈ l, ∀ s, I s → ∃ y s', turn d (G s) = .ok (some y) (G s') ∧ I s' ∧ P d y) →
    ∃ ys s', lcF turn l acc (G s) = .ok (acc ++ ys) (G s') ∧ I s' ∧ All2 P l ys
  | [], acc, s, hs, _ => ⟨[], s, by simp [lcF], hs, .nil⟩
  | d :: l, acc, s, hs, h => by
    obtain ⟨y, s1, e, h1, p⟩ := h d List.mem_cons_self s hs
    obtain ⟨ys, s2, e2, h2, q⟩ := lcF_st (acc := acc ++ [y]) G I P h1 fun e he => h e (List.mem_cons_of_mem _ he)
    refine ⟨y :: ys, s2, ?_, h2, .cons p q⟩
    unfold lcF
    rw [e]
    simp only [R.bind]
    rw [e2]
    simp

theorem forF_inv {body : D → Ev → R Fl} (I : List D → Ev → Prop) : ∀ {l pre : List D} {Γ : Ev}, I pre Γ → (∀ p d q, p ++ d :: q = l → ∀ Γ, I (pre ++ p) Γ → ∃ Γ', (body d Γ = .ok .nx Γ' ∨ body d Γ = .ok .ct Γ') ∧ I (pre ++ p ++ [d]) Γ') → ∃ Γ', forF body l Γ = .ok .nx Γ' ∧ I (pre ++ l) Γ'
  | [], pre, Γ, h, _ => ⟨Γ, rfl, by simpa using h⟩
  | d :: l, pre, Γ, h, k => by
    obtain ⟨Γ1, e, h1⟩ := k [] d l rfl Γ (by simpa using h)
    have h1 : I (pre ++ [d]) Γ1 := by simpa using h1
    obtain ⟨Γ2, e2, h2⟩ := forF_inv I (pre := pre ++ [d]) (l := l) h1 fun p x q hp Γ hI => by
      obtain ⟨Γ', e3, h3⟩ := k (d :: p) x q (by rw [List.cons_append, hp]) Γ (by simpa using hI)
      exact ⟨Γ', e3, by simpa using h3⟩
    refine ⟨Γ2, ?_, by simpa using h2⟩
    unfold forF
    rcases e with e | e
    · rw [e]; exact e2
    · rw [e]; exact e2
theorem forF_all {body : D → Ev → R Fl} (I : Ev → Prop) : ∀ {l : List D} {Γ : Ev}, I Γ → (∀ d ∈ l, ∀ Γ, I Γ → ∃ Γ', (body d Γ = .ok .nx Γ' ∨ body d Γ = .ok .ct Γ') ∧ I Γ') → ∃ Γ', forF body l Γ = .ok .nx Γ' ∧ I Γ'
  | [], Γ, h, _ => ⟨Γ, rfl, h⟩
  | d :: l, Γ, h, k => by
    obtain ⟨Γ1, e, h1⟩ := k d List.mem_cons_self Γ h
    obtain ⟨Γ2, e2, h2⟩ := forF_all I h1 fun x hx => k x (List.mem_cons_of_mem _ hx)
    refine ⟨Γ2, ?_, h2⟩
    unfold forF
    rcases e with e | e
    · rw [e]; exact e2
    · rw [e]; exact e2
def eP (p : Int × Int) : D := .tup [.int p.1, .int p.2]
abbrev Box := List (Int × Int)
abbrev eB (b : Box) : D := .tup (b.map eP)
abbrev eH (w : Int) (bs : List Box) : D := .tup [.int w, .lst (bs.map eB)]
abbrev eS (s : List Int) : D := .tup (s.map D.int)
abbrev eI (s : List Int) : D := .lst (s.map D.int)
theorem ibeq (x y : Int) : (x == y) = decide (x = y) := by by_cases h : x = y <;> simp [h]
theorem deqs_prs : ∀ (a b : Box), deqs (a.map eP) (b.map eP) = decide (a = b)
  | [], [] => by simp
  | [], _ :: _ => by simp
  | _ :: _, [] => by simp
  | (x, x') :: a, (y, y') :: b => by simp [eP, deqs_prs a b, Bool.decide_and, Prod.ext_iff, ibeq]
theorem deq_eB (a b : Box) : deq (eB a) (eB b) = decide (a = b) := by unfold eB; simp [deqs_prs]
theorem deqs_eBs : ∀ (a b : List Box), deqs (a.map eB) (b.map eB) = decide (a = b)
  | [], [] => by simp
  | [], _ :: _ => by simp
  | _ :: _, [] => by simp
  | x :: a, y :: b => by simp [deqs_eBs a b, deqs_prs, Bool.decide_and]
theorem pls_ints : ∀ (a : List Int), pls (a.map D.int) = true
  | [] => rfl
  | x :: a => by simp [pls_ints a]
theorem deps_ints : ∀ (a : List Int), deps (a.map D.int) = 0
  | [] => rfl
  | x :: a => by simp [deps_ints a]
theorem pls_prs : ∀ (a : Box), pls (a.map eP) = true
  | [] => rfl
  | x :: a => by simp [eP, pls_prs a]
theorem deps_prs : ∀ (a : Box), deps (a.map eP) ≤ 1
  | [] => by simp
  | x :: a => by have := deps_prs a; simp [eP]; omega
theorem pl_eB (a : Box) : pl (eB a) = true := by unfold eB; simp [pls_prs]
theorem dep_eB (a : Box) : dep (eB a) ≤ 2 := by unfold eB; have := deps_prs a; simp only [dep]; omega
theorem pls_eBs : ∀ (a : List Box), pls (a.map eB) = true
  | [] => rfl
  | x :: a => by simp [pls_eBs a, pls_prs]
theorem deps_eBs : ∀ (a : List Box), deps (a.map eB) ≤ 2
  | [] => by simp
  | x :: a => by have := deps_eBs a; have := deps_prs x; simp; omega
theorem eqOk_of {d : D} {n : Nat} (h : pl d = true) (k : dep d ≤ n) (hn : n ≤ 60) : eqOk d = true := by
  unfold eqOk
  rw [h, Bool.true_and]
  exact decide_eq_true (by omega)
@[simp] theorem eqOk_int (i : Int) : eqOk (.int i) = true := rfl
@[simp] theorem eqOk_bl (i : Bool) : eqOk (.bl i) = true := rfl
@[simp] theorem eqOk_non : eqOk .non = true := rfl
@[simp] theorem eqOk_nil : eqOk (.lst []) = true := rfl
@[simp] theorem eqOk_eB (b : Box) : eqOk (eB b) = true := eqOk_of (pl_eB b) (dep_eB b) (by decide)
@[simp] theorem eqOk_eBs (b : List Box) : eqOk (.lst (b.map eB)) = true := eqOk_of (n := 3) (by simp [pls_eBs]) (by have := deps_eBs b; simp only [dep]; omega) (by decide)
@[simp] theorem eqOk_eH (w : Int) (b : List Box) : eqOk (eH w b) = true := eqOk_of (n := 4) (by simp [pls_eBs]) (by have := deps_eBs b; simp; omega) (by decide)
@[simp] theorem eqOk_ints (b : List Int) : eqOk (.lst (b.map D.int)) = true := eqOk_of (n := 1) (by simp [pls_ints]) (by simp [deps_ints]) (by decide)
@[simp] theorem eqOk_eS (b : List Int) : eqOk (eS b) = true := eqOk_of (n := 1) (by simp [pls_ints]) (by simp [deps_ints]) (by decide)
theorem noLs_ints : ∀ (a : List Int), noLs (a.map D.int) = true
  | [] => rfl
  | x :: a => by simp [noLs_ints a]
theorem noLs_prs : ∀ (a : Box), noLs (a.map eP) = true
  | [] => rfl
  | x :: a => by simp [eP, noLs_prs a]
@[simp] theorem noL_eB (b : Box) : noL (eB b) = true := by unfold eB; simp [noLs_prs]
@[simp] theorem noL_eS (b : List Int) : noL (eS b) = true := by simp [noLs_ints]
@[simp] theorem noLs_eBs : ∀ (a : List Box), noLs (a.map eB) = true
  | [] => rfl
  | x :: a => by simp [noLs_eBs a, noLs_prs]
end Bx
namespace Bx
open L2
theorem atI_pos {α : Type} {l : List α} {i : Int} (h : 0 ≤ i) : atI l i = l[i.toNat]? := by
  unfold atI ixN
  rw [if_pos h]
  by_cases h1 : i < l.length
  · rw [if_pos h1]
    rfl
  · rw [if_neg h1]
    exact (List.getElem?_eq_none (by omega)).symm
@[simp] theorem atI_zero {α : Type} {l : List α} : atI l 0 = l[0]? := atI_pos (by decide)
@[simp] theorem atI_one {α : Type} {l : List α} : atI l 1 = l[1]? := atI_pos (by decide)
@[simp] theorem atI_two {α : Type} {l : List α} : atI l 2 = l[2]? := atI_pos (by decide)
@[simp] theorem atI_three {α : Type} {l : List α} : atI l 3 = l[3]? := atI_pos (by decide)
@[simp] theorem atI_cast {α : Type} {l : List α} {n : Nat} : atI l (n : Int) = l[n]? := by rw [atI_pos (by omega)]; simp
@[simp] theorem ixN_zero {n : Nat} : ixN (n + 1) 0 = some 0 := by
  unfold ixN
  rw [if_pos (by omega), if_pos (by omega)]
  rfl
@[simp] theorem ixN_one {n : Nat} : ixN (n + 2) 1 = some 1 := by
  unfold ixN
  rw [if_pos (by omega), if_pos (by omega)]
  rfl
end Bx
namespace Bx
open L2
mutual
/-- data of the usual kinds -/
def kn : D → Bool
  | .fn _ => false
  | .ex _ => false
  | .dtt _ => false
  | .non => true
  | .bl _ => true
  | .int _ => true
  | .str _ => true
  | .tup l => kns l
  | .lst l => kns l
  | .scr l => true
  | .dct _ => true
def kns : List D → Bool
  | [] => true
  | d :: r => kn d && kns r
end
@[simp] theorem kn_non : kn .non = true := by rw [kn]
@[simp] theorem kn_bl (b : Bool) : kn (.bl b) = true := by rw [kn]
@[simp] theorem kn_int (b : Int) : kn (.int b) = true := by rw [kn]
@[simp] theorem kn_str (b : PySem.Str) : kn (.str b) = true := by rw [kn]
theorem kn_tup (l : List D) : kn (.tup l) = kns l := by rw [kn]
theorem kn_lst (l : List D) : kn (.lst l) = kns l := by rw [kn]
@[simp] theorem kn_scr (l : List D) : kn (.scr l) = true := by rw [kn]
@[simp] theorem kn_dct (l : List (L2.Key × D)) : kn (.dct l) = true := by rw [kn]
@[simp] theorem kns_nil : kns [] = true := by rw [kns]
@[simp] theorem kns_cons (d : D) (r : List D) : kns (d :: r) = (kn d && kns r) := by rw [kns]
mutual
theorem kn_pl : ∀ {d : D}, pl d = true → kn d = true
  | .non, _ => by simp
  | .bl _, _ => by simp
  | .int _, _ => by simp
  | .str _, _ => by simp
  | .tup l, h => by rw [kn_tup]; exact kns_pl (by simpa using h)
  | .lst l, h => by rw [kn_lst]; exact kns_pl (by simpa using h)
  | .scr l, h => by simp
  | .dct l, h => by simp
  | .fn l, h => by simp at h
  | .ex l, h => by simp at h
  | .dtt l, h => by simp at h
theorem kns_pl : ∀ {d : List D}, pls d = true → kns d = true
  | [], _ => by simp
  | d :: r, h => by
    simp only [pls, Bool.and_eq_true] at h
    simp only [kns_cons, Bool.and_eq_true]
    exact ⟨kn_pl h.1, kns_pl h.2⟩
end
theorem pls_mem : ∀ {l : List D} {d : D}, pls l = true → d ∈ l → pl d = true
  | e :: r, d, h, m => by
    simp only [pls, Bool.and_eq_true] at h
    rcases List.mem_cons.mp m with q | q
    · rw [q]; exact h.1
    · exact pls_mem h.2 q
theorem pls_all {l : List D} (h : ∀ d ∈ l, pl d = true) : pls l = true := by
  induction l with
  | nil => rfl
  | cons d r ih => simp only [pls, Bool.and_eq_true]; exact ⟨h d List.mem_cons_self, ih fun e he => h e (List.mem_cons_of_mem _ he)⟩
theorem deps_mem : ∀ {l : List D} {d : D}, d ∈ l → dep d ≤ deps l
  | e :: r, d, m => by
    simp only [deps]
    rcases List.mem_cons.mp m with q | q
    · rw [q]; omega
    · have := deps_mem q; omega
theorem deps_le {l : List D} {n : Nat} (h : ∀ d ∈ l, dep d ≤ n) : deps l ≤ n := by
  induction l with
  | nil => simp
  | cons d r ih =>
    have h1 := h d List.mem_cons_self
    have h2 := ih fun e he => h e (List.mem_cons_of_mem _ he)
    simp only [deps]
    omega
theorem eqOk_pl {d : D} (h : eqOk d = true) : pl d = true := by unfold eqOk at h; rw [Bool.and_eq_true] at h; exact h.1
theorem eqOk_dep {d : D} (h : eqOk d = true) : dep d ≤ 60 := by unfold eqOk at h; rw [Bool.and_eq_true] at h; exact of_decide_eq_true h.2
theorem eqOk_kn {d : D} (h : eqOk d = true) : kn d = true := kn_pl (eqOk_pl h)
theorem eqOk_tup {l : List D} (h : eqOk (.tup l) = true) : pls l = true ∧ deps l < 60 := ⟨by have := eqOk_pl h; simpa using this, by have := eqOk_dep h; simp only [dep] at this; omega⟩
theorem eqOk_lst {l : List D} (h : eqOk (.lst l) = true) : pls l = true ∧ deps l < 60 := ⟨by have := eqOk_pl h; simpa using this, by have := eqOk_dep h; simp only [dep] at this; omega⟩
theorem eqOk_mem {l : List D} {d : D} (h : pls l = true) (k : deps l < 60) (m : d ∈ l) : eqOk d = true := eqOk_of (n := 60) (pls_mem h m) (by have := deps_mem m; omega) (by decide)
theorem eqOk_sub {l m : List D} (h : pls l = true) (k : deps l < 60) (s : ∀ d ∈ m, d ∈ l) : eqOk (.lst m) = true :=
  eqOk_of (n := 60) (by simp; exact pls_all fun d hd => pls_mem h (s d hd)) (by simp only [dep]; have := deps_le fun d hd => (deps_mem (s d hd) : dep d ≤ deps l); omega) (by decide)
@[simp] theorem deqs_nil (l : List D) : deqs l [] = l.isEmpty := by cases l <;> rfl
theorem fm_filter {p : D → Bool} : ∀ l : List D, l.filterMap (fun d => if p d = true then none else some d) = l.filter fun d => !p d
  | [] => rfl
  | d :: l => by
    have := fm_filter (p := p) l
    cases h : p d <;> simp [h, this]
theorem filter_none {p : D → Bool} (l : List D) : (l.filter fun d => !p d).isEmpty = l.all p := by
  induction l with
  | nil => rfl
  | cons d l ih => cases h : p d <;> simp [h, ih]
end Bx
namespace Bx
@[simp] theorem tag_no : SD.no.tag = none := rfl
@[simp] theorem tag_fr {d : D} : (SD.fr d).tag = none := rfl
@[simp] theorem tag_fu {d : D} : (SD.fu d).tag = none := rfl
@[simp] theorem tag_ow {t : Option Nat} {l : List D} : (SD.ow t l).tag = t := rfl
@[simp] theorem tag_od {t : Option Nat} {l : List (L2.Key × D)} : (SD.od t l).tag = t := rfl
@[simp] theorem own_no : SD.no.own = false := rfl
@[simp] theorem own_fr {d : D} : (SD.fr d).own = false := rfl
@[simp] theorem own_fu {d : D} : (SD.fu d).own = false := rfl
@[simp] theorem own_ow {t : Option Nat} {l : List D} : (SD.ow t l).own = true := rfl
@[simp] theorem own_od {t : Option Nat} {l : List (L2.Key × D)} : (SD.od t l).own = true := rfl
end Bx
namespace Bx
theorem lcF_fil {α : Type} {turn : D → Ev → R (Option D)} {f g : α → D} {p : α → Bool} {Γ : Ev} : ∀ {l : List α} {acc : List D}, (∀ x ∈ l, turn (f x) Γ = .ok (if p x = true then some (g x) else none) Γ) → lcF turn (l.map f) acc Γ = .ok (acc ++ (l.filter p).map g) Γ
  | [], acc, _ => by simp [lcF]
  | x :: l, acc, h => by
    have h1 := h x List.mem_cons_self
    rw [List.map_cons]
    unfold lcF
    rw [h1]
    rw [R.bind_ok]
    rw [lcF_fil fun e he => h e (List.mem_cons_of_mem _ he)]
    cases w : p x <;> simp [w]
theorem lcF_map {α : Type} {turn : D → Ev → R (Option D)} {f g : α → D} {Γ : Ev} {l : List α} {acc : List D} (h : ∀ x ∈ l, turn (f x) Γ = .ok (some (g x)) Γ) : lcF turn (l.map f) acc Γ = .ok (acc ++ l.map g) Γ := by
  have := lcF_fil (turn := turn) (f := f) (g := g) (p := fun _ => true) (Γ := Γ) (l := l) (acc := acc) (fun x hx => by rw [h x hx]; rfl)
  rw [this, List.filter_eq_self.mpr fun _ _ => rfl]
theorem eqOk_all {l : List D} (h : ∀ d ∈ l, pl d = true) (k : ∀ d ∈ l, dep d ≤ 50) : eqOk (.lst l) = true := eqOk_of (n := 51) (by simp; exact pls_all h) (by simp only [dep]; have := deps_le k; omega) (by decide)
theorem eqOk_map {α : Type} {f : α → D} {l : List α} (h : ∀ x, pl (f x) = true) (k : ∀ x, dep (f x) ≤ 50) : eqOk (.lst (l.map f)) = true := eqOk_all (fun d hd => by obtain ⟨x, _, rfl⟩ := List.mem_map.mp hd; exact h x) (fun d hd => by obtain ⟨x, _, rfl⟩ := List.mem_map.mp hd; exact k x)
end Bx
namespace Bx
end Bx
end
end

section
set_option Elab.async false
set_option linter.all false
set_option maxRecDepth 100000
set_option maxHeartbeats 4000000
set_option autoImplicit false
set_option backward.isDefEq.respectTransparency false
noncomputable section
namespace Bx
open L2 Bx
theorem line1000 {n : Nat} (h : n ≤ 1000) : n ≤ PySem.sizeLine := by rw [PySem.sizeLine_eq]; omega
def holdsB (b : Box) (s : List Int) : Bool := (b.zip s).all fun q => decide (q.1.1 ≤ q.2 ∧ q.2 < q.1.2)
def sizeB (b : Box) : Int := b.foldl (fun s p => s * (p.2 - p.1)) 1
def near (b : Box) : Prop := ∀ p ∈ b, -1000000000 ≤ p.1 ∧ p.1 ≤ 1000000000 ∧ -1000000000 ≤ p.2 ∧ p.2 ≤ 1000000000
theorem mul_small {a b : Int} (h : -18446744073709551616 < b ∧ b < 18446744073709551616) : mulOk a b = true := by
  unfold mulOk
  exact @decide_eq_true _ (Classical.propDecidable _) (.inr (.inl (by omega)))
theorem mul_smallL {a b : Int} (h : -18446744073709551616 < a ∧ a < 18446744073709551616) : mulOk a b = true := by
  unfold mulOk
  exact @decide_eq_true _ (Classical.propDecidable _) (.inl (by omega))
theorem atI_map {α : Type} {f : α → D} {l : List α} {i : Int} (h0 : 0 ≤ i) (h1 : i < l.length) : ∃ x, atI (l.map f) i = some (f x) ∧ l[i.toNat]? = some x := by
  have hi : i.toNat < l.length := by omega
  refine ⟨l[i.toNat], ?_, List.getElem?_eq_getElem hi⟩
  rw [atI_pos h0, List.getElem?_map, List.getElem?_eq_getElem hi]
  rfl
def rgI (lo : Int) (n : Nat) : List Int := (List.range n).map fun i : Nat => lo + (i : Nat)
theorem rgD_ints (lo : Int) (n : Nat) : rgD lo n = (rgI lo n).map D.int := by
  unfold rgD rgI
  rw [List.map_map]
  rfl
theorem dups_len : ∀ (n : Nat) (l : List Int), l.length ≤ n → l.eraseDups.length ≤ l.length
  | _, [], _ => by simp
  | 0, x :: l, h => by simp at h
  | n + 1, x :: l, h => by
    rw [List.eraseDups_cons]
    have h1 := List.length_filter_le (fun b => !b == x) l
    have h2 := dups_len n (l.filter fun b => !b == x) (by simp at h; omega)
    simp
    omega
theorem dsrt_len (l : List Int) : (dsrt l).length ≤ l.length := by
  unfold dsrt
  rw [(srt_perm _).length_eq]
  exact dups_len _ l (Nat.le_refl _)
theorem all2_ints {l ys : List D} (h : All2 (fun _ y => ∃ i, y = D.int i) l ys) : ∃ zs : List Int, ys = zs.map D.int ∧ zs.length = l.length := by
  induction h with
  | nil => exact ⟨[], rfl, rfl⟩
  | cons h t ih =>
    obtain ⟨i, rfl⟩ := h
    obtain ⟨zs, rfl, e⟩ := ih
    exact ⟨i :: zs, rfl, by simp [e]⟩
def isLst (av : AV) (l : List D) : Prop := av = .n l ∨ av = .d (.lst l)
theorem seq_nx {s t : SS} {Γ Γ' : Ev} (h : s Γ = .ok .nx Γ') : sSeq s t Γ = t Γ' := by
  show seqR t (s Γ) = _
  rw [h]
  rfl
theorem seq_rt {s t : SS} {av : AV} {Γ Γ' : Ev} (h : s Γ = .ok (.rt av) Γ') : sSeq s t Γ = .ok (.rt av) Γ' := by
  show seqR t (s Γ) = _
  rw [h]
  rfl
theorem cut_to {α : Type} {l : List α} {i : Int} (h : 0 ≤ i) : cutD l none (some i) = l.take i.toNat := by
  obtain ⟨n, rfl⟩ := Int.eq_ofNat_of_zero_le h
  unfold cutD
  rw [HT.sIx_none, HT.sIx_nat, List.drop_zero, Nat.sub_zero]
  apply List.ext_getElem?
  intro j
  rw [List.getElem?_take, List.getElem?_take]
  simp only [Int.toNat_natCast]
  by_cases h1 : j < n
  · by_cases h2 : j < l.length
    · rw [if_pos (by omega), if_pos h1]
    · rw [if_neg (by omega), if_pos h1, List.getElem?_eq_none (by omega)]
  · rw [if_neg (by omega), if_neg h1]
theorem cut_from {α : Type} {l : List α} {i : Int} (h : 0 ≤ i) : cutD l (some i) none = l.drop i.toNat := by
  obtain ⟨n, rfl⟩ := Int.eq_ofNat_of_zero_le h
  unfold cutD
  rw [HT.sIx_none, HT.sIx_nat]
  simp only [Int.toNat_natCast]
  by_cases h1 : n ≤ l.length
  · rw [Nat.min_eq_left h1]
    exact List.take_of_length_le (by rw [List.length_drop]; exact Nat.le_refl _)
  · rw [Nat.min_eq_right (by omega), List.drop_of_length_le (Nat.le_refl _), List.drop_of_length_le (by omega)]
    simp
def putB (b : Box) (n : Nat) (p : Int × Int) : Box := b.take n ++ [p] ++ b.drop (n + 1)
theorem put_len {b : Box} {n : Nat} {p : Int × Int} (h : n < b.length) : (putB b n p).length = b.length := by
  unfold putB
  simp
  omega
theorem put_all {b : Box} {n : Nat} {p : Int × Int} (hp : p.1 < p.2) (h : ∀ p ∈ b, p.1 < p.2) : ∀ q ∈ putB b n p, q.1 < q.2 := by
  intro q hq
  unfold putB at hq
  simp only [List.mem_append, List.mem_singleton] at hq
  rcases hq with (hq | hq) | hq
  · exact h q (List.mem_of_mem_take hq)
  · rw [hq]; exact hp
  · exact h q (List.mem_of_mem_drop hq)
def okB (b : Box) : Prop := (∀ p ∈ b, p.1 < p.2) ∧ near b
theorem rgD_mem {lo : Int} {n : Nat} {d : D} (h : d ∈ rgD lo n) : ∃ i : Int, d = .int i ∧ lo ≤ i ∧ i < lo + n := by
  unfold rgD at h
  obtain ⟨i, hi, rfl⟩ := List.mem_map.mp h
  rw [List.mem_range] at hi
  exact ⟨lo + (i : Nat), rfl, by omega, by omega⟩
def boxOk (w : Int) (b : Box) : Prop := (b.length : Int) = w ∧ okB b
def absI (i : Int) : Int := if i < 0 then -i else i
theorem max_near {b : Box} {x : Int} {r : List Int} (hb : b.map (fun p => max (absI p.1) (absI p.2)) = x :: r) (h : r.foldl max x ≤ 1000000000) : near b := by
  intro p hp
  have m : max (absI p.1) (absI p.2) ∈ x :: r := by rw [← hb]; exact List.mem_map_of_mem hp
  have h1 := (fold_max r x).2 _ m
  unfold absI at h1
  split at h1 <;> split at h1 <;> omega
theorem forF_nx {body : D → Ev → R Fl} {Γ : Ev} : ∀ {l : List D}, (∀ d ∈ l, body d Γ = .ok .nx Γ) → forF body l Γ = .ok .nx Γ
  | [], _ => rfl
  | d :: l, h => by
    unfold forF
    rw [h d List.mem_cons_self]
    exact forF_nx fun e he => h e (List.mem_cons_of_mem _ he)
theorem ne_eBs (bs : List Box) : neD (.lst (bs.map eB)) (.lst []) = some (!bs.isEmpty) := by
  unfold neD
  rw [if_pos ⟨eqOk_eBs bs, rfl⟩]
  cases bs <;> simp
theorem eraseIdx_mapD {α β : Type} (f : α → β) (l : List α) (n : Nat) : (l.map f).eraseIdx n = (l.eraseIdx n).map f := by
  induction l generalizing n with
  | nil => rfl
  | cons a r ih => cases n with
    | zero => rfl
    | succ n => simp [ih]
end Bx
end
end

section
set_option Elab.async false
set_option linter.all false
set_option maxRecDepth 100000
set_option maxHeartbeats 4000000
noncomputable section
namespace PySem.SeqAt
open AutoSeq1 (wpAny_loadPart')
open MeetsSeq MeetsSeq2 MeetsSeq3 SeqRoads2
theorem int_eq_declines_dict (b : Int) (u : Tok) (l : Addr) (es : Array DictEntry) (n : Nat) :
    Meets (Builtin.«int.__eq__» ⟨[.int b u, .ref l], []⟩) (fun _ R s => s.heap.get? l = some { cls := .type "dict", dict := none, data := .dict es n, slots := #[] } ∧ R (.ok (.ret .notImplemented)) s) :=
  .of_wp fun prog w A R s h => by obtain ⟨hp, g, d, tk, os⟩ := s; obtain ⟨hl, h⟩ := h; wp_walk using wpAny_loadPart' hl, wpAny_load hl; exact ⟨_, rfl, h⟩
section
variable {A : Around} {s : Shared}
theorem EqAt.int_dict {l : Addr} {es : Array DictEntry} {n : Nat} (b : Int) (u : Tok) (ho : s.heap.get? l = some { cls := .type "dict", dict := none, data := .dict es n, slots := #[] }) (hu : A.units < cLine) : EqAt A s (.int b u) (.ref l) false := fun prog w E Q h => by
  have hT : s.TypeIs (.ref l) "dict" := ⟨_, ho, rfl⟩
  unfold eqBool
  refine wpAny_holding ?_
  refine wpAny_ite_split (fun hab => absurd (eq_of_beq hab) nofun) (fun _ => ?_)
  refine wpAny_bind (rc_eq_decline_or (k := false) (typeIs_int s b u) hT (by decide) (by rw [isSubtype_type]; kernel_rfl) F.slot_int_eq F.slot_dict_eq_refl
    (fun _ hq => call_meets F.slot_int_eq (typeIs_int s b u) F.entry_int_eq (F.args_int_eq_2 _ _) (int_eq_declines_dict b u l es n) ⟨ho, hq⟩)
    (fun _ hq => wpAny_call_entry F.slot_dict_eq_refl hT F.entry_dict_eq ?_ (F.args_dict_eq_2 _ _))
    (fun _ hq => wpAny_of_eq (rfl : isSame (.int b u) (.ref l) = pure false) hq) (.inr hu) (wpAny_truthy_bool h))
  show wpAny _ _ (Builtin.Dict.dictSlotArgs "__eq__" ⟨[.ref l, .int b u], []⟩ >>= _) _ _ s
  refine wpAny_bind ?_
  unfold Builtin.Dict.dictSlotArgs
  refine wpAny_bind (wpAny_notOrdered_dict hT ?_)
  show wpAny _ _ (pure (Value.ref l, Value.int b u)) _ _ s
  refine wpAny_pure ?_
  refine wpAny_bind (wpAny_isInstance (T := "int") (b := false) (typeIs_int s b u) (by rw [isSubtype_type]; kernel_rfl) ?_)
  simp only [Bool.not_false, if_true]
  exact wpAny_bind (wpAny_rule (wpAny_pure ⟨_, rfl, hq⟩))
end
end PySem.SeqAt
namespace Bx
open PySem PySem.Spec PyProof.Rows L2
@[simp] def isInD : D → Bool
  | .int _ => true
  | _ => false
@[simp] def inX : D → Bool
  | .non => true
  | .bl _ => true
  | .int _ => true
  | .str _ => true
  | .tup _ => true
  | .lst _ => true
  | .dct l => l.isEmpty
  | _ => false
section
variable {X : Cx}
theorem int_at {pins : List (Addr × Obj)} {σ : L2.St} {H : Hp} {s : Shared} (I : Inv X pins σ H s) {A : Around} (hu : A.units < cLine) {d : D} {x : V} {v : Value} (hd : inX d = true) (hx : Rep (ct X) H d x) (rx : RelV x v) (i : Int) (t : Tok) : SeqAt.EqAt A s (.int i t) v (deq (.int i) d) := by
  cases d with
  | non =>
    have h : x = V.non := hx
    rw [h] at rx
    cases rx
    rw [deq_int_non]
    exact SeqAt.EqAt.int_none i t
  | bl b =>
    have h : x = V.bl b := hx
    rw [h] at rx
    cases rx
    rw [deq_int_bl]
    exact SeqAt.EqAt.int_bool i t b
  | int b =>
    have h : x = V.int b := hx
    rw [h] at rx
    obtain ⟨u, rfl⟩ := rx
    rw [deq_int_int]
    exact SeqAt.EqAt.int_int i t b u
  | str b =>
    have h : x = V.str b := hx
    rw [h] at rx
    obtain ⟨u, rfl⟩ := rx
    rw [deq_int_str]
    exact SeqAt.EqAt.int_str i t b u
  | tup l =>
    obtain ⟨a, xs, rfl, hq, hr, _⟩ := hx
    cases (show v = Value.ref a from rx)
    obtain ⟨its, rv, p, _⟩ := I.tuple hq
    rw [deq_int_tup]
    obtain ⟨o, h1, h2, n, h3⟩ := p
    exact SeqAt.EqAt.int_tuple i t ⟨o, h1, h2, n, h3⟩ hu
  | lst l =>
    obtain ⟨a, xs, rfl, hq, hr, _⟩ := hx
    cases (show v = Value.ref a from rx)
    obtain ⟨its, rv, p, _⟩ := I.list (.of hq)
    rw [deq_int_lst]
    exact SeqAt.EqAt.int_list i t p.isList hu
  | dct l =>
    have hl : l = [] := by simpa using hd
    subst hl
    obtain ⟨a, kvs, rfl, h1, h2⟩ := hx
    have h2 : kvs = [] := h2
    subst h2
    cases (show v = Value.ref a from rx)
    obtain ⟨_, h3, vs, h4, ⟨o, es, ep, h5, ⟨c1, c2, c3⟩, h7, _, h8, _⟩⟩ := dk_rd I.hok h1
    obtain ⟨oc, od, oda, osl⟩ := o
    simp only at c1 c2 c3 h7
    subst c1 c2 c3 h7
    have e : deq (.int i) (.dct []) = false := by rw [deq] <;> simp
    rw [e]
    exact SeqAt.EqAt.int_dict i t h5 hu
  | scr l => simp at hd
  | fn l => simp at hd
  | ex l => simp at hd
  | dtt l => simp at hd
end
end Bx
end
end

section
set_option Elab.async false
set_option linter.all false
set_option maxRecDepth 100000
set_option maxHeartbeats 4000000
set_option autoImplicit false
noncomputable section
namespace Bx
open PySem PySem.Spec PyProof.Rows L2
@[simp] def gLsU (gs : List GS) (d : D) (Γ : Ev) : R Unit := match d with
  | .lst l => gAll gs l Γ
  | _ => .bad
end Bx
end
end

section
set_option Elab.async false
set_option linter.all false
set_option maxRecDepth 100000
set_option maxHeartbeats 4000000
set_option autoImplicit false
noncomputable section
namespace PySem
open Sem (wp)
end PySem
namespace L2
open PySem PySem.Spec PyProof.Rows
end L2
namespace Bx
open PySem PySem.Spec PyProof.Rows L2
@[simp] def enumTD : List D → Option (List D)
  | [.tup l] => some (enumF 0 l)
  | _ => none
@[simp] def iEnmT (fs : SA) (Γ : Ev) : R (List D) := (fs Γ).bind fun avs Γ' => optL ((ds avs).bind enumTD) Γ'
end Bx
end
end

section
set_option Elab.async false
set_option linter.all false
set_option maxRecDepth 100000
set_option maxHeartbeats 4000000
noncomputable section
namespace BxT
open PySem PySem.Spec PyProof.Rows L2
theorem alike_ints : ∀ a b : List Int, PySem.W.alikeAll (a.map .int) (b.map .int) = true
  | [], _ => by simp [PySem.W.alikeAll]
  | _ :: _, [] => by simp [PySem.W.alikeAll]
  | x :: a, y :: b => by simp [PySem.W.alikeAll, PySem.W.alike, alike_ints a b]
end BxT
set_option autoImplicit false
namespace Bx
open PySem PySem.Spec PyProof.Rows L2
def leL (a b : List Int) : Bool := PySem.W.dataLe false (fun k : List Int => PyData.tuple (k.map .int)) a b
def srtL (kl : List (List Int)) : List (List Int) := kl.eraseDups.mergeSort leL
def tupI : D → Option (List Int)
  | .tup l => intsD l
  | _ => none
def tupsI : List D → Option (List (List Int))
  | [] => some []
  | d :: r => match tupI d, tupsI r with
    | some k, some l => some (k :: l)
    | _, _ => none
def fewL (kl : List (List Int)) : Bool := decide (kl.eraseDups.length < 63) && kl.all fun k => !k.isEmpty
@[simp] def srtTD : D → Option Rs
  | .lst l => match tupsI l with
    | some kl => if fewL kl = true then some (.n ((srtL kl).map fun k => D.tup (k.map D.int))) else none
    | none => none
  | _ => none
@[simp] def sSSetT (f : SE) (Γ : Ev) : R AV := (f Γ).bind fun av Γ' => rd1 srtTD av Γ'
end Bx
end
end

section
set_option Elab.async false
set_option linter.all false
set_option maxRecDepth 100000
set_option maxHeartbeats 8000000
set_option autoImplicit false
set_option backward.isDefEq.respectTransparency false
noncomputable section
namespace Bk
open PySem PySem.Spec PyProof.Rows L2 Bx
abbrev k_MOST_BOXES : D := .tup [.int 0, .int 20, .int 10, .int 6]
def b_is_whole : SS :=
 (sRet (sAndV (sIsi "int" (sVar 0)) (sNotV (sIsi "bool" (sVar 0)))))
def m_is_whole : Ev → FR := fnM 1 1 b_is_whole
def b_is_ways : SS :=
 (sRet (sAndV (sCall m_is_whole [] (sCons (sVar 0) sNil)) (sVal (sChain (leD) (leD) (sC (.int 1)) (sVar 0) (sC (.int 3))))))
def m_is_ways : Ev → FR := fnM 1 1 b_is_ways
def b_is_stretch : SS :=
 (sSeq (sIf (sOr (sNot (sTru (sIsi "tuple" (sVar 0)))) (sCmp (neD) (sCB lenD (sCons (sVar 0) sNil)) (sC (.int 2))))
 (sRet (sC (.bl false)))
 sSkip)
 (sRet (sAndV (sCall m_is_whole [] (sCons (sBin ixD (sVar 0) (sC (.int 0))) sNil)) (sAndV (sCall m_is_whole [] (sCons (sBin ixD (sVar 0) (sC (.int 1))) sNil)) (sVal (sCmp (ltD) (sBin ixD (sVar 0) (sC (.int 0))) (sBin ixD (sVar 0) (sC (.int 1)))))))))
def m_is_stretch : Ev → FR := fnM 1 1 b_is_stretch
def c1_is_box : SB :=
 (sNot (sTru (sCall m_is_stretch [] (sCons (sVar 2) sNil))))
def b_is_box : SS :=
 (sSeq (sIf (sOr (sNot (sTru (sCall m_is_ways [] (sCons (sVar 0) sNil)))) (sOr (sNot (sTru (sIsi "tuple" (sVar 1)))) (sCmp (neD) (sCB lenD (sCons (sVar 1) sNil)) (sVar 0))))
 (sRet (sC (.bl false)))
 sSkip)
 (sRet (sVal (sCmp (eqD) (sLc (iAny (sVar 1)) [2] (gVar 2) c1_is_box (sVar 2)) (sLst sNil)))))
def m_is_box : Ev → FR := fnM 2 3 b_is_box
def c1_is_heap : SB :=
 (sNot (sTru (sCall m_is_box [] (sCons (sVar 1) (sCons (sVar 3) sNil)))))
def s1_is_heap : SS :=
 (sIf (sOr (sNot (sTru (sIsi "tuple" (sVar 0)))) (sOr (sCmp (neD) (sCB lenD (sCons (sVar 0) sNil)) (sC (.int 2))) (sNot (sTru (sCall m_is_ways [] (sCons (sBin ixD (sVar 0) (sC (.int 0))) sNil))))))
 (sRet (sC (.bl false)))
 sSkip)
def s2_is_heap : SS :=
 (sAsg (sVar 0) (gTup [(gVar 1), (gVar 2)]))
def s3_is_heap : SS :=
 (sIf (sOr (sNot (sTru (sIsi "list" (sVar 2)))) (sCmp (gtD) (sCB lenD (sCons (sVar 2) sNil)) (sBin ixD (sC k_MOST_BOXES) (sVar 1))))
 (sRet (sC (.bl false)))
 sSkip)
def s4_is_heap : SS :=
 (sRet (sVal (sCmp (eqD) (sLc (iAny (sVar 2)) [3] (gVar 3) c1_is_heap (sVar 3)) (sLst sNil))))
def b_is_heap : SS :=
 (sSeq s1_is_heap
 (sSeq s2_is_heap
 (sSeq s3_is_heap
 s4_is_heap)))
def m_is_heap : Ev → FR := fnM 1 4 b_is_heap
def b_need_heap : SS :=
 (sIf (sNot (sTru (sCall m_is_heap [] (sCons (sVar 0) sNil))))
 (sRaise "NoHeap")
 sSkip)
def m_need_heap : Ev → FR := fnM 1 1 b_need_heap
def e1_marks_of : SE :=
 (sBin ixD (sBin ixD (sVar 2) (sVar 1)) (sC (.int 0)))
def e2_marks_of : SE :=
 (sBin ixD (sBin ixD (sVar 2) (sVar 1)) (sC (.int 1)))
def b_marks_of : SS :=
 (sRet (sSSet (sBin addD (sLc (iAny (sVar 0)) [2] (gVar 2) sYes e1_marks_of) (sLc (iAny (sVar 0)) [2] (gVar 2) sYes e2_marks_of))))
def m_marks_of : Ev → FR := fnM 2 3 b_marks_of
def c1_cut_apart (m : Ev → FR) : SB :=
 (sAnd (sCmp (leD) (sBin ixD (sBin ixD (sVar 8) (sC (.int 0))) (sC (.int 0))) (sVar 4)) (sCmp (leD) (sVar 5) (sBin ixD (sBin ixD (sVar 8) (sC (.int 0))) (sC (.int 1)))))
def e1_cut_apart (m : Ev → FR) : SE :=
 (sTup (sCons (sVar 7) (sCons (sEsc (sSl (sVar 8) (oSome (sC (.int 1))) oNone)) sNil)))
def e2_cut_apart (m : Ev → FR) : SE :=
 (sTup (sCons (sEsc (sBin addD (sTup (sCons (sTup (sCons (sVar 4) (sCons (sVar 5) sNil))) sNil)) (sVar 9))) (sCons (sVar 10) sNil)))
def w1_cut_apart (m : Ev → FR) : SS :=
 (sSeq (sAsg (sEsc (sLc (iAny (sVar 0)) [7, 8] (gTup [(gVar 7), (gVar 8)]) (c1_cut_apart m) (e1_cut_apart m))) (gVar 6))
 (sIf (sCmp (neD) (sVar 6) (sLst sNil))
 (sDrop (sMeth 2 extD (sCons (sEsc (sLc (iAny (sEsc (sCall m [] (sCons (sVar 6) (sCons (sBin subD (sVar 1) (sC (.int 1))) sNil))))) [9, 10] (gTup [(gVar 9), (gVar 10)]) sYes (e2_cut_apart m))) sNil)))
 sSkip))
def s1_cut_apart (m : Ev → FR) : SS :=
 (sIf (sCmp (eqD) (sVar 1) (sC (.int 0)))
 (sRet (sLst (sCons (sTup (sCons (sTup sNil) (sCons (sEsc (sLc (iAny (sVar 0)) [7, 8] (gTup [(gVar 7), (gVar 8)]) sYes (sVar 7))) sNil))) sNil)))
 sSkip)
def s2_cut_apart (m : Ev → FR) : SS :=
 (sAsg (sEsc (sCall m_marks_of [] (sCons (sEsc (sLc (iAny (sVar 0)) [7, 8] (gTup [(gVar 7), (gVar 8)]) sYes (sVar 8))) (sCons (sC (.int 0)) sNil)))) (gVar 3))
def s3_cut_apart (m : Ev → FR) : SS :=
 (fgt [4, 5, 6] (sFor (iZp (sCons (sVar 3) (sCons (sEsc (sSl (sVar 3) (oSome (sC (.int 1))) oNone)) sNil))) (gTup [(gVar 4), (gVar 5)])
 (fgt [6, 4, 5] (w1_cut_apart m))))
def b_cut_apart (m : Ev → FR) : SS :=
 (sSeq (s1_cut_apart m)
 (sSeq (sOwn (sLst sNil) 2)
 (sSeq (s2_cut_apart m)
 (sSeq (s3_cut_apart m)
 (sRet (sVar 2))))))
def m_cut_apart : Nat → Ev → FR
  | 0 => fun _ => .bad
  | n + 1 => fnM 2 11 (b_cut_apart (m_cut_apart n))
def b_cells_of : SS :=
 (sRet (sIfX (sCmp (neD) (sBin ixD (sVar 0) (sC (.int 1))) (sLst sNil)) (sCall (m_cut_apart 8) [] (sCons (sEsc (sLEnm (sCons (sBin ixD (sVar 0) (sC (.int 1))) sNil))) (sCons (sBin ixD (sVar 0) (sC (.int 0))) sNil))) (sLst sNil)))
def m_cells_of : Ev → FR := fnM 1 1 b_cells_of
def b_paper_of : SS :=
 (sSeq (sDrop (sCall m_need_heap [] (sCons (sVar 0) sNil)))
 (sRet (sCall m_cells_of [] (sCons (sVar 0) sNil))))
def m_paper_of : Ev → FR := fnM 1 1 b_paper_of
end Bk
end
end

section
set_option Elab.async false
set_option linter.all false
set_option maxRecDepth 100000
set_option maxHeartbeats 4000000
set_option autoImplicit false
set_option backward.isDefEq.respectTransparency false
noncomputable section
namespace Bx
open PySem PySem.Spec PyProof.Rows L2
def trU (i : Nat) : R Fl → R Fl
  | .ok .nx Γ => .ok .nx (Γ.set i .no)
  | .ok .bk Γ => .ok .bk (Γ.set i .no)
  | .ok .ct Γ => .ok .ct (Γ.set i .no)
  | .ok (.rt av) Γ => .ok (.rt av) Γ
  | _ => .bad
def trR (i : Nat) (sel : List (Str × Bool)) (ss : SS) : R Fl → R Fl
  | .exc e Γ => match sel.lookup e with
    | some true => trU i (ss (Γ.set i (.fr (.ex e))))
    | some false => .exc e Γ
    | none => .bad
  | r => r
@[simp] theorem trU_nx {i : Nat} {Γ : Ev} : trU i (.ok .nx Γ) = .ok .nx (Γ.set i .no) := rfl
@[simp] theorem trU_rt {i : Nat} {av : AV} {Γ : Ev} : trU i (.ok (.rt av) Γ) = .ok (.rt av) Γ := rfl
@[simp] theorem trR_ok {i : Nat} {sel : List (Str × Bool)} {ss : SS} {f : Fl} {Γ : Ev} : trR i sel ss (.ok f Γ) = .ok f Γ := rfl
@[simp] def sTry (i : Nat) (sel : List (Str × Bool)) (s ss : SS) (Γ : Ev) : R Fl := trR i sel ss (s Γ)
def isX (sub : List (Str × Bool)) : D → Option Bool
  | .non => some false
  | .ex n => sub.lookup n
  | _ => none
@[simp] theorem isX_non {sub : List (Str × Bool)} : isX sub .non = some false := rfl
@[simp] theorem isX_ex {sub : List (Str × Bool)} {n : Str} : isX sub (.ex n) = sub.lookup n := rfl
@[simp] def sIsX (sub : List (Str × Bool)) (f : SE) (Γ : Ev) : R AV := (f Γ).bind fun av Γ' => opt ((rd Γ' av).bind fun d => blR (isX sub d)) Γ'
end Bx
end
end

section
set_option Elab.async false
set_option linter.all false
set_option maxRecDepth 100000
set_option maxHeartbeats 4000000
set_option autoImplicit false
set_option backward.isDefEq.respectTransparency false
noncomputable section
namespace Bx
open PySem PySem.Spec PyProof.Rows L2
@[simp] def blsD : List Bx.D → Option (List Bool)
  | [] => some []
  | .bl b :: r => (blsD r).map fun l => b :: l
  | _ => none
@[simp] theorem blsD_map (bs : List Bool) : blsD (bs.map D.bl) = some bs := by
  induction bs with
  | nil => rfl
  | cons x r ih => simp [ih]
@[simp] def cntB : Bx.D → List Bx.D → Option Rs
  | .lst l, [.bl k] => (blsD l).map fun bs => .d (.int (bs.countP (fun b => b == k) : Nat))
  | _, _ => none
@[simp] def idxB : Bx.D → List Bx.D → Option Rs
  | .lst l, [.bl k] => (blsD l).bind fun bs => (bs.findIdx? (fun b => b == k)).map fun j => .d (.int (j : Nat))
  | _, _ => none
@[simp] def sLM (g : Bx.D → List Bx.D → Option Rs) (fo : SE) (fs : SA) (Γ : Ev) : R AV := (fo Γ).bind fun a Γ1 => if isLsO (rd Γ1 a) = true then (fs Γ1).bind fun bs Γ2 => opt ((rd Γ2 a).bind fun x => (ds bs).bind fun ys => g x ys) Γ2 else .bad
end Bx
end
end

section
set_option Elab.async false
set_option linter.all false
set_option maxRecDepth 100000
set_option maxHeartbeats 4000000
set_option autoImplicit false
set_option backward.isDefEq.respectTransparency false
noncomputable section
namespace Bx
open PySem PySem.Spec PyProof.Rows L2
def stp {α : Type} (n : Nat) (l : List α) : List α := ((List.range ((l.length + n - 1) / n)).map fun k => n * k).filterMap (l[·]?)
@[simp] def stpD : Bx.D → Bx.D → Option Rs
  | .lst l, .int n => if 0 < n then some (.n (stp n.toNat l)) else none
  | _, _ => none
@[simp] def sStp (f fe : SE) (Γ : Ev) : R AV := (f Γ).bind fun a Γ1 => (fe Γ1).bind fun b Γ2 => rd2 stpD a b Γ2
def anyX : List (List (Str × Bool)) → Bx.D → Option Bool
  | [], _ => some false
  | s :: r, d => (isX s d).bind fun b => (anyX r d).map fun c => b || c
@[simp] theorem anyX_nil {d : Bx.D} : anyX [] d = some false := rfl
@[simp] def sIsXT (subs : List (List (Str × Bool))) (f : SE) (Γ : Ev) : R AV := (f Γ).bind fun av Γ' => opt ((rd Γ' av).bind fun d => blR (anyX subs d)) Γ'
end Bx
end
end

section
set_option Elab.async false
set_option linter.all false
set_option maxRecDepth 100000
set_option maxHeartbeats 4000000
set_option autoImplicit false
noncomputable section
namespace Bx
open PySem PySem.Spec PyProof.Rows L2
@[simp] def fldO (c f : Str) (Γ : Ev) : Option SD → R AV
  | some (.fx (.o c' fs)) => if c' = c then (match fs.lookup f with
    | some d => .ok (.d d) Γ
    | none => .bad) else .bad
  | some (.ob _ (.ins c' fs)) => if c' = c then (match fs.lookup f with
    | some (.fr d) => .ok (.d d) Γ
    | _ => .bad) else .bad
  | _ => .bad
@[simp] def fldA (c f : Str) (Γ : Ev) : AV → R AV
  | .s i => fldO c f Γ Γ[i]?
  | _ => .bad
@[simp] def sFld (c f : Str) (g : SE) (Γ : Ev) : R AV := (g Γ).bind fun a Γ1 => fldA c f Γ1 a
@[simp] def frzS : Option SD → Option FX
  | some (.ob _ x) => frzO x
  | _ => none
@[simp] def safeO (i : Nat) (Γ : Ev) : Bool := (Γ.set i .no).all safeS
@[simp] def lendR (av : AV) (Γ : Ev) : R AV := if safeV av = true then .ok av Γ else .bad
@[simp] def lendE (i : Nat) (f : SE) (Γ : Ev) : R AV := match frzS Γ[i]? with
  | some y => if safeO i Γ = true then (match f (Γ.set i (.fx y)) with
    | .ok av _ => lendR av Γ
    | _ => .bad) else .bad
  | none => .bad
@[simp] def lendB (i : Nat) (f : SB) (Γ : Ev) : R Bool := match frzS Γ[i]? with
  | some y => if safeO i Γ = true then (match f (Γ.set i (.fx y)) with
    | .ok b _ => .ok b Γ
    | _ => .bad) else .bad
  | none => .bad
def putO (f : Str) (o : OD) : List (Str × OD) → List (Str × OD)
  | [] => [(f, o)]
  | (g, p) :: l => if g = f then (g, o) :: l else (g, p) :: putO f o l
@[simp] theorem putO_nil {f : Str} {o : OD} : putO f o [] = [(f, o)] := rfl
@[simp] theorem putO_cons {f g : Str} {o p : OD} {l : List (Str × OD)} : putO f o ((g, p) :: l) = if g = f then (g, o) :: l else (g, p) :: putO f o l := rfl
def Pure {α : Type} (f : Ev → R α) : Prop := ∀ Γ a Γ', f Γ = .ok a Γ' → Γ' = Γ
theorem R.bind_ok_inv {α β : Type} {r : R α} {k : α → Ev → R β} {b : β} {Γ : Ev} (h : r.bind k = .ok b Γ) : ∃ a Γ', r = .ok a Γ' ∧ k a Γ' = .ok b Γ := by
  cases r with
  | ok a Γ' => exact ⟨a, Γ', rfl, h⟩
  | exc c Γ' => cases h
  | bad => cases h
theorem Pure.bind {α β : Type} {f : Ev → R α} {k : α → Ev → R β} (hf : Pure f) (hk : ∀ a, Pure (k a)) : Pure fun Γ => (f Γ).bind k := fun Γ b Γ' h => by
  obtain ⟨a, Γ1, e1, e2⟩ := R.bind_ok_inv h
  rw [hk a Γ1 b Γ' e2, hf Γ a Γ1 e1]
theorem Pure.var (i : Nat) : Pure (sVar i) := fun Γ a Γ' h => by
  unfold sVar sVarS at h
  split at h <;> first | (cases h; rfl) | cases h
theorem Pure.c (d : D) : Pure (sC d) := fun Γ a Γ' h => by cases h; rfl
theorem Pure.opt (g : Ev → Option Rs) : Pure fun Γ => Bx.opt (g Γ) Γ := fun Γ a Γ' h => by
  have h : Bx.opt (g Γ) Γ = .ok a Γ' := h
  unfold Bx.opt at h
  split at h <;> first | (cases h; rfl) | cases h
theorem Pure.bin {g : D → D → Option Rs} {f1 f2 : SE} (h1 : Pure f1) (h2 : Pure f2) : Pure (sBin g f1 f2) :=
  Pure.bind h1 fun a => Pure.bind h2 fun b => Pure.opt fun Γ => (rd Γ a).bind fun x => (rd Γ b).bind fun y => g x y
theorem Pure.optB (g : Ev → Option Bool) : Pure fun Γ => Bx.optB (g Γ) Γ := fun Γ a Γ' h => by
  have h : Bx.optB (g Γ) Γ = .ok a Γ' := h
  unfold Bx.optB at h
  split at h <;> first | (cases h; rfl) | cases h
theorem Pure.nil : Pure sNil := fun Γ a Γ' h => by cases h; rfl
theorem Pure.cons {f : SE} {fs : SA} (h1 : Pure f) (h2 : Pure fs) : Pure (sCons f fs) :=
  Pure.bind h1 fun a => Pure.bind h2 fun r => fun Γ b Γ' h => by cases h; rfl
theorem Pure.tup {fs : SA} (h : Pure fs) : Pure (sTup fs) := Pure.bind h fun avs => Pure.opt fun Γ => (ds avs).bind fun l => if l.length ≤ 1000 then some (.t l) else none
theorem Pure.lst {fs : SA} (h : Pure fs) : Pure (sLst fs) := Pure.bind h fun avs => Pure.opt fun Γ => (ds avs).bind fun l => if l.length ≤ 1000 then some (.n l) else none
theorem Pure.val {f : SB} (h : Pure f) : Pure (sVal f) := Pure.bind h fun b => fun Γ c Γ' k => by cases k; rfl
section
variable {C : Ct} {io : IO} {W : XW} {σ σ' : St} {F F' H H' : Hp} {Γ Γ' : Ev} {i : Nat} {t : Option Nat} {x : OD} {y : FX}
theorem OwnAt.setF {sd : SD} (hs : sd.own = false) {j : Nat} {a : Addr} (h : OwnAt H (Γ.set i sd) σ j a) : j ≠ i ∧ OwnAt H Γ σ j a := by
  obtain ⟨sd', e, ow, v, s, hh⟩ := h
  rcases set_get e with ⟨e1, e2, _⟩ | ⟨e1, e2⟩
  · rw [e2, hs] at ow; cases ow
  · exact ⟨e1, sd', e2, ow, v, s, hh⟩
theorem OwnAt.setB {sd : SD} {j : Nat} {a : Addr} (hj : j ≠ i) (h : OwnAt H Γ σ j a) : OwnAt H (Γ.set i sd) σ j a := by
  obtain ⟨sd', e, ow, v, s, hh⟩ := h
  exact ⟨sd', by rw [List.getElem?_set_ne (Ne.symm hj)]; exact e, ow, v, s, hh⟩
theorem lendI_not (A : At C io σ F H Γ) (e : Γ[i]? = some (.ob t x)) (hy : frzO x = some y) {a : Addr} (h : OwnAt H Γ σ i a) : F a = none ∧ H a ≠ none ∧ ∀ xs, H a ≠ some (.tup xs) ∧ ∀ o, H a ≠ some (.frz o (.tup xs)) := by
  obtain ⟨k1, k2⟩ := A.ownAt_none h
  refine ⟨k1, k2, ?_⟩
  obtain ⟨v, fp, w1, w2, w3, _⟩ := A.ob e
  obtain ⟨sd, q1, _, u, q2, q3⟩ := h
  rw [e] at q1; cases q1
  rw [w1] at q2; cases q2
  obtain ⟨g, q4, q5⟩ := q3
  rw [Fp.det q4 w3] at q5
  exact frzO_not (by rw [hy]; rfl) w2 w3 a q5
theorem lendI_le (A : At C io σ F H Γ) : le F (lentF (OwnAt H Γ σ i) F H) := fun b o h => by
  rw [lentF_no fun q => by rw [(A.ownAt_none q).1] at h; cases h]
  exact h
theorem At.lendI (A : At C io σ F H Γ) (e : Γ[i]? = some (.ob t x)) (hy : frzO x = some y) : At C io σ (lentF (OwnAt H Γ σ i) F H) H (Γ.set i (.fx y)) where
  le := fun b o h => by
    by_cases q : OwnAt H Γ σ i b
    · rw [lentF_yes q] at h; exact h
    · rw [lentF_no q] at h; exact A.le b o h
  pin := A.pin.trans (lendI_le A)
  len := by rw [List.length_set]; exact A.len
  slot := fun j sd q => by
    rcases set_get q with ⟨q4, q5, _⟩ | ⟨q4, q5⟩
    · subst q4
      rw [q5]
      obtain ⟨v, fp, w1, w2, w3, w4, w5, w6, w7⟩ := A.ob e
      exact ⟨v, w1, frzO_ok (lendI_le A) hy w2 w3 fun b hb => lentF_yes (w7 b hb)⟩
    · have w := A.slot j sd q5
      have nl : ∀ {a : Addr}, OwnAt H Γ σ j a → ¬ OwnAt H Γ σ i a := fun h1 h2 => q4 (A.ne j i _ h1 h2)
      have oth : ∀ {sd : SD}, Γ[j]? = some sd → sd.smp = true → (∃ a, σ[j]? = some (some (V.ref a)) ∧ F a = none ∧ OwnOk C F H a sd ∧ ∀ k, sd.tag = some k → io.adr k = some a) → (∃ a, σ[j]? = some (some (V.ref a)) ∧ lentF (OwnAt H Γ σ i) F H a = none ∧ OwnOk C (lentF (OwnAt H Γ σ i) F H) H a sd ∧ ∀ k, sd.tag = some k → io.adr k = some a) := by
        rintro sd es so ⟨a, w1, w2, w3, w4⟩
        exact ⟨a, w1, by rw [lentF_no (nl (OwnAt.of es so w1))]; exact w2, w3.mono (lendI_le A), w4⟩
      cases sd with
      | no => trivial
      | fr d => obtain ⟨v, w1, w2⟩ := w; exact ⟨v, w1, w2.mono (lendI_le A)⟩
      | fu d => obtain ⟨v, w1, w2⟩ := w; exact ⟨v, w1, RepN.mono (lendI_le A) w2⟩
      | fx z => obtain ⟨v, w1, w2⟩ := w; exact ⟨v, w1, FXOk.mono (lendI_le A) w2⟩
      | ob u z => exact A.obUp q5 (lendI_le A) (fun b hb => by rw [lentF_no (nl hb)]; exact (A.ownAt_none hb).1) fun b _ => rfl
      | ow u l => exact oth q5 rfl w
      | od u l => exact oth q5 rfl w
      | ot u l => exact oth q5 rfl w
  ne := fun j k a h1 h2 => A.ne j k a (OwnAt.setF rfl h1).2 (OwnAt.setF rfl h2).2
theorem Go.lendI (A : At C io σ F H Γ) (e : Γ[i]? = some (.ob t x)) (hy : frzO x = some y) (hs : safeO i Γ = true) (g : Go C io σ (lentF (OwnAt H Γ σ i) F H) H (Γ.set i (.fx y)) σ F' H' (Γ.set i (.fx y))) :
    Go C io σ F H Γ σ (backF (OwnAt H Γ σ i) F') H' Γ ∧ (∀ {d : D} {v : V}, noL d = true → Rep C F' d v → Rep C (backF (OwnAt H Γ σ i) F') d v) ∧ (∀ {d : List D} {v : List V}, noLs d = true → Reps C F' d v → Reps C (backF (OwnAt H Γ σ i) F') d v) ∧
    (∀ {d : D} {v : V}, RepN C (NewA (Γ.set i (.fx y)) σ H) F' d v → RepN C (NewA Γ σ H) (backF (OwnAt H Γ σ i) F') d v) ∧ (∀ a, NewA (Γ.set i (.fx y)) σ H a → NewA Γ σ H a) ∧
    (∀ a, F' a = none → backF (OwnAt H Γ σ i) F' a = none) ∧ (∀ a, H' a ≠ H a → OwnA H' Γ σ a → OwnA H' (Γ.set i (.fx y)) σ a) ∧ (∀ a, OwnAt H Γ σ i a → H' a = H a) := by
  have A1 := A.lendI e hy
  have fle : le (lentF (OwnAt H Γ σ i) F H) F' := g.ff
  have stay : ∀ a, OwnAt H Γ σ i a → H' a = H a := fun a h => by
    cases w : H a with
    | none => exact absurd w (A.ownAt_none h).2
    | some o => exact g.at_.le a o (fle a o (by rw [lentF_yes h]; exact w))
  have bn : ∀ a, F' a = none → backF (OwnAt H Γ σ i) F' a = none := fun a ha => by
    by_cases nl : OwnAt H Γ σ i a
    · exact backF_yes nl
    · rw [backF_no nl]; exact ha
  have ff : le F (backF (OwnAt H Γ σ i) F') := fun b u h => by
    have nl : ¬ OwnAt H Γ σ i b := fun q => by rw [(A.ownAt_none q).1] at h; cases h
    rw [backF_no nl]
    exact fle b u (by rw [lentF_no nl]; exact h)
  have cv : ∀ a xs, SqT C.K F' a xs → SqT C.K (backF (OwnAt H Γ σ i) F') a xs := fun a xs h => by
    rcases h with h | h
    · refine .inl ?_
      have nl : ¬ OwnAt H Γ σ i a := fun q => by
        obtain ⟨w1, w2, w3⟩ := lendI_not A e hy q
        cases ea : H a with
        | none => exact w2 ea
        | some u =>
          have z := fle a u (by rw [lentF_yes q]; exact ea)
          rcases h with h | ⟨ob, h⟩
          · rw [z] at h; cases h; exact (w3 xs).1 ea
          · rw [z] at h; cases h; exact (w3 xs).2 ob ea
      rcases h with h | ⟨ob, h⟩
      · exact .inl (by rw [backF_no nl]; exact h)
      · exact .inr ⟨ob, by rw [backF_no nl]; exact h⟩
    · exact .inr h
  have sub : ∀ {d : D} {v : V}, noL d = true → Rep C F' d v → Rep C (backF (OwnAt H Γ σ i) F') d v := fun hn r => RepN.rep (RepN.conv (N := fun _ => False) (M := fun _ => False) cv (fun _ _ _ q => q.elim) (Rep.noN hn r))
  have subs : ∀ {d : List D} {v : List V}, noLs d = true → Reps C F' d v → Reps C (backF (OwnAt H Γ σ i) F') d v := fun hn r => RepsN.rep (RepsN.conv (N := fun _ => False) (M := fun _ => False) cv (fun _ _ _ q => q.elim) (Reps.noN hn r))
  have up : ∀ {a : Addr}, OwnA H (Γ.set i (.fx y)) σ a → OwnA H Γ σ a ∧ ¬ OwnAt H Γ σ i a := fun ⟨j, q⟩ => by
    obtain ⟨q1, q2⟩ := OwnAt.setF rfl q
    exact ⟨⟨j, q2⟩, fun z => q1 (A.ne j i _ q2 z)⟩
  have naw : ∀ a, NewA (Γ.set i (.fx y)) σ H a → NewA Γ σ H a := fun a q => q.imp id fun w => (up w).1
  have ownI : ∀ {a : Addr}, OwnAt H' Γ σ i a ↔ OwnAt H Γ σ i a := A.heldJ rfl rfl stay
  have ownJ : ∀ {j : Nat} {a : Addr}, j ≠ i → OwnAt H' Γ σ j a → OwnAt H' (Γ.set i (.fx y)) σ j a := fun hj h => OwnAt.setB hj h
  have cross : ∀ {j : Nat} {a : Addr}, j ≠ i → OwnAt H' Γ σ j a → OwnAt H Γ σ i a → False := fun hj h1 h2 => by
    rcases g.own _ ⟨_, ownJ hj h1⟩ with z | z
    · exact (up z).2 h2
    · exact (A.ownAt_none h2).2 z
  have sf : ∀ {j : Nat} {sd : SD}, j ≠ i → Γ[j]? = some sd → safeS sd = true := fun {j sd} hj h => List.all_eq_true.mp hs sd (List.mem_of_getElem? (i := j) (by rw [List.getElem?_set_ne (Ne.symm hj)]; exact h))
  refine ⟨⟨ff, fun b u h n => g.keep b u h fun q => n (up q).1, g.live, fun b h q => ?_, fun b ⟨j, q⟩ => ?_, rfl, ⟨fun b u h => ?_, A.pin.trans ff, A.len, fun j sd q => ?_, fun j k a h1 h2 => ?_⟩⟩, sub, subs, ?_, naw, bn, fun a hne ⟨j, q⟩ => ?_, stay⟩
  · have nl : ¬ OwnAt H Γ σ i b := fun w => by rw [backF_yes w] at q; exact q rfl
    rw [backF_no nl] at q
    exact (g.new b (by rw [lentF_no nl]; exact h) q).imp id fun w => (up w).1
  · by_cases hj : j = i
    · subst hj
      exact .inl ⟨j, ownI.mp q⟩
    · exact (g.own b ⟨j, ownJ hj q⟩).imp (fun w => (up w).1) id
  · by_cases nl : OwnAt H Γ σ i b
    · rw [backF_yes nl] at h; cases h
    · rw [backF_no nl] at h; exact g.at_.le b u h
  · by_cases hj : j = i
    · subst hj
      rw [e] at q
      cases q
      exact A.obUp e ff (fun b hb => backF_yes hb) stay
    · have w := A.slot j sd q
      have w2 := g.at_.slot j sd (by rw [List.getElem?_set_ne (Ne.symm hj)]; exact q)
      have s0 := sf hj q
      cases sd with
      | no => trivial
      | fr d => obtain ⟨v, w1, w2⟩ := w; exact ⟨v, w1, w2.mono ff⟩
      | fu d => obtain ⟨v, w1, w2⟩ := w; exact ⟨v, w1, RepN.mono ff w2⟩
      | fx z => obtain ⟨v, w1, w2⟩ := w; exact ⟨v, w1, FXOk.mono ff w2⟩
      | ow u l =>
        obtain ⟨a, y1, y2, ⟨xs, y3, y4, y6⟩, y5⟩ := w2
        exact ⟨a, y1, bn a y2, ⟨xs, y3, subs s0 y4, y6⟩, y5⟩
      | od u l => cases s0
      | ot u l => cases s0
      | ob u l => cases s0
  · by_cases hj : j = i
    · by_cases hk : k = i
      · rw [hj, hk]
      · subst hj
        exact (cross hk h2 (ownI.mp h1)).elim
    · by_cases hk : k = i
      · subst hk
        exact (cross hj h1 (ownI.mp h2)).elim
      · exact g.at_.ne j k a (ownJ hj h1) (ownJ hk h2)
  · intro d v r
    refine RepN.conv cv (fun a xs h n => ?_) r
    refine ⟨?_, naw a n⟩
    have nl : ¬ OwnAt H Γ σ i a := fun q => by
      rcases n with n | n
      · exact (A.ownAt_none q).2 n
      · exact (up n).2 q
    rw [backF_no nl]; exact h
  · by_cases hj : j = i
    · subst hj
      exact absurd (stay a (ownI.mp q)) hne
    · exact ⟨j, ownJ hj q⟩
theorem AVOk.lendI (A : At C io σ F H Γ) (e : Γ[i]? = some (.ob t x)) (hy : frzO x = some y) (hs : safeO i Γ = true) (g : Go C io σ (lentF (OwnAt H Γ σ i) F H) H (Γ.set i (.fx y)) σ F' H' (Γ.set i (.fx y))) {av : AV} {v : V} (sv : safeV av = true) (hv : AVOk C (NewA (Γ.set i (.fx y)) σ H) F' H' (Γ.set i (.fx y)) σ av v) : AVOk C (NewA Γ σ H) (backF (OwnAt H Γ σ i) F') H' Γ σ av v := by
  obtain ⟨g2, sub, subs, subu, naw, bn, _, stay⟩ := Go.lendI A e hy hs g
  cases av with
  | d d => exact sub sv hv
  | u d => exact subu hv
  | s j => cases sv
  | n l =>
    obtain ⟨a, xs, e1, h0, f0, no, ha, r, z⟩ := hv
    refine ⟨a, xs, e1, naw a h0, bn a f0, fun ⟨j, q⟩ => ?_, ha, subs sv r, z⟩
    by_cases hj : j = i
    · subst hj
      have q2 := (A.heldJ rfl rfl stay).mp q
      rcases h0 with h0 | ⟨k, h0⟩
      · exact (A.ownAt_none q2).2 h0
      · obtain ⟨k1, k2⟩ := OwnAt.setF rfl h0
        exact k1 (A.ne k j a k2 q2)
    · exact no ⟨j, OwnAt.setB hj q⟩
end
section
variable {X : Cx} {W : XW} {e : Expr} {es : List Expr} {f : SE} {fb : SB} {pos : Pos} {σ : St} {H : Hp}
theorem Owtf.get {C : Ct} {F H : Hp} : ∀ {fs : List (Str × OD)} {vs : List (Str × V)} {fp : List Addr} {n : Str} {o : OD}, Owtf C F H fs vs → Fpf H fs vs fp → fs.lookup n = some o → ∃ v g, vs.lookup n = some v ∧ Owt C F H o v ∧ Fp H o v g ∧ ∀ b ∈ g, b ∈ fp
  | [], _, _, _, _, _, _, h => nomatch h
  | (m, p) :: fs, _, _, n, o, ⟨x, r, e1, o1, o2⟩, ⟨y, q, f, g, e2, p1, p2, e3⟩, h => by
    rw [e1] at e2; cases e2
    subst e1
    rw [List.lookup_cons] at h
    cases w : n == m with
    | true =>
      rw [w] at h
      cases h
      exact ⟨x, f, by rw [List.lookup_cons, w], o1, p1, fun b hb => by rw [e3]; exact List.mem_append_left _ hb⟩
    | false =>
      rw [w] at h
      obtain ⟨v, g2, k1, k2, k3, k4⟩ := Owtf.get o2 p2 h
      exact ⟨v, g2, by rw [List.lookup_cons, w]; exact k1, k2, k3, fun b hb => by rw [e3]; exact List.mem_append_right _ (k4 b hb)⟩
end
end Bx
end
end

section
set_option Elab.async false
set_option linter.all false
set_option maxRecDepth 100000
set_option maxHeartbeats 4000000
set_option autoImplicit false
noncomputable section
namespace Bx
open PySem PySem.Spec PyProof.Rows L2
@[simp] def OD.lf : OD → Bool
  | .ow _ => true
  | .od _ => true
  | .ot _ => true
  | _ => false
@[simp] def keyS : Option SD → Option Key
  | some (.fr d) => keyD d
  | some (.fu d) => keyD d
  | _ => none
@[simp] def fOf (c n : Str) : Option SD → Option (Option Nat × List (Str × OD) × OD)
  | some (.ob t (.ins c' fs)) => if c' = c then (fs.lookup n).map fun o => (t, fs, o) else none
  | _ => none
@[simp] def putL (c n : Str) (i : Nat) (k : Key) (d : D) (Γ : Ev) : Option (Option Nat × List (Str × OD) × OD) → R Unit
  | some (t, fs, .od l) => if l.length < sizeLine then .ok () (Γ.set i (.ob t (.ins c (putO n (.od (dputK l k d)) fs)))) else .bad
  | _ => .bad
@[simp] def optK (o : Option Key) (k : Key → R Unit) : R Unit := match o with
  | some x => k x
  | none => .bad
@[simp] def sFPut (c n : Str) (i j : Nat) (fv : SE) (Γ : Ev) : R Fl := (fv Γ).bind fun av Γ1 => optD (frV av) (fun d Γ1 => nxU (optK (keyS Γ1[j]?) fun k => putL c n i k d Γ1 (fOf c n Γ1[i]?))) Γ1
def dropL (l : List (Key × D)) (k : Key) : List (Key × D) := l.filter fun kv => decide (kv.1 ≠ k)
@[simp] def popE (c n : Str) (i : Nat) (k : Key) (Γ : Ev) : Option (Option Nat × List (Str × OD) × OD) → R AV
  | some (t, fs, .od l) => (match dgetK l k with
    | some d => .ok (.d d) (Γ.set i (.ob t (.ins c (putO n (.od (dropL l k)) fs))))
    | none => .bad)
  | _ => .bad
@[simp] def optKE (o : Option Key) (k : Key → R AV) : R AV := match o with
  | some x => k x
  | none => .bad
@[simp] def sFPop (c n : Str) (i j : Nat) (Γ : Ev) : R AV := optKE (keyS Γ[j]?) fun k => popE c n i k Γ (fOf c n Γ[i]?)
@[simp] def appE (c n : Str) (i : Nat) (d : D) (Γ : Ev) : Option (Option Nat × List (Str × OD) × OD) → R AV
  | some (t, fs, .ow l) => if l.length < 1000000 then .ok (.d .non) (Γ.set i (.ob t (.ins c (putO n (.ow (l ++ [d])) fs)))) else .bad
  | _ => .bad
@[simp] def appR (c n : Str) (i : Nat) (Γ : Ev) : R (List AV) → R AV
  | .ok [av] _ => if safeV av = true then (match frV av with
    | some d => appE c n i d Γ (fOf c n Γ[i]?)
    | none => .bad) else .bad
  | _ => .bad
@[simp] def sFApp (c n : Str) (i : Nat) (fs : SA) (Γ : Ev) : R AV := match frzS Γ[i]? with
  | some y => if safeO i Γ = true then appR c n i Γ (fs (Γ.set i (.fx y))) else .bad
  | none => .bad
@[simp] def popLE (c n : Str) (i : Nat) (Γ : Ev) : Option (Option Nat × List (Str × OD) × OD) → R AV
  | some (t, fs, .ow l) => (match l.getLast? with
    | some d => .ok (.d d) (Γ.set i (.ob t (.ins c (putO n (.ow l.dropLast) fs))))
    | none => .bad)
  | _ => .bad
@[simp] def sFPopL (c n : Str) (i : Nat) (Γ : Ev) : R AV := popLE c n i Γ (fOf c n Γ[i]?)
@[simp] def odV : AV → Option OD
  | .d x => some (.fr x)
  | .u x => some (.fr x)
  | .n l => some (.ow l)
  | _ => none
@[simp] def setFS (c n : Str) (i : Nat) (o : OD) (Γ : Ev) : Option SD → R Fl
  | some (.ob t (.ins c' fs)) => if c' = c ∧ (fs.any fun p => p.1 == n) = false ∧ fs.length < 900 then .ok .nx (Γ.set i (.ob t (.ins c (fs ++ [(n, o)])))) else .bad
  | _ => .bad
@[simp] def optO (o : Option OD) (k : OD → R Fl) : R Fl := match o with
  | some x => k x
  | none => .bad
@[simp] def sFSet (c n : Str) (i : Nat) (fe : SE) (Γ : Ev) : R Fl := (fe Γ).bind fun av Γ1 => optO (odV av) fun o => setFS c n i o Γ1 Γ1[i]?
@[simp] def sFNewK (c n : Str) (i : Nat) (Γ : Ev) : R Fl := setFS c n i (.od []) Γ Γ[i]?
section
variable {C : Ct} {io : IO} {σ σ' : St} {F F' H H' : Hp} {Γ Γ' : Ev} {i : Nat} {t : Option Nat}
theorem Fp.leaf {b : Addr} {fp : List Addr} : ∀ {o : OD}, o.lf = true → (Fp H o (.ref b) fp ↔ fp = [b])
  | .ow _, _ => ⟨fun ⟨a, e, h⟩ => by cases e; exact h, fun h => ⟨b, rfl, h⟩⟩
  | .od _, _ => ⟨fun ⟨a, e, h⟩ => by cases e; exact h, fun h => ⟨b, rfl, h⟩⟩
  | .ot _, _ => ⟨fun ⟨a, e, h⟩ => by cases e; exact h, fun h => ⟨b, rfl, h⟩⟩
theorem Owtf.put {b : Addr} {u : HO} {n : Str} {o1 o2 : OD} (l1 : o1.lf = true) (l2 : o2.lf = true) (hn : Owt C F (L2.upd H b u) o2 (.ref b)) : ∀ {fs : List (Str × OD)} {vs : List (Str × V)} {fp : List Addr}, Owtf C F H fs vs → Fpf H fs vs fp → fp.Nodup → fs.lookup n = some o1 → vs.lookup n = some (.ref b) →
    Owtf C F (L2.upd H b u) (putO n o2 fs) vs ∧ Fpf (L2.upd H b u) (putO n o2 fs) vs fp
  | [], _, _, _, _, _, h, _ => nomatch h
  | (m, p) :: fs, _, _, ⟨x, r, e1, k1, k2⟩, ⟨y, q, f, g, e2, p1, p2, e3⟩, nd, h, hv => by
    rw [e1] at e2; cases e2
    subst e1
    rw [e3, List.nodup_append] at nd
    rw [List.lookup_cons] at h hv
    by_cases e : m = n
    · have w : (n == m) = true := by rw [e]; exact beq_self_eq_true n
      rw [w] at h hv
      cases h
      cases hv
      rw [Fp.leaf l1] at p1
      have ag : ∀ c ∈ g, L2.upd H b u c = H c := fun c hc => upd_ne fun z => nd.2.2 b (by rw [p1]; exact List.mem_singleton.mpr rfl) c hc z.symm
      rw [putO_cons, if_pos e]
      exact ⟨⟨_, r, rfl, hn, Owtf.agree ag p2 k2⟩, ⟨_, r, f, g, rfl, (Fp.leaf l2).mpr p1, Fpf.agree ag p2, e3⟩⟩
    · have w : (n == m) = false := beq_eq_false_iff_ne.mpr fun c => e c.symm
      rw [w] at h hv
      rw [putO_cons, if_neg e]
      obtain ⟨v, gg, z1, z2, z3, z4⟩ := Owtf.get k2 p2 h
      have hv : List.lookup n r = some (.ref b) := hv
      rw [hv] at z1; cases z1
      rw [Fp.leaf l1] at z3
      have hb : b ∈ g := z4 b (by rw [z3]; exact List.mem_singleton.mpr rfl)
      have ag : ∀ c ∈ f, L2.upd H b u c = H c := fun c hc => upd_ne fun z => nd.2.2 c hc b hb z
      obtain ⟨a1, a2⟩ := Owtf.put l1 l2 hn k2 p2 nd.2.1 h hv
      exact ⟨⟨x, r, rfl, Owt.agree ag p1 k1, a1⟩, ⟨x, r, f, g, rfl, Fp.agree ag p1, a2, e3⟩⟩
theorem Owtf.len : ∀ {fs : List (Str × OD)} {vs : List (Str × V)}, Owtf C F H fs vs → vs.length = fs.length
  | [], _, q => by
    have q : _ = [] := q
    rw [q]; rfl
  | (m, p) :: fs, _, ⟨x, r, e1, k1, k2⟩ => by rw [e1, List.length_cons, List.length_cons, Owtf.len k2]
variable {σ0 : St} {F0 H0 : Hp} {Γ0 : Ev}
end
end Bx
end
end

section
set_option Elab.async false
set_option linter.all false
set_option maxRecDepth 100000
set_option maxHeartbeats 4000000
set_option autoImplicit false
noncomputable section
namespace Bx
open PySem PySem.Spec PyProof.Rows L2
section
variable {C : Ct} {io : IO} {σ : St} {F H : Hp} {Γ : Ev}
theorem RepKv.drop {k : Key} : ∀ {l : List (Key × D)} {kvs : List (Key × V)}, RepKv C F l kvs → RepKv C F (dropL l k) (dropK kvs k)
  | [], _, h => by
    have h : _ = [] := h
    rw [h]
    exact rfl
  | (m, d) :: l, _, ⟨x, r, e, a, b⟩ => by
    subst e
    have ih := RepKv.drop (k := k) b
    unfold dropL dropK at ih ⊢
    rw [List.filter_cons, List.filter_cons]
    by_cases h : m ≠ k
    · rw [if_pos (decide_eq_true h), if_pos (decide_eq_true h)]
      exact ⟨x, _, rfl, a, ih⟩
    · rw [if_neg (by simpa using h), if_neg (by simpa using h)]
      exact ih
end
end Bx
end
end

section
set_option Elab.async false
set_option linter.all false
set_option maxRecDepth 100000
set_option maxHeartbeats 4000000
set_option autoImplicit false
noncomputable section
namespace Bx
open PySem PySem.Spec PyProof.Rows L2
def isIns (c mn : Str) : Option SD → Bool
  | some (.ob _ (.ins c' fs)) => decide (c' = c) && !(fs.any fun p => p.1 == mn)
  | some (.fx (.o c' fs)) => decide (c' = c) && !(fs.any fun p => p.1 == mn)
  | _ => false
@[simp] def sMethI (c mn : Str) (m : Ev → FR) (ios : List Nat) (i : Nat) (fs : SA) (Γ : Ev) : R AV := if isIns c mn Γ[i]? = true then sCall m ios (sCons (sVar i) fs) Γ else .bad
@[simp] def mkEnd (i : Nat) (Γ : Ev) : Option SD → FR → R Fl
  | some sd, .ok (.d .non) (.ob (some 0) o :: _) => if sd.tag = none then .ok .nx (Γ.set i (.ob none o)) else .bad
  | _, _ => .bad
@[simp] def optLF (o : Option (List D)) (k : List D → R Fl) : R Fl := match o with
  | some l => k l
  | none => .bad
@[simp] def sMake (c : Str) (m : Ev → FR) (i : Nat) (fs : SA) (Γ : Ev) : R Fl := (fs Γ).bind fun avs Γ1 => optLF (ds avs) fun l => mkEnd i Γ1 Γ1[i]? (m (.ob (some 0) (.ins c []) :: l.map SD.fr))
section
variable {X : Cx} {W : XW} {k : Nat} {f C : Addr} {fd : FuncData} {ps : List Str} {x mn : Str} {p pos apos : Pos} {e o : Expr} {es : List Expr} {fs : SA} {m : Ev → FR} {sp : Sp} {E : St → XK} {ta : TE} {t : TA} {c : Str} {i : Nat}
theorem Owtf.any {C : Ct} {F H : Hp} : ∀ {fs : List (Str × OD)} {vs : List (Str × V)}, Owtf C F H fs vs → (vs.any fun p => p.1 == mn) = fs.any fun p => p.1 == mn
  | [], _, q => by
    have q : _ = [] := q
    rw [q]; rfl
  | (n, o) :: fs, _, ⟨x, r, e1, k1, k2⟩ => by rw [e1, List.any_cons, List.any_cons, Owtf.any k2]
theorem RepF.any {C : Ct} {F : Hp} : ∀ {fs : List (Str × D)} {vs : List (Str × V)}, RepF C F fs vs → (vs.any fun p => p.1 == mn) = fs.any fun p => p.1 == mn
  | [], _, q => by
    have q : _ = [] := q
    rw [q]; rfl
  | (n, o) :: fs, _, ⟨x, r, e1, k1, k2⟩ => by rw [e1, List.any_cons, List.any_cons, RepF.any k2]
end
end Bx
end
end

section
set_option Elab.async false
set_option linter.all false
set_option maxRecDepth 100000
set_option maxHeartbeats 4000000
set_option autoImplicit false
noncomputable section
namespace Bx
open PySem PySem.Spec PyProof.Rows L2
def ltS (a b : Str) : Bool := ltCps a.cps.toList b.cps.toList
def leS (a b : Str) : Bool := !ltS b a
def srtS (l : List Str) : List Str := l.mergeSort leS
def keysT : List (Key × Bx.D) → Option (List Str)
  | [] => some []
  | (.inr i, _) :: r => (keysT r).map (i :: ·)
  | _ => none
@[simp] def sortedKS : List Bx.D → Option Rs
  | [.dct l] => (keysT l).bind fun ks => if ks.length < 64 then some (.n ((srtS ks).map Bx.D.str)) else none
  | _ => none
def signsD (x : Str) : List Bx.D := x.cps.toList.map fun c => Bx.D.str ⟨#[c]⟩
@[simp] def listS : List Bx.D → Option Rs
  | [.str x] => if x.cps.size ≤ 1000 then some (.n (signsD x)) else none
  | _ => none
end Bx
end
end

section
set_option Elab.async false
set_option linter.all false
set_option maxRecDepth 100000
set_option maxHeartbeats 4000000
set_option autoImplicit false
noncomputable section
namespace Bx
open PySem PySem.Spec PyProof.Rows L2
@[simp] def popD1 (i : Nat) (k : Key) (Γ : Ev) : Option SD → R AV
  | some (.od t l) => (match dgetK l k with
    | some d => .ok (.d d) (Γ.set i (.od t (dropL l k)))
    | none => .bad)
  | _ => .bad
@[simp] def sDPop1 (i j : Nat) (Γ : Ev) : R AV := optKE (keyS Γ[j]?) fun k => popD1 i k Γ Γ[i]?
@[simp] def popD2 (i : Nat) (k : Key) (Γ : Ev) : Option SD → R AV
  | some (.od t l) => (match dgetK l k with
    | some d => .ok (.d d) (Γ.set i (.od t (dropL l k)))
    | none => .ok (.d .non) Γ)
  | _ => .bad
@[simp] def sDPop2 (i j : Nat) (Γ : Ev) : R AV := optKE (keyS Γ[j]?) fun k => popD2 i k Γ Γ[i]?
def strsD : List Bx.D → Option (List Str)
  | [] => some []
  | .str x :: r => (strsD r).map (x :: ·)
  | _ => none
@[simp] def joinD (z : Str) : Bx.D → Option Rs
  | .lst l => (strsD l).bind fun ys => if (ys.map (·.length)).sum + ys.length * z.length ≤ 16777216 then some (.d (.str (Txt.join z ys))) else none
  | _ => none
@[simp] def sJoin (z : Str) (f : SE) (Γ : Ev) : R AV := (f Γ).bind fun av Γ' => opt ((rd Γ' av).bind (joinD z)) Γ'
@[simp] def mulS : Bx.D → Bx.D → Option Rs
  | .str x, .int k => if 0 ≤ k ∧ k ≤ 1000 ∧ x.length ≤ 16 then some (.d (.str (Txt.mul x k))) else none
  | _, _ => none
@[simp] def neK0 : Bx.D → Bx.D → Option Bool
  | .dct l, .dct [] => some (!l.isEmpty)
  | _, _ => none
end Bx
end
end

section
set_option Elab.async false
set_option linter.all false
set_option maxRecDepth 100000
set_option maxHeartbeats 4000000
set_option autoImplicit false
noncomputable section
namespace Bx
open PySem PySem.Spec PyProof.Rows L2
@[simp] def tmpE (Γ : Ev) : FR → R AV
  | .ok av o => if (safeV av = true ∧ o.all safeS = true) ∧ isS av = false then .ok av Γ else .bad
  | _ => .bad
@[simp] def tmpO (m : Ev → FR) (Γ : Ev) : Option FX → R AV
  | some y => tmpE Γ (m [.fx y])
  | none => .bad
@[simp] def tmpI (c mn : Str) (m : Ev → FR) (Γ : Ev) : FR → R AV
  | .ok (.d .non) (.ob (some 0) o :: _) => if isIns c mn (some (.ob none o)) = true then tmpO m Γ (frzO o) else .bad
  | _ => .bad
@[simp] def optLX (o : Option (List D)) (k : List D → R AV) : R AV := match o with
  | some l => k l
  | none => .bad
@[simp] def sTmp (c mn : Str) (mi m : Ev → FR) (fs : SA) (Γ : Ev) : R AV := (fs Γ).bind fun avs Γ1 => optLX (ds avs) fun l => tmpI c mn m Γ1 (mi (.ob (some 0) (.ins c []) :: l.map SD.fr))
end Bx
end
end

section
set_option Elab.async false
set_option linter.all false
set_option maxRecDepth 100000
set_option maxHeartbeats 4000000
set_option autoImplicit false
noncomputable section
namespace Bx
open PySem PySem.Spec PyProof.Rows L2
@[simp] def hideS : SD → SD
  | .fr d => .fr d
  | .fu d => .fu d
  | .fx x => .fx x
  | _ => .no
@[simp] def hideE (Γ : Ev) : Ev := Γ.map hideS
@[simp] def uthE (i : Nat) (Γ : Ev) : Option SD → R Fl
  | some sd => if sd.tag = none then .ok .nx (Γ.set i .no) else .bad
  | none => .bad
@[simp] def uthD (i : Nat) (Γ : Ev) : Option (List D × Rs) → R Fl
  | some _ => uthE i Γ Γ[i]?
  | none => .bad
@[simp] def uthC (i : Nat) (g : List D → List D → Option (List D × Rs)) (l : List D) (Γ : Ev) : R (List AV) → R Fl
  | .ok avs _ => (match ds avs with
    | some as => uthD i Γ (g l as)
    | none => .bad)
  | _ => .bad
@[simp] def uthB (i : Nat) (g : List D → List D → Option (List D × Rs)) (fs : SA) (l : List D) (Γ : Ev) : R Bool → R Fl
  | .ok false Γ6 => uthC i g l Γ (fs Γ6)
  | _ => .bad
@[simp] def uthL (i : Nat) (g : List D → List D → Option (List D × Rs)) (fc : SB) (fs : SA) (es : List D) (Γ Γ4 : Ev) : Option D → R Fl
  | some (.lst l) => (match Γ4[i]? with
    | some sd => if sd.tag = none then uthB i g fs l Γ (fc (Γ4.set i (.fr (.tup es)))) else .bad
    | none => .bad)
  | _ => .bad
@[simp] def uthA (i k : Nat) (g : List D → List D → Option (List D × Rs)) (fc : SB) (fs : SA) (Γ : Ev) : R AV → R Fl
  | .ok (.u (.tup es)) Γ4 => uthL i g fc fs es Γ Γ4 es[k]?
  | _ => .bad
@[simp] def sUTh (i k : Nat) (g : List D → List D → Option (List D × Rs)) (f : SE) (fc : SB) (fs : SA) (Γ : Ev) : R Fl := uthA i k g fc fs Γ (f (hideE Γ))
@[simp] def uthJ (j : Nat) (Γ : Ev) (k : Ev → R Fl) : Option SD → R Fl
  | some (.ob _ o) => (match frzO o with
    | some y => k (hideE (Γ.set j (.fx y)))
    | none => .bad)
  | _ => .bad
@[simp] def sUThJ (j i k : Nat) (g : List D → List D → Option (List D × Rs)) (f : SE) (fc : SB) (fs : SA) (Γ : Ev) : R Fl := uthJ j Γ (fun Γh => uthA i k g fc fs Γ (f Γh)) Γ[j]?
end Bx
end
end

section
set_option Elab.async false
set_option linter.all false
set_option maxRecDepth 100000
set_option maxHeartbeats 4000000
set_option autoImplicit false
noncomputable section
namespace Bx
open PySem PySem.Spec PyProof.Rows L2
@[simp] def callV (tab : List (Str × (Ev → FR))) (fs : SA) (Γ : Ev) : AV → R AV
  | .d (.fn n) => (match tab.lookup n with
    | some m => sCall m [] fs Γ
    | none => .bad)
  | _ => .bad
@[simp] def sCallV (tab : List (Str × (Ev → FR))) (ff : SE) (fs : SA) (Γ : Ev) : R AV := (ff Γ).bind fun a Γ1 => callV tab fs Γ1 a
@[simp] def splitD (a : Str) : Bx.D → Option Rs
  | .str b => if (b.length == 0) = false ∧ a.length ≤ 1000000 then some (.n ((Txt.split a b).map Bx.D.str)) else none
  | _ => none
@[simp] def splitA (g : SE) (Γ : Ev) : AV → R AV
  | .d (.str x) => (g Γ).bind fun b Γ2 => opt ((rd Γ2 b).bind (splitD x)) Γ2
  | _ => .bad
@[simp] def sSplit (f g : SE) (Γ : Ev) : R AV := (f Γ).bind fun a Γ1 => splitA g Γ1 a
@[simp] def intS : List Bx.D → Option Rs
  | [.str x] => (PySem.intText? x).bind fun n => if x.length ≤ 640 then some (.d (.int n)) else none
  | _ => none
def Tab (P : Program) (w : World) (K : PySem.W.Frag) (mg : Str → Option Value) (base : Heap) (k : Nat) (tab : List (Str × (Ev → FR))) : Prop := ∀ n m, tab.lookup n = some m → CallD P w K mg base k n m
section
variable {P : Program} {w : World} {K : PySem.W.Frag} {mg : Str → Option Value} {base : Heap}
theorem Tab.nil {k : Nat} : Tab P w K mg base k [] := fun n m h => nomatch h
theorem Tab.cons {j k : Nat} {x : Str} {m : Ev → FR} {tab : List (Str × (Ev → FR))} (c : CallD P w K mg base j x m) (t : Tab P w K mg base k tab) (hj : j ≤ k := by decide) : Tab P w K mg base k ((x, m) :: tab) := fun n m' h => by
  rw [List.lookup_cons] at h
  cases e : n == x with
  | true =>
    rw [e] at h
    cases h
    have e : n = x := beq_iff_eq.mp e
    rw [e]
    exact c.mono hj
  | false => rw [e] at h; exact t n m' h
end
end Bx
end
end

section
set_option Elab.async false
set_option linter.all false
set_option maxRecDepth 100000
set_option maxHeartbeats 4000000
set_option autoImplicit false
noncomputable section
namespace Bx
open PySem PySem.Spec PyProof.Rows L2
@[simp] def setXV (i : Nat) (Γ : Ev) : AV → R Fl
  | .n l => ownV i Γ (.n l)
  | .u x => setUV i Γ (.u x)
  | .d x => nxU (putS x i Γ Γ[i]?)
  | .s _ => .bad
@[simp] def sSetX (f : SE) (i : Nat) (Γ : Ev) : R Fl := (f Γ).bind fun av Γ' => setXV i Γ' av
end Bx
end
end

section
set_option Elab.async false
set_option linter.all false
set_option maxRecDepth 100000
set_option maxHeartbeats 4000000
set_option autoImplicit false
noncomputable section
namespace Bx
open PySem PySem.Spec PyProof.Rows L2
@[simp] def mktE (Γ : Ev) : FR → R Fl
  | .ok (.d .non) (.ob (some 0) _ :: _) => .ok .nx Γ
  | .exc c (.ob (some 0) _ :: _) => .exc c Γ
  | _ => .bad
@[simp] def sMkT (c : Str) (m : Ev → FR) (fs : SA) (Γ : Ev) : R Fl := (fs Γ).bind fun avs Γ1 => optLF (ds avs) fun l => mktE Γ1 (m (.ob (some 0) (.ins c []) :: l.map SD.fr))
end Bx
end
end

section
set_option Elab.async false
set_option linter.all false
set_option maxRecDepth 100000
set_option maxHeartbeats 4000000
set_option autoImplicit false
noncomputable section
namespace Bx
open PySem PySem.Spec PyProof.Rows L2
@[simp] def optLU (o : Option (List D)) (Γ : Ev) : R AV := match o with
  | some l => if l.length ≤ 1000 then .ok (.u (.lst l)) Γ else .bad
  | none => .bad
@[simp] def sLstU (fs : SA) (Γ : Ev) : R AV := (fs Γ).bind fun avs Γ' => optLU (us avs) Γ'
end Bx
end
end

section
set_option Elab.async false
set_option linter.all false
set_option maxRecDepth 100000
set_option maxHeartbeats 4000000
set_option autoImplicit false
noncomputable section
namespace Bx
open PySem PySem.Spec PyProof.Rows L2
@[simp] def dis1 (k : Key) (av : AV) (Γ : Ev) : R AV := match av with
  | .d x => .ok (.d (.dct [(k, x)])) Γ
  | _ => .bad
@[simp] def sDis1 (i : Int) (f : SE) (Γ : Ev) : R AV := (f Γ).bind (dis1 (.inl i))
end Bx
end
end

section
set_option Elab.async false
set_option linter.all false
set_option maxRecDepth 100000
set_option maxHeartbeats 4000000
set_option autoImplicit false
noncomputable section
namespace Bx
open PySem PySem.Spec PyProof.Rows L2
mutual
/-- data as (part of) a key -/
@[simp] def nkD : D → Option NK
  | .non => some .none
  | .int i => some (.num i)
  | .str x => some (.text x)
  | .tup l => (nkDs l).map .tup
  | _ => none
@[simp] def nkDs : List D → Option (List NK)
  | [] => some []
  | d :: r => (nkD d).bind fun k => (nkDs r).map fun ks => k :: ks
end
@[simp] theorem ndep_none : PySem.NestedKey.depth .none = 0 := rfl
@[simp] theorem ndep_num (i : Int) : PySem.NestedKey.depth (.num i) = 0 := rfl
@[simp] theorem ndep_text (x : Str) : PySem.NestedKey.depth (.text x) = 0 := rfl
@[simp] theorem ndep_tup (ks : List NK) : PySem.NestedKey.depth (.tup ks) = PySem.NestedKey.depthAll ks + 1 := by rw [PySem.NestedKey.depth]
@[simp] theorem ndep_nil : PySem.NestedKey.depthAll [] = 0 := rfl
@[simp] theorem ndep_cons (k : NK) (ks : List NK) : PySem.NestedKey.depthAll (k :: ks) = max k.depth (PySem.NestedKey.depthAll ks) := by rw [PySem.NestedKey.depthAll]
@[simp] def nkT (ks : List NK) : Option NK := if PySem.NestedKey.depthAll ks ≤ 7 then some (.tup ks) else none
@[simp] def keyQ : D → Option NK
  | .tup l => (nkDs l).bind nkT
  | _ => none
def dgetQ (l : List (NK × D)) (k : NK) : Option D := (l.find? fun kv => decide (kv.1 = k)).map (·.2)
def dputQ (l : List (NK × D)) (k : NK) (d : D) : List (NK × D) := if (dgetQ l k).isSome = true then l.map (fun kv => if kv.1 = k then (kv.1, d) else kv) else l ++ [(k, d)]
def ddropQ (l : List (NK × D)) (k : NK) : List (NK × D) := l.filter fun kv => decide (kv.1 ≠ k)
@[simp] def ixQ : D → D → Option Rs
  | .dtt l, k => (keyQ k).bind fun k => (dgetQ l k).map Rs.d
  | _, _ => none
@[simp] def inQ : D → D → Option Bool
  | k, .dtt l => (keyQ k).map fun k => (dgetQ l k).isSome
  | _, _ => none
@[simp] def notinQ : D → D → Option Bool := fun a b => (inQ a b).map (!·)
@[simp] def dttD : D → Option (List (NK × D))
  | .dtt l => some l
  | _ => none
def getE (es : List (NK × Addr × V)) (k : NK) : Option V := (es.find? fun e => decide (e.1 = k)).map (·.2.2)
def putE (es : List (NK × Addr × V)) (k : NK) (b : Addr) (v : V) : List (NK × Addr × V) := if (getE es k).isSome = true then es.map (fun e => if e.1 = k then (e.1, e.2.1, v) else e) else es ++ [(k, b, v)]
def dropE (es : List (NK × Addr × V)) (k : NK) : List (NK × Addr × V) := es.filter fun e => decide (e.1 ≠ k)
theorem RepTk.get {C : Ct} {F : Hp} (k : NK) : ∀ {l : List (NK × D)} {es : List (NK × Addr × V)}, RepTk C F l es → (dgetQ l k = none ∧ getE es k = none) ∨ ∃ d v, dgetQ l k = some d ∧ getE es k = some v ∧ Rep C F d v
  | [], _, h => by
    have h : _ = [] := h
    rw [h]
    exact .inl ⟨rfl, rfl⟩
  | (j, d) :: l, _, ⟨b, x, r, e, _, _, h1, h2⟩ => by
    rw [e]
    by_cases q : j = k
    · exact .inr ⟨d, x, by simp [dgetQ, q], by simp [getE, q], h1⟩
    · have ih := RepTk.get k h2
      have e1 : dgetQ ((j, d) :: l) k = dgetQ l k := by simp [dgetQ, q]
      have e2 : getE ((j, b, x) :: r) k = getE r k := by simp [getE, q]
      rw [e1, e2]
      exact ih
theorem RepTk.isSome {C : Ct} {F : Hp} {k : NK} {l : List (NK × D)} {es : List (NK × Addr × V)} (h : RepTk C F l es) : (dgetQ l k).isSome = (getE es k).isSome := by
  rcases h.get k with ⟨a, b⟩ | ⟨d, v, a, b, _⟩ <;> rw [a, b] <;> rfl
theorem RepTk.length {C : Ct} {F : Hp} : ∀ {l : List (NK × D)} {es : List (NK × Addr × V)}, RepTk C F l es → es.length = l.length
  | [], _, h => by
    have h : _ = [] := h
    rw [h]
    rfl
  | (j, d') :: l, _, ⟨b, x, r, e, _, _, h1, h2⟩ => by rw [e, List.length_cons, List.length_cons, RepTk.length h2]
theorem RepTk.map {C : Ct} {F : Hp} {k : NK} {d : D} {v : V} (hv : Rep C F d v) : ∀ {l : List (NK × D)} {es : List (NK × Addr × V)}, RepTk C F l es → RepTk C F (l.map fun kv => if kv.1 = k then (kv.1, d) else kv) (es.map fun e => if e.1 = k then (e.1, e.2.1, v) else e)
  | [], _, h => by
    have h : _ = [] := h
    rw [h]
    rfl
  | (j, d') :: l, _, ⟨b, x, r, e, n, z, h1, h2⟩ => by
    rw [e, List.map_cons, List.map_cons]
    by_cases q : j = k
    · simp only [q, if_true]
      rw [q] at n z
      exact ⟨b, v, _, rfl, n, z, hv, RepTk.map hv h2⟩
    · simp only [q, if_false]
      exact ⟨b, x, _, rfl, n, z, h1, RepTk.map hv h2⟩
theorem RepTk.snoc {C : Ct} {F : Hp} {k : NK} {b : Addr} {d : D} {v : V} (hk : NkV C F k (.ref b)) (hz : k.depth ≤ 8) (hv : Rep C F d v) : ∀ {l : List (NK × D)} {es : List (NK × Addr × V)}, RepTk C F l es → RepTk C F (l ++ [(k, d)]) (es ++ [(k, b, v)])
  | [], _, h => by
    have h : _ = [] := h
    rw [h]
    exact ⟨b, v, [], rfl, hk, hz, hv, rfl⟩
  | (j, d') :: l, _, ⟨c, x, r, e, n, z, h1, h2⟩ => by
    rw [e]
    exact ⟨c, x, _, rfl, n, z, h1, RepTk.snoc hk hz hv h2⟩
theorem RepTk.put {C : Ct} {F : Hp} {k : NK} {b : Addr} {d : D} {v : V} {l : List (NK × D)} {es : List (NK × Addr × V)} (h : RepTk C F l es) (hk : NkV C F k (.ref b)) (hz : k.depth ≤ 8) (hv : Rep C F d v) : RepTk C F (dputQ l k d) (putE es k b v) := by
  unfold dputQ putE
  rw [h.isSome]
  split
  · exact h.map hv
  · exact h.snoc hk hz hv
theorem RepTk.drop {C : Ct} {F : Hp} {k : NK} : ∀ {l : List (NK × D)} {es : List (NK × Addr × V)}, RepTk C F l es → RepTk C F (ddropQ l k) (dropE es k)
  | [], _, h => by
    have h : _ = [] := h
    rw [h]
    rfl
  | (j, d') :: l, _, ⟨c, x, r, e, n, z, h1, h2⟩ => by
    rw [e]
    have ih := RepTk.drop (k := k) h2
    by_cases q : j = k
    · have e1 : ddropQ ((j, d') :: l) k = ddropQ l k := by simp [ddropQ, q]
      have e2 : dropE ((j, c, x) :: r) k = dropE r k := by simp [dropE, q]
      rw [e1, e2]
      exact ih
    · have e1 : ddropQ ((j, d') :: l) k = (j, d') :: ddropQ l k := by simp [ddropQ, q]
      have e2 : dropE ((j, c, x) :: r) k = (j, c, x) :: dropE r k := by simp [dropE, q]
      rw [e1, e2]
      exact ⟨c, x, _, rfl, n, z, h1, ih⟩
def KeysE (C : Ct) (H : Hp) (es : List (NK × Addr × V)) : Prop := ∀ e ∈ es, NkV C H e.1 (.ref e.2.1) ∧ e.1.depth ≤ 8
theorem RepTk.keysE {C : Ct} {F : Hp} : ∀ {l : List (NK × D)} {es : List (NK × Addr × V)}, RepTk C F l es → KeysE C F es
  | [], _, h => by
    have h : _ = [] := h
    rw [h]
    intro e he
    cases he
  | (j, d') :: l, _, ⟨c, x, r, e, n, z, h1, h2⟩ => by
    rw [e]
    intro y hy
    rcases List.mem_cons.mp hy with q | q
    · rw [q]; exact ⟨n, z⟩
    · exact RepTk.keysE h2 y q
theorem KeysE.mono {C : Ct} {F H : Hp} {es : List (NK × Addr × V)} (l : le F H) (h : KeysE C F es) : KeysE C H es := fun e he => ⟨(h e he).1.mono l, (h e he).2⟩
theorem RawV.val {es : List (NK × Addr × V)} {xs : List (NK × Addr × Value)} (h : RawV es xs) (k : NK) : RelO (getE es k) ((atKey xs k).map (·.2)) := by
  unfold RawV at h
  induction h with
  | nil => trivial
  | @cons p q ps qs hq t ih =>
    by_cases e : p.1 = k
    · have e1 : getE (p :: ps) k = some p.2.2 := by simp [getE, e]
      have e2 : (atKey (q :: qs) k).map (·.2) = some q.2.2 := by simp [atKey, hq.1 ▸ e]
      rw [e1, e2]
      exact hq.2.2
    · have e1 : getE (p :: ps) k = getE ps k := by simp [getE, e]
      have e2 : (atKey (q :: qs) k).map (·.2) = (atKey qs k).map (·.2) := by simp [atKey, hq.1 ▸ e]
      rw [e1, e2]
      exact ih
theorem RawV.repl {es : List (NK × Addr × V)} {xs : List (NK × Addr × Value)} {k : NK} {v : V} {u : Value} (hv : RelV v u) (h : RawV es xs) : RawV (es.map fun e => if e.1 = k then (e.1, e.2.1, v) else e) (xs.map (putAt k u)) := by
  unfold RawV at h
  induction h with
  | nil => exact .nil
  | @cons p q ps qs hq t ih =>
    rw [List.map_cons, List.map_cons]
    refine .cons ?_ ih
    unfold putAt
    by_cases e : p.1 = k
    · have e2 : q.1 = k := hq.1 ▸ e
      simp only [e, e2, if_true]
      exact ⟨trivial, hq.2.1, hv⟩
    · have e2 : ¬ q.1 = k := fun z => e (hq.1.trans z)
      simp only [e, e2, if_false]
      exact hq
theorem RawV.put {es : List (NK × Addr × V)} {xs : List (NK × Addr × Value)} {k : NK} {b : Addr} {v : V} {u : Value} (h : RawV es xs) (hv : RelV v u) : RawV (putE es k b v) (storedH xs k b u) := by
  have e : (getE es k).isSome = (atKey xs k).isSome := by rw [(h.val k).isSome_eq, Option.isSome_map]
  unfold putE storedH
  rw [e]
  by_cases q : (atKey xs k).isSome = true
  · rw [if_pos q, if_pos q]; exact h.repl hv
  · rw [if_neg q, if_neg q]; exact Paired.snoc h ⟨rfl, rfl, hv⟩
theorem RawV.drop {es : List (NK × Addr × V)} {xs : List (NK × Addr × Value)} {k : NK} (h : RawV es xs) : RawV (dropE es k) (withoutH xs k) := by
  unfold RawV at h
  induction h with
  | nil => exact .nil
  | @cons p q ps qs hq t ih =>
    by_cases e : p.1 = k
    · have e2 : q.1 = k := hq.1 ▸ e
      have e3 : dropE (p :: ps) k = dropE ps k := by simp [dropE, e]
      have e4 : withoutH (q :: qs) k = withoutH qs k := by simp [withoutH, e2]
      rw [e3, e4]
      exact ih
    · have e2 : ¬ q.1 = k := fun z => e (hq.1.trans z)
      have e3 : dropE (p :: ps) k = p :: dropE ps k := by simp [dropE, e]
      have e4 : withoutH (q :: qs) k = q :: withoutH qs k := by simp [withoutH, e2]
      rw [e3, e4]
      exact .cons hq ih
theorem RawV.length {es : List (NK × Addr × V)} {xs : List (NK × Addr × Value)} (h : RawV es xs) : es.length = xs.length := Paired.length h
theorem RawV.nil_iff {es : List (NK × Addr × V)} (h : RawV es []) : es = [] := by cases h; rfl
section
variable {X : Cx} {pins : List (Addr × Obj)} {σ : St} {H : Hp} {s : Shared} {a : Addr} {A : Around} {E : Value → Shared → Prop}
def QGet (C : Ct) (H : Hp) (a : Addr) (y : V) (r : Option V) : Prop := ∃ (es : RawE) (k : NK) (b : Addr), Rd H a (rawT C a es) ∧ KeysE C H es.2 ∧ y = .ref b ∧ NkV C H k (.ref b) ∧ k.depth ≤ 8 ∧ r = getE es.2 k
variable {y v d : V} {u r : Value} {o : Option V}
end
end Bx
end
end

section
set_option Elab.async false
set_option linter.all false
set_option maxRecDepth 100000
set_option maxHeartbeats 4000000
set_option autoImplicit false
noncomputable section
namespace Bx
open PySem PySem.Spec PyProof.Rows L2
@[simp] def isOt : Option SD → Bool
  | some (.ot _ _) => true
  | _ => false
@[simp] def putQL (i : Nat) (d : D) (Γ : Ev) (t : Option Nat) (l : List (NK × D)) : Option NK → R Unit
  | some k => if l.length < sizeLine then .ok () (Γ.set i (.ot t (dputQ l k d))) else .bad
  | none => .bad
@[simp] def putQS (i : Nat) (d : D) (k : Option NK) (Γ : Ev) : Option SD → R Unit
  | some (.ot t l) => putQL i d Γ t l k
  | _ => .bad
@[simp] def sPutQ (i : Nat) (fk fv : SE) (Γ : Ev) : R Fl := (fv Γ).bind fun av Γ1 => optD (frV av) (fun d Γ1 => if isOt Γ1[i]? = true then (fk Γ1).bind fun b Γ2 => nxU (putQS i d ((rd Γ2 b).bind keyQ) Γ2 Γ2[i]?) else .bad) Γ1
@[simp] def newQS (i : Nat) (Γ : Ev) : Option SD → R Fl
  | some sd => if sd.tag = none then .ok .nx (Γ.set i (.ot none [])) else .bad
  | none => .bad
@[simp] def sNewQ (i : Nat) (Γ : Ev) : R Fl := newQS i Γ Γ[i]?
@[simp] def get2EQ (l : List (NK × D)) (c : AV) (Γ : Ev) : Option NK → R AV
  | some k => (match dgetQ l k with
    | some d => .ok (.d d) Γ
    | none => (match frV c with
      | some d => .ok (.d d) Γ
      | none => .bad))
  | none => .bad
@[simp] def get2DQ (b c : AV) (Γ : Ev) : Option (List (NK × D)) → R AV
  | some l => get2EQ l c Γ ((rd Γ b).bind keyQ)
  | none => .bad
@[simp] def sGetQ (f fk fd : SE) (Γ : Ev) : R AV := (f Γ).bind fun a Γ1 => if ((rd Γ1 a).bind dttD).isSome = true then (fk Γ1).bind fun b Γ2 => (fd Γ2).bind fun c Γ3 => get2DQ b c Γ3 ((rd Γ3 a).bind dttD) else .bad
@[simp] def lenQ : List D → Option Rs
  | [.dtt l] => some (.d (.int l.length))
  | _ => none
theorem At.ot {C : Ct} {io : IO} {σ : St} {F H : Hp} {Γ : Ev} {i : Nat} {t : Option Nat} {l : List (NK × D)} (A : At C io σ F H Γ) (e : Γ[i]? = some (.ot t l)) : ∃ a es, σ[i]? = some (some (.ref a)) ∧ F a = none ∧ H a = some (rawT C a es) ∧ RepTk C F l es.2 ∧ OwnAt H Γ σ i a ∧ ∀ k, t = some k → io.adr k = some a := by
  obtain ⟨a, e1, e2, ⟨xs, e3, e4⟩, e5⟩ := A.slot i _ e
  exact ⟨a, xs, e1, e2, e3, e4, OwnAt.of e rfl e1, e5⟩
section
variable {X : Cx} {W : XW} {o e f : Expr} {st : Stmt} {pos p : Pos} {fo fk fd fv fe : SE}
theorem QGet.of {C : Ct} {F H : Hp} {a : Addr} {es : RawE} {l : List (NK × D)} {k : NK} {y : V} (l0 : le F H) (r1 : Rd H a (rawT C a es)) (r2 : RepTk C F l es.2) (hk : NkV C F k y) (hz : k.depth ≤ 8) {b : Addr} (hy : y = .ref b) : QGet C H a y (getE es.2 k) := by
  subst hy
  exact ⟨es, k, b, r1, r2.keysE.mono l0, rfl, hk.mono l0, hz, rfl⟩
end
end Bx
end
end

section
set_option Elab.async false
set_option linter.all false
set_option maxRecDepth 100000
set_option maxHeartbeats 4000000
set_option autoImplicit false
set_option backward.isDefEq.respectTransparency false
noncomputable section
namespace Bx
open PySem PySem.Spec PyProof.Rows L2
@[simp] def idxN (ks : List NK) (k : NK) : Option Rs := if k ∈ ks ∧ k.depth ≤ 8 then some (.d (.int (ks.idxOf k : Nat))) else none
@[simp] def idxQ : D → List D → Option Rs
  | .lst l, [x] => (nkDs l).bind fun ks => (nkD x).bind fun k => idxN ks k
  | _, _ => none
def keysQ (l : List (NK × D)) : List D := l.map fun kv => kD kv.1
@[simp] def listQ : List D → Option Rs
  | [.dtt l] => some (.n (keysQ l))
  | _ => none
@[simp] def sortedQ : List D → Option Rs
  | [.dtt l] => if srtOk (keysQ l) = true then some (.n (srtD (keysQ l))) else none
  | _ => none
theorem RepTk.keys {C : Ct} {F : Hp} : ∀ {l : List (NK × D)} {es : List (NK × Addr × V)}, RepTk C F l es → Reps C F (keysQ l) (es.map fun e => V.ref e.2.1)
  | [], _, h => by
    have h : _ = [] := h
    rw [h]
    rfl
  | (k, d) :: r, _, h => by
    obtain ⟨b, x, q, rfl, n, _, _, t⟩ := h
    exact ⟨_, _, rfl, n.rep, RepTk.keys t⟩
@[simp] def keysOfD : D → Option (List D)
  | .dtt l => some (keysQ l)
  | _ => none
@[simp] def iKeysQ (f : SE) (Γ : Ev) : R (List D) := (f Γ).bind fun av Γ' => optL ((frV av).bind keysOfD) Γ'
end Bx
end
end

section
set_option Elab.async false
set_option linter.all false
set_option maxRecDepth 100000
set_option maxHeartbeats 4000000
set_option autoImplicit false
noncomputable section
namespace Bx
open PySem PySem.Spec PyProof.Rows L2
@[simp] def keyQS : Option SD → Option NK
  | some (.fr d) => keyQ d
  | some (.fu d) => keyQ d
  | _ => none
@[simp] def new1QS (i : Nat) (b : Bool) (Γ : Ev) (k : Option NK) : Option SD → R Fl
  | some sd => if sd.tag = none then (match k with
    | some k => .ok .nx (Γ.set i (.ot none [(k, .bl b)]))
    | none => .bad) else .bad
  | none => .bad
@[simp] def sNew1Q (i j : Nat) (b : Bool) (Γ : Ev) : R Fl := new1QS i b Γ (keyQS Γ[j]?) Γ[i]?
@[simp] def sFNewQ (c n : Str) (i : Nat) (Γ : Ev) : R Fl := setFS c n i (.ot []) Γ Γ[i]?
@[simp] def putLQ (c n : Str) (i : Nat) (k : NK) (d : D) (Γ : Ev) : Option (Option Nat × List (Str × OD) × OD) → R Unit
  | some (t, fs, .ot l) => if l.length < sizeLine then .ok () (Γ.set i (.ob t (.ins c (putO n (.ot (dputQ l k d)) fs)))) else .bad
  | _ => .bad
@[simp] def keyP : Option SD → Option NK
  | some (.fr d) => nkD d
  | some (.fu d) => nkD d
  | _ => none
@[simp] def optQ (o : Option NK) (k : NK → R Unit) : R Unit := match o with
  | some x => k x
  | none => .bad
@[simp] def two (a b : Option NK) : Option NK := a.bind fun x => b.bind fun y => nkT [x, y]
@[simp] def sFPutQ2 (c n : Str) (i j1 j2 : Nat) (b : Bool) (Γ : Ev) : R Fl := nxU (optQ (two (keyP Γ[j1]?) (keyP Γ[j2]?)) fun k => putLQ c n i k (.bl b) Γ (fOf c n Γ[i]?))
@[simp] def frzIS (i : Nat) (Γ : Ev) : Option SD → R Fl
  | some (.ob none x) => (match frzO x with
    | some y => .ok .nx (Γ.set i (.fx y))
    | none => .bad)
  | _ => .bad
@[simp] def frzIR (i : Nat) : R Fl → R Fl
  | .ok .nx Γ => frzIS i Γ Γ[i]?
  | .ok _ _ => .bad
  | r => r
@[simp] def frzI (i : Nat) (s : SS) (Γ : Ev) : R Fl := frzIR i (s Γ)
@[simp] def popQL (i : Nat) (Γ : Ev) (t : Option Nat) (l : List (NK × D)) (k : NK) : R AV := match dgetQ l k with
  | some d => .ok (.d d) (Γ.set i (.ot t (ddropQ l k)))
  | none => .bad
@[simp] def popQS (i : Nat) (Γ : Ev) (k : Option NK) : Option SD → R AV
  | some (.ot t l) => (match k with
    | some k => popQL i Γ t l k
    | none => .bad)
  | _ => .bad
@[simp] def sPopQ (i : Nat) (fk : SE) (Γ : Ev) : R AV := if isOt Γ[i]? = true then (fk Γ).bind fun b Γ1 => popQS i Γ1 ((rd Γ1 b).bind keyQ) Γ1[i]? else .bad
section
variable {C : Ct} {io : IO} {σ : St} {F H : Hp} {Γ : Ev}
theorem Go.frzI {i : Nat} {x : OD} {y : FX} (A : At C io σ F H Γ) (e : Γ[i]? = some (.ob none x)) (hy : frzO x = some y) : Go C io σ F H Γ σ (lentF (OwnAt H Γ σ i) F H) H (Γ.set i (.fx y)) where
  ff := lendI_le A
  keep := fun _ _ h _ => h
  live := fun _ h => h
  new := fun b h1 h2 => by
    by_cases q : OwnAt H Γ σ i b
    · exact .inr ⟨i, q⟩
    · rw [lentF_no q] at h2; exact absurd h1 h2
  own := fun b ⟨j, q⟩ => .inl ⟨j, (OwnAt.setF rfl q).2⟩
  ln := rfl
  at_ := A.lendI e hy
end
end Bx
end
end

section
set_option Elab.async false
set_option linter.all false
set_option maxRecDepth 100000
set_option maxHeartbeats 4000000
set_option autoImplicit false
set_option backward.isDefEq.respectTransparency false
noncomputable section
namespace Bx
open PySem PySem.Spec PyProof.Rows L2
@[simp] def valsOfD : D → Option (List D)
  | .dtt l => some (l.map (·.2))
  | _ => none
@[simp] def iValsQ (f : SE) (Γ : Ev) : R (List D) := (f Γ).bind fun av Γ' => optL ((frV av).bind valsOfD) Γ'
theorem RepTk.vals {C : Ct} {F : Hp} : ∀ {l : List (NK × D)} {es : List (NK × Addr × V)}, RepTk C F l es → Reps C F (l.map (·.2)) (es.map fun e => e.2.2)
  | [], _, h => by
    have h : _ = [] := h
    rw [h]
    rfl
  | (k, d) :: r, _, h => by
    obtain ⟨b, x, q, rfl, n, _, v, t⟩ := h
    exact ⟨_, _, rfl, v, RepTk.vals t⟩
end Bx
end
end

section
set_option Elab.async false
set_option linter.all false
set_option maxRecDepth 100000
set_option maxHeartbeats 4000000
set_option autoImplicit false
set_option backward.isDefEq.respectTransparency false
noncomputable section
namespace Bx
open PySem PySem.Spec PyProof.Rows L2
@[simp] def neQ0 : D → D → Option Bool
  | .dtt l, .dct [] => some (!l.isEmpty)
  | _, _ => none
end Bx
end
end

section
set_option Elab.async false
set_option linter.all false
set_option maxRecDepth 100000
set_option maxHeartbeats 4000000
set_option autoImplicit false
noncomputable section
namespace Bx
open PySem PySem.Spec PyProof.Rows L2
@[simp] def setOO (i : Nat) (l m : List D) (Γ : Ev) : Option SD → R Fl
  | some sd => if sd.tag = none then .ok .nx (Γ.set i (.ob none (.ls [.ow l, .ow m]))) else .bad
  | none => .bad
@[simp] def setO2 (i : Nat) (l : List D) (Γ : Ev) : AV → R Fl
  | .n m => setOO i l m Γ Γ[i]?
  | _ => .bad
@[simp] def setO1 (g : SE) (i : Nat) (Γ : Ev) : AV → R Fl
  | .n l => (g Γ).bind fun b Γ2 => setO2 i l Γ2 b
  | _ => .bad
@[simp] def sSetOO (f g : SE) (i : Nat) (Γ : Ev) : R Fl := (f Γ).bind fun a Γ1 => setO1 g i Γ1 a
@[simp] def owL : List OD → Option (List (List D))
  | [] => some []
  | .ow l :: r => (owL r).map fun m => l :: m
  | _ => none
@[simp] def gO2 (ja jb : Nat) (l : List D) (e : D) (Γ : Ev) : Option SD → Option SD → R Unit
  | some s1, some s2 => if s1.tag = none ∧ s2.tag = none then .ok () ((Γ.set ja (.ow none l)).set jb (.fr e)) else .bad
  | _, _ => .bad
@[simp] def gO (ja jb : Nat) (d : D) (Γ : Ev) : R Unit := match d with
  | .tup [.lst l, e] => gO2 ja jb l e Γ Γ[ja]? Γ[jb]?
  | _ => .bad
@[simp] def zipO (ls : List (List D)) (ds : List D) : List D := List.zipWith (fun l e => .tup [.lst l, e]) ls ds
@[simp] def forOL (ja jb : Nat) (s : SS) (i : Nat) (ds : List D) (Γ : Ev) : Option (List (List D)) → R Fl
  | some ls => if ls.length = ds.length then forF (turnF (gO ja jb) s) (zipO ls ds) ((soft Γ).set i .no) else .bad
  | none => .bad
@[simp] def forOS (ja jb : Nat) (s : SS) (i : Nat) (ds : List D) (Γ : Ev) : Option SD → R Fl
  | some (.ob none (.ls os)) => forOL ja jb s i ds Γ (owL os)
  | _ => .bad
@[simp] def forOA (ja jb : Nat) (s : SS) (Γ : Ev) : List AV → R Fl
  | [.s i, .d (.lst ds)] => forOS ja jb s i ds Γ Γ[i]?
  | _ => .bad
@[simp] def sForO (fs : SA) (ja jb : Nat) (s : SS) (Γ : Ev) : R Fl := (fs Γ).bind fun avs Γ1 => forOA ja jb s Γ1 avs

section
variable {C : Ct} {io : IO} {σ σ' : St} {F F' H H' : Hp} {Γ Γ' : Ev}
theorem Go.putOb {i : Nat} {sd : SD} {o : OD} {v : V} {fp : List Addr} (g : Go C io σ F H Γ σ' F' H' Γ') (ow : Owt C F' H' o v) (pf : Fp H' o v fp) (nd : fp.Nodup) (f0 : ∀ b ∈ fp, F' b = none) (no : ∀ b ∈ fp, ¬ OwnA H' Γ' σ' b) (nw : ∀ b ∈ fp, NewA Γ σ H b) (hi : Γ'[i]? = some sd) :
    Go C io σ F H Γ (σ'.set i (some v)) F' H' (Γ'.set i (.ob none o)) := by
  have hlt := (List.getElem?_eq_some_iff.mp hi).1
  have hls : i < σ'.length := by rw [← g.at_.len]; exact hlt
  have own : ∀ {j : Nat} {b : Addr}, OwnAt H' (Γ'.set i (.ob none o)) (σ'.set i (some v)) j b → (j = i ∧ b ∈ fp) ∨ (j ≠ i ∧ OwnAt H' Γ' σ' j b) := by
    rintro j b ⟨sd, q1, q2, u, q3, q9⟩
    rcases set_get q1 with ⟨q4, q5, _⟩ | ⟨q4, q5⟩
    · subst q4
      rw [List.getElem?_set_self hls] at q3
      cases q3
      rw [q5] at q9
      obtain ⟨fp2, k1, k2⟩ := q9
      rw [Fp.det k1 pf] at k2
      exact .inl ⟨rfl, k2⟩
    · rcases set_get q3 with ⟨w, _⟩ | ⟨_, w⟩
      · exact absurd w q4
      · exact .inr ⟨q4, sd, q5, q2, u, w, q9⟩
  refine ⟨g.ff, g.keep, g.live, g.new, fun b ⟨j, q⟩ => ?_, by rw [List.length_set]; exact g.ln, ⟨g.at_.le, g.at_.pin, by rw [List.length_set, List.length_set]; exact g.at_.len, fun j sd q => ?_, fun j k b h1 h2 => ?_⟩⟩
  · rcases own q with ⟨_, q2⟩ | ⟨_, q2⟩
    · rcases nw b q2 with w | w
      · exact .inr w
      · exact .inl w
    · exact g.own b ⟨j, q2⟩
  · rcases set_get q with ⟨q4, q5, _⟩ | ⟨q4, q5⟩
    · subst q4
      rw [q5]
      exact ⟨v, fp, List.getElem?_set_self hls, ow, pf, nd, f0, fun k q => by cases q⟩
    · exact SlotOk.ne_slot q4 (g.at_.slot j sd q5)
  · rcases own h1 with ⟨q1, q2⟩ | ⟨q1, q2⟩
    · rcases own h2 with ⟨q3, q4⟩ | ⟨q3, q4⟩
      · rw [q1, q3]
      · exact absurd ⟨k, q4⟩ (no b q2)
    · rcases own h2 with ⟨q3, q4⟩ | ⟨q3, q4⟩
      · exact absurd ⟨j, q2⟩ (no b q4)
      · exact g.at_.ne j k b q2 q4
theorem set_same {i : Nat} {v : Option V} (e : σ[i]? = some v) : σ.set i v = σ := by
  have hi := (List.getElem?_eq_some_iff.mp e).1
  apply List.ext_getElem?
  intro j
  by_cases q : i = j
  · subst q
    rw [List.getElem?_set_self hi, e]
  · rw [List.getElem?_set_ne q]
theorem Go.dropS {i : Nat} {v : Option V} (A : At C io σ F H Γ) (e : σ[i]? = some v) : Go C io σ F H Γ σ F H (Γ.set i .no) := by
  have g := Go.put (i := i) (sd := .no) (o := v) A rfl fun _ => trivial
  rw [set_same e] at g
  exact g
theorem not_own_drop {i : Nat} {v : Option V} {a : Addr} (A : At C io σ F H Γ) (e : σ[i]? = some v) (h : OwnAt H Γ σ i a) : ¬ OwnA H (Γ.set i .no) σ a := by
  rintro ⟨j, hj⟩
  have hj2 : OwnAt H Γ σ j a := by
    have := OwnAt.put (Γ := Γ) (σ := σ) (i := i) (sd := .no) (o := v) rfl (j := j) (a := a) (by rw [set_same e]; exact hj)
    exact this
  have q5 := A.ne j i a hj2 h
  subst q5
  obtain ⟨sd, q1, q2, _⟩ := hj
  rcases set_get q1 with ⟨_, q6, _⟩ | ⟨q6, _⟩
  · rw [q6] at q2; cases q2
  · exact q6 rfl
theorem Gs.putOwn {i : Nat} {sd : SD} {l : List Bx.D} {v : V} (g : Gs C io σ F H Γ σ' F' H' Γ') (hv : AVOk C (NewA Γ σ H) F' H' Γ' σ' (.n l) v) (hi : Γ'[i]? = some sd) : Gs C io σ F H Γ (σ'.set i (some v)) F' H' (Γ'.set i (.ow none l)) := by
  obtain ⟨a, xs, rfl, n0, f0, no, ha, r, z⟩ := hv
  have hlt := (List.getElem?_eq_some_iff.mp hi).1
  have hls : i < σ'.length := by rw [← g.at_.len]; exact hlt
  have own : ∀ {j : Nat} {b : Addr}, OwnAt H' (Γ'.set i (.ow none l)) (σ'.set i (some (.ref a))) j b → (j = i ∧ b = a) ∨ (j ≠ i ∧ OwnAt H' Γ' σ' j b) := by
    rintro j b ⟨sd, q1, q2, v, q3, q9⟩
    rcases set_get q1 with ⟨q4, q5, _⟩ | ⟨q4, q5⟩
    · subst q4
      rw [List.getElem?_set_self hls] at q3
      cases q3
      rw [q5] at q9
      have q9 : V.ref a = .ref b := q9
      cases q9
      exact .inl ⟨rfl, rfl⟩
    · rcases set_get q3 with ⟨w, _⟩ | ⟨_, w⟩
      · exact absurd w q4
      · exact .inr ⟨q4, sd, q5, q2, v, w, q9⟩
  refine ⟨g.keep, g.live, g.new, fun b ⟨j, q⟩ => ?_, by rw [List.length_set]; exact g.ln, ⟨g.at_.le, g.at_.pin, by rw [List.length_set, List.length_set]; exact g.at_.len, fun j sd q => ?_, fun j k b h1 h2 => ?_⟩⟩
  · rcases own q with ⟨_, q2⟩ | ⟨_, q2⟩
    · rw [q2]
      rcases n0 with w | w
      · exact .inr w
      · exact .inl w
    · exact g.own b ⟨j, q2⟩
  · rcases set_get q with ⟨q4, q5, _⟩ | ⟨q4, q5⟩
    · subst q4
      rw [q5]
      exact ⟨a, List.getElem?_set_self hls, f0, ⟨xs, ha, r, z⟩, fun k q => by cases q⟩
    · exact SlotOk.ne_slot q4 (g.at_.slot j sd q5)
  · rcases own h1 with ⟨q1, q2⟩ | ⟨q1, q2⟩
    · rcases own h2 with ⟨q3, q4⟩ | ⟨q3, q4⟩
      · rw [q1, q3]
      · rw [q2] at q4; exact absurd ⟨k, q4⟩ no
    · rcases own h2 with ⟨q3, q4⟩ | ⟨q3, q4⟩
      · rw [q4] at q2; exact absurd ⟨j, q2⟩ no
      · exact g.at_.ne j k b q2 q4
end
end Bx
end
end

section
set_option Elab.async false
set_option linter.all false
set_option maxRecDepth 100000
set_option maxHeartbeats 4000000
set_option autoImplicit false
noncomputable section
namespace Bx
open PySem PySem.Spec PyProof.Rows L2
@[simp] def misT : D → D → Bool
  | .tup (.int _ :: _), .tup (.tup _ :: _) => true
  | _, _ => false
@[simp] def misL : List D → List D → Bool
  | x :: _, y :: _ => misT x y
  | [], [] => false
  | _, _ => true
@[simp] def newOk (bs : List D) : List D → Bool
  | [] => true
  | .lst l :: r => noLs l && misL l bs && newOk bs r
  | _ => false
@[simp] def setI2 (i : Nat) (bs es : List D) (Γ : Ev) : Option SD → R Fl
  | some sd => if sd.tag = none ∧ newOk bs es = true then .ok .nx (Γ.set i (.fx (.w es))) else .bad
  | none => .bad
@[simp] def setI1 (i : Nat) (bs : List D) (Γ : Ev) : FR → R Fl
  | .ok (.n es) _ => setI2 i bs es Γ Γ[i]?
  | _ => .bad
@[simp] def setI0 (m : Ev → FR) (i : Nat) (Γ : Ev) : Option SD → R Fl
  | some (.fx (.k (.tup [.int w, .lst bs]))) => if noLs bs = true then setI1 i bs Γ (m [.fr (.tup [.int w, .lst bs])]) else .bad
  | _ => .bad
@[simp] def sSetI (m : Ev → FR) (i j : Nat) (Γ : Ev) : R Fl := setI0 m i Γ Γ[j]?

def Det (K : PySem.W.Frag) (H : Hp) : Prop := ∀ a xs ys, SqT K H a xs → SqT K H a ys → xs = ys
theorem PE.det {X : Cx} {e : Expr} {t : TE} (h : PE X e t) : PE X e (fun σ H Q => t σ H fun v H' => Det X.K H' → Q v H') := ⟨fun pins s σ H Q I q => thn (h.run pins s σ H _ I q) fun u s' ⟨v, H', I', r, k⟩ => ⟨v, H', I', r, k fun a xs ys h1 h2 => I'.tuple_inj h1 h2⟩⟩
section
variable {C : Ct} {F G H : Hp} {a : Addr}
open Classical in
end
end Bx
end
end

section
set_option Elab.async false
set_option linter.all false
set_option maxRecDepth 100000
set_option maxHeartbeats 4000000
set_option autoImplicit false
noncomputable section
namespace Bx
open PySem PySem.Spec PyProof.Rows L2
@[simp] def thawAllT (i j : Nat) (K : List Bool) (n : Nat) (Γ : Ev) : Option SD → R Fl
  | some sd => if sd.tag = none ∧ i ≠ j ∧ K.all id = true ∧ K.length ≤ 100000 ∧ n ≤ 100000 then .ok .nx ((thawE (Γ.set j .no)).set i (.fx (.z K (n + K.length)))) else .bad
  | none => .bad
@[simp] def thawAllS (i j : Nat) (Γ : Ev) : Option (List Bool × Nat) → R Fl
  | some (K, n) => thawAllT i j K n Γ Γ[j]?
  | none => .bad
@[simp] def sThawAll (i j : Nat) (Γ : Ev) : R Fl := thawAllS i j Γ (zOf Γ[i]?)
@[simp] def thawXS (i : Nat) (Γ : Ev) : Option (List Bool × Nat) → R Fl
  | some (K, n) => if K.all id = true ∧ K.length ≤ 100000 ∧ n ≤ 1000000 then .ok .nx ((thawE Γ).set i .no) else .bad
  | none => .bad
@[simp] def sThawX (i : Nat) (Γ : Ev) : R Fl := thawXS i Γ (zOf Γ[i]?)

end Bx
end
end

section
set_option Elab.async false
set_option linter.all false
set_option maxRecDepth 100000
set_option maxHeartbeats 4000000
set_option autoImplicit false
noncomputable section
namespace Bx
open PySem PySem.Spec PyProof.Rows L2
@[simp] def dctP (av : AV) (Γ : Ev) : R AV := match av with
  | .n [.tup [.int i, d]] => .ok (.d (.dct [(.inl i, d)])) Γ
  | _ => .bad
@[simp] def sDictP (f : SA) (Γ : Ev) : R AV := (f Γ).bind fun avs Γ' => match avs with
  | [av] => dctP av Γ'
  | _ => .bad
end Bx
end
end

section
set_option Elab.async false
set_option linter.all false
set_option maxRecDepth 100000
set_option maxHeartbeats 4000000
set_option autoImplicit false
noncomputable section
namespace Bx
open PySem PySem.Spec PyProof.Rows L2
@[simp] def dictCS (i : Nat) (l : List (Key × D)) (Γ : Ev) : Option SD → R Fl
  | some sd => if sd.tag = none then .ok .nx (Γ.set i (.od none l)) else .bad
  | none => .bad
@[simp] def dictCV (i : Nat) (Γ : Ev) : AV → R Fl
  | .d (.dct l) => dictCS i l Γ Γ[i]?
  | _ => .bad
@[simp] def sDictC (f : SE) (i : Nat) (Γ : Ev) : R Fl := (f Γ).bind fun av Γ' => dictCV i Γ' av
end Bx
end
end

section
set_option Elab.async false
set_option linter.all false
set_option maxRecDepth 100000
set_option maxHeartbeats 4000000
set_option autoImplicit false
set_option backward.isDefEq.respectTransparency false
noncomputable section
namespace Bx
open PySem PySem.Spec PyProof.Rows L2
def trN : R Fl → R Fl
  | .exc _ _ => .bad
  | r => r
@[simp] theorem trN_ok {f : Fl} {Γ : Ev} : trN (.ok f Γ) = .ok f Γ := rfl
def trR2 (l1 : List (Str × Bool)) (s1 : SS) (l2 : List (Str × Bool)) (s2 : SS) : R Fl → R Fl
  | .exc e Γ => match l1.lookup e with
    | some true => trN (s1 Γ)
    | some false => (match l2.lookup e with
      | some true => trN (s2 Γ)
      | some false => .exc e Γ
      | none => .bad)
    | none => .bad
  | r => r
@[simp] theorem trR2_ok {l1 l2 : List (Str × Bool)} {s1 s2 : SS} {f : Fl} {Γ : Ev} : trR2 l1 s1 l2 s2 (.ok f Γ) = .ok f Γ := rfl
@[simp] def sTry2 (l1 : List (Str × Bool)) (s1 : SS) (l2 : List (Str × Bool)) (s2 s : SS) (Γ : Ev) : R Fl := trR2 l1 s1 l2 s2 (s Γ)
end Bx
end
end

section
set_option Elab.async false
set_option linter.all false
set_option maxRecDepth 100000
set_option maxHeartbeats 4000000
set_option autoImplicit false
noncomputable section
namespace Bx
open PySem PySem.Spec PyProof.Rows L2
@[simp] def rowO : D → OD
  | .tup [b, .lst ns] => .tp [.fr b, .ow ns]
  | d => .fr d
@[simp] def rowD : OD → Option D
  | .tp [.fr b, .ow ns] => some (.tup [b, .lst ns])
  | _ => none
@[simp] def rowsD : List OD → Option (List D)
  | [] => some []
  | o :: r => (rowD o).bind fun d => (rowsD r).map fun l => d :: l
def RowsAt (C : Ct) (F H : Hp) : List D → List V → List (Addr × Addr) → Prop
  | [], xs, q => xs = [] ∧ q = []
  | e :: es, xs, q => ∃ b ns p c x zs r q', e = .tup [b, .lst ns] ∧ xs = .ref p :: r ∧ q = (p, c) :: q' ∧ H p = some (.tup [x, .ref c]) ∧ Rep C F b x ∧ H c = some (.lst zs) ∧ Reps C F ns zs ∧ ns.length ≤ sizeLine ∧ RowsAt C F H es r q'
def flP (q : List (Addr × Addr)) : List Addr := q.flatMap fun a => [a.1, a.2]
theorem flP_cons (a : Addr × Addr) (q : List (Addr × Addr)) : flP (a :: q) = a.1 :: a.2 :: flP q := rfl
theorem flP_app (a q : List (Addr × Addr)) : flP (a ++ q) = flP a ++ flP q := List.flatMap_append
section
variable {C : Ct} {F F' H H' : Hp}
theorem RowsAt.of : ∀ {os : List OD} {es : List Bx.D} {xs : List V} {fps : List Addr}, rowsD os = some es → Owts C F H os xs → Fps H os xs fps → ∃ q, RowsAt C F H es xs q ∧ fps = flP q
  | [], _, _, _, h, q, ⟨p1, p2⟩ => by
    cases h
    exact ⟨[], ⟨p1, rfl⟩, p2⟩
  | o :: os, es, xs, fps, h, ⟨x, r, e1, o1, o2⟩, ⟨y, q, f, g, e2, p1, p2, e3⟩ => by
    subst e1
    cases e2
    obtain ⟨d, hd, h⟩ := Option.bind_eq_some_iff.mp h
    obtain ⟨l, hl, rfl⟩ := Option.map_eq_some_iff.mp h
    obtain ⟨q', k1, k2⟩ := RowsAt.of hl o2 p2
    unfold rowD at hd
    split at hd
    case h_2 => cases hd
    rename_i b ns
    cases hd
    obtain ⟨a, us, rfl, ha, ⟨u1, us2, rfl, w1, u2, us3, rfl, w2, w3⟩, _⟩ := o1
    have w3 : us3 = [] := w3
    subst w3
    obtain ⟨c, zs, rfl, hc, rz, z⟩ := w2
    obtain ⟨a', us', fs, ea, ha', ⟨v1, vs1, f1, g1, ev, k3, ⟨v2, vs2, f2, g2, ev2, k4, ⟨k5, k6⟩, e5⟩, e6⟩, e4⟩ := p1
    cases ea
    rw [ha] at ha'; cases ha'
    cases ev
    cases ev2
    have k3 : f1 = [] := k3
    obtain ⟨c', ec, k4⟩ := k4
    cases ec
    refine ⟨(a, c) :: q', ⟨b, ns, a, c, u1, zs, r, q', rfl, rfl, rfl, ha, w1, hc, rz, z, k1⟩, ?_⟩
    rw [e3, e4, e6, e5, k6, k4, k3, k2]
    rfl
theorem RowsAt.to : ∀ {es : List Bx.D} {xs : List V} {q : List (Addr × Addr)}, RowsAt C F H es xs q → Owts C F H (es.map rowO) xs ∧ Fps H (es.map rowO) xs (flP q) ∧ rowsD (es.map rowO) = some es ∧ xs.length = es.length
  | [], _, _, ⟨h1, h2⟩ => by
    subst h1
    subst h2
    exact ⟨rfl, ⟨rfl, rfl⟩, rfl, rfl⟩
  | e :: es, _, _, h => by
    obtain ⟨b, ns, p, c, x, zs, r, q', rfl, rfl, rfl, hp, rb, hc, rn, z, k⟩ := h
    obtain ⟨k1, k2, k3, k4⟩ := RowsAt.to k
    refine ⟨⟨.ref p, r, rfl, ⟨p, _, rfl, hp, ⟨x, _, rfl, rb, .ref c, [], rfl, ⟨c, zs, rfl, hc, rn, z⟩, rfl⟩, by rw [sizeLine_eq]; simp⟩, k1⟩, ⟨.ref p, r, [p, c], flP q', rfl, ⟨p, _, [c], rfl, hp, ⟨x, _, [], [c], rfl, rfl, ⟨.ref c, [], [c], [], rfl, ⟨c, rfl, rfl⟩, ⟨rfl, rfl⟩, rfl⟩, rfl⟩, rfl⟩, k2, rfl⟩, ?_, by simp [k4]⟩
    rw [List.map_cons]
    show (rowD (.tp [.fr b, .ow ns])).bind (fun d => (rowsD (es.map rowO)).map fun l => d :: l) = _
    rw [k3]
    rfl
theorem RowsAt.mono (l : Bx.le F F') : ∀ {es : List Bx.D} {xs : List V} {q : List (Addr × Addr)}, RowsAt C F H es xs q → RowsAt C F' H es xs q
  | [], _, _, h => h
  | _ :: _, _, _, ⟨b, ns, p, c, x, zs, r, q', e1, e2, e3, hp, rb, hc, rn, z, k⟩ => ⟨b, ns, p, c, x, zs, r, q', e1, e2, e3, hp, rb.mono l, hc, rn.mono l, z, RowsAt.mono l k⟩
theorem RowsAt.heap : ∀ {es : List Bx.D} {xs : List V} {q : List (Addr × Addr)}, (∀ b ∈ flP q, H' b = H b) → RowsAt C F H es xs q → RowsAt C F H' es xs q
  | [], _, _, _, h => h
  | _ :: _, _, _, k, h => by
    obtain ⟨b, ns, p, c, x, zs, r, q', e1, e2, rfl, hp, rb, hc, rn, z, k2⟩ := h
    rw [flP_cons] at k
    exact ⟨b, ns, p, c, x, zs, r, q', e1, e2, rfl, by rw [k p List.mem_cons_self]; exact hp, rb, by rw [k c (List.mem_cons_of_mem _ List.mem_cons_self)]; exact hc, rn, z, RowsAt.heap (fun b hb => k b (List.mem_cons_of_mem _ (List.mem_cons_of_mem _ hb))) k2⟩
theorem RowsAt.live : ∀ {es : List Bx.D} {xs : List V} {q : List (Addr × Addr)}, RowsAt C F H es xs q → ∀ b ∈ flP q, H b ≠ none
  | [], _, _, ⟨_, h⟩, b, hb => by rw [h] at hb; cases hb
  | _ :: _, _, _, h, b, hb => by
    obtain ⟨_, ns, p, c, x, zs, r, q', e1, e2, rfl, hp, rb, hc, rn, z, k⟩ := h
    rw [flP_cons] at hb
    rcases List.mem_cons.mp hb with rfl | hb
    · rw [hp]; simp
    · rcases List.mem_cons.mp hb with rfl | hb
      · rw [hc]; simp
      · exact RowsAt.live k b hb
theorem RowsAt.app : ∀ {es fs : List Bx.D} {xs ys : List V} {q q2 : List (Addr × Addr)}, RowsAt C F H es xs q → RowsAt C F H fs ys q2 → RowsAt C F H (es ++ fs) (xs ++ ys) (q ++ q2)
  | [], _, _, _, _, _, ⟨h1, h2⟩, k => by subst h1; subst h2; exact k
  | _ :: _, _, _, _, _, _, h, k2 => by
    obtain ⟨b, ns, p, c, x, zs, r, q', e1, rfl, rfl, hp, rb, hc, rn, z, k⟩ := h
    exact ⟨b, ns, p, c, x, zs, _, _, e1, rfl, rfl, hp, rb, hc, rn, z, RowsAt.app k k2⟩
end
def TreeOk (C : Ct) (N0 : Addr → Prop) (F H : Hp) (Γ : Ev) (σ : St) (es : List D) (v : V) : Prop :=
  ∃ t xs q, v = .ref t ∧ H t = some (.lst xs) ∧ RowsAt C F H es xs q ∧ es.length ≤ sizeLine ∧ (t :: flP q).Nodup ∧ ∀ b ∈ t :: flP q, F b = none ∧ ¬ OwnA H Γ σ b ∧ N0 b
section
variable {C : Ct} {io : IO} {W : XW} {σ σ' : St} {F F' H H' : Hp} {Γ Γ' : Ev} {es : List D} {v : V}
theorem TreeOk.weak {N0 N1 : Addr → Prop} (k : ∀ b, N1 b → N0 b) (h : TreeOk C N1 F H Γ σ es v) : TreeOk C N0 F H Γ σ es v := by
  obtain ⟨t, xs, q, e, ht, r, z, nd, a⟩ := h
  exact ⟨t, xs, q, e, ht, r, z, nd, fun b hb => ⟨(a b hb).1, (a b hb).2.1, k b (a b hb).2.2⟩⟩
theorem Go.hid (g : Go C io σ F H Γ σ' F' H' Γ') {b : Addr} (hf : F b = none) (no : ¬ OwnA H Γ σ b) (hh : H b ≠ none) : F' b = none ∧ ¬ OwnA H' Γ' σ' b ∧ H' b = H b := by
  cases w : H b with
  | none => exact absurd w hh
  | some o =>
    refine ⟨?_, fun q => ?_, g.keep b o w no⟩
    · cases w2 : F' b with
      | none => rfl
      | some z =>
        rcases g.new b hf (by rw [w2]; simp) with q | q
        · rw [w] at q; cases q
        · exact absurd q no
    · rcases g.own b q with q | q
      · exact no q
      · rw [w] at q; cases q
theorem Gs.hid (g : Gs C io σ F H Γ σ' F' H' Γ') {b : Addr} (hf : F b = none) (no : ¬ OwnA H Γ σ b) (hh : H b ≠ none) : F' b = none ∧ ¬ OwnA H' Γ' σ' b ∧ H' b = H b := by
  cases w : H b with
  | none => exact absurd w hh
  | some o =>
    refine ⟨?_, fun q => ?_, g.keep b o w no (.inl hf)⟩
    · cases w2 : F' b with
      | none => rfl
      | some z =>
        rcases g.new b hf (by rw [w2]; simp) with q | q
        · rw [w] at q; cases q
        · exact absurd q no
    · rcases g.own b q with q | q
      · exact no q
      · rw [w] at q; cases q
theorem TreeOk.live {N0 : Addr → Prop} {t : Addr} {xs : List V} {q : List (Addr × Addr)} (ht : H t = some (.lst xs)) (r : RowsAt C F H es xs q) : ∀ b ∈ t :: flP q, H b ≠ none := fun b hb => by
  rcases List.mem_cons.mp hb with rfl | hb
  · rw [ht]; simp
  · exact r.live b hb
theorem TreeOk.go {N0 : Addr → Prop} (h : TreeOk C N0 F H Γ σ es v) (g : Go C io σ F H Γ σ' F' H' Γ') : TreeOk C N0 F' H' Γ' σ' es v := by
  obtain ⟨t, xs, q, e, ht, r, z, nd, a⟩ := h
  have lv := TreeOk.live (N0 := N0) ht r
  have k := fun b hb => g.hid (a b hb).1 (a b hb).2.1 (lv b hb)
  refine ⟨t, xs, q, e, by rw [(k t List.mem_cons_self).2.2]; exact ht, (r.heap fun b hb => (k b (List.mem_cons_of_mem _ hb)).2.2).mono g.ff, z, nd, fun b hb => ⟨(k b hb).1, (k b hb).2.1, (a b hb).2.2⟩⟩
theorem At.tree {i : Nat} {t : Option Nat} {os : List OD} (A : At C io σ F H Γ) (e : Γ[i]? = some (.ob t (.ls os))) (hr : rowsD os = some es) : ∃ a xs q, σ[i]? = some (some (.ref a)) ∧ H a = some (.lst xs) ∧ RowsAt C F H es xs q ∧ es.length ≤ sizeLine ∧ (a :: flP q).Nodup ∧ ∀ b ∈ a :: flP q, F b = none ∧ OwnAt H Γ σ i b := by
  obtain ⟨v, fp, e1, e2, e3, e4, e5, _, e7⟩ := A.ob e
  obtain ⟨a, xs, rfl, ha, ow, z⟩ := e2
  obtain ⟨a', xs', fps, ea, ha', hf, rfl⟩ := e3
  cases ea
  rw [ha] at ha'; cases ha'
  obtain ⟨q, r, rfl⟩ := RowsAt.of hr ow hf
  have hz : os.length = es.length := by
    have k := r.to.2.2.2
    have : xs.length = os.length := by
      clear r k hf hr z e4 e5 e7 e ha
      induction os generalizing xs with
      | nil =>
        have ow : xs = [] := ow
        rw [ow]; rfl
      | cons o os ih =>
        obtain ⟨x, r, rfl, _, o2⟩ := ow
        rw [List.length_cons, List.length_cons, ih r o2]
    omega
  exact ⟨a, xs, q, e1, ha, r, by omega, e4, fun b hb => ⟨e5 b hb, e7 b hb⟩⟩
theorem TreeOk.put {i : Nat} {sd : SD} (g : Go C io σ F H Γ σ' F' H' Γ') (h : TreeOk C (NewA Γ σ H) F' H' Γ' σ' es v) (hi : Γ'[i]? = some sd) : Go C io σ F H Γ (σ'.set i (some v)) F' H' (Γ'.set i (.ob none (.ls (es.map rowO)))) := by
  obtain ⟨t, xs, q, rfl, ht, r, z, nd, a⟩ := h
  obtain ⟨k1, k2, k3, k4⟩ := r.to
  exact Go.putOb g ⟨t, xs, rfl, ht, k1, by rw [List.length_map]; exact z⟩ ⟨t, xs, flP q, rfl, ht, k2, rfl⟩ nd (fun b hb => (a b hb).1) (fun b hb => (a b hb).2.1) (fun b hb => (a b hb).2.2) hi
end
abbrev ST := Ev → R (List D)
def PXT (C : Ct) (io : IO) (W : XW) (σ : St) (F H : Hp) (Γ : Ev) (r : R (List D)) (Q : VK) : Prop :=
  match r with
  | .ok es Γ' => ∀ v F' H', Go C io σ F H Γ σ F' H' Γ' → TreeOk C (NewA Γ σ H) F' H' Γ' σ es v → Q v H'
  | .exc c Γ' => ∀ F' H', Go C io σ F H Γ σ F' H' Γ' → W c σ H'
  | .bad => False
def tT (C : Ct) (W : XW) (f : ST) : TE := fun σ H Q => ∃ io F Γ, At C io σ F H Γ ∧ PXT C io W σ F H Γ (f Γ) Q
abbrev SST := Ev → R (Option (List D))
def PFT (C : Ct) (io : IO) (W : XW) (σ : St) (F H : Hp) (Γ : Ev) (r : R (Option (List D))) (D : Ends) : Prop :=
  match r with
  | .ok none Γ' => ∀ σ' F' H', Gs C io σ F H Γ σ' F' H' Γ' → D.nx σ' H'
  | .ok (some es) Γ' => ∀ v σ' F' H', Gs C io σ F H Γ σ' F' H' Γ' → TreeOk C (NewA Γ σ H) F' H' Γ' σ' es v → D.rt v H'
  | .exc c Γ' => ∀ σ' F' H', Gs C io σ F H Γ σ' F' H' Γ' → W c σ' H'
  | .bad => False
def tST (C : Ct) (W : XW) (s : SST) : TS := fun D σ H => ∃ io F Γ, At C io σ F H Γ ∧ PFT C io W σ F H Γ (s Γ) D
def PFRT (C : Ct) (io : IO) (σ : St) (F H : Hp) (Γ : Ev) (r : FR) (Q : VK) (E : XK) : Prop :=
  match r with
  | .ok (.n es) o => ∀ v F' H', Gs C io σ F H Γ σ F' H' o → TreeOk C (NewA Γ σ H) F' H' o σ es v → Q v H'
  | .exc c o => ∀ F' H', Gs C io σ F H Γ σ F' H' o → E (ca C c) none H'
  | _ => False
def spT (C : Ct) (m : Ev → FR) : Sp := fun zs H Q E => ∃ io F args, At C io (zs.map some) F H args ∧ io.pin = F ∧ (∀ (j : Nat) (sd : SD), args[j]? = some sd → sd.own = true → sd.tag = some j) ∧
  (∀ (j : Nat) (a : Addr), io.adr j = some a → zs[j]? = some (.ref a)) ∧ PFRT C io (zs.map some) F H args (m args) Q E
section
variable {C : Ct} {io : IO} {W : XW} {σ σ' : St} {F F' H H' : Hp} {Γ Γ' : Ev} {D : Ends}
theorem PXT.go (g : Go C io σ F H Γ σ F' H' Γ') {r : R (List Bx.D)} {Q : VK} (p : PXT C io W σ F H Γ r Q) : PXT C io W σ F' H' Γ' r Q := by
  cases r with
  | ok av Γ2 => exact fun v F2 H2 g2 h => p v F2 H2 (g.trans g2) (h.weak fun b e => g.newA e)
  | exc c Γ2 => exact fun F2 H2 g2 => p F2 H2 (g.trans g2)
  | bad => exact p
theorem PFT.gs (g : Gs C io σ F H Γ σ' F' H' Γ') {r : R (Option (List Bx.D))} (p : PFT C io W σ F H Γ r D) : PFT C io W σ' F' H' Γ' r D := by
  cases r with
  | ok o Γ2 =>
    cases o with
    | none => exact fun σ2 F2 H2 g2 => p σ2 F2 H2 (g.trans g2)
    | some es => exact fun v σ2 F2 H2 g2 h => p v σ2 F2 H2 (g.trans g2) (h.weak fun b e => g.newA e)
  | exc c Γ2 => exact fun σ2 F2 H2 g2 => p σ2 F2 H2 (g.trans g2)
  | bad => exact p
end
end Bx
end
end

section
set_option Elab.async false
set_option linter.all false
set_option maxRecDepth 100000
set_option maxHeartbeats 4000000
set_option autoImplicit false
noncomputable section
namespace Bx
open PySem PySem.Spec PyProof.Rows L2
@[simp] def sNilT : ST := fun Γ => .ok [] Γ
@[simp] def baseT2 (b : D) (Γ : Ev) : AV → R (List D)
  | .n ns => .ok [.tup [b, .lst ns]] Γ
  | _ => .bad
@[simp] def baseT1 (g : SE) (Γ : Ev) : AV → R (List D)
  | .d b => (g Γ).bind fun c Γ2 => baseT2 b Γ2 c
  | _ => .bad
@[simp] def sBaseT (f g : SE) : ST := fun Γ => (f Γ).bind fun a Γ1 => baseT1 g Γ1 a
@[simp] def callTR (Γ : Ev) : FR → R (List D)
  | .ok (.n es) _ => .ok es Γ
  | .exc c _ => .exc c Γ
  | _ => .bad
@[simp] def callTO (m : Ev → FR) (Γ : Ev) : Option (List D) → R (List D)
  | some l => callTR Γ (m (l.map SD.fr))
  | none => .bad
@[simp] def sCallT (m : Ev → FR) (fs : SA) : ST := fun Γ => (fs Γ).bind fun avs Γ1 => callTO m Γ1 (ds avs)
@[simp] def sIfXT (c : SB) (f g : ST) : ST := fun Γ => (c Γ).bind fun b Γ' => if b = true then f Γ' else g Γ'
@[simp] def sRetT (f : ST) : SST := fun Γ => (f Γ).bind fun es Γ' => .ok (some es) Γ'
@[simp] def retTO (i : Nat) (Γ : Ev) : Option (List D) → R (Option (List D))
  | some es => .ok (some es) (Γ.set i .no)
  | none => .bad
@[simp] def retTV (i : Nat) (Γ : Ev) : Option SD → R (Option (List D))
  | some (.ob none (.ls os)) => retTO i Γ (rowsD os)
  | _ => .bad
@[simp] def sRetTV (i : Nat) : SST := fun Γ => retTV i Γ Γ[i]?
@[simp] def sIfT (c : SB) (s t : SST) : SST := fun Γ => (c Γ).bind fun b Γ' => if b = true then s Γ' else t Γ'
@[simp] def sNxT : SST := fun Γ => .ok none Γ
@[simp] def seqTR (t : SST) : R (Option (List D)) → R (Option (List D))
  | .ok none Γ => t Γ
  | r => r
@[simp] def sSeqT (s t : SST) : SST := fun Γ => seqTR t (s Γ)
@[simp] def liftTR : R Fl → R (Option (List D))
  | .ok .nx Γ => .ok none Γ
  | .exc c Γ => .exc c Γ
  | _ => .bad
@[simp] def sLiftT (s : SS) : SST := fun Γ => liftTR (s Γ)
def finT (n : Nat) : R (Option (List D)) → FR
  | .ok (some es) Γ => .ok (.n es) (maskF 0 n Γ)
  | .exc c Γ => .exc c (maskF 0 n Γ)
  | _ => .bad
@[simp] theorem finT_some {n : Nat} {es : List D} {Γ : Ev} : finT n (.ok (some es) Γ) = .ok (.n es) (maskF 0 n Γ) := rfl
@[simp] theorem finT_exc {n : Nat} {c : Str} {Γ : Ev} : finT n (.exc c Γ) = .exc c (maskF 0 n Γ) := rfl
@[simp] def fnMT (np n : Nat) (body : SST) (args : Ev) : FR := if args.length = np then finT np (body (args ++ List.replicate (n - np) .no)) else .bad
@[simp] def lsS (i : Nat) (Γ : Ev) : Option SD → R Fl
  | some sd => if sd.tag = none then .ok .nx (Γ.set i (.ob none (.ls []))) else .bad
  | none => .bad
@[simp] def sLs0 (i : Nat) : SS := fun Γ => lsS i Γ Γ[i]?
@[simp] def setTS (i : Nat) (es : List D) (Γ : Ev) : Option SD → R Fl
  | some sd => if sd.tag = none then .ok .nx (Γ.set i (.ob none (.ls (es.map rowO)))) else .bad
  | none => .bad
@[simp] def sSetT (f : ST) (i : Nat) : SS := fun Γ => (f Γ).bind fun es Γ1 => setTS i es Γ1 Γ1[i]?

section
variable {X : Cx} {W : XW} {e e1 e2 ce : Expr} {es : List Expr} {st : Stmt} {rest body orelse : List Stmt} {f g : SE} {fs : SA} {c : SB} {tf tg : ST} {s t : SST} {u : SS} {pos lpos tpos p : Pos} {k j : Nat} {x : Str} {m : Ev → FR}
theorem tT.thenF {C : Ct} {io : IO} {σ : St} {F H : Hp} {Γ : Ev} {h : ST} {kk : List Bx.D → Ev → R Fl} {D : Ends} (A : At C io σ F H Γ) (q : PF C io W σ F H Γ ((h Γ).bind kk) D) {Q' : VK}
    (hh : ∀ rs v F' H' Γ', Go C io σ F H Γ σ F' H' Γ' → TreeOk C (NewA Γ σ H) F' H' Γ' σ rs v → PF C io W σ F' H' Γ' (kk rs Γ') D → Q' v H') : tT C W h σ H Q' := by
  refine ⟨io, F, Γ, A, ?_⟩
  cases w : h Γ with
  | ok av Γ' =>
    rw [w] at q
    exact fun v F' H' g1 hv => hh av v F' H' Γ' g1 hv (PF.go g1 q)
  | exc c Γ' => rw [w] at q; exact fun F' H' g1 => q σ F' H' g1.gs
  | bad => rw [w] at q; exact q
theorem q_nilT : PE X (.List [] lpos) (tT (ct X) W sNilT) :=
  PE.imp (pe_lst pa_nil) fun σ H Q ⟨io, F, Γ, A, q⟩ => by
    refine ⟨by simp [sizeLine_eq], fun p hp => ?_⟩
    refine q (.ref p) F _ (Go.upd A hp (.lst [])) ⟨p, [], [], rfl, upd_same, ⟨rfl, rfl⟩, by simp, by simp [flP], fun b hb => ?_⟩
    have hb : b = p := by simpa [flP] using hb
    subst hb
    exact ⟨A.fnone hp, fun w => A.notOwn hp ((A.updOwn hp).mp w), .inl hp⟩
theorem q_baseT (h1 : PE X e1 (tX (ct X) W f)) (h2 : PE X e2 (tX (ct X) W g))
    (a1 : starEach [e1, e2] X.env = (false, eval e1 X.env) :: starEach [e2] X.env := by rfl) (a2 : starEach [e2] X.env = (false, eval e2 X.env) :: starEach [] X.env := by rfl)
    (a3 : starEach [.Tuple [e1, e2] k tpos] X.env = (false, eval (.Tuple [e1, e2] k tpos) X.env) :: starEach [] X.env := by rfl) : PE X (.List [.Tuple [e1, e2] k tpos] lpos) (tT (ct X) W (sBaseT f g)) :=
  PE.imp (pe_lst (pa_cons (pe_tup (pa_cons h1 (pa_cons h2 pa_nil a2) a1)) pa_nil a3)) fun σ H Q ⟨io, F, Γ, A, q⟩ => by
    refine ⟨io, F, Γ, A, ?_⟩
    have q : PXT (ct X) io W σ F H Γ ((f Γ).bind fun a Γ1 => baseT1 g Γ1 a) Q := q
    cases w1 : f Γ with
    | bad => rw [w1] at q; exact q
    | exc c Γ' => rw [w1] at q; exact q
    | ok av Γ1 =>
      rw [w1] at q
      intro v F1 H1 g1 hv
      have q : PXT (ct X) io W σ F H Γ (baseT1 g Γ1 av) Q := q
      cases av with
      | u x => exact q.elim
      | n x => exact q.elim
      | s x => exact q.elim
      | d b =>
        have q : PXT (ct X) io W σ F H Γ ((g Γ1).bind fun c Γ2 => baseT2 b Γ2 c) Q := q
        have q := PXT.go g1 q
        refine ⟨io, F1, Γ1, g1.at_, ?_⟩
        cases w2 : g Γ1 with
        | bad => rw [w2] at q; exact q
        | exc c Γ' => rw [w2] at q; exact q
        | ok av2 Γ2 =>
          rw [w2] at q
          intro v2 F2 H2 g2 hv2
          have q : PXT (ct X) io W σ F1 H1 Γ1 (baseT2 b Γ2 av2) Q := q
          cases av2 with
          | u x => exact q.elim
          | d x => exact q.elim
          | s x => exact q.elim
          | n ns =>
            have q : PXT (ct X) io W σ F1 H1 Γ1 (.ok [.tup [b, .lst ns]] Γ2) Q := q
            obtain ⟨a, xs, rfl, n0, f0, no, ha, r, z⟩ := hv2
            have hv : Rep (ct X) F1 b v := hv
            refine ⟨by simp [sizeLine_eq], fun T hT => ⟨by simp [sizeLine_eq], fun p hp => ?_⟩⟩
            have g3 := Go.upd g2.at_ hT (.tup [v, .ref a])
            have g4 := Go.upd g3.at_ hp (.lst [.ref T])
            have naT : a ≠ T := fun z => by rw [z, hT] at ha; cases ha
            have h2p : H2 p = none := g3.back hp
            have nTp : T ≠ p := fun z => by rw [← z, upd_same] at hp; cases hp
            have nap : a ≠ p := fun z => by rw [z, h2p] at ha; cases ha
            refine q (.ref p) _ _ ((g2.trans g3).trans g4) ⟨p, [.ref T], [(T, a)], rfl, upd_same, ⟨b, ns, T, a, v, xs, [], [], rfl, rfl, rfl, by rw [upd_ne nTp, upd_same], hv.mono g2.ff, by rw [upd_ne nap, upd_ne naT]; exact ha, r, z, rfl, rfl⟩, by simp [sizeLine_eq], by simp [flP, nTp.symm, nap.symm, naT.symm], fun c hc => ?_⟩
            have nwo : ∀ c, ¬ OwnA H2 Γ2 σ c → ¬ OwnA (L2.upd (L2.upd H2 T (.tup [v, .ref a])) p (.lst [.ref T])) Γ2 σ c := fun c hc w => hc ((g2.at_.updOwn hT).mp ((g3.at_.updOwn hp).mp w))
            have hc : c = p ∨ c = T ∨ c = a := by simpa [flP] using hc
            rcases hc with rfl | rfl | rfl
            · exact ⟨g2.at_.fnone h2p, nwo _ (g2.at_.notOwn h2p), .inl (g2.back h2p)⟩
            · exact ⟨g2.at_.fnone hT, nwo _ (g2.at_.notOwn hT), .inl (g2.back hT)⟩
            · exact ⟨f0, nwo _ no, n0⟩
theorem q_ifxT {a b : Expr} (hc : PT X ce (tB (ct X) W c)) (ha : PE X a (tT (ct X) W tf)) (hb : PE X b (tT (ct X) W tg)) : PE X (.IfExp ce a b pos) (tT (ct X) W (sIfXT c tf tg)) :=
  PE.imp (pe_ifExp hc ha hb) fun σ H Q ⟨io, F, Γ, A, q⟩ => by
    refine ⟨io, F, Γ, A, ?_⟩
    have q : PXT (ct X) io W σ F H Γ ((c Γ).bind fun b Γ' => if b = true then tf Γ' else tg Γ') Q := q
    cases w1 : c Γ with
    | bad => rw [w1] at q; exact q
    | exc c Γ' => rw [w1] at q; exact q
    | ok k Γ1 =>
      rw [w1] at q
      intro F1 H1 g1
      have q := PXT.go g1 q
      cases k with
      | true => exact iteT ⟨io, F1, Γ1, g1.at_, q⟩
      | false => exact iteF ⟨io, F1, Γ1, g1.at_, q⟩
theorem q_retT (he : PE X e (tT (ct X) W tf)) : PS X (.Return (some e) pos) (tST (ct X) W (sRetT tf)) :=
  PS.imp (ps_ret he) fun D σ H ⟨io, F, Γ, A, q⟩ => by
    refine ⟨io, F, Γ, A, ?_⟩
    have q : PFT (ct X) io W σ F H Γ ((tf Γ).bind fun es Γ' => .ok (some es) Γ') D := q
    cases w : tf Γ with
    | bad => rw [w] at q; exact q
    | exc c Γ' => rw [w] at q; exact fun F' H' g => q σ F' H' g.gs
    | ok rs Γ1 =>
      rw [w] at q
      exact fun v F1 H1 g1 hv => q v σ F1 H1 g1.gs hv
theorem q_retTV (i : Nat) {y : Str} {p' : Pos} (hN : X.N[i]? = some y := by rfl) (hv : Vis X.env.scope y := by first | exact Or.inl rfl | exact Or.inr (Or.inl rfl) | exact Or.inr (Or.inr rfl)) (hd : (y == ("__debug__" : Str)) = false := by decide)
    (hcd : (y == ("__classdict__" : Str)) = false := by decide) : PS X (.Return (some (.Name y p')) pos) (tST (ct X) W (sRetTV i)) :=
  PS.imp (ps_ret (pe_var (i := i) hN hv hd hcd)) fun D σ H ⟨io, F, Γ, A, q⟩ => by
    have q : PFT (ct X) io W σ F H Γ (retTV i Γ Γ[i]?) D := q
    unfold retTV at q
    split at q
    case h_2 => exact q.elim
    rename_i os e
    cases w : rowsD os with
    | none => rw [w] at q; exact q.elim
    | some rs =>
      rw [w] at q
      have q : PFT (ct X) io W σ F H Γ (.ok (some rs) (Γ.set i .no)) D := q
      obtain ⟨a, xs, ps, ev, ha, r, z, nd, al⟩ := A.tree e w
      refine ⟨.ref a, ev, q (.ref a) σ F H (Go.dropS A ev).gs ⟨a, xs, ps, rfl, ha, r, z, nd, fun b hb => ⟨(al b hb).1, not_own_drop A ev (al b hb).2, .inr ⟨i, (al b hb).2⟩⟩⟩⟩
theorem q_ifT (hc : PT X ce (tB (ct X) W c)) (ha : PSs X body (tST (ct X) W s)) (hb : PSs X orelse (tST (ct X) W t)) : PS X (.If ce body orelse pos) (tST (ct X) W (sIfT c s t)) :=
  PS.imp (ps_if hc ha hb) fun D σ H ⟨io, F, Γ, A, q⟩ => by
    refine ⟨io, F, Γ, A, ?_⟩
    have q : PFT (ct X) io W σ F H Γ ((c Γ).bind fun b Γ' => if b = true then s Γ' else t Γ') D := q
    cases w1 : c Γ with
    | bad => rw [w1] at q; exact q
    | exc c Γ' => rw [w1] at q; exact fun F' H' g => q σ F' H' g.gs
    | ok k Γ1 =>
      rw [w1] at q
      intro F1 H1 g1
      have q := PFT.gs g1.gs q
      cases k with
      | true => exact iteT ⟨io, F1, Γ1, g1.at_, q⟩
      | false => exact iteF ⟨io, F1, Γ1, g1.at_, q⟩
theorem q_endT : PSs X [] (tST (ct X) W sNxT) := PSs.imp pss_nil fun D σ H ⟨io, F, Γ, A, q⟩ => q σ F H (Gs.refl A)
theorem q_lastT (h : PS X st (tST (ct X) W s)) : PSs X [st] (tST (ct X) W s) := pss_one h
theorem q_seqT (h1 : PS X st (tST (ct X) W s)) (h2 : PSs X rest (tST (ct X) W t)) : PSs X (st :: rest) (tST (ct X) W (sSeqT s t)) :=
  PSs.imp (pss_cons h1 h2) fun D σ H ⟨io, F, Γ, A, q⟩ => by
    refine ⟨io, F, Γ, A, ?_⟩
    have q : PFT (ct X) io W σ F H Γ (seqTR t (s Γ)) D := q
    cases w : s Γ with
    | bad => rw [w] at q; exact q
    | exc c Γ' => rw [w] at q; exact q
    | ok o Γ' =>
      rw [w] at q
      cases o with
      | none => exact fun σ' F' H' g => ⟨io, F', Γ', g.at_, PFT.gs g q⟩
      | some rs => exact q
theorem q_liftT (h : PS X st (tS (ct X) W u)) : PS X st (tST (ct X) W (sLiftT u)) :=
  PS.imp h fun D σ H ⟨io, F, Γ, A, q⟩ => by
    refine ⟨io, F, Γ, A, ?_⟩
    have q : PFT (ct X) io W σ F H Γ (liftTR (u Γ)) D := q
    cases w : u Γ with
    | bad => rw [w] at q; exact q.elim
    | exc c Γ' => rw [w] at q; exact q
    | ok fl Γ' =>
      rw [w] at q
      cases fl with
      | nx => exact q
      | bk => exact q.elim
      | ct => exact q.elim
      | rt av => exact q.elim
theorem q_setT (i : Nat) {y : Str} {p' : Pos} (hN : X.N.Nodup) (he : PE X e (tT (ct X) W tf)) (hi : X.N[i]? = some y := by rfl) (hx : Loc X.env.scope y := by first | exact Or.inl rfl | exact Or.inr rfl) (hs : swapsWith e (some (.Name y p')) pos.line X.env = pure false := by rfl)
    (hf : X.fn y = true ∨ X.env.scope.names.lookup y = some .local := by first | exact .inl rfl | exact .inr rfl) : PS X (.Assign [.Name y p'] e pos) (tS (ct X) W (sSetT tf i)) :=
  PS.imp (ps_set hN hi hx he hs hf) fun D σ H ⟨io, F, Γ, A, q⟩ => by
    have q : PF (ct X) io W σ F H Γ ((tf Γ).bind fun rs Γ1 => setTS i rs Γ1 Γ1[i]?) D := q
    refine ⟨io, F, Γ, A, ?_⟩
    cases w : tf Γ with
    | bad => rw [w] at q; exact q
    | exc c Γ' => rw [w] at q; exact fun F' H' g => q σ F' H' g.gs
    | ok rs Γ1 =>
      rw [w] at q
      intro v F1 H1 g1 hv
      have q : PF (ct X) io W σ F H Γ (setTS i rs Γ1 Γ1[i]?) D := q
      cases ei : Γ1[i]? with
      | none => rw [ei] at q; exact q.elim
      | some sd =>
        rw [ei] at q
        have q : PF (ct X) io W σ F H Γ (if sd.tag = none then .ok .nx (Γ1.set i (.ob none (.ls (rs.map rowO)))) else .bad) D := q
        split at q
        case isFalse => exact q.elim
        exact q _ _ _ (TreeOk.put g1 hv ei).gs
theorem callT_ok {io : IO} {σ : St} {F H : Hp} {Γ : Ev} {zs : List V} {l : List Bx.D} {Q : VK} (A : At (ct X) io σ F H Γ) (hl : Reps (ct X) F l zs) (q : PXT (ct X) io W σ F H Γ (callTR Γ (m (l.map SD.fr))) Q) : spT (ct X) m zs H Q (WE (wx (ct X) W) σ) := by
  have hlen := hl.length
  have gl : ∀ {j : Nat} {sd : SD}, (l.map SD.fr)[j]? = some sd → ∃ d, l[j]? = some d ∧ sd = .fr d := fun {j sd} h => by
    rw [List.getElem?_map] at h
    obtain ⟨d, h1, h2⟩ := Option.map_eq_some_iff.mp h
    exact ⟨d, h1, h2.symm⟩
  have no0 : ∀ {c : Addr}, ¬ OwnA H (l.map SD.fr) (zs.map some) c := fun {c} ⟨j, sd, e, o, _⟩ => by
    obtain ⟨d, _, rfl⟩ := gl e
    cases o
  have A0 : At (ct X) (IO.of (adrs zs) F) (zs.map some) F H (l.map SD.fr) := ⟨A.le, Bx.le.refl _, by rw [List.length_map, List.length_map, hlen], fun j sd e => by
    obtain ⟨d, h1, rfl⟩ := gl e
    obtain ⟨v, h2, r⟩ := hl.get h1
    exact ⟨v, by rw [List.getElem?_map, h2]; rfl, r⟩, fun i j a h _ => absurd ⟨i, h⟩ no0⟩
  refine ⟨_, _, _, A0, rfl, fun j sd e o => ?_, fun j a h => adrs_get h, ?_⟩
  · obtain ⟨d, _, rfl⟩ := gl e
    cases o
  have ext : ∀ {F' H' : Hp} {o : Ev}, Gs (ct X) (IO.of (adrs zs) F) (zs.map some) F H (l.map SD.fr) (zs.map some) F' H' o → Ext F H F' H' := fun {F' H' o} g => ⟨g.at_.pin, fun c u h => g.keep c u h no0 (by
      cases w : F c with
      | none => exact .inl rfl
      | some z => exact .inr (by show F c ≠ none; rw [w]; simp)), g.at_.le, fun c h w => (g.new c h w).elim id fun z => absurd z no0⟩
  cases hm : m (l.map SD.fr) with
  | bad => rw [hm] at q; exact q.elim
  | exc c o =>
    rw [hm] at q
    exact fun F' H' g => ⟨c, rfl, rfl, q F' H' (Go.ext A (ext g))⟩
  | ok av o =>
    rw [hm] at q
    cases av with
    | d x => exact q.elim
    | u x => exact q.elim
    | s i => exact q.elim
    | n es =>
      intro v F' H' g hv
      refine q v F' H' (Go.ext A (ext g)) ?_
      obtain ⟨t, xs, qs, e, ht, r, z, nd, al⟩ := hv
      refine ⟨t, xs, qs, e, ht, r, z, nd, fun b hb => ?_⟩
      obtain ⟨k1, _, k3⟩ := al b hb
      have hn : H b = none := k3.elim id fun w => absurd w no0
      exact ⟨k1, fun w => (A.own_none ((A.heldLeA (ext g).hh).mp w)).2 hn, .inl hn⟩
end
structure CallT (P : Program) (w : World) (K : PySem.W.Frag) (mg : Str → Option Value) (base : Heap) (k : Nat) (x : Str) (m : Ev → FR) : Prop where
  ex : ∃ (f : Addr) (fd : FuncData) (ps : List Str), FnG P w K mg base k f fd ps (spT ⟨K, mg, P, w⟩ m) ∧ mg x = some (.ref f) ∧ PySem.W.keepIn K (.ref f) = true ∧ Binds K fd ps []
section
variable {X : Cx} {W : XW} {k j : Nat} {x : Str} {p pos : Pos} {e : Expr} {es : List Expr} {fs : SA} {m : Ev → FR}
theorem q_callT (c : CallT X.prog X.w X.K X.mg X.base j x m) (hr : Room k X.A) (hgd : X.A.guards = some []) (tk : Takes X (wx (ct X) W)) (ha : PA X (e :: es) (tA (ct X) W fs)) (hj : j ≤ k := by decide)
    (hg : Gl X x := by rfl) (hdb : (x == ("__debug__" : Str)) = false := by decide) (he : starEach (e :: es) X.env = (false, eval e X.env) :: starEach es X.env := by rfl)
    (hpl : (backTo pos (starEach es X.env)).any (·.1) = false := by rfl) : PE X (.Call (.Name x p) (e :: es) [] pos) (tT (ct X) W (sCallT m fs)) := by
  obtain ⟨f, fd, ps, g, h1, h2, h3⟩ := c.ex
  refine PE.imp (pe_callG (E := WE (wx (ct X) W)) (g.mono hj) hr hgd hg h1 h2 h3 (fun σ => passAt tk σ) ha hdb he hpl) fun σ H Q ⟨io, F, Γ, A, q⟩ => ?_
  refine ⟨io, F, Γ, A, ?_⟩
  have q : PXT (ct X) io W σ F H Γ ((fs Γ).bind fun avs Γ1 => callTO m Γ1 (ds avs)) Q := q
  cases w : fs Γ with
  | bad => rw [w] at q; exact q
  | exc c Γ' => rw [w] at q; exact q
  | ok avs Γ1 =>
    rw [w] at q
    intro zs F1 H1 g1 hv
    have q : PXT (ct X) io W σ F H Γ (callTO m Γ1 (ds avs)) Q := q
    cases hd : ds avs with
    | none => rw [hd] at q; exact q.elim
    | some l =>
      rw [hd] at q
      exact callT_ok g1.at_ (ds_ok hv hd) (PXT.go g1 q)
end
section
variable {P : Program} {w : World} {K : PySem.W.Frag} {mg : Str → Option Value} {base : Heap}
theorem TreeOk.fin {C : Ct} {io : IO} {zs : List V} {N0 N1 : Addr → Prop} {F' H' : Hp} {Γ' Γ2 : Ev} {σ' : St} {es : List Bx.D} {v : V} (k : ∀ b, N1 b → N0 b) (ho : ∀ a, OwnA H' Γ2 (zs.map some) a → OwnA H' Γ' σ' a) (h : TreeOk C N1 F' H' Γ' σ' es v) : TreeOk C N0 F' H' Γ2 (zs.map some) es v := by
  obtain ⟨t, xs, q, e, ht, r, z, nd, al⟩ := h
  exact ⟨t, xs, q, e, ht, r, z, nd, fun b hb => ⟨(al b hb).1, fun w => (al b hb).2.1 (ho b w), k b (al b hb).2.2⟩⟩
theorem fnT_of {k : Nat} {f : Addr} {name qual : Str} {params : Arguments} {body : List Stmt} {scope : Scope} {dV kV doc pm cdv ct oc : Value} {an od : Option Addr}
    {osl : Array (Option Value)} {N ps : List Str} {m : SST} (lk : K.lookup f = some ⟨oc, od, .func (PySem.W.fnOf name qual params body scope dV kV doc pm an cdv ct), osl⟩) (hcd : PySem.W.codeIn K cdv qual = true) (S : FnScope N ps scope)
    (hbody : ∀ (A : Around) (out : List Env) (s : Shared) (H : Hp) (E : XK), Room k (A.deeper (envOfC qual scope s.heap.objs.size f cdv)) → (A.deeper (envOfC qual scope s.heap.objs.size f cdv)).guards = some [] →
      PSs (cxOf (L2.CX P w) P w K mg base N qual scope f cdv A out s H E) body (tST ⟨K, mg, P, w⟩ (fun c _ H' => E (ca ⟨K, mg, P, w⟩ c) none H') m)) :
    FnG P w K mg base (k + 1) f (PySem.W.fnOf name qual params body scope dV kV doc pm an cdv ct) ps (spT ⟨K, mg, P, w⟩ (fnMT ps.length N.length m)) := by
  have ar : ∀ {zs H Q E}, spT ⟨K, mg, P, w⟩ (fnMT ps.length N.length m) zs H Q E → zs.length = ps.length := by
    rintro zs H Q E ⟨io, F, args, hA, hpin, htag, hio, hq⟩
    unfold fnMT at hq
    split at hq
    · rename_i q
      rw [← q, hA.len, List.length_map]
    · exact hq.elim
  refine ⟨fun zs H Q E h => ar h, ?_⟩
  intro A out s H as us zs Q E room gds env0 binds rv hsp
  have hl := ar hsp
  obtain ⟨io, F, args, hA, hpin, htag, hio, hq⟩ := hsp
  have npl : ps.length ≤ N.length := by have := congrArg List.length S.pre; rw [List.length_take] at this; omega
  have hn : zs.length ≤ N.length := by omega
  have inK : K.In s.heap := env0.mod.kin.keeps fun b o q => (env0.bs b o q).1
  have noLim : s.heap.NoLimit := env0.mod.nolimit.keeps fun b o q => (env0.bs b o q).1
  have kinds : ∀ y ∈ ps.zip us, scope.names.lookup y.1 = some .local ∨ (scope.names.lookup y.1 = some .cell ∧ ((cellsFrom (s.heap.objs.size + 1) scope.names []).lookup y.1).isSome = true) := fun ⟨n, v⟩ hy =>
    (S.par n (List.of_mem_zip hy).1).imp id fun q => ⟨q, PySem.W.cellsFrom_some _ _ _ (.inl q)⟩
  refine codeAny_call_function room.depth (inK _ _ lk) rfl S.co S.gen rfl (PySem.W.codeRec_of inK hcd) (binds _ _ _ _ (wpAny_newFunctionEnv_cells S.kind kinds fun env he s1 x => ?_))
  subst he
  refine ⟨noLim.keeps x.toInCall.keep, codeAny_func ?_⟩
  have hb := hbody A out s H E (room.deeper _) gds
  have I0 : Inv (cxOf (L2.CX P w) P w K mg base N qual scope f cdv A out s H E) [] (L2.start N zs) H s1 := inv_start S room.hd env0 hl rv x
  have ent := hA.entry hn
  have alen : args.length = ps.length := by rw [hA.len, List.length_map, hl]
  have want : tST ⟨K, mg, P, w⟩ (fun c _ H' => E (ca ⟨K, mg, P, w⟩ c) none H') m { nx := fun _ H' => False, rt := Q } (L2.start N zs) H := by
    refine ⟨io, F, _, ent, ?_⟩
    unfold fnMT at hq
    rw [if_pos alen, ← alen] at hq
    have nw : ∀ b, NewA (args ++ List.replicate (N.length - args.length) SD.no) (L2.start N zs) H b → NewA args (zs.map some) H b := fun b q => q.imp id fun w => OwnA.entry hn hA w
    cases wm : m (args ++ List.replicate (N.length - args.length) .no) with
    | bad => rw [wm] at hq; exact hq
    | exc c Γ' =>
      rw [wm] at hq
      intro σ' F' H' g
      exact hq F' H' (Gs.fin hn hA hio g).1
    | ok fl Γ' =>
      rw [wm] at hq
      cases fl with
      | none => exact hq.elim
      | some es =>
        intro v σ' F' H' g hv
        have gf := Gs.fin hn hA hio g
        exact hq v F' H' gf.1 (TreeOk.fin (io := io) nw gf.2 hv)
  refine wpAny_mono (hb.run [] s1 (L2.start N zs) H _ I0 want) (fun fl s' hs => ?_) fun e s' hs => hs
  have done : ∀ {σ' : St} {H' : Hp} {v : V} {u : Value}, Inv (cxOf (L2.CX P w) P w K mg base N qual scope f cdv A out s H E) [] σ' H' s' → RelV v u → Q v H' → CE out P w H s Q u s' :=
    fun {σ' H' v u} J r q => ⟨v, H', J.os, J.bare, J.base, J.hok, r, q⟩
  match fl, hs with
  | .ret u, ⟨v, σ', H', J, r, q⟩ => exact done J r q
  | .next, ⟨σ', H', J, q⟩ => exact q.elim
  | .brk, ⟨_, _, _, q⟩ => exact q.elim
  | .cont, ⟨_, _, _, q⟩ => exact q.elim
theorem callT_of {x : Str} {qual : Str} {st : Stmt} {f : Addr} {fd : FuncData} {N ps : List Str} {k : Nat} {m : SST} (U : Fun K x qual st f fd) (hx : mg x = some (.ref f)) (b : Binds K fd ps []) (S : FnScope N ps (defScope st))
    (hbody : ∀ (cdv : Value) (A : Around) (out : List Env) (s : Shared) (H : Hp) (E : XK), Room k (A.deeper (envOfC qual (defScope st) s.heap.objs.size f cdv)) → (A.deeper (envOfC qual (defScope st) s.heap.objs.size f cdv)).guards = some [] →
      PSs (cxOf (L2.CX P w) P w K mg base N qual (defScope st) f cdv A out s H E) (defBody st) (tST ⟨K, mg, P, w⟩ (fun c _ H' => E (ca ⟨K, mg, P, w⟩ c) none H') m)) : CallT P w K mg base (k + 1) x (fnMT ps.length N.length m) := by
  obtain ⟨oc, od, kV, doc, pm, an, cdv, ct, osl, rfl, lk, hcd⟩ := U.ex
  exact ⟨f, _, ps, fnT_of lk hcd S fun A out s H E => hbody cdv A out s H E, hx, U.kp, b⟩
theorem callT_bad {x : Str} {qual : Str} {st : Stmt} {f : Addr} {fd : FuncData} {ps : List Str} (k : Nat) (U : Fun K x qual st f fd) (hx : mg x = some (.ref f)) (b : Binds K fd ps []) : CallT P w K mg base k x (fun _ => .bad) :=
  ⟨f, fd, ps, ⟨fun zs H Q E ⟨io, F, args, _, _, _, _, h⟩ => h.elim, fun A out s H as us zs Q E _ _ _ _ _ ⟨io, F, args, _, _, _, _, h⟩ => h.elim⟩, hx, U.kp, b⟩
end
end Bx
end
end

section
set_option Elab.async false
set_option linter.all false
set_option maxRecDepth 100000
set_option maxHeartbeats 4000000
set_option autoImplicit false
noncomputable section
namespace Bx
open PySem PySem.Spec PyProof.Rows L2
theorem setG_same {α : Type} {l : List α} {j : Nat} {x : α} (e : l[j]? = some x) : l.set j x = l := by
  have hi := (List.getElem?_eq_some_iff.mp e).1
  apply List.ext_getElem?
  intro k
  by_cases q : j = k
  · subst q
    rw [List.getElem?_set_self hi, e]
  · rw [List.getElem?_set_ne q]
theorem rowsD_inv : ∀ {os : List OD} {es : List D}, rowsD os = some es → os = es.map rowO
  | [], es, h => by cases h; rfl
  | o :: os, es, h => by
    obtain ⟨d, hd, h⟩ := Option.bind_eq_some_iff.mp h
    obtain ⟨l, hl, rfl⟩ := Option.map_eq_some_iff.mp h
    unfold rowD at hd
    split at hd
    case h_2 => cases hd
    cases hd
    rw [List.map_cons, rowsD_inv hl]
    rfl
section
variable {C : Ct} {io : IO} {W : XW} {σ0 σ σ' : St} {F0 F F' H0 H H' H2 : Hp} {Γ0 Γ Γ' : Ev} {D : Ends} {es : List Bx.D}
theorem Go.wrS {i : Nat} {sd : SD} (g : Go C io σ0 F0 H0 Γ0 σ F H Γ) (hb : ∀ b, ¬ OwnAt H Γ σ i b → H2 b = H b) (lv : ∀ b, H b ≠ none → H2 b ≠ none) (hs : SlotOk C io F H2 sd σ[i]?) (hi : i < Γ.length)
    (ho : ∀ b, OwnAt H2 (Γ.set i sd) σ i b → OwnAt H Γ σ i b ∨ (¬ OwnA H Γ σ b ∧ NewA Γ0 σ0 H0 b)) : Go C io σ0 F0 H0 Γ0 σ F H2 (Γ.set i sd) := by
  have A := g.at_
  have oth : ∀ {j : Nat} {b : Addr}, j ≠ i → (OwnAt H2 (Γ.set i sd) σ j b ↔ OwnAt H Γ σ j b) := fun {j b} hj => A.heldJ (List.getElem?_set_ne (Ne.symm hj)) rfl fun c hc => hb c fun w => hj (A.ne j i c hc w)
  refine ⟨g.ff, fun b o h n => ?_, fun b h => lv b (g.live b h), g.new, fun b ⟨j, q⟩ => ?_, g.ln, ⟨fun b o h => ?_, A.pin, by rw [List.length_set]; exact A.len, fun j sd2 q => ?_, fun j k b h1 h2 => ?_⟩⟩
  · rw [hb b fun w => ?_]
    · exact g.keep b o h n
    · rcases g.own b ⟨i, w⟩ with z | z
      · exact n z
      · rw [h] at z; cases z
  · by_cases hj : j = i
    · subst hj
      rcases ho b q with z | ⟨_, z⟩
      · exact g.own b ⟨j, z⟩
      · exact z.elim .inr .inl
    · exact g.own b ⟨j, (oth hj).mp q⟩
  · rw [hb b fun w => by rw [(A.ownAt_none w).1] at h; cases h]
    exact A.le b o h
  · rcases set_get q with ⟨q4, q5, _⟩ | ⟨q4, q5⟩
    · subst q4
      rw [q5]
      exact hs
    · have w := A.slot j sd2 q5
      have st : ∀ b, OwnAt H Γ σ j b → H2 b = H b := fun b hj => hb b fun z => q4 (A.ne j i b hj z)
      have k : ∀ {sd : SD}, Γ[j]? = some sd → sd.smp = true → (∃ a, σ[j]? = some (some (V.ref a)) ∧ F a = none ∧ OwnOk C F H a sd ∧ ∀ k, sd.tag = some k → io.adr k = some a) → (∃ a, σ[j]? = some (some (V.ref a)) ∧ F a = none ∧ OwnOk C F H2 a sd ∧ ∀ k, sd.tag = some k → io.adr k = some a) := by
        rintro sd es so ⟨a, w1, w2, w3, w4⟩
        exact ⟨a, w1, w2, w3.heap (st a (OwnAt.of es so w1)), w4⟩
      cases sd2 with
      | no => trivial
      | fr d => exact w
      | fu d => exact w
      | fx x => exact w
      | ob t x => exact A.obUp q5 (le.refl _) (fun b hb => (A.ownAt_none hb).1) st
      | ow t l => exact k q5 rfl w
      | od t l => exact k q5 rfl w
      | ot t l => exact k q5 rfl w
  · by_cases hj : j = i
    · subst hj
      by_cases hk : k = j
      · exact hk.symm
      · have z := (oth hk).mp h2
        rcases ho b h1 with y | ⟨y, _⟩
        · exact A.ne j k b y z
        · exact absurd ⟨k, z⟩ y
    · have z := (oth hj).mp h1
      by_cases hk : k = i
      · subst hk
        rcases ho b h2 with y | ⟨y, _⟩
        · exact A.ne j k b z y
        · exact absurd ⟨j, z⟩ y
      · exact A.ne j k b z ((oth hk).mp h2)
theorem RowsAt.len : ∀ {es : List Bx.D} {xs : List V} {q : List (Addr × Addr)}, RowsAt C F H es xs q → xs.length = es.length ∧ q.length = es.length
  | [], _, _, ⟨h1, h2⟩ => by subst h1; subst h2; exact ⟨rfl, rfl⟩
  | _ :: _, _, _, h => by
    obtain ⟨b, ns, p, c, x, zs, r, q', e1, rfl, rfl, hp, rb, hc, rn, z, k⟩ := h
    obtain ⟨k1, k2⟩ := RowsAt.len k
    simp [k1, k2]
theorem RowsAt.get : ∀ {es : List Bx.D} {xs : List V} {q : List (Addr × Addr)}, RowsAt C F H es xs q → ∀ {k : Nat}, k < es.length → ∃ b ns p c x zs, es[k]? = some (.tup [b, .lst ns]) ∧ xs[k]? = some (.ref p) ∧ q[k]? = some (p, c) ∧ H p = some (.tup [x, .ref c]) ∧ Rep C F b x ∧ H c = some (.lst zs) ∧ Reps C F ns zs ∧ ns.length ≤ sizeLine
  | [], _, _, _, k, hk => by simp at hk
  | _ :: _, _, _, h, k, hk => by
    obtain ⟨b, ns, p, c, x, zs, r, q', e1, rfl, rfl, hp, rb, hc, rn, z, h2⟩ := h
    cases k with
    | zero => exact ⟨b, ns, p, c, x, zs, by rw [e1]; rfl, rfl, rfl, hp, rb, hc, rn, z⟩
    | succ k =>
      obtain ⟨b', ns', p', c', x', zs', w1, w2, w3, w4⟩ := RowsAt.get h2 (k := k) (by simpa using hk)
      exact ⟨b', ns', p', c', x', zs', by simpa using w1, by simpa using w2, by simpa using w3, w4⟩
theorem mem_flP {a : Addr × Addr} {q : List (Addr × Addr)} (h : a ∈ q) : a.1 ∈ flP q ∧ a.2 ∈ flP q := ⟨List.mem_flatMap.mpr ⟨a, h, by simp⟩, List.mem_flatMap.mpr ⟨a, h, by simp⟩⟩
theorem RowsAt.setL : ∀ {es : List Bx.D} {xs : List V} {q : List (Addr × Addr)} {k : Nat} {p c : Addr} {b : Bx.D} {ns ms : List Bx.D} {ys : List V}, RowsAt C F H es xs q → (flP q).Nodup → q[k]? = some (p, c) → es[k]? = some (.tup [b, .lst ns]) → Reps C F ms ys → ms.length ≤ sizeLine →
    RowsAt C F (L2.upd H c (.lst ys)) (es.set k (.tup [b, .lst ms])) xs q
  | [], _, _, k, _, _, _, _, _, _, _, _, _, he, _, _ => by simp at he
  | _ :: _, _, _, 0, p, c, b, ns, ms, ys, h, nd, hq, he, rm, zm => by
    obtain ⟨b', ns', p', c', x, zs, r, q', e1, rfl, rfl, hp, rb, hc, rn, z, h2⟩ := h
    have hq : (p', c') = (p, c) := by simpa using hq
    cases hq
    subst e1
    have he : Bx.D.tup [b', .lst ns'] = .tup [b, .lst ns] := by simpa using he
    injection he with he
    injection he with he1 he2
    subst he1
    rw [flP_cons, List.nodup_cons, List.nodup_cons] at nd
    have npc : p ≠ c := fun w => nd.1 (by rw [w]; exact List.mem_cons_self)
    exact ⟨b', ms, p, c, x, ys, r, q', rfl, rfl, rfl, by rw [upd_ne npc]; exact hp, rb, upd_same, rm, zm, RowsAt.heap (fun d hd => upd_ne fun w => nd.2.1 (by rw [← w]; exact hd)) h2⟩
  | e0 :: es0, _, _, k + 1, p, c, b, ns, ms, ys, h, nd, hq, he, rm, zm => by
    obtain ⟨b', ns', p', c', x, zs, r, q', e1, rfl, rfl, hp, rb, hc, rn, z, h2⟩ := h
    rw [flP_cons, List.nodup_cons, List.nodup_cons] at nd
    have hq : q'[k]? = some (p, c) := by simpa using hq
    have he : es0[k]? = some (Bx.D.tup [b, .lst ns]) := by simpa using he
    have hm := (mem_flP (List.mem_of_getElem? hq)).2
    have n1 : p' ≠ c := fun w => nd.1 (by rw [w]; exact List.mem_cons_of_mem _ hm)
    have n2 : c' ≠ c := fun w => nd.2.1 (by rw [w]; exact hm)
    exact ⟨b', ns', p', c', x, zs, r, q', e1, rfl, rfl, by rw [upd_ne n1]; exact hp, rb, by rw [upd_ne n2]; exact hc, rn, z, RowsAt.setL h2 nd.2.2 hq he rm zm⟩
theorem tree_slot {i : Nat} {a : Addr} {xs : List V} {q : List (Addr × Addr)} (ea : σ[i]? = some (some (.ref a))) (ha : H a = some (.lst xs)) (r : RowsAt C F H es xs q) (z : es.length ≤ sizeLine) (nd : (a :: flP q).Nodup) (f0 : ∀ b ∈ a :: flP q, F b = none) : SlotOk C io F H (.ob none (.ls (es.map rowO))) σ[i]? := by
  obtain ⟨k1, k2, _, _⟩ := r.to
  exact ⟨.ref a, a :: flP q, ea, ⟨a, xs, rfl, ha, k1, by rw [List.length_map]; exact z⟩, ⟨a, xs, flP q, rfl, ha, k2, rfl⟩, nd, f0, fun k h => by cases h⟩
theorem tree_own {i : Nat} {a : Addr} {xs : List V} {q : List (Addr × Addr)} (ea : σ[i]? = some (some (.ref a))) (ha : H a = some (.lst xs)) (r : RowsAt C F H es xs q) (hi : i < Γ.length) {b : Addr} (h : OwnAt H (Γ.set i (.ob none (.ls (es.map rowO)))) σ i b) : b ∈ a :: flP q := by
  obtain ⟨sd, e1, _, v, e2, h3⟩ := h
  rw [List.getElem?_set_self hi] at e1
  cases e1
  rw [ea] at e2
  cases e2
  obtain ⟨fp, k1, k2⟩ := h3
  obtain ⟨_, w2, _, _⟩ := r.to
  have : Fp H (.ls (es.map rowO)) (.ref a) (a :: flP q) := ⟨a, xs, flP q, rfl, ha, w2, rfl⟩
  rw [Fp.det k1 this] at k2
  exact k2
end
@[simp] def lendRwO (i : Nat) (f : SB) (Γ : Ev) : Option (List D) → R Bool
  | some es => if (Γ.set i .no).all (fun s => !s.own) = true then (match f (Γ.set i (.fr (.lst es))) with
    | .ok b _ => .ok b Γ
    | _ => .bad) else .bad
  | none => .bad
@[simp] def lendRwS (i : Nat) (f : SB) (Γ : Ev) : Option SD → R Bool
  | some (.ob none (.ls os)) => lendRwO i f Γ (rowsD os)
  | _ => .bad
@[simp] def lendRw (i : Nat) (f : SB) : SB := fun Γ => lendRwS i f Γ Γ[i]?
section
variable {C : Ct} {io : IO} {W : XW} {σ : St} {F H : Hp} {Γ : Ev}
theorem RowsAt.rep {G : Hp} (l : Bx.le F G) : ∀ {es : List Bx.D} {xs : List V} {q : List (Addr × Addr)}, RowsAt C F H es xs q → (∀ b ∈ flP q, G b = H b) → Reps C G es xs
  | [], _, _, ⟨h1, _⟩, _ => h1
  | _ :: _, _, _, h, k => by
    obtain ⟨b', ns', p', c', x, zs, r, q', rfl, rfl, rfl, hp, rb, hc, rn, z, h2⟩ := h
    rw [flP_cons] at k
    have kp : G p' = some (.tup [x, .ref c']) := by rw [k p' List.mem_cons_self]; exact hp
    have kc : G c' = some (.lst zs) := by rw [k c' (List.mem_cons_of_mem _ List.mem_cons_self)]; exact hc
    exact ⟨.ref p', r, rfl, ⟨p', _, rfl, .inl (.inl kp), ⟨x, _, rfl, rb.mono l, .ref c', [], rfl, ⟨c', zs, rfl, kc, rn.mono l, z⟩, rfl⟩, by rw [sizeLine_eq]; simp⟩, RowsAt.rep l h2 fun b hb => k b (List.mem_cons_of_mem _ (List.mem_cons_of_mem _ hb))⟩
open Classical in
noncomputable def frzA (F H : Hp) (L : List Addr) : Hp := fun b => if b ∈ L then H b else F b
theorem frzA_in {L : List Addr} {b : Addr} (h : b ∈ L) : frzA F H L b = H b := by unfold frzA; rw [if_pos h]
theorem frzA_out {L : List Addr} {b : Addr} (h : b ∉ L) : frzA F H L b = F b := by unfold frzA; rw [if_neg h]
theorem At.frzT (A : At C io σ F H Γ) {i : Nat} {L : List Addr} {es : List Bx.D} {a : Addr} {xs : List V} {q : List (Addr × Addr)} (ea : σ[i]? = some (some (.ref a))) (ha : H a = some (.lst xs)) (r : RowsAt C F H es xs q) (z : es.length ≤ sizeLine) (al : ∀ b ∈ a :: flP q, F b = none ∧ OwnAt H Γ σ i b)
    (ho : (Γ.set i .no).all (fun s => !s.own) = true) (hi : i < Γ.length) : At C io σ (frzA F H (a :: flP q)) H (Γ.set i (.fr (.lst es))) := by
  have fl : Bx.le F (frzA F H (a :: flP q)) := fun b o h => by
    by_cases m : b ∈ a :: flP q
    · rw [(al b m).1] at h; cases h
    · rw [frzA_out m]; exact h
  have no : ∀ {j : Nat} {b : Addr}, ¬ OwnAt H (Γ.set i (.fr (.lst es))) σ j b := fun {j b} ⟨sd, e1, e2, _⟩ => by
    rcases set_get e1 with ⟨q4, q5, _⟩ | ⟨q4, q5⟩
    · rw [q5] at e2; cases e2
    · have := List.all_eq_true.mp ho sd (List.mem_of_getElem? (by rw [List.getElem?_set_ne (Ne.symm q4)]; exact q5))
      rw [e2] at this; cases this
  refine ⟨fun b o h => ?_, A.pin.trans fl, by rw [List.length_set]; exact A.len, fun j sd q => ?_, fun j k b h1 h2 => absurd h1 no⟩
  · by_cases m : b ∈ a :: flP q
    · rw [frzA_in m] at h; exact h
    · rw [frzA_out m] at h; exact A.le b o h
  · rcases set_get q with ⟨q4, q5, _⟩ | ⟨q4, q5⟩
    · subst q4
      rw [q5]
      exact ⟨.ref a, ea, a, xs, rfl, by rw [frzA_in List.mem_cons_self]; exact ha, RowsAt.rep fl r fun b hb => frzA_in (List.mem_cons_of_mem _ hb), z⟩
    · have hso := List.all_eq_true.mp ho sd (List.mem_of_getElem? (by rw [List.getElem?_set_ne (Ne.symm q4)]; exact q5))
      have w := A.slot j sd q5
      cases sd with
      | no => trivial
      | fr d => obtain ⟨v, w1, w2⟩ := w; exact ⟨v, w1, w2.mono fl⟩
      | fu d => obtain ⟨v, w1, w2⟩ := w; exact ⟨v, w1, RepN.mono fl w2⟩
      | fx x => obtain ⟨v, w1, w2⟩ := w; exact ⟨v, w1, FXOk.mono fl w2⟩
      | ob t x => cases hso
      | ow t l => cases hso
      | od t l => cases hso
      | ot t l => cases hso
end
section
variable {X : Cx} {W : XW} {c : Expr} {f : SB}
theorem q_lendRw (i : Nat) (h : PT X c (tB (ct X) W f)) : PT X c (tB (ct X) W (lendRw i f)) :=
  PT.imp h fun σ H Q ⟨io, F, Γ, A, p⟩ => by
    have p : PB (ct X) io W σ F H Γ (lendRwS i f Γ Γ[i]?) Q := p
    unfold lendRwS at p
    split at p
    case h_2 => exact p.elim
    rename_i os e
    cases w : rowsD os with
    | none => rw [w] at p; exact p.elim
    | some es =>
      rw [w] at p
      have p : PB (ct X) io W σ F H Γ (if (Γ.set i .no).all (fun s => !s.own) = true then (match f (Γ.set i (.fr (.lst es))) with
        | .ok b _ => .ok b Γ
        | _ => .bad) else .bad) Q := p
      split at p
      case isFalse => exact p.elim
      rename_i ho
      have hi := (List.getElem?_eq_some_iff.mp e).1
      obtain ⟨a, xs, q, ea, ha, r, z, nd, al⟩ := A.tree e w
      have A1 := At.frzT (L := []) A ea ha r z al ho hi
      have os' := rowsD_inv w
      subst os'
      refine ⟨io, _, _, A1, ?_⟩
      cases wf : f (Γ.set i (.fr (.lst es))) with
      | bad => rw [wf] at p; exact p.elim
      | exc c Γ' => rw [wf] at p; exact p.elim
      | ok b Γ1 =>
        rw [wf] at p
        intro F' H' g
        have no : ∀ {b : Addr}, ¬ OwnA H (Γ.set i (.fr (.lst es))) σ b := fun {b} ⟨j, sd, e1, e2, _⟩ => by
          rcases set_get e1 with ⟨q4, q5, _⟩ | ⟨q4, q5⟩
          · rw [q5] at e2; cases e2
          · have := List.all_eq_true.mp ho sd (List.mem_of_getElem? (by rw [List.getElem?_set_ne (Ne.symm q4)]; exact q5))
            rw [e2] at this; cases this
        have hh : Bx.le H H' := fun b o h => g.keep b o h no
        refine p F H' ⟨le.refl _, fun b o h _ => hh b o h, g.live, fun b h q => absurd h q, fun b h => .inl ((A.heldLeA hh).mp h), rfl, ⟨A.le.trans hh, A.pin, A.len, fun j sd q => ?_, fun j k b h1 h2 => A.ne j k b ((A.heldLe hh).mp h1) ((A.heldLe hh).mp h2)⟩⟩
        by_cases hj : j = i
        · subst hj
          rw [e] at q
          cases q
          exact A.obUp e (le.refl _) (fun b hb => (A.ownAt_none hb).1) fun b hb => by
            cases wb : H b with
            | none => exact absurd wb (A.ownAt_none hb).2
            | some o => exact hh b o wb
        · have hso := List.all_eq_true.mp ho sd (List.mem_of_getElem? (by rw [List.getElem?_set_ne (Ne.symm hj)]; exact q))
          have w := A.slot j sd q
          cases sd with
          | no => trivial
          | fr d => exact w
          | fu d => exact w
          | fx x => exact w
          | ob t x => cases hso
          | ow t l => cases hso
          | od t l => cases hso
          | ot t l => cases hso
end
end Bx
end
end

section
set_option Elab.async false
set_option linter.all false
set_option maxRecDepth 100000
set_option maxHeartbeats 4000000
set_option autoImplicit false
noncomputable section
namespace Bx
open PySem PySem.Spec PyProof.Rows L2
def setRow (k : Nat) (l : List D) : List D := match l[k]? with
  | some (.tup [b, .lst ns]) => l.set k (.tup [b, .lst (ns ++ [.int (k : Nat)])])
  | _ => l
def bumpN : Nat → List D → List D
  | 0, l => l
  | k + 1, l => setRow k (bumpN k l)
@[simp] def shortR : D → Bool
  | .tup [_, .lst ns] => decide (ns.length < 100000)
  | _ => false
@[simp] def forRws (i jk jr : Nat) (Γ : Ev) (es : List D) : Option SD → Option SD → R Fl
  | some s1, some s2 => if s1.tag = none ∧ s2.tag = none ∧ i ≠ jk ∧ i ≠ jr ∧ jk ≠ jr ∧ es.all shortR = true then .ok .nx (((Γ.set jk .no).set jr .no).set i (.ob none (.ls ((bumpN es.length es).map rowO)))) else .bad
  | _, _ => .bad
@[simp] def forRwO (i jk jr : Nat) (Γ : Ev) : Option (List D) → R Fl
  | some es => forRws i jk jr Γ es Γ[jk]? Γ[jr]?
  | none => .bad
@[simp] def forRwS (i jk jr : Nat) (Γ : Ev) : Option SD → R Fl
  | some (.ob none (.ls os)) => forRwO i jk jr Γ (rowsD os)
  | _ => .bad
@[simp] def sForRw (i jk jr : Nat) : SS := fun Γ => forRwS i jk jr Γ Γ[i]?
@[simp] def appTO (i : Nat) (Γ : Ev) : Option (List D) → R Fl
  | some es => if es.length ≤ 100000 then .ok .nx (Γ.set i .no) else .bad
  | none => .bad
@[simp] def appTS (i : Nat) (Γ : Ev) : Option SD → R Fl
  | some (.ob none (.ls os)) => appTO i Γ (rowsD os)
  | _ => .bad
@[simp] def sAppT (i : Nat) : SS := fun Γ => appTS i Γ Γ[i]?

theorem setRow_len (k : Nat) (l : List D) : (setRow k l).length = l.length := by
  unfold setRow
  split
  · rw [List.length_set]
  · rfl
theorem bumpN_len : ∀ (k : Nat) (l : List D), (bumpN k l).length = l.length
  | 0, _ => rfl
  | k + 1, l => by unfold bumpN; rw [setRow_len, bumpN_len k l]
theorem setRow_ne {k j : Nat} (l : List D) (h : j ≠ k) : (setRow k l)[j]? = l[j]? := by
  unfold setRow
  split
  · rw [List.getElem?_set_ne (Ne.symm h)]
  · rfl
theorem bumpN_ge : ∀ {k j : Nat} (l : List D), k ≤ j → (bumpN k l)[j]? = l[j]?
  | 0, _, _, _ => rfl
  | k + 1, j, l, h => by unfold bumpN; rw [setRow_ne _ (by omega), bumpN_ge l (by omega)]
section
variable {X : Cx} {W : XW} {body : List Stmt} {pos apos cpos tpos ipos spos fpos : Pos}
theorem q_forRw (i jk jr : Nat) {x xk xr : Str} {px pk pr pr2 pk2 ep p1 : Pos} {kk j1 : Nat} (hp : PassesOwn (model X.prog X.w) X.A X.env X.xe) (hc : X.calm = true) (hm : X.mg "enumerate" = none) (hN : X.N.Nodup) (pa : PlainAttrs "list") (slot : Slot "list" "append" "list.append") (hty : typeOf (.builtin "list.append") = pure (.type "method_descriptor"))
    (hi : X.N[i]? = some x := by rfl) (hjk : X.N[jk]? = some xk := by rfl) (hjr : X.N[jr]? = some xr := by rfl)
    (hv : Vis X.env.scope x := by first | exact Or.inl rfl | exact Or.inr (Or.inl rfl) | exact Or.inr (Or.inr rfl)) (hd : (x == ("__debug__" : Str)) = false := by decide) (hcd : (x == ("__classdict__" : Str)) = false := by decide)
    (lk : Loc X.env.scope xk := by first | exact Or.inl rfl | exact Or.inr rfl) (lr : Loc X.env.scope xr := by first | exact Or.inl rfl | exact Or.inr rfl)
    (fk : X.fn xk = true ∨ X.env.scope.names.lookup xk = some .local := by first | exact .inl rfl | exact .inr rfl) (fr : X.fn xr = true ∨ X.env.scope.names.lookup xr = some .local := by first | exact .inl rfl | exact .inr rfl)
    (vk : Vis X.env.scope xk := by first | exact Or.inl rfl | exact Or.inr (Or.inl rfl) | exact Or.inr (Or.inr rfl)) (dk : (xk == ("__debug__" : Str)) = false := by decide) (ck : (xk == ("__classdict__" : Str)) = false := by decide)
    (vr : Vis X.env.scope xr := by first | exact Or.inl rfl | exact Or.inr (Or.inl rfl) | exact Or.inr (Or.inr rfl)) (dr : (xr == ("__debug__" : Str)) = false := by decide) (cr : (xr == ("__classdict__" : Str)) = false := by decide)
    (hg : Gl X "enumerate" := by rfl) (hs : starEach [.Name x px] X.env = [(false, eval (.Name x px) X.env)] := by rfl) (hs0 : starEach [.Name x px] X.env = (false, eval (.Name x px) X.env) :: starEach [] X.env := by rfl)
    (t1 : (assignEach [.Name xk pk, .Name xr pr] X.env).map (·.2) = assign (.Name xk pk) X.env :: (assignEach [.Name xr pr] X.env).map (·.2) := by rfl) (t2 : (assignEach [.Name xr pr] X.env).map (·.2) = assign (.Name xr pr) X.env :: (assignEach [] X.env).map (·.2) := by rfl)
    (t3 : (assignEach [.Name xk pk, .Name xr pr] X.env).length = 2 := by rfl) (t4 : (assignEach [.Name xk pk, .Name xr pr] X.env).findIdx? (·.1) = none := by rfl)
    (hbase : attributeBase (.Subscript (.Name xr pr2) (.Constant (.int 1) j1 p1) ipos) "append" X.env (eval (.Subscript (.Name xr pr2) (.Constant (.int 1) j1 p1) ipos) X.env) = eval (.Subscript (.Name xr pr2) (.Constant (.int 1) j1 p1) ipos) X.env := by rfl)
    (hfew : ((backTo cpos (starEach [.Name xk pk2] X.env)).all (fun x => !x.1) && (backToKw cpos (keywordEach [] X.env)).all (fun x => x.1.isSome) && decide (([.Name xk pk2] : List Expr).length + ([] : List Keyword).length + (if ([] : List Keyword).isEmpty then 0 else 1) < 30)) = true := by rfl)
    (hline : (apos.endLine == cpos.line) = true := by rfl) (hsa : starEach [.Name xk pk2] X.env = (false, eval (.Name xk pk2) X.env) :: starEach [] X.env := by rfl) (hplain : (backTo cpos (starEach [] X.env)).any (·.1) = false := by rfl)
    (hsw : swapsWith (.Call (.Attribute (.Subscript (.Name xr pr2) (.Constant (.int 1) j1 p1) ipos) "append" apos) [.Name xk pk2] [] cpos) none spos.line X.env = pure false := by rfl)
    (hfs : ∀ v, foldedSetIterable (.Call (.Name "enumerate" ep) [.Name x px] [] pos) X.env v = pure v := by intro _; rfl) :
    PS X (.For (.Tuple [.Name xk pk, .Name xr pr] kk tpos) (.Call (.Name "enumerate" ep) [.Name x px] [] pos) [.Expr (.Call (.Attribute (.Subscript (.Name xr pr2) (.Constant (.int 1) j1 p1) ipos) "append" apos) [.Name xk pk2] [] cpos) spos] [] fpos) (tS (ct X) W (sForRw i jk jr)) :=
  PS.imp (ps_for hp hc (pi_enum hg hm (pa_cons (pe_var (i := i) hi hv hd hcd) pa_nil hs0) hs) (pg_tup hc (pgs_cons (pg_name hN hjk lk fk) (pgs_cons (pg_name hN hjr lr fr) pgs_nil t2) t1) t3 t4)
      (pss_one (ps_expr (pe_bm pa slot hty mt_append (pe_ix ix_tup (pe_var (i := jr) hjr vr dr cr) pe_int (fun _ _ => rfl)) (pa_cons (pe_var (i := jk) hjk vk dk ck) pa_nil hsa) hbase hfew hline hsa hplain) hsw)) hfs) fun D σ H ⟨io, F, Γ, A, p⟩ => by
    have p : PF (ct X) io W σ F H Γ (forRwS i jk jr Γ Γ[i]?) D := p
    unfold forRwS at p
    split at p
    case h_2 => exact p.elim
    rename_i os e
    cases w : rowsD os with
    | none => rw [w] at p; exact p.elim
    | some es =>
      rw [w] at p
      have p : PF (ct X) io W σ F H Γ (forRws i jk jr Γ es Γ[jk]? Γ[jr]?) D := p
      cases ek : Γ[jk]? with
      | none => rw [ek] at p; exact p.elim
      | some s1 =>
        cases er : Γ[jr]? with
        | none => rw [ek, er] at p; exact p.elim
        | some s2 =>
          rw [ek, er] at p
          have p : PF (ct X) io W σ F H Γ (if s1.tag = none ∧ s2.tag = none ∧ i ≠ jk ∧ i ≠ jr ∧ jk ≠ jr ∧ es.all shortR = true then .ok .nx (((Γ.set jk .no).set jr .no).set i (.ob none (.ls ((bumpN es.length es).map rowO)))) else .bad) D := p
          split at p
          case isFalse => exact p.elim
          rename_i hcond
          obtain ⟨_, _, nik, nir, nkr, hsh⟩ := hcond
          have os' := rowsD_inv w
          subst os'
          have hil := (List.getElem?_eq_some_iff.mp e).1
          have hkl := (List.getElem?_eq_some_iff.mp ek).1
          have hrl := (List.getElem?_eq_some_iff.mp er).1
          obtain ⟨a, xs, q, ea, ha, r, z, nd, al⟩ := A.tree e w
          obtain ⟨G, eG⟩ : ∃ G, G = (Γ.set jk .no).set jr .no := ⟨_, rfl⟩
          rw [← eG] at p
          have hiG : i < G.length := by rw [eG, List.length_set, List.length_set]; exact hil
          have eGi : G[i]? = some (.ob none (.ls (es.map rowO))) := by rw [eG, List.getElem?_set_ne (Ne.symm nir), List.getElem?_set_ne (Ne.symm nik)]; exact e
          have eGk : ∀ s, (G.set i s)[jk]? = some .no := fun s => by rw [List.getElem?_set_ne nik, eG, List.getElem?_set_ne (Ne.symm nkr), List.getElem?_set_self hkl]
          have eGr : ∀ s, (G.set i s)[jr]? = some .no := fun s => by rw [List.getElem?_set_ne nir, eG, List.getElem?_set_self (by rw [List.length_set]; exact hrl)]
          have g0 : Go (ct X) io σ F H Γ σ F H (G.set i (.ob none (.ls (es.map rowO)))) := by
            rw [setG_same eGi, eG]
            exact (Go.drop A jk).trans (Go.drop (Go.drop A jk).at_ jr)
          refine ⟨.ref a, ea, a, xs, rfl, .of ha, fun k m σ2 H2 => m = es.length - k ∧ k ≤ es.length ∧ σ2[i]? = some (some (.ref a)) ∧ ∃ F2, Go (ct X) io σ F H Γ σ2 F2 H2 (G.set i (.ob none (.ls ((bumpN k es).map rowO)))), ⟨es.length, rfl, Nat.zero_le _, ea, F, g0⟩, ?_⟩
          rintro k m σ2 H2 ⟨rfl, hk, ev2, F2, g2⟩
          have A2 := g2.at_
          have e2 : (G.set i (.ob none (.ls ((bumpN k es).map rowO))))[i]? = some (.ob none (.ls ((bumpN k es).map rowO))) := List.getElem?_set_self hiG
          have rd2 : rowsD ((bumpN k es).map rowO) = some (bumpN k es) := by
            clear p g2 A2 e2
            have hr : ∀ l : List Bx.D, (∀ d ∈ l, ∃ b ns, d = .tup [b, .lst ns]) → rowsD (l.map rowO) = some l := fun l => by
              induction l with
              | nil => intro _; rfl
              | cons d l ih =>
                intro h
                obtain ⟨b, ns, rfl⟩ := h _ List.mem_cons_self
                show (rowD (.tp [.fr b, .ow ns])).bind (fun d => (rowsD (l.map rowO)).map fun l => d :: l) = _
                rw [ih fun d hd => h d (List.mem_cons_of_mem _ hd)]
                rfl
            have hall : ∀ d ∈ es, ∃ b ns, d = .tup [b, .lst ns] := fun d hd => by
              have := List.all_eq_true.mp hsh d hd
              unfold shortR at this
              split at this
              · exact ⟨_, _, rfl⟩
              · cases this
            refine hr _ ?_
            clear hk
            induction k with
            | zero => exact hall
            | succ k ih =>
              intro d hd
              unfold bumpN setRow at hd
              split at hd
              · rcases List.mem_or_eq_of_mem_set hd with h | h
                · exact ih d h
                · exact ⟨_, _, h⟩
              · exact ih d hd
          obtain ⟨a', xs2, q2, ea2, ha2, r2, z2, nd2, al2⟩ := A2.tree e2 rd2
          rw [ev2] at ea2; cases ea2
          have hlen2 := r2.len.1
          rw [bumpN_len] at hlen2
          by_cases hlt : k < es.length
          case neg =>
            have hk2 : k = es.length := by omega
            refine .inl ⟨⟨xs2, .of ha2, by omega⟩, ?_⟩
            rw [hk2] at g2
            exact p σ2 F2 H2 g2.gs
          obtain ⟨b, ns, tp, c, u, zs, w1, w2, w3, w4, w5, w6, w7, w8⟩ := r2.get (k := k) (by rw [bumpN_len]; exact hlt)
          have hns : ns.length < 100000 := by
            rw [bumpN_ge es (Nat.le_refl k)] at w1
            have := List.all_eq_true.mp hsh _ (List.mem_of_getElem? w1)
            simpa using this
          refine .inr ⟨⟨xs2, .ref tp, .of ha2, w2⟩, fun σ5 H5 => σ5[i]? = some (some (.ref a)) ∧ ∃ F5, Go (ct X) io σ F H Γ σ5 F5 H5 (G.set i (.ob none (.ls ((bumpN (k + 1) es).map rowO)))), fun σ5 H5 h => ⟨es.length - (k + 1), by omega, rfl, by omega, h⟩, fun v3 H3 hy => ?_⟩
          obtain ⟨T, y, rfl, hT, rfl, hy⟩ := hy
          have hy := hy xs2 (.of ha2)
          rw [w2] at hy; cases hy
          have g3 := Go.upd A2 hT (.tup [.int (k : Nat), .ref tp])
          have nT : ∀ {d : Addr} {o : HO}, H2 d = some o → L2.upd H2 T (.tup [.int (k : Nat), .ref tp]) d = some o := fun {d o} h => by rw [upd_ne (ne_of_none h hT)]; exact h
          refine ⟨T, [.int (k : Nat), .ref tp], rfl, .of upd_same, rfl, .int (k : Nat), [.ref tp], rfl, .ref tp, [], rfl, rfl, ?_⟩
          have g4 := Go.put (i := jk) (sd := .no) (o := some (V.int (k : Nat))) g3.at_ rfl fun _ => trivial
          rw [setG_same (eGk _)] at g4
          have g5 := Go.put (i := jr) (sd := .no) (o := some (V.ref tp)) g4.at_ rfl fun _ => trivial
          rw [setG_same (eGr _)] at g5
          have ln2 : σ2.length = Γ.length := by rw [g2.ln, ← A.len]
          have sk : ((σ2.set jk (some (V.int (k : Nat)))).set jr (some (V.ref tp)))[jk]? = some (some (.int (k : Nat))) := by rw [List.getElem?_set_ne (Ne.symm nkr), List.getElem?_set_self (by omega)]
          have sr : ((σ2.set jk (some (V.int (k : Nat)))).set jr (some (V.ref tp)))[jr]? = some (some (.ref tp)) := List.getElem?_set_self (by rw [List.length_set]; omega)
          have si : ((σ2.set jk (some (V.int (k : Nat)))).set jr (some (V.ref tp)))[i]? = some (some (.ref a)) := by rw [List.getElem?_set_ne (Ne.symm nir), List.getElem?_set_ne (Ne.symm nik)]; exact ev2
          refine ⟨.ref tp, sr, tp, [u, .ref c], 1, .ref c, rfl, rfl, .inl (.inl (nT w4)), rfl, .inl ⟨rfl, zs, .of (nT w6)⟩, .int (k : Nat), sk, c, zs, .int (k : Nat), rfl, rfl, nT w6, by rw [w7.length, sizeLine_eq]; omega, si, ?_⟩
          -- the write
          have g6 := g2.trans (g3.trans (g4.trans g5))
          have e6 : (G.set i (.ob none (.ls ((bumpN k es).map rowO))))[i]? = some (.ob none (.ls ((bumpN k es).map rowO))) := e2
          obtain ⟨a', xs6, q6, ea6, ha6, r6, z6, nd6, al6⟩ := g6.at_.tree e6 rd2
          rw [si] at ea6; cases ea6
          rw [nT ha2] at ha6; cases ha6
          have rT : RowsAt (ct X) F2 (L2.upd H2 T (.tup [.int (k : Nat), .ref tp])) (bumpN k es) xs2 q2 := r2.heap fun d hd => upd_ne fun z => r2.live d hd (by rw [z]; exact hT)
          obtain ⟨b6, ns6, p6, c6, u6, zs6, y1, y2, y3, y4, y5, y6, y7, y8⟩ := r6.get (k := k) (by rw [bumpN_len]; exact hlt)
          rw [w2] at y2; cases y2
          rw [nT w4] at y4; cases y4
          rw [w1] at y1; cases y1
          rw [nT w6] at y6; cases y6
          have eb : bumpN (k + 1) es = (bumpN k es).set k (.tup [b, .lst (ns ++ [.int (k : Nat)])]) := by
            show setRow k (bumpN k es) = _
            unfold setRow
            rw [w1]
          have r7 : RowsAt (ct X) F2 (L2.upd (L2.upd H2 T (.tup [.int (k : Nat), .ref tp])) c (.lst (zs ++ [.int (k : Nat)]))) (bumpN (k + 1) es) xs2 q6 := by
            rw [eb]
            exact r6.setL (List.nodup_cons.mp nd6).2 y3 w1 (y7.append (.one rfl)) (by rw [List.length_append, List.length_singleton, sizeLine_eq]; omega)
          have cm : c ∈ flP q6 := (mem_flP (List.mem_of_getElem? y3)).2
          have nac : a ≠ c := fun z => (List.nodup_cons.mp nd6).1 (by rw [z]; exact cm)
          have ha7 : L2.upd (L2.upd H2 T (.tup [.int (k : Nat), .ref tp])) c (.lst (zs ++ [.int (k : Nat)])) a = some (.lst xs2) := by rw [upd_ne nac]; exact nT ha2
          have zl7 : (bumpN (k + 1) es).length ≤ sizeLine := by rw [bumpN_len]; exact z
          have g7 := Go.wrS (i := i) (sd := .ob none (.ls ((bumpN (k + 1) es).map rowO))) (H2 := L2.upd (L2.upd H2 T (.tup [.int (k : Nat), .ref tp])) c (.lst (zs ++ [.int (k : Nat)]))) g6
            (fun d hd => upd_ne fun z => hd (by rw [z]; exact (al6 c (List.mem_cons_of_mem _ cm)).2))
            (fun d hd => by
              by_cases z : d = c
              · rw [z, upd_same]; simp
              · rw [upd_ne z]; exact hd)
            (tree_slot si ha7 r7 zl7 nd6 fun d hd => (al6 d hd).1) (by rw [List.length_set]; exact hiG)
            (fun d hd => .inl (al6 d (tree_own si ha7 r7 (by rw [List.length_set]; exact hiG) hd)).2)
          rw [List.set_set] at g7
          exact ⟨F2, g7⟩
theorem q_appT (i : Nat) {x : Str} {px np : Pos} {jj : Nat} (pa : PlainAttrs "list") (slot : Slot "list" "append" "list.append") (hty : typeOf (.builtin "list.append") = pure (.type "method_descriptor"))
    (hi : X.N[i]? = some x := by rfl) (hv : Vis X.env.scope x := by first | exact Or.inl rfl | exact Or.inr (Or.inl rfl) | exact Or.inr (Or.inr rfl)) (hd : (x == ("__debug__" : Str)) = false := by decide) (hcd : (x == ("__classdict__" : Str)) = false := by decide)
    (hbase : attributeBase (.Name x px) "append" X.env (eval (.Name x px) X.env) = eval (.Name x px) X.env := by rfl)
    (hfew : ((backTo cpos (starEach [.Constant (.int 0) jj np] X.env)).all (fun x => !x.1) && (backToKw cpos (keywordEach [] X.env)).all (fun x => x.1.isSome) && decide (([.Constant (.int 0) jj np] : List Expr).length + ([] : List Keyword).length + (if ([] : List Keyword).isEmpty then 0 else 1) < 30)) = true := by rfl)
    (hline : (apos.endLine == cpos.line) = true := by rfl) (hsa : starEach [.Constant (.int 0) jj np] X.env = (false, eval (.Constant (.int 0) jj np) X.env) :: starEach [] X.env := by rfl) (hplain : (backTo cpos (starEach [] X.env)).any (·.1) = false := by rfl)
    (hsw : swapsWith (.Call (.Attribute (.Name x px) "append" apos) [.Constant (.int 0) jj np] [] cpos) none spos.line X.env = pure false := by rfl) :
    PS X (.Expr (.Call (.Attribute (.Name x px) "append" apos) [.Constant (.int 0) jj np] [] cpos) spos) (tS (ct X) W (sAppT i)) :=
  PS.imp (ps_expr (pe_bm pa slot hty mt_append (pe_var (i := i) hi hv hd hcd) (pa_cons pe_int pa_nil hsa) hbase hfew hline hsa hplain) hsw) fun D σ H ⟨io, F, Γ, A, p⟩ => by
    have p : PF (ct X) io W σ F H Γ (appTS i Γ Γ[i]?) D := p
    unfold appTS at p
    split at p
    case h_2 => exact p.elim
    rename_i os e
    cases w : rowsD os with
    | none => rw [w] at p; exact p.elim
    | some es =>
      rw [w] at p
      have p : PF (ct X) io W σ F H Γ (if es.length ≤ 100000 then .ok .nx (Γ.set i .no) else .bad) D := p
      split at p
      case isFalse => exact p.elim
      rename_i hz
      obtain ⟨a, xs, q, ea, ha, r, z, nd, al⟩ := A.tree e w
      have hil := (List.getElem?_eq_some_iff.mp e).1
      refine ⟨.ref a, ea, .inl ⟨rfl, xs, .of ha⟩, a, xs, .int 0, rfl, rfl, ha, by rw [r.len.1, sizeLine_eq]; omega, ?_⟩
      refine p σ F _ (Go.gs ?_)
      exact Go.wrS (i := i) (sd := .no) (H2 := L2.upd H a (.lst (xs ++ [.int 0]))) (Go.refl A) (fun d hd => upd_ne fun z => hd (by rw [z]; exact (al a List.mem_cons_self).2)) (fun d hd => by
              by_cases z : d = a
              · rw [z, upd_same]; simp
              · rw [upd_ne z]; exact hd) trivial hil (fun d ⟨sd, e1, e2, _⟩ => by
              rw [List.getElem?_set_self hil] at e1
              cases e1
              cases e2)
end
end Bx
end
end

section
set_option Elab.async false
set_option linter.all false
set_option maxRecDepth 100000
set_option maxHeartbeats 4000000
set_option autoImplicit false
noncomputable section
namespace Bx
open PySem PySem.Spec PyProof.Rows L2
@[simp] def mapTb1 (ns : List D) (o : Option (List D)) : R AV → Option (List D)
  | .ok (.d b) _ => o.map fun l => .tup [b, .lst ns] :: l
  | _ => none
@[simp] def mapTb (f : SE) (jb jn : Nat) (G : Ev) : List D → Option (List D)
  | [] => some []
  | .tup [b, .lst ns] :: r => mapTb1 ns (mapTb f jb jn G r) (f ((G.set jb (.fr b)).set jn .no))
  | _ :: _ => none
@[simp] def extT3 (i : Nat) (G : Ev) (es' : List D) : Option (List D) → R Fl
  | some es0 => if es0.length + es'.length ≤ 100000 then .ok .nx (G.set i (.ob none (.ls ((es0 ++ es').map rowO)))) else .bad
  | none => .bad
@[simp] def extT2 (i : Nat) (G : Ev) (es' : List D) : Option SD → R Fl
  | some (.ob none (.ls os)) => extT3 i G es' (rowsD os)
  | _ => .bad
@[simp] def extT1 (i : Nat) (G : Ev) : Option (List D) → R Fl
  | some es' => extT2 i G es' G[i]?
  | none => .bad
@[simp] def extT0 (i jb jn : Nat) (f : SE) (es : List D) (Γ1 : Ev) : R Fl := if noOwn Γ1 [jb, jn] = true ∧ i ≠ jb ∧ i ≠ jn ∧ jb ≠ jn ∧ es.length ≤ 100000 ∧ jb < Γ1.length ∧ jn < Γ1.length then extT1 i (restore Γ1 [jb, jn] (forget [jb, jn] Γ1)) (mapTb f jb jn (forget [jb, jn] Γ1) es) else .bad
@[simp] def extTO (i jb jn : Nat) (tf : ST) (f : SE) (Γ : Ev) : Option (List D) → R Fl
  | some _ => (tf Γ).bind fun es Γ1 => extT0 i jb jn f es Γ1
  | none => .bad
@[simp] def extTS (i jb jn : Nat) (tf : ST) (f : SE) (Γ : Ev) : Option SD → R Fl
  | some (.ob none (.ls os)) => extTO i jb jn tf f Γ (rowsD os)
  | _ => .bad
@[simp] def sExtT (i jb jn : Nat) (tf : ST) (f : SE) : SS := fun Γ => extTS i jb jn tf f Γ Γ[i]?

theorem mapTb_get {f : SE} {jb jn : Nat} {G : Ev} : ∀ {es es' : List D}, mapTb f jb jn G es = some es' → es'.length = es.length ∧ ∀ {k : Nat} {b : D} {ns : List D}, es[k]? = some (.tup [b, .lst ns]) → ∃ b' G', f ((G.set jb (.fr b)).set jn .no) = .ok (.d b') G' ∧ es'[k]? = some (.tup [b', .lst ns])
  | [], _, h => by
    cases h
    exact ⟨rfl, fun {k b ns} h => by simp at h⟩
  | e :: es, es', h => by
    unfold mapTb at h
    split at h
    · rename_i e' h1
      cases h1
    · rename_i e' b ns r h1
      cases h1
      unfold mapTb1 at h
      split at h
      case h_2 => cases h
      rename_i b' G' hf
      obtain ⟨l, hl, rfl⟩ := Option.map_eq_some_iff.mp h
      obtain ⟨k1, k2⟩ := mapTb_get hl
      refine ⟨by simp [k1], fun {k b2 ns2} hk => ?_⟩
      cases k with
      | zero =>
        have hk : Bx.D.tup [b, .lst ns] = .tup [b2, .lst ns2] := by simpa using hk
        cases hk
        exact ⟨b', G', hf, rfl⟩
      | succ k =>
        obtain ⟨b3, G3, y1, y2⟩ := k2 (k := k) (by simpa using hk)
        exact ⟨b3, G3, y1, by simpa using y2⟩
    · cases h
theorem flP_perm : ∀ q : List (Addr × Addr), (flP q).Perm (q.map (·.1) ++ q.map (·.2))
  | [] => .refl _
  | (p, c) :: q => by
    show (p :: c :: flP q).Perm (p :: (q.map (·.1) ++ c :: q.map (·.2)))
    exact (((flP_perm q).cons c).trans List.perm_middle.symm).cons p
theorem RowsAt.one {C : Ct} {F H : Hp} {b : D} {ns : List D} {p c : Addr} {x : V} {zs : List V} (hp : H p = some (.tup [x, .ref c])) (rb : Rep C F b x) (hc : H c = some (.lst zs)) (rn : Reps C F ns zs) (z : ns.length ≤ sizeLine) : RowsAt C F H [.tup [b, .lst ns]] [.ref p] [(p, c)] :=
  ⟨b, ns, p, c, x, zs, [], [], rfl, rfl, rfl, hp, rb, hc, rn, z, rfl, rfl⟩
theorem forget_back {G : Ev} {jb jn : Nat} (h : jb ≠ jn) (s : SD) : forget [jb, jn] (((forget [jb, jn] G).set jb s).set jn .no) = forget [jb, jn] G := by
  show (((((G.set jn .no).set jb .no).set jb s).set jn .no).set jn .no).set jb .no = (G.set jn .no).set jb .no
  rw [List.set_set, List.set_set, List.set_comm _ _ h, List.set_set, List.set_set]
section
variable {X : Cx} {W : XW} {e1 iter : Expr} {tf : ST} {f : SE} {apos cpos spos lpos gpos tp2 : Pos} {scope : Scope}
theorem q_extT (i jb jn : Nat) {x xb xn : Str} {px pb pn pn2 : Pos} {kk k2 : Nat} (hc : X.calm = true) (hN : X.N.Nodup) (pa : PlainAttrs "list") (slot : Slot "list" "extend" "list.extend") (hty : typeOf (.builtin "list.extend") = pure (.type "method_descriptor"))
    (hpure : Pure f) (hiter : PE X iter (tT (ct X) W tf)) (ok : blkC X.N X.env.scope scope [(xb, jb), (xn, jn)] = true)
    (hg : ∀ (s : Shared) (H : Hp) (C : Addr) (cl : List (Str × Addr)) (fp : List Addr), PG (X.blk s H scope (compEnvC scope cl C X.env) fp) (.Tuple [.Name xb pb, .Name xn pn] kk gpos) (L2.gTup X.K 2 (L2.gCons (gName jb) (L2.gCons (gName jn) L2.gNil))))
    (he : ∀ (s : Shared) (H : Hp) (C : Addr) (cl : List (Str × Addr)) (fp : List Addr), PE (X.blk s H scope (compEnvC scope cl C X.env) fp) (.Tuple [e1, .Name xn pn2] k2 tp2) (tTup (tCons (tX (ct X) W0 f) (tCons (tVar jn) tNil))))
    (hi : X.N[i]? = some x := by rfl) (hv : Vis X.env.scope x := by first | exact Or.inl rfl | exact Or.inr (Or.inl rfl) | exact Or.inr (Or.inr rfl)) (hd : (x == ("__debug__" : Str)) = false := by decide) (hcd : (x == ("__classdict__" : Str)) = false := by decide)
    (hbase : attributeBase (.Name x px) "extend" X.env (eval (.Name x px) X.env) = eval (.Name x px) X.env := by rfl)
    (hfew : ((backTo cpos (starEach [.ListComp (.Tuple [e1, .Name xn pn2] k2 tp2) [⟨.Tuple [.Name xb pb, .Name xn pn] kk gpos, iter, [], 0⟩] scope lpos] X.env)).all (fun x => !x.1) && (backToKw cpos (keywordEach [] X.env)).all (fun x => x.1.isSome) && decide (([.ListComp (.Tuple [e1, .Name xn pn2] k2 tp2) [⟨.Tuple [.Name xb pb, .Name xn pn] kk gpos, iter, [], 0⟩] scope lpos] : List Expr).length + ([] : List Keyword).length + (if ([] : List Keyword).isEmpty then 0 else 1) < 30)) = true := by rfl)
    (hline : (apos.endLine == cpos.line) = true := by rfl) (hsa : starEach [.ListComp (.Tuple [e1, .Name xn pn2] k2 tp2) [⟨.Tuple [.Name xb pb, .Name xn pn] kk gpos, iter, [], 0⟩] scope lpos] X.env = (false, eval (.ListComp (.Tuple [e1, .Name xn pn2] k2 tp2) [⟨.Tuple [.Name xb pb, .Name xn pn] kk gpos, iter, [], 0⟩] scope lpos) X.env) :: starEach [] X.env := by rfl) (hplain : (backTo cpos (starEach [] X.env)).any (·.1) = false := by rfl)
    (hsw : swapsWith (.Call (.Attribute (.Name x px) "extend" apos) [.ListComp (.Tuple [e1, .Name xn pn2] k2 tp2) [⟨.Tuple [.Name xb pb, .Name xn pn] kk gpos, iter, [], 0⟩] scope lpos] [] cpos) none spos.line X.env = pure false := by rfl)
    (hfs : ∀ y, foldedSetIterable iter X.env y = pure y := by intro _; rfl) :
    PS X (.Expr (.Call (.Attribute (.Name x px) "extend" apos) [.ListComp (.Tuple [e1, .Name xn pn2] k2 tp2) [⟨.Tuple [.Name xb pb, .Name xn pn] kk gpos, iter, [], 0⟩] scope lpos] [] cpos) spos) (tS (ct X) W (sExtT i jb jn tf f)) :=
  PS.imp (ps_expr (pe_bm pa slot hty mt_extend (pe_var (i := i) hi hv hd hcd) (pa_cons (pe_lc hc hN (pi_list hiter) (blkOk_by ok) hg (fun _ _ _ _ _ => pts_nil) he hfs) pa_nil hsa) hbase hfew hline hsa hplain) hsw) fun D σ H ⟨io, F, Γ, A, p⟩ => by
    have p : PF (ct X) io W σ F H Γ (extTS i jb jn tf f Γ Γ[i]?) D := p
    unfold extTS at p
    split at p
    case h_2 => exact p.elim
    rename_i os e
    cases w : rowsD os with
    | none => rw [w] at p; exact p.elim
    | some es00 =>
      rw [w] at p
      have p : PF (ct X) io W σ F H Γ ((tf Γ).bind fun es Γ1 => extT0 i jb jn f es Γ1) D := p
      obtain ⟨a0, xs0, q0, ea0, ha0, _, _, _, _⟩ := A.tree e w
      refine ⟨.ref a0, ea0, .inl ⟨rfl, xs0, .of ha0⟩, ?_⟩
      refine ⟨io, F, Γ, A, ?_⟩
      cases wt : tf Γ with
      | bad => rw [wt] at p; exact p.elim
      | exc c Γ' => rw [wt] at p; exact fun F' H' g => p σ F' H' g.gs
      | ok es Γ1 =>
        rw [wt] at p
        intro v F1 H1 g1 hv
        have p : PF (ct X) io W σ F H Γ (if noOwn Γ1 [jb, jn] = true ∧ i ≠ jb ∧ i ≠ jn ∧ jb ≠ jn ∧ es.length ≤ 100000 ∧ jb < Γ1.length ∧ jn < Γ1.length then extT1 i (restore Γ1 [jb, jn] (forget [jb, jn] Γ1)) (mapTb f jb jn (forget [jb, jn] Γ1) es) else .bad) D := p
        split at p
        case isFalse => exact p.elim
        rename_i hcond
        obtain ⟨hno, nib, nin, nbn, hle, hjb1, hjn1⟩ := hcond
        obtain ⟨t, xs, q, rfl, ht, r, z, nd, al⟩ := hv
        have lvT := TreeOk.live (N0 := fun _ => True) ht r
        have A1 := g1.at_
        have gF := Go.forget A1 [jb, jn]
        have B1 := gF.at_
        obtain ⟨G, eG⟩ : ∃ G, G = forget [jb, jn] Γ1 := ⟨_, rfl⟩
        rw [← eG] at p gF B1
        cases hm : mapTb f jb jn G es with
        | none => rw [hm] at p; exact p.elim
        | some es' =>
          rw [hm] at p
          obtain ⟨hl', hget⟩ := mapTb_get hm
          obtain ⟨s1, es1⟩ : ∃ s1, s1 = wipe σ [jb, jn] := ⟨_, rfl⟩
          rw [← es1] at gF B1
          refine ⟨t, rfl, ⟨xs, .of ht⟩, fun Dd hD => ?_⟩
          have tD : ∀ b ∈ t :: flP q, b ≠ Dd := fun b hb z => lvT b hb (by rw [z]; exact hD)
          have noB : ∀ b ∈ t :: flP q, ¬ OwnA H1 G s1 b := fun b hb w => by
            rcases gF.own b w with z | z
            · exact (al b hb).2.1 z
            · exact lvT b hb z
          have gD := Go.upd B1 hD (.lst [])
          let Hid : Hp → Hp → Addr → Prop := fun F2 H2 b => F2 b = none ∧ ¬ OwnA H2 G s1 b
          let Iv : Nat → Hp → Prop := fun k H2 => k ≤ es.length ∧ ∃ (F2 : Hp) (ys : List V) (q2 : List (Addr × Addr)), Go (ct X) io s1 F1 H1 G s1 F2 H2 G ∧ (∀ b ∈ t :: flP q, Hid F2 H2 b ∧ H2 b = H1 b) ∧ Hid F2 H2 Dd ∧ H2 Dd = some (.lst ys) ∧
            RowsAt (ct X) F2 H2 (es'.take k) ys q2 ∧ q2.map (·.2) = (q.map (·.2)).take k ∧ (q2.map (·.1)).Nodup ∧ ∀ b ∈ q2.map (·.1), H1 b = none ∧ Hid F2 H2 b ∧ b ≠ Dd
          refine ⟨fun k m H2 => m = es.length - k ∧ Iv k H2, ⟨es.length, rfl, Nat.zero_le _, F1, [], [], gD, fun b hb => ?_, ?_, upd_same, ⟨rfl, rfl⟩, rfl, List.nodup_nil, fun b hb => by cases hb⟩, ?_⟩
          · exact ⟨⟨(al b hb).1, fun w => noB b hb ((B1.updOwn hD).mp w)⟩, upd_ne (tD b hb)⟩
          · exact ⟨B1.fnone hD, fun w => B1.notOwn hD ((B1.updOwn hD).mp w)⟩
          rintro k m H2 ⟨rfl, hk, F2, ys, q2, g2, hT, hDd, hDl, rr, hq2, nd2, hf2⟩
          have hxl := r.len
          have ht2 : H2 t = some (.lst xs) := by rw [(hT t List.mem_cons_self).2]; exact ht
          have q2l : q2.length = k := by
            have := rr.len.2
            rw [List.length_take, hl'] at this
            omega
          have ysl : ys.length = k := by
            have := rr.len.1
            rw [List.length_take, hl'] at this
            omega
          have snd2 : ∀ b ∈ q2.map (·.2), b ∈ t :: flP q := fun b hb => by
            rw [hq2] at hb
            obtain ⟨y, hy, rfl⟩ := List.mem_map.mp (List.mem_of_mem_take hb)
            exact List.mem_cons_of_mem _ (mem_flP hy).2
          have hq2m : ∀ b ∈ flP q2, b ∈ q2.map (·.1) ∨ b ∈ q2.map (·.2) := fun b hb => List.mem_append.mp ((flP_perm q2).mem_iff.mp hb)
          by_cases hlt : k < es.length
          case neg =>
            have hk2 : k = es.length := by omega
            subst hk2
            refine .inl ⟨⟨xs, .of ht2, by omega⟩, ?_⟩
            rw [List.take_of_length_le (by omega)] at rr
            -- the end
            have gR : Go (ct X) io σ F1 H1 Γ1 σ F2 H2 (restore Γ1 [jb, jn] G) := Go.restore A1 hno (by rw [← es1, ← eG]; exact g2)
            obtain ⟨Gr, eGr⟩ : ∃ Gr, Gr = restore Γ1 [jb, jn] G := ⟨_, rfl⟩
            have lGr : Γ1.length = G.length := by rw [A1.len, B1.len, es1, wipe_length]
            have ownR : ∀ {b : Addr}, OwnA H2 Gr σ b → OwnA H2 G s1 b := fun {b} ⟨j, h⟩ => by
              rw [eGr] at h
              exact ⟨j, by rw [es1]; exact (OwnAt.restore lGr hno h).2⟩
            rw [← eGr] at p gR
            have p : PF (ct X) io W σ F H Γ (extT2 i Gr es' Gr[i]?) D := p
            unfold extT2 at p
            split at p
            case h_2 => exact p.elim
            rename_i os1 e1'
            cases w1 : rowsD os1 with
            | none => rw [w1] at p; exact p.elim
            | some es0 =>
              rw [w1] at p
              have p : PF (ct X) io W σ F H Γ (if es0.length + es'.length ≤ 100000 then .ok .nx (Gr.set i (.ob none (.ls ((es0 ++ es').map rowO)))) else .bad) D := p
              split at p
              case isFalse => exact p.elim
              rename_i hsz
              have gA := g1.trans gR
              obtain ⟨a1, xs1, q1, ea1, ha1, r1, z1, nd1, al1⟩ := gA.at_.tree e1' w1
              rw [ea0] at ea1; cases ea1
              have hil := (List.getElem?_eq_some_iff.mp e1').1
              have own2 : ∀ b ∈ flP q2, ¬ OwnA H2 Gr σ b ∧ F2 b = none ∧ NewA Γ σ H b := fun b hb => by
                rcases hq2m b hb with y | y
                · obtain ⟨y1, y2, _⟩ := hf2 b y
                  exact ⟨fun w => y2.2 (ownR w), y2.1, .inl (g1.back y1)⟩
                · have ym := snd2 b y
                  exact ⟨fun w => (hT b ym).1.2 (ownR w), (hT b ym).1.1, (al b ym).2.2⟩
              have dis : ∀ b ∈ a0 :: flP q1, b ∉ flP q2 := fun b hb w => (own2 b w).1 ⟨i, (al1 b hb).2⟩
              have ndq : (flP q2).Nodup := by
                refine (flP_perm q2).nodup_iff.mpr (List.nodup_append.mpr ⟨nd2, ?_, fun x hx y hy e => ?_⟩)
                · rw [hq2]
                  have := (flP_perm q).nodup_iff.mp (List.nodup_cons.mp nd).2
                  exact (List.take_sublist _ _).nodup (List.nodup_append.mp this).2.1
                · subst e
                  exact lvT x (snd2 x hy) (hf2 x hx).1
              have ndA : (a0 :: flP (q1 ++ q2)).Nodup := by
                rw [flP_app, List.nodup_cons, List.nodup_append]
                obtain ⟨y1, y2⟩ := List.nodup_cons.mp nd1
                exact ⟨fun w => (List.mem_append.mp w).elim y1 (dis a0 List.mem_cons_self), y2, ndq, fun x hx y hy e => dis x (List.mem_cons_of_mem _ hx) (by rw [e]; exact hy)⟩
              have ha3 : L2.upd H2 a0 (.lst (xs1 ++ ys)) a0 = some (.lst (xs1 ++ ys)) := upd_same
              have na0 : ∀ b ∈ flP (q1 ++ q2), b ≠ a0 := fun b hb z => (List.nodup_cons.mp ndA).1 (by rw [← z]; exact hb)
              have r3 : RowsAt (ct X) F2 (L2.upd H2 a0 (.lst (xs1 ++ ys))) (es0 ++ es') (xs1 ++ ys) (q1 ++ q2) := (r1.app rr).heap fun b hb => upd_ne (na0 b hb)
              have al3 : ∀ b ∈ a0 :: flP (q1 ++ q2), F2 b = none ∧ (OwnAt H2 Gr σ i b ∨ (¬ OwnA H2 Gr σ b ∧ NewA Γ σ H b)) := fun b hb => by
                rcases List.mem_cons.mp hb with rfl | hb
                · exact ⟨(al1 b List.mem_cons_self).1, .inl (al1 b List.mem_cons_self).2⟩
                · rw [flP_app] at hb
                  rcases List.mem_append.mp hb with hb | hb
                  · exact ⟨(al1 b (List.mem_cons_of_mem _ hb)).1, .inl (al1 b (List.mem_cons_of_mem _ hb)).2⟩
                  · exact ⟨(own2 b hb).2.1, .inr ⟨(own2 b hb).1, (own2 b hb).2.2⟩⟩
              refine ⟨a0, Dd, xs1, ys, rfl, rfl, ha1, hDl, by rw [r1.len.1, ysl, ← hl', sizeLine_eq]; omega, ?_⟩
              have g9 := Go.wrS (i := i) (sd := .ob none (.ls ((es0 ++ es').map rowO))) (H2 := L2.upd H2 a0 (.lst (xs1 ++ ys))) gA
                (fun d hd => upd_ne fun z => hd (by rw [z]; exact (al1 a0 List.mem_cons_self).2))
                (fun d hd => by
                  by_cases z : d = a0
                  · rw [z, upd_same]; simp
                  · rw [upd_ne z]; exact hd)
                (tree_slot ea0 ha3 r3 (by rw [List.length_append, sizeLine_eq]; omega) ndA fun d hd => (al3 d hd).1) hil
                (fun d hd => (al3 d (tree_own ea0 ha3 r3 hil hd)).2)
              exact p σ F2 _ g9.gs
          -- a turn
          obtain ⟨b, ns, tp, c, u, zs, w1, w2, w3, w4, w5, w6, w7, w8⟩ := r.get hlt
          obtain ⟨b', G', hf, w9⟩ := hget w1
          have hG' := hpure _ _ _ hf
          subst hG'
          have tpm : tp ∈ t :: flP q := List.mem_cons_of_mem _ (mem_flP (List.mem_of_getElem? w3)).1
          have cm : c ∈ t :: flP q := List.mem_cons_of_mem _ (mem_flP (List.mem_of_getElem? w3)).2
          refine .inr ⟨⟨xs, .ref tp, .of ht2, w2⟩, Iv (k + 1), fun H' h => ⟨es.length - (k + 1), by omega, rfl, h⟩, fun x3 H3 hy => ?_⟩
          obtain ⟨rfl, hy⟩ := hy
          have hy := hy xs (.of ht2)
          rw [w2] at hy; cases hy
          have h4 : H3 tp = some (.tup [u, .ref c]) := by rw [(hT tp tpm).2]; exact w4
          refine ⟨tp, [u, .ref c], rfl, .inl (.inl h4), rfl, u, [.ref c], rfl, .ref c, [], rfl, rfl, ?_⟩
          have g4 := Go.put (i := jb) (sd := .fr b) (o := some u) g2.at_ rfl fun _ => ⟨u, rfl, w5.mono g2.ff⟩
          have g5 := Go.put (i := jn) (sd := .no) (o := some (V.ref c)) g4.at_ rfl fun _ => trivial
          have hjb : jb < s1.length := by rw [es1, wipe_length, ← A1.len]; exact hjb1
          have hjn : jn < s1.length := by rw [es1, wipe_length, ← A1.len]; exact hjn1
          have hw : wipe ((wipe σ [jb, jn]).set jb (some u)|>.set jn (some (V.ref c))) [jb, jn] = wipe σ [jb, jn] := wipe_eq (ts := [jb, jn]) (by simp [wipe_length]) (fun _ h => h) (fun j hj => by
            have h1 : jn ≠ j := fun z => hj (by simp [z])
            have h2 : jb ≠ j := fun z => hj (by simp [z])
            rw [List.getElem?_set_ne h1, List.getElem?_set_ne h2])
          refine ⟨hw, ?_⟩
          show (if true = true then tTup (tCons (tX (ct X) W0 f) (tCons (tVar jn) tNil)) (((wipe σ [jb, jn]).set jb (some u)).set jn (some (V.ref c))) H3 (fun y H4 => ∃ acc, H4 Dd = some (.lst acc) ∧ acc.length < sizeLine ∧ Iv (k + 1) (L2.upd H4 Dd (.lst (acc ++ [y])))) else Iv (k + 1) H3)
          rw [if_pos rfl]
          rw [← es1]
          refine ⟨io, F2, _, g5.at_, ?_⟩
          rw [hf]
          intro v' F5 H5 g6 hv'
          have hv' : Rep (ct X) F5 b' v' := hv'
          refine ⟨.ref c, List.getElem?_set_self (by rw [List.length_set]; exact hjn), by simp [sizeLine_eq], fun p' hp' => ?_⟩
          have g7 := (g4.trans g5).trans g6
          have lv2 : ∀ b ∈ q2.map (·.1), H3 b ≠ none := fun b hb => rr.live b ((flP_perm q2).mem_iff.mpr (List.mem_append_left _ hb))
          have hT7 := fun b hb => g7.hid (hT b hb).1.1 (hT b hb).1.2 (by rw [(hT b hb).2]; exact lvT b hb)
          have hD7 := g7.hid hDd.1 hDd.2 (by rw [hDl]; simp)
          have hf7 := fun b hb => g7.hid (hf2 b hb).2.1.1 (hf2 b hb).2.1.2 (lv2 b hb)
          have gB := Go.forget g7.at_ [jb, jn]
          rw [eG, forget_back nbn, ← eG] at gB
          rw [es1, hw, ← es1] at gB
          have g8 := g7.trans gB
          have hT8 := fun b hb => g8.hid (hT b hb).1.1 (hT b hb).1.2 (by rw [(hT b hb).2]; exact lvT b hb)
          have hD8 := g8.hid hDd.1 hDd.2 (by rw [hDl]; simp)
          have hf8 := fun b hb => g8.hid (hf2 b hb).2.1.1 (hf2 b hb).2.1.2 (lv2 b hb)
          have g9 := (g2.trans g8).trans (Go.upd g8.at_ hp' (.tup [v', .ref c]))
          have nDp : Dd ≠ p' := fun z => by rw [← z, hD8.2.2, hDl] at hp'; cases hp'
          have up : ∀ {d : Addr}, OwnA (L2.upd H5 p' (.tup [v', .ref c])) G s1 d → OwnA H5 G s1 d := fun {d} h => (g8.at_.updOwn hp').mp h
          have g10 := Go.other g9 hD hD8.1 (fun w => hD8.2.1 (up w)) (.lst (ys ++ [.ref p']))
          have upD : ∀ {d : Addr}, OwnA (L2.upd (L2.upd H5 p' (.tup [v', .ref c])) Dd (.lst (ys ++ [.ref p']))) G s1 d → OwnA H5 G s1 d := fun {d} h => up ((g9.at_.heldA fun b hb => upd_ne fun z => hD8.2.1 (up (by rw [← z]; exact hb))).mp h)
          have l5 : ∀ {d : Addr}, H5 d ≠ none → d ≠ p' := fun {d} h z => h (by rw [z]; exact hp')
          have tF : ∀ d ∈ t :: flP q, L2.upd (L2.upd H5 p' (.tup [v', .ref c])) Dd (.lst (ys ++ [.ref p'])) d = H1 d := fun d hd => by
            have e8 : H5 d = H1 d := (hT8 d hd).2.2.trans (hT d hd).2
            rw [upd_ne (tD d hd), upd_ne (l5 (by rw [e8]; exact lvT d hd)), e8]
          have fF : ∀ d ∈ q2.map (·.1), L2.upd (L2.upd H5 p' (.tup [v', .ref c])) Dd (.lst (ys ++ [.ref p'])) d = H3 d := fun d hd => by
            have e8 := (hf8 d hd).2.2
            rw [upd_ne (hf2 d hd).2.2, upd_ne (l5 (by rw [e8]; exact lv2 d hd)), e8]
          have agr : ∀ d ∈ flP q2, L2.upd (L2.upd H5 p' (.tup [v', .ref c])) Dd (.lst (ys ++ [.ref p'])) d = H3 d := fun d hd => by
            rcases hq2m d hd with y | y
            · exact fF d y
            · rw [tF d (snd2 d y), (hT d (snd2 d y)).2]
          have hpp : p' ∉ q2.map (·.1) := fun z => l5 (d := p') (by rw [(hf8 p' z).2.2]; exact lv2 p' z) rfl
          refine ⟨ys, by rw [upd_ne nDp]; exact hD8.2.2.trans hDl, by rw [ysl, sizeLine_eq]; omega, by omega, F5, ys ++ [.ref p'], q2 ++ [(p', c)], g10, fun d hd => ⟨⟨(hT8 d hd).1, fun w => (hT8 d hd).2.1 (upD w)⟩, tF d hd⟩, ⟨hD8.1, fun w => hD8.2.1 (upD w)⟩, upd_same, ?_, ?_, ?_, ?_⟩
          · rw [List.take_succ, w9]
            exact ((rr.heap agr).mono g8.ff).app (RowsAt.one (by rw [upd_ne nDp.symm, upd_same]) hv' (by rw [tF c cm]; exact w6) (w7.mono (g2.ff.trans g8.ff)) w8)
          · rw [List.map_append, hq2, List.take_succ, List.getElem?_map, w3]
            rfl
          · rw [List.map_append, List.nodup_append]
            exact ⟨nd2, by simp, fun x hx y hy e => hpp (by
              have : y = p' := by simpa using hy
              rw [← this, ← e]; exact hx)⟩
          · intro d hd
            rw [List.map_append] at hd
            rcases List.mem_append.mp hd with hd | hd
            · exact ⟨(hf2 d hd).1, ⟨(hf8 d hd).1, fun w => (hf8 d hd).2.1 (upD w)⟩, (hf2 d hd).2.2⟩
            · have hd : d = p' := by simpa using hd
              subst hd
              exact ⟨(g2.trans g8).back hp', ⟨g8.at_.fnone hp', fun w => g8.at_.notOwn hp' (upD w)⟩, nDp.symm⟩
end
end Bx
end
end

section
set_option Elab.async false
set_option linter.all false
set_option maxRecDepth 100000
set_option maxHeartbeats 8000000
set_option autoImplicit false
set_option backward.isDefEq.respectTransparency false
noncomputable section
namespace Bk
open PySem PySem.Spec PyProof.Rows L2 Bx
def low_cutT : SE := (sBin addD (sTup (sCons (sTup (sCons (sVar 4) (sCons (sVar 5) sNil))) sNil)) (sVar 9))
theorem pure_low : Pure (sBin addD (sTup (sCons (sTup (sCons (sVar 4) (sCons (sVar 5) sNil))) sNil)) (sVar 9)) := Pure.bin (Pure.tup (Pure.cons (Pure.tup (Pure.cons (Pure.var 4) (Pure.cons (Pure.var 5) Pure.nil))) Pure.nil)) (Pure.var 9)
def x1_cutT (m : Ev → FR) : SS := sExtT 2 9 10 (sCallT m (sCons (sVar 6) (sCons (sBin subD (sVar 1) (sC (.int 1))) sNil))) low_cutT
def w1_cutT (m : Ev → FR) : SS :=
 (sSeq (sAsg (sEsc (sLc (iAny (sVar 0)) [7, 8] (gTup [(gVar 7), (gVar 8)]) (c1_cut_apart m) (e1_cut_apart m))) (gVar 6))
 (sIf (sCmp (neD) (sVar 6) (sLst sNil))
 (x1_cutT m)
 sSkip))
def s1_cutT : SST := sIfT (sCmp (eqD) (sVar 1) (sC (.int 0))) (sRetT (sBaseT (sTup sNil) (sLc (iAny (sVar 0)) [7, 8] (gTup [(gVar 7), (gVar 8)]) sYes (sVar 7)))) sNxT
def s3_cutT (m : Ev → FR) : SS :=
 (fgt [4, 5, 6] (sFor (iZp (sCons (sVar 3) (sCons (sEsc (sSl (sVar 3) (oSome (sC (.int 1))) oNone)) sNil))) (gTup [(gVar 4), (gVar 5)])
 (fgt [6, 4, 5] (w1_cutT m))))
def b_cutT (m : Ev → FR) : SST := sSeqT s1_cutT (sSeqT (sLiftT (sSetT sNilT 2)) (sSeqT (sLiftT (s2_cut_apart m)) (sSeqT (sLiftT (s3_cutT m)) (sRetTV 2))))
def m_cutT : Nat → Ev → FR
  | 0 => fun _ => .bad
  | n + 1 => fnMT 2 11 (b_cutT (m_cutT n))
def b_cellsT : SST := sRetT (sIfXT (sCmp (neD) (sBin ixD (sVar 0) (sC (.int 1))) (sLst sNil)) (sCallT (m_cutT 8) (sCons (sEsc (sLEnm (sCons (sBin ixD (sVar 0) (sC (.int 1))) sNil))) (sCons (sBin ixD (sVar 0) (sC (.int 0))) sNil))) sNilT)
def m_cellsT : Ev → FR := fnMT 1 1 b_cellsT
def b_paperT : SST := sSeqT (sLiftT (sDrop (sCall m_need_heap [] (sCons (sVar 0) sNil)))) (sRetT (sCallT m_cellsT (sCons (sVar 0) sNil)))
def m_paperT : Ev → FR := fnMT 1 1 b_paperT
end Bk
end
end

section
set_option Elab.async false
set_option linter.all false
set_option maxRecDepth 100000
set_option maxHeartbeats 4000000
set_option autoImplicit false
set_option backward.isDefEq.respectTransparency false
noncomputable section
namespace Bx
open L2
theorem forF_app {α : Type} {body : D → Ev → R Fl} (G : List D → Ev) (e g : α → D) (N : Nat) : ∀ {l : List α} {s : List D}, (∀ x ∈ l, ∀ s, s.length < N → body (e x) (G s) = .ok .nx (G (s ++ [g x]))) → s.length + l.length ≤ N → forF body (l.map e) (G s) = .ok .nx (G (s ++ l.map g))
  | [], s, _, _ => by simp [forF]
  | x :: l, s, h, hN => by
    rw [List.map_cons, List.map_cons]
    unfold forF
    rw [h x List.mem_cons_self s (by simp at hN; omega)]
    have ih := forF_app G e g N (l := l) (s := s ++ [g x]) (fun y hy => h y (List.mem_cons_of_mem _ hy)) (by simp at hN ⊢; omega)
    simp only [List.append_assoc, List.singleton_append] at ih
    exact ih
end Bx
end
end

section
set_option Elab.async false
set_option linter.all false
set_option maxRecDepth 100000
set_option maxHeartbeats 4000000
set_option autoImplicit false
set_option backward.isDefEq.respectTransparency false
noncomputable section
namespace Bk
open L2 Bx
def isInt : D → Bool
  | .int _ => true
  | _ => false
theorem is_whole_t {d : D} (h : kn d = true) : m_is_whole [.fr d] = .ok (.d (.bl (isInt d))) [.no] := by
  cases d <;> first | (simp [kn] at h; done) | simp [m_is_whole, b_is_whole, isInt]
end Bk
end
end

section
set_option Elab.async false
set_option linter.all false
set_option maxRecDepth 100000
set_option maxHeartbeats 4000000
set_option autoImplicit false
set_option backward.isDefEq.respectTransparency false
noncomputable section
namespace Bk
open L2 Bx
def isWays : D → Bool
  | .int w => decide (1 ≤ w ∧ w ≤ 3)
  | _ => false
theorem is_ways_t {d : D} (h : kn d = true) : m_is_ways [.fr d] = .ok (.d (.bl (isWays d))) [.no] := by
  cases d with
  | int i =>
    by_cases h1 : 1 ≤ i <;> simp [m_is_ways, b_is_ways, is_whole_t, h1, isWays, isInt]
  | fn _ => simp [kn] at h
  | ex _ => simp [kn] at h
  | dtt _ => simp [kn] at h
  | _ => simp [m_is_ways, b_is_ways, is_whole_t, h, isInt, isWays]
def isStretch : D → Bool
  | .tup [.int a, .int b] => decide (a < b)
  | _ => false
theorem is_stretch_t {d : D} (h : kn d = true) : m_is_stretch [.fr d] = .ok (.d (.bl (isStretch d))) [.no] := by
  cases d with
  | tup l =>
    match l with
    | [] => simp [m_is_stretch, b_is_stretch, eqD, neD, isStretch]
    | [a] => simp [m_is_stretch, b_is_stretch, eqD, neD, isStretch]
    | [a, b] =>
      simp [kn_tup] at h
      simp [m_is_stretch, b_is_stretch, eqD, neD, is_whole_t, h]
      cases a <;> cases b <;> simp [isInt, isStretch]
    | a :: b :: c :: r =>
      have e : ((r.length : Int) + 1 + 1 + 1 == 2) = false := by simp; omega
      simp [m_is_stretch, b_is_stretch, eqD, neD, e, isStretch]
  | fn _ => simp [kn] at h
  | ex _ => simp [kn] at h
  | dtt _ => simp [kn] at h
  | _ => simp [m_is_stretch, b_is_stretch, isStretch]
def isBox : D → D → Bool
  | .int w, .tup l => isWays (.int w) && decide ((l.length : Int) = w) && l.all isStretch
  | _, _ => false
def short : D → Prop
  | .tup l => l.length ≤ 1000
  | .lst l => l.length ≤ 1000
  | _ => True
theorem is_box_t {w t : D} (hw : kn w = true) (ht : eqOk t = true) (hs : short t) : m_is_box [.fr w, .fr t] = .ok (.d (.bl (isBox w t))) [.no, .no] := by
  have kt := eqOk_kn ht
  cases hW : isWays w with
  | false =>
    have e : isBox w t = false := by
      cases w <;> first | rfl | (cases t <;> first | rfl | (simp [isBox, hW]))
    rw [e]
    simp [m_is_box, b_is_box, is_ways_t, hw, hW]
  | true =>
    cases w with
    | int w =>
      cases t with
      | tup l =>
        obtain ⟨h1, h2⟩ := eqOk_tup ht
        by_cases hl : (l.length : Int) = w
        · have turn : ∀ d ∈ l, lcTurn [2] (gVar 2) c1_is_box (sVar 2) d [.fr (.int w), .fr (.tup l), .no] = .ok (if isStretch d = true then none else some d) [.fr (.int w), .fr (.tup l), .no] := by
            intro d hd
            have k := kn_pl (pls_mem h1 hd)
            cases hs : isStretch d <;> simp [lcTurn, c1_is_box, is_stretch_t, k, hs]
          have lc := lcF_pure (acc := []) turn
          have eo : eqOk (.lst (l.filter fun d => !isStretch d)) = true := eqOk_sub h1 h2 fun d hd => (List.mem_filter.mp hd).1
          have z : l.length ≤ PySem.sizeLine := line1000 hs
          simp [m_is_box, b_is_box, is_ways_t, hW, hl, neD, eqD, z, lc, fm_filter, eo, filter_none, isBox]
        · simp [m_is_box, b_is_box, is_ways_t, hW, hl, neD, eqD, isBox]
      | fn _ => simp [kn] at kt
      | ex _ => simp [kn] at kt
      | dtt _ => simp [kn] at kt
      | _ => simp [m_is_box, b_is_box, is_ways_t, hW, isBox]
    | _ => cases hW
def most (w : Int) : Nat := if w = 1 then 20 else if w = 2 then 10 else 6
theorem ways_cases {w : Int} (h : isWays (.int w) = true) : w = 1 ∨ w = 2 ∨ w = 3 := by
  simp [isWays] at h
  omega
def isHeap : D → Bool
  | .tup [.int w, .lst l] => isWays (.int w) && decide (l.length ≤ most w) && l.all (isBox (.int w))
  | _ => false
theorem is_heap_t {d : D} (ht : eqOk d = true) (hs : ∀ w l, d = .tup [w, .lst l] → ∀ x ∈ l, short x) : m_is_heap [.fr d] = .ok (.d (.bl (isHeap d))) [.no] := by
  cases d with
  | tup l =>
    match l, ht, hs with
    | [], ht, hs => simp [m_is_heap, b_is_heap, s1_is_heap, s2_is_heap, s3_is_heap, s4_is_heap, eqD, neD, isHeap]
    | [a], ht, hs => simp [m_is_heap, b_is_heap, s1_is_heap, s2_is_heap, s3_is_heap, s4_is_heap, eqD, neD, isHeap]
    | a :: b :: c :: r, ht, hs =>
      have e : ((r.length : Int) + 1 + 1 + 1 == 2) = false := by simp; omega
      simp [m_is_heap, b_is_heap, s1_is_heap, s2_is_heap, s3_is_heap, s4_is_heap, eqD, neD, e, isHeap]
    | [a, b], ht, hs =>
      obtain ⟨h1, h2⟩ := eqOk_tup ht
      have ka := kn_pl (pls_mem h1 (List.mem_cons_self))
      have kb := kn_pl (pls_mem h1 (List.mem_cons_of_mem _ List.mem_cons_self))
      cases hW : isWays a with
      | false =>
        have e : isHeap (.tup [a, b]) = false := by
          cases a <;> first | rfl | (cases b <;> first | rfl | simp [isHeap, hW])
        rw [e]
        simp [m_is_heap, b_is_heap, s1_is_heap, s2_is_heap, s3_is_heap, s4_is_heap, is_ways_t, eqD, neD, ka, hW]
      | true =>
        cases a with
        | int w =>
          cases b with
          | lst l =>
            have hb := eqOk_mem h1 h2 (List.mem_cons_of_mem _ List.mem_cons_self)
            obtain ⟨h3, h4⟩ := eqOk_lst hb
            by_cases hl : l.length ≤ most w
            · have turn : ∀ d ∈ l, lcTurn [3] (gVar 3) c1_is_heap (sVar 3) d [.fr (.tup [.int w, .lst l]), .fr (.int w), .fr (.lst l), .no] = .ok (if isBox (.int w) d = true then none else some d) [.fr (.tup [.int w, .lst l]), .fr (.int w), .fr (.lst l), .no] := by
                intro d hd
                have k := eqOk_mem h3 h4 hd
                have k2 := hs _ _ rfl d hd
                cases hs : isBox (.int w) d <;> simp [lcTurn, c1_is_heap, is_box_t, k, k2, hs]
              have lc := lcF_pure (acc := []) turn
              have eo : eqOk (.lst (l.filter fun d => !isBox (.int w) d)) = true := eqOk_sub h3 h4 fun d hd => (List.mem_filter.mp hd).1
              have z : l.length ≤ PySem.sizeLine := line1000 (by unfold most at hl; split at hl <;> (try split at hl) <;> omega)
              rcases ways_cases hW with rfl | rfl | rfl
              · have z2 : ¬ (20 : Int) < l.length := by simp [most] at hl; omega
                simp [m_is_heap, b_is_heap, s1_is_heap, s2_is_heap, s3_is_heap, s4_is_heap, is_ways_t, hW, hl, neD, eqD, z, lc, fm_filter, eo, filter_none, isHeap, k_MOST_BOXES, z2]
              · have z2 : ¬ (10 : Int) < l.length := by simp [most] at hl; omega
                simp [m_is_heap, b_is_heap, s1_is_heap, s2_is_heap, s3_is_heap, s4_is_heap, is_ways_t, hW, hl, neD, eqD, z, lc, fm_filter, eo, filter_none, isHeap, k_MOST_BOXES, z2]
              · have z2 : ¬ (6 : Int) < l.length := by simp [most] at hl; omega
                simp [m_is_heap, b_is_heap, s1_is_heap, s2_is_heap, s3_is_heap, s4_is_heap, is_ways_t, hW, hl, neD, eqD, z, lc, fm_filter, eo, filter_none, isHeap, k_MOST_BOXES, z2]
            · have z2 : ∀ n : Int, n = (most w : Nat) → n < l.length := by omega
              rcases ways_cases hW with rfl | rfl | rfl
              · simp [m_is_heap, b_is_heap, s1_is_heap, s2_is_heap, s3_is_heap, s4_is_heap, is_ways_t, hW, hl, neD, eqD, isHeap, k_MOST_BOXES, z2 20 rfl]
              · simp [m_is_heap, b_is_heap, s1_is_heap, s2_is_heap, s3_is_heap, s4_is_heap, is_ways_t, hW, hl, neD, eqD, isHeap, k_MOST_BOXES, z2 10 rfl]
              · simp [m_is_heap, b_is_heap, s1_is_heap, s2_is_heap, s3_is_heap, s4_is_heap, is_ways_t, hW, hl, neD, eqD, isHeap, k_MOST_BOXES, z2 6 rfl]
          | fn _ => simp [kn] at kb
          | ex _ => simp [kn] at kb
          | dtt _ => simp [kn] at kb
          | scr _ => simp at h1
          | _ => simp [m_is_heap, b_is_heap, s1_is_heap, s2_is_heap, s3_is_heap, s4_is_heap, is_ways_t, hW, isHeap, eqD, neD]
        | _ => cases hW
  | fn _ => simp [eqOk] at ht
  | ex _ => simp [eqOk] at ht
  | dtt _ => simp [eqOk] at ht
  | _ => simp [m_is_heap, b_is_heap, s1_is_heap, s2_is_heap, s3_is_heap, s4_is_heap, isHeap]
theorem need_heap_t {d : D} (ht : eqOk d = true) (hs : ∀ w l, d = .tup [w, .lst l] → ∀ x ∈ l, short x) : m_need_heap [.fr d] = if isHeap d = true then .ok (.d .non) [.no] else .exc "NoHeap" [.no] := by
  cases h : isHeap d <;> simp [m_need_heap, b_need_heap, is_heap_t ht hs, h]

end Bk
end
end

section
set_option Elab.async false
set_option linter.all false
set_option maxRecDepth 100000
set_option maxHeartbeats 4000000
set_option autoImplicit false
set_option backward.isDefEq.respectTransparency false
noncomputable section
namespace Bk
open L2 Bx
structure VH (w : Int) (bs : List Box) : Prop where
  ways : isWays (.int w) = true
  few : bs.length ≤ most w
  box : ∀ b ∈ bs, (b.length : Int) = w ∧ ∀ p ∈ b, p.1 < p.2
theorem VH.le3 {w : Int} {bs : List Box} (h : VH w bs) {b : Box} (m : b ∈ bs) : b.length ≤ 3 := by
  have h1 := (h.box b m).1
  have := ways_cases h.ways
  omega
theorem VH.le20 {w : Int} {bs : List Box} (h : VH w bs) : bs.length ≤ 20 := by
  have h1 := h.few
  unfold most at h1
  split at h1
  · omega
  · split at h1 <;> omega
theorem isBox_eB {w : Int} {b : Box} (hw : isWays (.int w) = true) (h : (b.length : Int) = w ∧ ∀ p ∈ b, p.1 < p.2) : isBox (.int w) (eB b) = true := by
  unfold eB isBox
  simp [hw, h.1, isStretch, eP]
  exact fun a c m => h.2 (a, c) m
theorem isHeap_eH {w : Int} {bs : List Box} (h : VH w bs) : isHeap (eH w bs) = true := by
  unfold isHeap
  simp [h.ways, h.few]
  exact fun b hb => isBox_eB h.ways (h.box b hb)
theorem short_eH {w : Int} {bs : List Box} (h : VH w bs) : ∀ v l, eH w bs = .tup [v, .lst l] → ∀ x ∈ l, short x := by
  intro v l e x hx
  simp at e
  rw [← e.2] at hx
  obtain ⟨b, hb, rfl⟩ := List.mem_map.mp hx
  show (b.map eP).length ≤ 1000
  have := h.le3 hb
  rw [List.length_map]
  omega
theorem need_heap_ok {w : Int} {bs : List Box} (h : VH w bs) : m_need_heap [.fr (eH w bs)] = .ok (.d .non) [.no] := by
  rw [need_heap_t (eqOk_eH w bs) (short_eH h), isHeap_eH h]
  rfl
theorem VH.of {w : Int} {bs : List Box} (h1 : isWays (.int w) = true) (h2 : bs.length ≤ most w) (h3 : ∀ b ∈ bs, boxOk w b) : VH w bs := ⟨h1, h2, fun b hb => ⟨(h3 b hb).1, (h3 b hb).2.1⟩⟩
end Bk
end
end

section
set_option Elab.async false
set_option linter.all false
set_option maxRecDepth 100000
set_option maxHeartbeats 4000000
set_option autoImplicit false
set_option backward.isDefEq.respectTransparency false
noncomputable section
namespace Bk
open L2 Bx
def comB (a b : Box) : Box := (a.zip b).map fun q => (max q.1.1 q.2.1, min q.1.2 q.2.2)
def upB (b : Box) : Bool := b.all fun p => decide (p.1 < p.2)
def comO (a b : Box) : Option Box := if upB (comB a b) = true then some (comB a b) else none
def prAt (b : Box) (k : Nat) : Int × Int := b[k]?.getD (0, 0)
def loL (bs : List Box) (k : Nat) : List Int := bs.map fun b => (prAt b k).1
def hiL (bs : List Box) (k : Nat) : List Int := bs.map fun b => (prAt b k).2
def mkL (bs : List Box) (k : Nat) : List Int := dsrt (loL bs k ++ hiL bs k)
theorem atI_box {b : Box} {i : Int} (h0 : 0 ≤ i) (h1 : i < b.length) : atI (b.map eP) i = some (eP (prAt b i.toNat)) := by
  obtain ⟨p, e, f⟩ := atI_map (f := eP) (l := b) (i := i) h0 h1
  unfold prAt
  rw [e, f]
  rfl
theorem marks_of_t {bs : List Box} {i : Int} (h0 : 0 ≤ i) (h1 : ∀ b ∈ bs, i < b.length) (hl : bs.length ≤ 1000) : m_marks_of [.fr (.lst (bs.map eB)), .fr (.int i)] = .ok (.n ((mkL bs i.toNat).map D.int)) [.no, .no] := by
  have lc1 := lcF_map (turn := lcTurn [2] (gVar 2) sYes e1_marks_of) (Γ := [.fr (.lst (bs.map eB)), .fr (.int i), .no]) (f := eB) (g := fun b => D.int (prAt b i.toNat).1) (l := bs) (acc := []) (fun b hb => by
    have e := atI_box h0 (h1 b hb)
    simp [lcTurn, e1_marks_of, e, eP])
  have lc2 := lcF_map (turn := lcTurn [2] (gVar 2) sYes e2_marks_of) (Γ := [.fr (.lst (bs.map eB)), .fr (.int i), .no]) (f := eB) (g := fun b => D.int (prAt b i.toNat).2) (l := bs) (acc := []) (fun b hb => by
    have e := atI_box h0 (h1 b hb)
    simp [lcTurn, e2_marks_of, e, eP])
  have z : bs.length ≤ PySem.sizeLine := line1000 hl
  have z2 : bs.length + bs.length ≤ PySem.sizeLine := by rw [PySem.sizeLine_eq]; omega
  have z3 : bs.length + bs.length < 4000 := by omega
  have ii : intsD (bs.map (fun b => D.int (prAt b i.toNat).1) ++ bs.map (fun b => D.int (prAt b i.toNat).2)) = some (loL bs i.toNat ++ hiL bs i.toNat) := by
    have := intsD_map (loL bs i.toNat ++ hiL bs i.toNat)
    rw [List.map_append] at this
    unfold loL hiL at this
    rw [List.map_map, List.map_map] at this
    exact this
  simp only [List.nil_append] at lc1 lc2
  simp [m_marks_of, b_marks_of, lc1, lc2, z, z2, ii, z3, mkL]
theorem mk_len (bs : List Box) (k : Nat) : (mkL bs k).length ≤ 2 * bs.length := by
  unfold mkL
  have := dsrt_len (loL bs k ++ hiL bs k)
  unfold loL hiL at this ⊢
  simp at this ⊢
  omega
end Bk
end
end

section
set_option Elab.async false
set_option linter.all false
set_option maxRecDepth 100000
set_option maxHeartbeats 4000000
set_option autoImplicit false
set_option backward.isDefEq.respectTransparency false
noncomputable section
namespace Bk
open L2 Bx
abbrev Row := Int × Box
def pairsM (m : List Int) : Box := m.zip m.tail
theorem pairsM_cons (a b : Int) (r : List Int) : pairsM (a :: b :: r) = (a, b) :: pairsM (b :: r) := rfl
def thereR (lo hi : Int) (rows : List Row) : List Row := (rows.filter fun r => decide ((prAt r.2 0).1 ≤ lo) && decide (hi ≤ (prAt r.2 0).2)).map fun r => (r.1, r.2.drop 1)
def rowsAt (x : Int) (rows : List Row) : List Row := (rows.filter fun r => decide ((prAt r.2 0).1 ≤ x) && decide (x < (prAt r.2 0).2)).map fun r => (r.1, r.2.drop 1)
def cutA : Nat → List Row → List (Box × List Int)
  | 0, rows => [([], rows.map (·.1))]
  | w + 1, rows => (pairsM (mkL (rows.map (·.2)) 0)).flatMap fun c => if (thereR c.1 c.2 rows).isEmpty = true then [] else (cutA w (thereR c.1 c.2 rows)).map fun q => (c :: q.1, q.2)
def sumR (a : Int) : Nat → (Int → Int) → Int
  | 0, _ => 0
  | n + 1, f => f a + sumR (a + 1) n f
theorem sumR_add (f : Int → Int) : ∀ (n m : Nat) (a : Int), sumR a (n + m) f = sumR a n f + sumR (a + n) m f
  | 0, m, a => by simp [sumR]
  | n + 1, m, a => by
    have ih := sumR_add f n m (a + 1)
    rw [show n + 1 + m = (n + m) + 1 by omega]
    simp only [sumR]
    rw [ih, show a + 1 + (n : Int) = a + ((n + 1 : Nat) : Int) by push_cast; omega]
    omega
theorem sumR_const (f : Int → Int) (v : Int) : ∀ (n : Nat) (a : Int), (∀ x, a ≤ x → x < a + n → f x = v) → sumR a n f = n * v
  | 0, a, _ => by simp [sumR]
  | n + 1, a, h => by
    have ih := sumR_const f v n (a + 1) fun x h1 h2 => h x (by omega) (by push_cast; omega)
    simp only [sumR]
    rw [ih, h a (by omega) (by push_cast; omega)]
    push_cast
    rw [Int.add_mul]
    omega
theorem sumR_zero (f : Int → Int) (n : Nat) (a : Int) (h : ∀ x, a ≤ x → x < a + n → f x = 0) : sumR a n f = 0 := by
  rw [sumR_const f 0 n a h]
  simp
def okR (a : Int) (n w : Nat) (rows : List Row) : Prop := ∀ r ∈ rows, r.2.length = w ∧ ∀ p ∈ r.2, p.1 < p.2 ∧ a ≤ p.1 ∧ p.2 ≤ a + n
theorem okR.at {a : Int} {n w : Nat} {rows : List Row} (h : okR a n (w + 1) rows) (x : Int) : okR a n w (rowsAt x rows) := by
  intro r hr
  unfold rowsAt at hr
  obtain ⟨q, hq, rfl⟩ := List.mem_map.mp hr
  have := h q (List.mem_filter.mp hq).1
  refine ⟨by rw [List.length_drop]; omega, fun p hp => this.2 p (List.mem_of_mem_drop hp)⟩
theorem okR.one {a : Int} {n w : Nat} {rows : List Row} (h : okR a n (w + 1) rows) {r : Row} (hr : r ∈ rows) : (prAt r.2 0) ∈ r.2 := by
  have := (h r hr).1
  unfold prAt
  rw [List.getElem?_eq_getElem (by omega)]
  exact List.getElem_mem _
def holdsM (m : List Int) (rows : List Row) : Prop := ∀ r ∈ rows, (prAt r.2 0).1 ∈ m ∧ (prAt r.2 0).2 ∈ m
theorem pair_gap {m : List Int} (hp : m.Pairwise (· < ·)) : ∀ {c : Int × Int}, c ∈ pairsM m → c.1 < c.2 ∧ ∀ y ∈ m, y ≤ c.1 ∨ c.2 ≤ y := by
  induction m with
  | nil => intro c hc; cases hc
  | cons a r ih =>
    cases r with
    | nil => intro c hc; cases hc
    | cons b r =>
      intro c hc
      rw [pairsM_cons] at hc
      have hab := (List.pairwise_cons.mp hp).1
      rcases List.mem_cons.mp hc with z | z
      · subst z
        refine ⟨hab b List.mem_cons_self, fun y hy => ?_⟩
        rcases List.mem_cons.mp hy with q | q
        · left; simp only; omega
        · right
          rcases List.mem_cons.mp q with q | q
          · simp only; omega
          · have := (List.pairwise_cons.mp (List.pairwise_cons.mp hp).2).1 y q; simp only; omega
      · have h := ih (List.pairwise_cons.mp hp).2 z
        refine ⟨h.1, fun y hy => ?_⟩
        rcases List.mem_cons.mp hy with q | q
        · left
          have m1 := (List.of_mem_zip (show (c.1, c.2) ∈ (b :: r).zip (b :: r).tail from z)).1
          have := hab _ m1
          omega
        · exact h.2 y q
theorem there_eq {m : List Int} {rows : List Row} (hm : holdsM m rows) (hp : m.Pairwise (· < ·)) {c : Int × Int} (hc : c ∈ pairsM m) : thereR c.1 c.2 rows = rowsAt c.1 rows := by
  unfold rowsAt thereR
  congr 1
  apply List.filter_congr
  intro r hr
  have g := pair_gap hp hc
  have k1 := g.2 _ (hm r hr).1
  have k2 := g.2 _ (hm r hr).2
  rw [Bool.eq_iff_iff]
  simp only [Bool.and_eq_true, decide_eq_true_eq]
  omega
def sumC (φ : List Int → Int) (cells : List (Box × List Int)) : Int := (cells.map fun q => sizeB q.1 * φ q.2).sum
theorem sizeB_go' (b : Box) : ∀ s : Int, b.foldl (fun s p => s * (p.2 - p.1)) s = s * sizeB b := by
  induction b with
  | nil => intro s; simp [sizeB]
  | cons p b ih =>
    intro s
    unfold sizeB
    rw [List.foldl_cons, List.foldl_cons, ih, ih, Int.one_mul, Int.mul_assoc]
theorem sizeB_cons' (p : Int × Int) (b : Box) : sizeB (p :: b) = (p.2 - p.1) * sizeB b := by
  show b.foldl _ (1 * (p.2 - p.1)) = _
  rw [sizeB_go', Int.one_mul]
theorem mkL_holds (rows : List Row) : holdsM (mkL (rows.map (·.2)) 0) rows := by
  intro r hr
  unfold mkL
  constructor
  · exact dsrt_mem.mpr (List.mem_append_left _ (List.mem_map.mpr ⟨r.2, List.mem_map.mpr ⟨r, hr, rfl⟩, rfl⟩))
  · exact dsrt_mem.mpr (List.mem_append_right _ (List.mem_map.mpr ⟨r.2, List.mem_map.mpr ⟨r, hr, rfl⟩, rfl⟩))
end Bk
end
end

section
set_option Elab.async false
set_option linter.all false
set_option maxRecDepth 100000
set_option maxHeartbeats 4000000
set_option autoImplicit false
set_option backward.isDefEq.respectTransparency false
noncomputable section
namespace Bk
open L2 Bx
abbrev eR (r : Row) : D := .tup [.int r.1, eB r.2]
abbrev eC (q : Box × List Int) : D := .tup [eB q.1, eI q.2]
theorem lineBig {n : Nat} (h : n ≤ 4000000) : n ≤ PySem.sizeLine := by rw [PySem.sizeLine_eq]; omega
theorem forF_ext {α : Type} {body : D → Ev → R Fl} (G : List D → Ev) (e : α → D) (g : α → List D) (N : Nat) : ∀ {l : List α} {s : List D}, (∀ x ∈ l, ∀ s, s.length + (g x).length ≤ N → body (e x) (G s) = .ok .nx (G (s ++ g x))) → s.length + (l.flatMap g).length ≤ N → forF body (l.map e) (G s) = .ok .nx (G (s ++ l.flatMap g))
  | [], s, _, _ => by simp [forF]
  | x :: l, s, h, hN => by
    rw [List.flatMap_cons, List.length_append] at hN
    rw [List.map_cons, List.flatMap_cons]
    unfold forF
    rw [h x List.mem_cons_self s (by omega)]
    have ih := forF_ext G e g N (l := l) (s := s ++ g x) (fun y hy => h y (List.mem_cons_of_mem _ hy)) (by rw [List.length_append]; omega)
    rw [List.append_assoc] at ih
    exact ih
theorem there_len (lo hi : Int) (rows : List Row) : (thereR lo hi rows).length ≤ rows.length := by
  unfold thereR
  rw [List.length_map]
  exact List.length_filter_le _ _
theorem flat_len {α β : Type} (f : α → List β) (k : Nat) : ∀ l : List α, (∀ x ∈ l, (f x).length ≤ k) → (l.flatMap f).length ≤ l.length * k
  | [], _ => by simp
  | x :: l, h => by
    have h1 := h x List.mem_cons_self
    have h2 := flat_len f k l fun y hy => h y (List.mem_cons_of_mem _ hy)
    rw [List.flatMap_cons, List.length_append, List.length_cons, Nat.add_mul]
    omega
theorem pairs_len (m : List Int) : (pairsM m).length ≤ m.length := by
  unfold pairsM
  rw [List.length_zip]
  omega
theorem cutA_len : ∀ (w : Nat) (rows : List Row), rows.length ≤ 20 → (cutA w rows).length ≤ 40 ^ w
  | 0, rows, _ => by simp [cutA]
  | w + 1, rows, h => by
    unfold cutA
    have h1 := flat_len (fun c : Int × Int => if (thereR c.1 c.2 rows).isEmpty = true then [] else (cutA w (thereR c.1 c.2 rows)).map fun q => (c :: q.1, q.2)) (40 ^ w) (pairsM (mkL (rows.map (·.2)) 0)) (fun c _ => by
      split
      · simp
      · rw [List.length_map]
        exact cutA_len w _ (Nat.le_trans (there_len _ _ _) h))
    have h2 := pairs_len (mkL (rows.map (·.2)) 0)
    have h3 : (mkL (rows.map (·.2)) 0).length ≤ 40 := by
      unfold mkL
      have := dsrt_len (loL (rows.map (·.2)) 0 ++ hiL (rows.map (·.2)) 0)
      unfold loL hiL at this ⊢
      simp at this ⊢
      omega
    rw [Nat.pow_succ, Nat.mul_comm]
    exact Nat.le_trans h1 (Nat.mul_le_mul_right _ (by omega))
section
variable {f : Nat} {rows : List Row} {w : Int} {lo hi : Int} {s : List D} {ms : List Int}
abbrev aG (rows : List Row) (w : Int) (x2 x3 x4 x5 x6 : SD) : Ev := [.fr (.lst (rows.map eR)), .fr (.int w), x2, x3, x4, x5, x6, .no, .no, .no, .no]
theorem ca_row {r : Row} (h : 0 < r.2.length) : atI (r.2.map eP) 0 = some (eP (prAt r.2 0)) := atI_box (i := 0) (by decide) (by omega)
theorem ca1 (hr : ∀ r ∈ rows, 0 < r.2.length) (hl : rows.length ≤ 20) (x2 x3 : SD) : lcF (lcTurn [7, 8] (gTup [(gVar 7), (gVar 8)]) (c1_cut_apart (m_cut_apart f)) (e1_cut_apart (m_cut_apart f))) (rows.map eR) [] (aG rows w x2 x3 (.fr (.int lo)) (.fr (.int hi)) .no) = .ok ((thereR lo hi rows).map eR) (aG rows w x2 x3 (.fr (.int lo)) (.fr (.int hi)) .no) := by
  have lc := lcF_fil (turn := lcTurn [7, 8] (gTup [(gVar 7), (gVar 8)]) (c1_cut_apart (m_cut_apart f)) (e1_cut_apart (m_cut_apart f))) (Γ := aG rows w x2 x3 (.fr (.int lo)) (.fr (.int hi)) .no) (f := eR) (g := fun r => eR (r.1, r.2.drop 1)) (p := fun r => decide ((prAt r.2 0).1 ≤ lo) && decide (hi ≤ (prAt r.2 0).2)) (l := rows) (acc := []) (fun r hm => by
    have e := ca_row (hr r hm)
    have e2 : cutD (r.2.map eP) (some 1) none = (r.2.drop 1).map eP := by rw [cut_from (by decide), ← List.map_drop]; rfl
    rw [atI_zero] at e
    by_cases h1 : (prAt r.2 0).1 ≤ lo
    · by_cases h2 : hi ≤ (prAt r.2 0).2
      · simp [lcTurn, c1_cut_apart, e1_cut_apart, e, eP, h1, h2, e2]
      · simp [lcTurn, c1_cut_apart, e1_cut_apart, e, eP, h1, h2]
    · simp [lcTurn, c1_cut_apart, e1_cut_apart, e, eP, h1])
  rw [lc, List.nil_append]
  unfold thereR
  rw [List.map_map]
  rfl
end
theorem cutA_box : ∀ (w : Nat) (rows : List Row) (q : Box × List Int), q ∈ cutA w rows → q.1.length = w
  | 0, rows, q, h => by
    simp [cutA] at h
    rw [h]
    rfl
  | w + 1, rows, q, h => by
    unfold cutA at h
    obtain ⟨c, _, hc⟩ := List.mem_flatMap.mp h
    split at hc
    · cases hc
    · obtain ⟨z, hz, rfl⟩ := List.mem_map.mp hc
      show z.1.length + 1 = w + 1
      rw [cutA_box w _ z hz]
theorem eqOk_rows (rows : List Row) : eqOk (.lst (rows.map eR)) = true := eqOk_map (fun r => by simp [pls_prs]) fun r => by have := deps_prs r.2; simp; omega
theorem ne_rows (rows : List Row) : neD (.lst (rows.map eR)) (.lst []) = some (!rows.isEmpty) := by
  unfold neD
  rw [if_pos ⟨eqOk_rows rows, rfl⟩]
  cases rows <;> simp
def cutG (k : Nat) (rows : List Row) (c : Int × Int) : List (Box × List Int) := if (thereR c.1 c.2 rows).isEmpty = true then [] else (cutA k (thereR c.1 c.2 rows)).map fun q => (c :: q.1, q.2)
theorem cutA_succ (k : Nat) (rows : List Row) : cutA (k + 1) rows = (pairsM (mkL (rows.map (·.2)) 0)).flatMap (cutG k rows) := rfl
section
variable {f k : Nat} {rows there : List Row} {w : Int} {lo hi : Int} {s : List D} {ms : List Int}
theorem ca2 (hr : ∀ r ∈ rows, 0 < r.2.length) (hl : rows.length ≤ 20) (x2 x3 : SD) : (sAsg (sEsc (sLc (iAny (sVar 0)) [7, 8] (gTup [(gVar 7), (gVar 8)]) (c1_cut_apart (m_cut_apart f)) (e1_cut_apart (m_cut_apart f)))) (gVar 6)) (aG rows w x2 x3 (.fr (.int lo)) (.fr (.int hi)) .no) = .ok .nx (aG rows w x2 x3 (.fr (.int lo)) (.fr (.int hi)) (.fr (.lst ((thereR lo hi rows).map eR)))) := by
  have lc := ca1 (f := f) (w := w) (lo := lo) (hi := hi) hr hl x2 x3
  have z : rows.length ≤ PySem.sizeLine := line1000 (by omega)
  generalize hq : (thereR lo hi rows).map eR = q at *
  simp [lc, z]
theorem ca3 (he : there.isEmpty = true) (x2 x3 x4 x5 : SD) (t : SS) : (sIf (sCmp (neD) (sVar 6) (sLst sNil)) t sSkip) (aG rows w x2 x3 x4 x5 (.fr (.lst (there.map eR)))) = .ok .nx (aG rows w x2 x3 x4 x5 (.fr (.lst (there.map eR)))) := by
  have e := ne_rows there
  rw [he] at e
  generalize hq : there.map eR = q at *
  simp [e]
theorem ca4 {cs : List (Box × List Int)} (ih : m_cut_apart f [.fr (.lst (there.map eR)), .fr (.int (w - 1))] = .ok (.n (cs.map eC)) [.no, .no]) (he : there.isEmpty = false) (hb : ∀ q ∈ cs, q.1.length ≤ 3) (hc : cs.length ≤ 70000) (hs : s.length + cs.length ≤ 3000000) (x3 : SD) :
    (sIf (sCmp (neD) (sVar 6) (sLst sNil)) (sDrop (sMeth 2 extD (sCons (sEsc (sLc (iAny (sEsc (sCall (m_cut_apart f) [] (sCons (sVar 6) (sCons (sBin subD (sVar 1) (sC (.int 1))) sNil))))) [9, 10] (gTup [(gVar 9), (gVar 10)]) sYes (e2_cut_apart (m_cut_apart f)))) sNil))) sSkip) (aG rows w (.ow none s) x3 (.fr (.int lo)) (.fr (.int hi)) (.fr (.lst (there.map eR)))) =
      .ok .nx (aG rows w (.ow none (s ++ (cs.map fun q => ((lo, hi) :: q.1, q.2)).map eC)) x3 (.fr (.int lo)) (.fr (.int hi)) (.fr (.lst (there.map eR)))) := by
  have e := ne_rows there
  rw [he] at e
  generalize hq : there.map eR = q at *
  have lc := lcF_map (turn := lcTurn [9, 10] (gTup [(gVar 9), (gVar 10)]) sYes (e2_cut_apart (m_cut_apart f))) (Γ := [.fr (.lst (rows.map eR)), .fr (.int w), .ow none s, x3, .fr (.int lo), .fr (.int hi), .fr (.lst q), .no, .no, .no, .no]) (f := eC) (g := fun q => eC ((lo, hi) :: q.1, q.2)) (l := cs) (acc := []) (fun r hm => by
    have h3 := hb r hm
    have z : 1 + r.1.length ≤ PySem.sizeLine := line1000 (by omega)
    simp [lcTurn, e2_cut_apart, z, eP])
  have e3 : cs.map (fun q => eC ((lo, hi) :: q.1, q.2)) = (cs.map fun q => ((lo, hi) :: q.1, q.2)).map eC := by rw [List.map_map]; rfl
  rw [e3, List.nil_append] at lc
  have zl : (cs.map fun q => ((lo, hi) :: q.1, q.2)).length = cs.length := by simp
  generalize (cs.map fun q => ((lo, hi) :: q.1, q.2)) = ds at *
  have z1 : cs.length ≤ PySem.sizeLine := lineBig (by omega)
  have z2 : s.length + cs.length ≤ PySem.sizeLine := lineBig (by omega)
  simp [e, ih, lc, z1, z2, zl]
end
theorem pairs_zw (m : List Int) : List.zipWith (fun a b => D.tup [a, b]) (m.map D.int) (m.map D.int).tail = (pairsM m).map eP := by
  unfold pairsM
  rw [← List.map_tail]
  have h : ∀ (a b : List Int), List.zipWith (fun x y => D.tup [x, y]) (a.map D.int) (b.map D.int) = (a.zip b).map eP := by
    intro a
    induction a with
    | nil => intro b; rfl
    | cons x a ih => intro b; cases b with
      | nil => rfl
      | cons y b => simp only [List.map_cons, List.zipWith_cons_cons, List.zip_cons_cons, ih b]; rfl
  exact h m m.tail
theorem cut_apart_t : ∀ (k f : Nat) (rows : List Row), k ≤ 3 → k < f → (∀ r ∈ rows, r.2.length = k) → rows.length ≤ 20 → m_cut_apart f [.fr (.lst (rows.map eR)), .fr (.int k)] = .ok (.n ((cutA k rows).map eC)) [.no, .no]
  | k, 0, rows, _, h, _, _ => absurd h (Nat.not_lt_zero _)
  | 0, f + 1, rows, _, _, hr, hl => by
    have lc := lcF_map (turn := lcTurn [7, 8] (gTup [(gVar 7), (gVar 8)]) sYes (sVar 7)) (Γ := aG rows 0 .no .no .no .no .no) (f := eR) (g := fun r => D.int r.1) (l := rows) (acc := []) (fun r _ => by simp [lcTurn])
    have z : rows.length ≤ PySem.sizeLine := line1000 (by omega)
    have e : rows.map (fun r => D.int r.1) = (rows.map (·.1)).map D.int := by rw [List.map_map]; rfl
    rw [e, List.nil_append] at lc
    have g1 : (s1_cut_apart (m_cut_apart f)) (aG rows 0 .no .no .no .no .no) = .ok (.rt (.n [eC ([], rows.map (·.1))])) (aG rows 0 .no .no .no .no .no) := by
      generalize rows.map (·.1) = q at *
      simp [s1_cut_apart, eqD, deq, lc, z]
    have g : b_cut_apart (m_cut_apart f) (aG rows 0 .no .no .no .no .no) = _ := seq_rt g1
    show fnM 2 11 (b_cut_apart (m_cut_apart f)) [.fr (.lst (rows.map eR)), .fr (.int 0)] = _
    simp [g, cutA]
  | k + 1, f + 1, rows, hk, hf, hr, hl => by
    obtain ⟨w, hw⟩ : ∃ w : Int, w = ((k + 1 : Nat) : Int) := ⟨_, rfl⟩
    have hw0 : w ≠ 0 := by omega
    have hwk : w - 1 = (k : Nat) := by push_cast at hw; omega
    have g1 : (s1_cut_apart (m_cut_apart f)) (aG rows w .no .no .no .no .no) = .ok .nx (aG rows w .no .no .no .no .no) := by
      simp [s1_cut_apart, eqD, deq, hw0]
    have g2 : (sOwn (sLst sNil) 2) (aG rows w .no .no .no .no .no) = .ok .nx (aG rows w (.ow none []) .no .no .no .no) := by simp
    have lc := lcF_map (turn := lcTurn [7, 8] (gTup [(gVar 7), (gVar 8)]) sYes (sVar 8)) (Γ := aG rows w (.ow none []) .no .no .no .no) (f := eR) (g := fun r => eB r.2) (l := rows) (acc := []) (fun r _ => by simp [lcTurn])
    have z : rows.length ≤ PySem.sizeLine := line1000 (by omega)
    have e : rows.map (fun r => eB r.2) = (rows.map (·.2)).map eB := by rw [List.map_map]; rfl
    rw [e, List.nil_append] at lc
    have em := marks_of_t (bs := rows.map (·.2)) (i := 0) (by decide) (fun b hb => by
      obtain ⟨r, hm, rfl⟩ := List.mem_map.mp hb
      have := hr r hm
      omega) (by simp; omega)
    have g3 : (s2_cut_apart (m_cut_apart f)) (aG rows w (.ow none []) .no .no .no .no) = .ok .nx (aG rows w (.ow none []) (.fr (eI (mkL (rows.map (·.2)) 0))) .no .no .no) := by
      have em : m_marks_of [.fr (.lst ((rows.map (·.2)).map eB)), .fr (.int 0)] = .ok (.n ((mkL (rows.map (·.2)) 0).map D.int)) [.no, .no] := em
      have zl : (rows.map (·.2)).length = rows.length := by simp
      generalize mkL (rows.map (·.2)) 0 = ms at *
      generalize rows.map (·.2) = bs at *
      simp [s2_cut_apart, lc, z, zl, em]
    have hml : (mkL (rows.map (·.2)) 0).length ≤ 40 := by
      have := mk_len (rows.map (·.2)) 0
      rw [List.length_map] at this
      omega
    have hpow : 40 ^ k ≤ 1600 := by
      have : k = 0 ∨ k = 1 ∨ k = 2 := by omega
      rcases this with rfl | rfl | rfl <;> decide
    have hcl := cutA_len (k + 1) rows hl
    have hpow2 : 40 ^ (k + 1) ≤ 64000 := by
      have : k = 0 ∨ k = 1 ∨ k = 2 := by omega
      rcases this with rfl | rfl | rfl <;> decide
    have lp := forF_ext (body := turnF (gTup [(gVar 4), (gVar 5)]) (fgt [6, 4, 5] (w1_cut_apart (m_cut_apart f)))) (fun s => aG rows w (.ow none s) (.fr (eI (mkL (rows.map (·.2)) 0))) .no .no .no) eP (fun c => (cutG k rows c).map eC) 100000 (l := pairsM (mkL (rows.map (·.2)) 0)) (s := []) (by
      intro c hc s hs
      rw [List.length_map] at hs
      obtain ⟨lo, hi⟩ := c
      have htl := there_len lo hi rows
      have a1 := ca2 (f := f) (w := w) (lo := lo) (hi := hi) (fun r hm => by have := hr r hm; omega) hl (.ow none s) (.fr (eI (mkL (rows.map (·.2)) 0)))
      have ih := cut_apart_t k f (thereR lo hi rows) (by omega) (by omega) (fun r hm => by
        unfold thereR at hm
        obtain ⟨q, hq, rfl⟩ := List.mem_map.mp hm
        have := hr q (List.mem_filter.mp hq).1
        rw [List.length_drop]
        omega) (by omega)
      rw [← hwk] at ih
      cases he : (thereR lo hi rows).isEmpty with
      | true =>
        have k1 : w1_cut_apart (m_cut_apart f) (aG rows w (.ow none s) (.fr (eI (mkL (rows.map (·.2)) 0))) (.fr (.int lo)) (.fr (.int hi)) .no) = _ := (seq_nx a1).trans (ca3 he _ _ _ _ _)
        have e0 : cutG k rows (lo, hi) = [] := by unfold cutG; rw [if_pos he]
        rw [e0]
        unfold turnF
        simp [eP, k1]
      | false =>
        have hcut := cutA_len k (thereR lo hi rows) (by omega)
        have e0 : cutG k rows (lo, hi) = (cutA k (thereR lo hi rows)).map fun q => ((lo, hi) :: q.1, q.2) := by unfold cutG; rw [if_neg (by rw [he]; decide)]
        rw [e0, List.length_map] at hs
        have k1 : w1_cut_apart (m_cut_apart f) (aG rows w (.ow none s) (.fr (eI (mkL (rows.map (·.2)) 0))) (.fr (.int lo)) (.fr (.int hi)) .no) = _ := (seq_nx a1).trans (ca4 ih he (fun q hq => by rw [cutA_box k _ q hq]; omega) (by omega) (by omega) _)
        rw [e0]
        generalize ((cutA k (thereR lo hi rows)).map fun q => ((lo, hi) :: q.1, q.2)) = ds at *
        unfold turnF
        simp [eP, k1]) (by
      have : ((pairsM (mkL (rows.map (·.2)) 0)).flatMap fun c => (cutG k rows c).map eC) = (cutA (k + 1) rows).map eC := by rw [cutA_succ, List.map_flatMap]
      rw [this, List.length_map]
      simp
      omega)
    have ef : ((pairsM (mkL (rows.map (·.2)) 0)).flatMap fun c => (cutG k rows c).map eC) = (cutA (k + 1) rows).map eC := by rw [cutA_succ, List.map_flatMap]
    rw [ef, List.nil_append, ← pairs_zw] at lp
    generalize hcs : cutA (k + 1) rows = cs at *
    generalize hms : mkL (rows.map (·.2)) 0 = ms at *
    have z3 : ms.length ≤ PySem.sizeLine := line1000 (by omega)
    have e1 : cutD (ms.map D.int) (some 1) none = (ms.map D.int).tail := by rw [cut_from (by decide)]; exact List.drop_one
    have g4 : (s3_cut_apart (m_cut_apart f)) (aG rows w (.ow none []) (.fr (eI ms)) .no .no .no) = .ok .nx (aG rows w (.ow none (cs.map eC)) (.fr (eI ms)) .no .no .no) := by
      simp [s3_cut_apart, e1, z3, lp]
    have g5 : (sRet (sVar 2)) (aG rows w (.ow none (cs.map eC)) (.fr (eI ms)) .no .no .no) = .ok (.rt (.n (cs.map eC))) (aG rows w .no (.fr (eI ms)) .no .no .no) := by simp
    have g : b_cut_apart (m_cut_apart f) (aG rows w .no .no .no .no .no) = _ := (seq_nx g1).trans ((seq_nx g2).trans ((seq_nx g3).trans ((seq_nx g4).trans g5)))
    show fnM 2 11 (b_cut_apart (m_cut_apart f)) [.fr (.lst (rows.map eR)), .fr (.int ((k + 1 : Nat) : Int))] = _
    rw [← hw]
    simp [g]
end Bk
end
end

section
set_option Elab.async false
set_option linter.all false
set_option maxRecDepth 100000
set_option maxHeartbeats 4000000
set_option autoImplicit false
set_option backward.isDefEq.respectTransparency false
noncomputable section
namespace Bk
open L2 Bx
def rowsE : Nat → List Box → List Row
  | _, [] => []
  | k, b :: r => ((k : Nat), b) :: rowsE (k + 1) r
theorem rowsE_enum : ∀ (bs : List Box) (k : Nat), enumF k (bs.map eB) = (rowsE k bs).map eR
  | [], k => rfl
  | b :: r, k => by
    rw [List.map_cons, enumF, rowsE, List.map_cons, rowsE_enum r (k + 1)]
theorem rowsE_len : ∀ (bs : List Box) (k : Nat), (rowsE k bs).length = bs.length
  | [], k => rfl
  | b :: r, k => by rw [rowsE, List.length_cons, rowsE_len r, List.length_cons]
theorem rowsE_mem : ∀ {bs : List Box} {k : Nat} {r : Row}, r ∈ rowsE k bs → r.2 ∈ bs ∧ (k : Int) ≤ r.1 ∧ r.1 < k + bs.length
  | [], k, r, h => by cases h
  | b :: bs, k, r, h => by
    rw [rowsE] at h
    rcases List.mem_cons.mp h with e | e
    · rw [e]
      exact ⟨List.mem_cons_self, Int.le_refl _, by simp; omega⟩
    · have := rowsE_mem e
      refine ⟨List.mem_cons_of_mem _ this.1, by have := this.2.1; push_cast at this; omega, by have := this.2.2; push_cast at this ⊢; simp; omega⟩
def cellsL (w : Int) (bs : List Box) : List (Box × List Int) := if bs.isEmpty = true then [] else cutA w.toNat (rowsE 0 bs)
theorem cells_of_t {w : Int} {bs : List Box} (h : VH w bs) : m_cells_of [.fr (eH w bs)] = .ok (.n ((cellsL w bs).map eC)) [.no] := by
  have hw := ways_cases h.ways
  have h20 := h.le20
  have e1 := ne_eBs bs
  cases hb : bs.isEmpty with
  | true =>
    rw [hb] at e1
    simp [m_cells_of, b_cells_of, e1, cellsL, hb]
  | false =>
    rw [hb] at e1
    have e2 := cut_apart_t w.toNat 8 (rowsE 0 bs) (by omega) (by omega) (fun r hr => by
      have := (h.box _ (rowsE_mem hr).1).1
      omega) (by rw [rowsE_len]; omega)
    rw [show ((w.toNat : Nat) : Int) = w by omega] at e2
    rw [← rowsE_enum] at e2
    have z : bs.length ≤ PySem.sizeLine := line1000 (by omega)
    have ec : cellsL w bs = cutA w.toNat (rowsE 0 bs) := by unfold cellsL; rw [hb]; rfl
    rw [ec]
    generalize cutA w.toNat (rowsE 0 bs) = cs at *
    simp [m_cells_of, b_cells_of, e1, enumF_len, z, e2]
end Bk
end
end

section
set_option Elab.async false
set_option linter.all false
set_option maxRecDepth 100000
set_option maxHeartbeats 4000000
set_option autoImplicit false
set_option backward.isDefEq.respectTransparency false
noncomputable section
namespace Bk
open L2 Bx
theorem rowsD_eC : ∀ cs : List (Box × List Int), rowsD ((cs.map eC).map rowO) = some (cs.map eC)
  | [] => rfl
  | q :: cs => by
    have h := rowsD_eC cs
    show (rowD (.tp [.fr (eB q.1), .ow (q.2.map D.int)])).bind (fun d => (rowsD ((cs.map eC).map rowO)).map fun l => d :: l) = _
    rw [h]
    rfl
theorem mapTb_eC {f : SE} {jb jn : Nat} {G : Ev} {g : Box → Box} : ∀ {cs : List (Box × List Int)}, (∀ q ∈ cs, f ((G.set jb (.fr (eB q.1))).set jn .no) = .ok (.d (eB (g q.1))) ((G.set jb (.fr (eB q.1))).set jn .no)) → mapTb f jb jn G (cs.map eC) = some ((cs.map fun q => (g q.1, q.2)).map eC)
  | [], _ => rfl
  | q :: cs, h => by
    have h1 := h q List.mem_cons_self
    have ih := mapTb_eC (f := f) (jb := jb) (jn := jn) (G := G) (g := g) (cs := cs) fun r hr => h r (List.mem_cons_of_mem _ hr)
    show mapTb1 (q.2.map D.int) (mapTb f jb jn G (cs.map eC)) (f ((G.set jb (.fr (eB q.1))).set jn .no)) = _
    rw [h1, ih]
    rfl
theorem seqT_nx {s t : SST} {Γ Γ' : Ev} (h : s Γ = .ok none Γ') : sSeqT s t Γ = t Γ' := by
  show seqTR t (s Γ) = _
  rw [h]
  rfl
theorem seqT_rt {s t : SST} {Γ Γ' : Ev} {es : List D} (h : s Γ = .ok (some es) Γ') : sSeqT s t Γ = .ok (some es) Γ' := by
  show seqTR t (s Γ) = _
  rw [h]
  rfl
theorem lift_nx {s : SS} {Γ Γ' : Ev} (h : s Γ = .ok .nx Γ') : sLiftT s Γ = .ok none Γ' := by
  show liftTR (s Γ) = _
  rw [h]
  rfl
theorem forF_extB {α β : Type} {body : D → Ev → R Fl} (G : List β → Ev) (e : α → D) (g : α → List β) (N : Nat) : ∀ {l : List α} {s : List β}, (∀ x ∈ l, ∀ s, s.length + (g x).length ≤ N → body (e x) (G s) = .ok .nx (G (s ++ g x))) → s.length + (l.flatMap g).length ≤ N → forF body (l.map e) (G s) = .ok .nx (G (s ++ l.flatMap g))
  | [], s, _, _ => by simp [forF]
  | x :: l, s, h, hN => by
    rw [List.flatMap_cons, List.length_append] at hN
    rw [List.map_cons, List.flatMap_cons]
    unfold forF
    rw [h x List.mem_cons_self s (by omega)]
    have ih := forF_extB G e g N (l := l) (s := s ++ g x) (fun y hy => h y (List.mem_cons_of_mem _ hy)) (by rw [List.length_append]; omega)
    rw [List.append_assoc] at ih
    exact ih
section
variable {f k : Nat} {rows there : List Row} {w : Int} {lo hi : Int} {s : List (Box × List Int)} {ms : List Int}
abbrev trO (s : List (Box × List Int)) : SD := .ob none (.ls ((s.map eC).map rowO))
theorem ca2T (m : Ev → FR) (hr : ∀ r ∈ rows, 0 < r.2.length) (hl : rows.length ≤ 20) (x2 x3 : SD) : (sAsg (sEsc (sLc (iAny (sVar 0)) [7, 8] (gTup [(gVar 7), (gVar 8)]) (c1_cut_apart m) (e1_cut_apart m))) (gVar 6)) (aG rows w x2 x3 (.fr (.int lo)) (.fr (.int hi)) .no) = .ok .nx (aG rows w x2 x3 (.fr (.int lo)) (.fr (.int hi)) (.fr (.lst ((thereR lo hi rows).map eR)))) := ca2 (f := 0) hr hl x2 x3
theorem ca4T {cs : List (Box × List Int)} (ih : m_cutT f [.fr (.lst (there.map eR)), .fr (.int (w - 1))] = .ok (.n (cs.map eC)) [.no, .no]) (he : there.isEmpty = false) (hb : ∀ q ∈ cs, q.1.length ≤ 3) (hc : cs.length ≤ 70000) (hs : s.length + cs.length ≤ 100000) (x3 : SD) :
    (sIf (sCmp (neD) (sVar 6) (sLst sNil)) (x1_cutT (m_cutT f)) sSkip) (aG rows w (trO s) x3 (.fr (.int lo)) (.fr (.int hi)) (.fr (.lst (there.map eR)))) =
      .ok .nx (aG rows w (trO (s ++ cs.map fun q => ((lo, hi) :: q.1, q.2))) x3 (.fr (.int lo)) (.fr (.int hi)) (.fr (.lst (there.map eR)))) := by
  have e := ne_rows there
  rw [he] at e
  generalize hq : there.map eR = q at *
  have rd := rowsD_eC s
  have mt := mapTb_eC (f := low_cutT) (jb := 9) (jn := 10) (G := [.fr (.lst (rows.map eR)), .fr (.int w), trO s, x3, .fr (.int lo), .fr (.int hi), .fr (.lst q), .no, .no, .no, .no]) (g := fun b => (lo, hi) :: b) (cs := cs) (fun r hm => by
    have h3 := hb r hm
    have z : 1 + r.1.length ≤ PySem.sizeLine := line1000 (by omega)
    simp [low_cutT, z, eP])
  have ea : (s ++ cs.map fun q => ((lo, hi) :: q.1, q.2)).map eC = s.map eC ++ (cs.map fun q => ((lo, hi) :: q.1, q.2)).map eC := List.map_append
  have z1 : (cs.map eC).length ≤ 100000 := by rw [List.length_map]; omega
  have z2 : (s.map eC).length + ((cs.map fun q => ((lo, hi) :: q.1, q.2)).map eC).length ≤ 100000 := by rw [List.length_map, List.length_map, List.length_map]; omega
  unfold trO at *
  rw [ea]
  generalize (cs.map fun q => ((lo, hi) :: q.1, q.2)).map eC = DS at *
  generalize cs.map eC = CC at *
  generalize s.map eC = SE at *
  have er : rowsD (SE.map rowO) = some SE := rd
  rw [List.map_append]
  generalize hS : SE.map rowO = SO at *
  simp [x1_cutT, e, ih, er, mt, z1, z2, hS]
end
end Bk
end
end

section
set_option Elab.async false
set_option linter.all false
set_option maxRecDepth 100000
set_option maxHeartbeats 4000000
set_option autoImplicit false
set_option backward.isDefEq.respectTransparency false
noncomputable section
namespace Bk
open L2 Bx
theorem cut_apartT_t : ∀ (k f : Nat) (rows : List Row), k ≤ 3 → k < f → (∀ r ∈ rows, r.2.length = k) → rows.length ≤ 20 → m_cutT f [.fr (.lst (rows.map eR)), .fr (.int k)] = .ok (.n ((cutA k rows).map eC)) [.no, .no]
  | k, 0, rows, _, h, _, _ => absurd h (Nat.not_lt_zero _)
  | 0, f + 1, rows, _, _, hr, hl => by
    have lc := lcF_map (turn := lcTurn [7, 8] (gTup [(gVar 7), (gVar 8)]) sYes (sVar 7)) (Γ := aG rows 0 .no .no .no .no .no) (f := eR) (g := fun r => D.int r.1) (l := rows) (acc := []) (fun r _ => by simp [lcTurn])
    have z : rows.length ≤ PySem.sizeLine := line1000 (by omega)
    have e : rows.map (fun r => D.int r.1) = (rows.map (·.1)).map D.int := by rw [List.map_map]; rfl
    rw [e, List.nil_append] at lc
    have g1 : s1_cutT (aG rows 0 .no .no .no .no .no) = .ok (some [eC ([], rows.map (·.1))]) (aG rows 0 .no .no .no .no .no) := by
      generalize rows.map (·.1) = q at *
      simp [s1_cutT, eqD, deq, lc, z]
    have g : b_cutT (m_cutT f) (aG rows 0 .no .no .no .no .no) = _ := seqT_rt g1
    show fnMT 2 11 (b_cutT (m_cutT f)) [.fr (.lst (rows.map eR)), .fr (.int 0)] = _
    simp [g, cutA]
  | k + 1, f + 1, rows, hk, hf, hr, hl => by
    obtain ⟨w, hw⟩ : ∃ w : Int, w = ((k + 1 : Nat) : Int) := ⟨_, rfl⟩
    have hw0 : w ≠ 0 := by omega
    have hwk : w - 1 = (k : Nat) := by push_cast at hw; omega
    have g1 : s1_cutT (aG rows w .no .no .no .no .no) = .ok none (aG rows w .no .no .no .no .no) := by
      simp [s1_cutT, eqD, deq, hw0]
    have g2 : sLiftT (sSetT sNilT 2) (aG rows w .no .no .no .no .no) = .ok none (aG rows w (trO []) .no .no .no .no) := by simp
    have lc := lcF_map (turn := lcTurn [7, 8] (gTup [(gVar 7), (gVar 8)]) sYes (sVar 8)) (Γ := aG rows w (trO []) .no .no .no .no) (f := eR) (g := fun r => eB r.2) (l := rows) (acc := []) (fun r _ => by simp [lcTurn])
    have z : rows.length ≤ PySem.sizeLine := line1000 (by omega)
    have e : rows.map (fun r => eB r.2) = (rows.map (·.2)).map eB := by rw [List.map_map]; rfl
    rw [e, List.nil_append] at lc
    have em := marks_of_t (bs := rows.map (·.2)) (i := 0) (by decide) (fun b hb => by
      obtain ⟨r, hm, rfl⟩ := List.mem_map.mp hb
      have := hr r hm
      omega) (by simp; omega)
    have g3 : (s2_cut_apart (m_cutT f)) (aG rows w (trO []) .no .no .no .no) = .ok .nx (aG rows w (trO []) (.fr (eI (mkL (rows.map (·.2)) 0))) .no .no .no) := by
      have em : m_marks_of [.fr (.lst ((rows.map (·.2)).map eB)), .fr (.int 0)] = .ok (.n ((mkL (rows.map (·.2)) 0).map D.int)) [.no, .no] := em
      have zl : (rows.map (·.2)).length = rows.length := by simp
      generalize mkL (rows.map (·.2)) 0 = ms at *
      generalize rows.map (·.2) = bs at *
      simp [s2_cut_apart, lc, z, zl, em]
    have hml : (mkL (rows.map (·.2)) 0).length ≤ 40 := by
      have := mk_len (rows.map (·.2)) 0
      rw [List.length_map] at this
      omega
    have hpow : 40 ^ k ≤ 1600 := by
      have : k = 0 ∨ k = 1 ∨ k = 2 := by omega
      rcases this with rfl | rfl | rfl <;> decide
    have hcl := cutA_len (k + 1) rows hl
    have hpow2 : 40 ^ (k + 1) ≤ 64000 := by
      have : k = 0 ∨ k = 1 ∨ k = 2 := by omega
      rcases this with rfl | rfl | rfl <;> decide
    have lp := forF_extB (body := turnF (gTup [(gVar 4), (gVar 5)]) (fgt [6, 4, 5] (w1_cutT (m_cutT f)))) (fun s => aG rows w (trO s) (.fr (eI (mkL (rows.map (·.2)) 0))) .no .no .no) eP (fun c => cutG k rows c) 100000 (l := pairsM (mkL (rows.map (·.2)) 0)) (s := []) (by
      intro c hc s hs
      obtain ⟨lo, hi⟩ := c
      have htl := there_len lo hi rows
      have a1 := ca2T (w := w) (lo := lo) (hi := hi) (m_cutT f) (fun r hm => by have := hr r hm; omega) hl (trO s) (.fr (eI (mkL (rows.map (·.2)) 0)))
      have ih := cut_apartT_t k f (thereR lo hi rows) (by omega) (by omega) (fun r hm => by
        unfold thereR at hm
        obtain ⟨q, hq, rfl⟩ := List.mem_map.mp hm
        have := hr q (List.mem_filter.mp hq).1
        rw [List.length_drop]
        omega) (by omega)
      rw [← hwk] at ih
      cases he : (thereR lo hi rows).isEmpty with
      | true =>
        have k1 : w1_cutT (m_cutT f) (aG rows w (trO s) (.fr (eI (mkL (rows.map (·.2)) 0))) (.fr (.int lo)) (.fr (.int hi)) .no) = _ := (seq_nx a1).trans (ca3 he _ _ _ _ _)
        have e0 : cutG k rows (lo, hi) = [] := by unfold cutG; rw [if_pos he]
        rw [e0, List.append_nil]
        unfold turnF
        simp [eP, k1]
      | false =>
        have hcut := cutA_len k (thereR lo hi rows) (by omega)
        have e0 : cutG k rows (lo, hi) = (cutA k (thereR lo hi rows)).map fun q => ((lo, hi) :: q.1, q.2) := by unfold cutG; rw [if_neg (by rw [he]; decide)]
        rw [e0, List.length_map] at hs
        have k1 : w1_cutT (m_cutT f) (aG rows w (trO s) (.fr (eI (mkL (rows.map (·.2)) 0))) (.fr (.int lo)) (.fr (.int hi)) .no) = _ := (seq_nx a1).trans (ca4T ih he (fun q hq => by rw [cutA_box k _ q hq]; omega) (by omega) (by omega) _)
        rw [e0]
        generalize ((cutA k (thereR lo hi rows)).map fun q => ((lo, hi) :: q.1, q.2)) = ds at *
        unfold turnF
        unfold trO at *
        generalize ((s ++ ds).map eC).map rowO = SD1 at *
        generalize (s.map eC).map rowO = SD2 at *
        simp [eP, k1]) (by
      rw [← cutA_succ]
      simp
      omega)
    rw [← cutA_succ, List.nil_append, ← pairs_zw] at lp
    generalize hcs : cutA (k + 1) rows = cs at *
    generalize hms : mkL (rows.map (·.2)) 0 = ms at *
    have z3 : ms.length ≤ PySem.sizeLine := line1000 (by omega)
    have e1 : cutD (ms.map D.int) (some 1) none = (ms.map D.int).tail := by rw [cut_from (by decide)]; exact List.drop_one
    have g4 : (s3_cutT (m_cutT f)) (aG rows w (trO []) (.fr (eI ms)) .no .no .no) = .ok .nx (aG rows w (trO cs) (.fr (eI ms)) .no .no .no) := by
      unfold trO at *
      generalize (cs.map eC).map rowO = SD1 at *
      generalize (([] : List (Box × List Int)).map eC).map rowO = SD2 at *
      simp [s3_cutT, e1, z3, lp]
    have g5 : sRetTV 2 (aG rows w (trO cs) (.fr (eI ms)) .no .no .no) = .ok (some (cs.map eC)) (aG rows w .no (.fr (eI ms)) .no .no .no) := by
      have rd := rowsD_eC cs
      unfold trO at *
      generalize (cs.map eC).map rowO = SD1 at *
      simp [rd]
    have g : b_cutT (m_cutT f) (aG rows w .no .no .no .no .no) = _ := (seqT_nx g1).trans ((seqT_nx g2).trans ((seqT_nx (lift_nx g3)).trans ((seqT_nx (lift_nx g4)).trans g5)))
    show fnMT 2 11 (b_cutT (m_cutT f)) [.fr (.lst (rows.map eR)), .fr (.int ((k + 1 : Nat) : Int))] = _
    rw [← hw]
    simp [g]
theorem cellsT_t {w : Int} {bs : List Box} (h : VH w bs) : m_cellsT [.fr (eH w bs)] = .ok (.n ((cellsL w bs).map eC)) [.no] := by
  have hw := ways_cases h.ways
  have h20 := h.le20
  have e1 := ne_eBs bs
  cases hb : bs.isEmpty with
  | true =>
    rw [hb] at e1
    simp [m_cellsT, b_cellsT, e1, cellsL, hb]
  | false =>
    rw [hb] at e1
    have e2 := cut_apartT_t w.toNat 8 (rowsE 0 bs) (by omega) (by omega) (fun r hr => by
      have := (h.box _ (rowsE_mem hr).1).1
      omega) (by rw [rowsE_len]; omega)
    rw [show ((w.toNat : Nat) : Int) = w by omega] at e2
    rw [← rowsE_enum] at e2
    have z : bs.length ≤ PySem.sizeLine := line1000 (by omega)
    have ec : cellsL w bs = cutA w.toNat (rowsE 0 bs) := by unfold cellsL; rw [hb]; rfl
    rw [ec]
    generalize cutA w.toNat (rowsE 0 bs) = cs at *
    simp [m_cellsT, b_cellsT, e1, enumF_len, z, e2]
theorem paperT_t {w : Int} {bs : List Box} (h : VH w bs) : m_paperT [.fr (eH w bs)] = .ok (.n ((cellsL w bs).map eC)) [.no] := by
  have e1 := need_heap_ok h
  have e2 := cellsT_t h
  generalize eH w bs = H at *
  generalize (cellsL w bs).map eC = CC at *
  simp [m_paperT, b_paperT, e1, e2]
end Bk
end
end

section
set_option Elab.async false
set_option linter.all false
set_option maxRecDepth 100000
set_option maxHeartbeats 8000000
set_option autoImplicit false
set_option backward.isDefEq.respectTransparency false
noncomputable section
namespace Bk
open PySem PySem.Spec PyProof.Rows L2 Bx
def b__law_well : SS :=
 (sSeq (sIf (sCmp (geD) (sVar 0) (sBin powD (sC (.int 10)) (sC (.int 18))))
 (sRet (sLst (sCons (sVar 0) (sCons (sBin modD (sVar 0) (sC (.int 2147483629))) sNil))))
 sSkip)
 (sRet (sLst (sCons (sC (.int 0)) (sCons (sBin modD (sVar 0) (sC (.int 2147483629))) sNil)))))
def m__law_well : Ev → FR := fnM 1 1 b__law_well
def s1__law_draw : SS :=
 (sAsg (sBin modD (sBin ixD (sVar 0) (sC (.int 0))) (sVar 1)) (gVar 2))
def s2__law_draw : SS :=
 (sAsg (sBin fdivD (sBin ixD (sVar 0) (sC (.int 0))) (sVar 1)) (gSto 0 (sC (.int 0))))
def s3__law_draw : SS :=
 (fgt [2] (sIf (sCmp (gtD) (sBin ixD (sVar 0) (sC (.int 0))) (sC (.int 0)))
 (sSeq s1__law_draw
 (sSeq s2__law_draw
 (sRet (sVar 2))))
 sSkip))
def s4__law_draw : SS :=
 (sAsg (sBin modD (sBin addD (sBin mulD (sBin ixD (sVar 0) (sC (.int 1))) (sC (.int 48271))) (sC (.int 11))) (sC (.int 2147483647))) (gVar 3))
def s5__law_draw : SS :=
 (sAsg (sBin modD (sBin mulD (sVar 3) (sVar 3)) (sC (.int 2147483587))) (gVar 3))
def s6__law_draw : SS :=
 (sAsg (sBin modD (sBin addD (sBin mulD (sVar 3) (sC (.int 69621))) (sC (.int 40692))) (sC (.int 2147483629))) (gSto 0 (sC (.int 1))))
def s7__law_draw : SS :=
 (sRet (sBin modD (sBin mulD (sBin fdivD (sBin ixD (sVar 0) (sC (.int 1))) (sC (.int 8))) (sBin ixD (sLst (sCons (sC (.int 1)) (sCons (sC (.int 8191)) sNil))) (sCB intC (sCons (sVal (sCmp (gtD) (sVar 1) (sBin powD (sC (.int 10)) (sC (.int 6))))) sNil)))) (sVar 1)))
def b__law_draw : SS :=
 (sSeq s3__law_draw
 (sSeq s4__law_draw
 (sSeq s5__law_draw
 (sSeq s6__law_draw
 s7__law_draw))))
def m__law_draw : Ev → FR := fnM 2 4 b__law_draw
def e1__law_marks : SE :=
 (sBin subD (sCall m__law_draw [0] (sCons (sVar 0) (sCons (sBin addD (sBin mulD (sC (.int 2)) (sBin powD (sC (.int 10)) (sC (.int 9)))) (sC (.int 1))) sNil))) (sBin powD (sC (.int 10)) (sC (.int 9))))
def s1__law_marks : SS :=
 (sAsg (sBin addD (sBin subD (sCall m__law_draw [0] (sCons (sVar 0) (sCons (sBin subD (sBin mulD (sC (.int 2)) (sBin powD (sC (.int 10)) (sC (.int 9)))) (sC (.int 20))) sNil))) (sBin powD (sC (.int 10)) (sC (.int 9)))) (sC (.int 10))) (gVar 2))
def s2__law_marks : SS :=
 (sAsg (sCall m__law_draw [0] (sCons (sVar 0) (sCons (sC (.int 5)) sNil))) (gVar 3))
def s3__law_marks : SS :=
 (sIf (sCmp (ltD) (sVar 3) (sC (.int 2)))
 (sRet (sBin ixD (sLst (sCons (sEsc (sLRg1 (sC (.int 7)))) (sCons (sEsc (sLRg2 (sUn negD (sC (.int 3))) (sC (.int 4)))) sNil))) (sVar 3)))
 sSkip)
def s4__law_marks : SS :=
 (sIf (sCmp (eqD) (sVar 3) (sC (.int 2)))
 (sRet (sLRg2 (sVar 2) (sBin addD (sVar 2) (sC (.int 6)))))
 sSkip)
def s5__law_marks : SS :=
 (sAsg (sEsc (sLc (iRng1 (sCons (sBin addD (sC (.int 2)) (sVar 1)) sNil)) [5] (gVar 5) sYes e1__law_marks)) (gVar 4))
def s6__law_marks : SS :=
 (sIf (sCmp (eqD) (sVar 3) (sC (.int 3)))
 (sAsg (sEsc (sBin addD (sVar 4) (sLst (sCons (sUn negD (sBin powD (sC (.int 10)) (sC (.int 9)))) (sCons (sBin powD (sC (.int 10)) (sC (.int 9))) sNil))))) (gVar 4))
 sSkip)
def s7__law_marks : SS :=
 (sRet (sSSet (sBin addD (sVar 4) (sLst (sCons (sVar 2) (sCons (sEsc (sBin addD (sVar 2) (sC (.int 1)))) sNil))))))
def b__law_marks : SS :=
 (sSeq s1__law_marks
 (sSeq s2__law_marks
 (sSeq s3__law_marks
 (sSeq s4__law_marks
 (sSeq s5__law_marks
 (sSeq s6__law_marks
 s7__law_marks))))))
def m__law_marks : Ev → FR := fnM 2 6 b__law_marks
def b__law_stretch : SS :=
 (sSeq (sAsg (sCall m__law_draw [0] (sCons (sVar 0) (sCons (sBin subD (sCB lenD (sCons (sVar 1) sNil)) (sC (.int 1))) sNil))) (gVar 2))
 (sRet (sTup (sCons (sBin ixD (sVar 1) (sVar 2)) (sCons (sBin ixD (sVar 1) (sBin addD (sBin addD (sVar 2) (sC (.int 1))) (sCall m__law_draw [0] (sCons (sVar 0) (sCons (sBin subD (sBin subD (sCB lenD (sCons (sVar 1) sNil)) (sC (.int 1))) (sVar 2)) sNil))))) sNil)))))
def m__law_stretch : Ev → FR := fnM 2 3 b__law_stretch
def e1__law_near : SE :=
 (sTup (sCons (sBin ixD (sVar 8) (sC (.int 1))) (sCons (sEsc (sBin addD (sBin ixD (sVar 8) (sC (.int 1))) (sC (.int 1)))) sNil)))
def s1__law_near : SS :=
 (sAsg (sCall m__law_draw [0] (sCons (sVar 0) (sCons (sC (.int 6)) sNil))) (gVar 3))
def s2__law_near : SS :=
 (sAsg (sCall m__law_draw [0] (sCons (sVar 0) (sCons (sCB lenD (sCons (sVar 1) sNil)) sNil))) (gVar 4))
def s3__law_near : SS :=
 (sAsg (sBin ixD (sVar 1) (sVar 4)) (gTup [(gVar 5), (gVar 6)]))
def s4__law_near : SS :=
 (sIf (sCmp (eqD) (sVar 3) (sC (.int 1)))
 (sRet (sBin addD (sBin addD (sSl (sVar 1) oNone (oSome (sVar 4))) (sTup (sCons (sTup (sCons (sVar 6) (sCons (sEsc (sBin addD (sBin addD (sVar 6) (sC (.int 1))) (sCall m__law_draw [0] (sCons (sVar 0) (sCons (sC (.int 3)) sNil))))) sNil))) sNil))) (sSl (sVar 1) (oSome (sBin addD (sVar 4) (sC (.int 1)))) oNone)))
 sSkip)
def s5__law_near : SS :=
 (fgt [7] (sIf (sCmp (eqD) (sVar 3) (sC (.int 2)))
 (sSeq (sAsg (sEsc (sBin addD (sVar 5) (sCall m__law_draw [0] (sCons (sVar 0) (sCons (sBin subD (sVar 6) (sVar 5)) sNil))))) (gVar 7))
 (sRet (sBin addD (sBin addD (sSl (sVar 1) oNone (oSome (sVar 4))) (sTup (sCons (sTup (sCons (sVar 7) (sCons (sVar 6) sNil))) sNil))) (sSl (sVar 1) (oSome (sBin addD (sVar 4) (sC (.int 1)))) oNone))))
 sSkip))
def s6__law_near : SS :=
 (sIf (sCmp (eqD) (sVar 3) (sC (.int 3)))
 (sRet (sBin addD (sBin addD (sSl (sVar 1) oNone (oSome (sVar 4))) (sTup (sCons (sCall m__law_stretch [0] (sCons (sVar 0) (sCons (sBin ixD (sVar 2) (sVar 4)) sNil))) sNil))) (sSl (sVar 1) (oSome (sBin addD (sVar 4) (sC (.int 1)))) oNone)))
 sSkip)
def s7__law_near : SS :=
 (sIf (sCmp (eqD) (sVar 3) (sC (.int 4)))
 (sRet (sBin addD (sBin addD (sSl (sVar 1) oNone (oSome (sVar 4))) (sTup (sCons (sTup (sCons (sBin subD (sBin subD (sVar 5) (sC (.int 1))) (sCall m__law_draw [0] (sCons (sVar 0) (sCons (sC (.int 3)) sNil)))) (sCons (sVar 5) sNil))) sNil))) (sSl (sVar 1) (oSome (sBin addD (sVar 4) (sC (.int 1)))) oNone)))
 sSkip)
def s8__law_near : SS :=
 (sIf (sCmp (eqD) (sVar 3) (sC (.int 5)))
 (sRet (sCB tupC (sCons (sLc (iAny (sVar 1)) [8] (gVar 8) sYes e1__law_near) sNil)))
 sSkip)
def b__law_near : SS :=
 (sSeq s1__law_near
 (sSeq s2__law_near
 (sSeq s3__law_near
 (sSeq s4__law_near
 (sSeq s5__law_near
 (sSeq s6__law_near
 (sSeq s7__law_near
 (sSeq s8__law_near
 (sRet (sVar 1))))))))))
def m__law_near : Ev → FR := fnM 3 9 b__law_near
def e1__law_heap : SE :=
 (sEsc (sCall m__law_marks [0] (sCons (sVar 0) (sCons (sVar 3) sNil))))
def e2__law_heap : SE :=
 (sCall m__law_stretch [0] (sCons (sVar 0) (sCons (sBin ixD (sVar 4) (sVar 9)) sNil)))
def e3__law_heap : SE :=
 (sCB maxD (sCons (sCB absD (sCons (sVar 10) sNil)) (sCons (sCB absD (sCons (sVar 11) sNil)) sNil)))
def s1__law_heap : SS :=
 (sAsg (sCB tupC (sCons (sLc (iRng1 (sCons (sVar 1) sNil)) [9] (gVar 9) sYes e2__law_heap) sNil)) (gVar 8))
def s2__law_heap : SS :=
 (sIf (sAnd (sCmp (neD) (sVar 5) (sLst sNil)) (sCmp (ltD) (sCall m__law_draw [0] (sCons (sVar 0) (sCons (sC (.int 3)) sNil))) (sVar 6)))
 (sAsg (sEsc (sCall m__law_near [0] (sCons (sVar 0) (sCons (sBin ixD (sVar 5) (sCall m__law_draw [0] (sCons (sVar 0) (sCons (sCB lenD (sCons (sVar 5) sNil)) sNil)))) (sCons (sVar 4) sNil))))) (gVar 8))
 sSkip)
def s3__law_heap : SS :=
 (sIf (sCmp (leD) (sCB maxL (sCons (sLc (iAny (sVar 8)) [10, 11] (gTup [(gVar 10), (gVar 11)]) sYes e3__law_heap) sNil)) (sBin powD (sC (.int 10)) (sC (.int 9))))
 (sDrop (sMeth 5 appD (sCons (sVar 8) sNil)))
 sSkip)
def w1__law_heap : SS :=
 (sSeq s1__law_heap
 (sSeq s2__law_heap
 s3__law_heap))
def s4__law_heap : SS :=
 (sAsg (sBin ixD (sLst (sCons (sCall m__law_draw [0] (sCons (sVar 0) (sCons (sBin addD (sCB minD (sCons (sVar 2) (sCons (sC (.int 4)) sNil))) (sC (.int 1))) sNil))) (sCons (sCall m__law_draw [0] (sCons (sVar 0) (sCons (sEsc (sBin addD (sVar 2) (sC (.int 1)))) sNil))) (sCons (sVar 2) sNil)))) (sCall m__law_draw [0] (sCons (sVar 0) (sCons (sC (.int 3)) sNil)))) (gVar 3))
def s5__law_heap : SS :=
 (sAsg (sEsc (sLc (iRng1 (sCons (sVar 1) sNil)) [9] (gVar 9) sYes e1__law_heap)) (gVar 4))
def s6__law_heap : SS :=
 (sAsg (sCall m__law_draw [0] (sCons (sVar 0) (sCons (sC (.int 3)) sNil))) (gVar 6))
def s7__law_heap : SS :=
 (fgt [7, 8] (sFor (iRng1 (sCons (sVar 3) sNil)) (gVar 7)
 (fgt [8, 7] w1__law_heap)))
def s8__law_heap : SS :=
 (sRet (sTupU (sCons (sEscU (sVar 1)) (sCons (sEscU (sVar 5)) sNil))))
def b__law_heap : SS :=
 (sSeq s4__law_heap
 (sSeq s5__law_heap
 (sSeq (sOwn (sLst sNil) 5)
 (sSeq s6__law_heap
 (sSeq s7__law_heap
 s8__law_heap)))))
def m__law_heap : Ev → FR := fnM 3 12 b__law_heap
def b__law_some_heap : SS :=
 (sSeq (sAsg (sBin addD (sC (.int 1)) (sCall m__law_draw [0] (sCons (sVar 0) (sCons (sC (.int 3)) sNil)))) (gVar 1))
 (sRet (sCall m__law_heap [0] (sCons (sVar 0) (sCons (sVar 1) (sCons (sBin ixD (sLst (sCons (sC (.int 0)) (sCons (sC (.int 20)) (sCons (sC (.int 10)) (sCons (sC (.int 6)) sNil))))) (sVar 1)) sNil))))))
def m__law_some_heap : Ev → FR := fnM 1 2 b__law_some_heap
def c1__law_same (m : Ev → FR) : SB :=
 (sNot (sTru (sCall m [] (sCons (sBin ixD (sVar 0) (sVar 2)) (sCons (sBin ixD (sVar 1) (sVar 2)) sNil)))))
def s1__law_same (m : Ev → FR) : SS :=
 (sIf (sOr (sCmp (neD) (sIsi "tuple" (sVar 0)) (sIsi "tuple" (sVar 1))) (sCmp (neD) (sIsi "list" (sVar 0)) (sIsi "list" (sVar 1))))
 (sRet (sC (.bl false)))
 sSkip)
def s2__law_same (m : Ev → FR) : SS :=
 (sIf (sCmp (neD) (sCB lenD (sCons (sVar 0) sNil)) (sCB lenD (sCons (sVar 1) sNil)))
 (sRet (sC (.bl false)))
 sSkip)
def s3__law_same (m : Ev → FR) : SS :=
 (sRet (sVal (sCmp (eqD) (sLc (iRng1 (sCons (sCB lenD (sCons (sVar 1) sNil)) sNil)) [2] (gVar 2) (c1__law_same m) (sVar 2)) (sLst sNil))))
def s4__law_same (m : Ev → FR) : SS :=
 (sIf (sTru (sIsiT ["tuple", "list"] (sVar 1)))
 (sSeq (s1__law_same m)
 (sSeq (s2__law_same m)
 (s3__law_same m)))
 sSkip)
def s5__law_same (m : Ev → FR) : SS :=
 (sIf (sOr (sCmp (isD) (sVar 1) (sC .non)) (sTru (sIsi "str" (sVar 1))))
 (sRet (sVal (sCmp (eqD) (sVar 0) (sVar 1))))
 sSkip)
def s6__law_same (m : Ev → FR) : SS :=
 (sRet (sAndV (sIsi "int" (sVar 0)) (sAndV (sNotV (sIsi "bool" (sVar 0))) (sVal (sCmp (eqD) (sVar 0) (sVar 1))))))
def b__law_same (m : Ev → FR) : SS :=
 (sSeq (s4__law_same m)
 (sSeq (s5__law_same m)
 (s6__law_same m)))
def m__law_same : Nat → Ev → FR
  | 0 => fun _ => .bad
  | n + 1 => fnM 2 3 (b__law_same (m__law_same n))
def e1__law_paper (m : Ev → FR) : SE :=
 (sBin ixD (sBin ixD (sVar 10) (sC (.int 0))) (sC (.int 0)))
def e2__law_paper (m : Ev → FR) : SE :=
 (sBin ixD (sBin ixD (sVar 10) (sC (.int 0))) (sC (.int 1)))
def c1__law_paper (m : Ev → FR) : SB :=
 (sChain (leD) (ltD) (sBin ixD (sBin ixD (sVar 10) (sC (.int 0))) (sC (.int 0))) (sVar 4) (sBin ixD (sBin ixD (sVar 10) (sC (.int 0))) (sC (.int 1))))
def e3__law_paper (m : Ev → FR) : SE :=
 (sTup (sCons (sVar 9) (sCons (sEsc (sSl (sVar 10) (oSome (sC (.int 1))) oNone)) sNil)))
def w1__law_paper (m : Ev → FR) : SS :=
 (sDrop (sMeth 3 appD (sCons (sTup (sCons (sEsc (sBin addD (sTup (sCons (sTup (sCons (sVar 4) (sCons (sVar 5) sNil))) sNil)) (sVar 7))) (sCons (sVar 8) sNil))) sNil)))
def w2__law_paper (m : Ev → FR) : SS :=
 (sSeq (sAsg (sEsc (sLc (iAny (sVar 0)) [9, 10] (gTup [(gVar 9), (gVar 10)]) (c1__law_paper m) (e3__law_paper m))) (gVar 6))
 (fgt [7, 8] (sFor (iAny (sEsc (sBin mulD (sCall m [] (sCons (sVar 6) (sCons (sBin subD (sVar 1) (sC (.int 1))) sNil))) (sCB intC (sCons (sVal (sCmp (neD) (sVar 6) (sLst sNil))) sNil))))) (gTup [(gVar 7), (gVar 8)])
 (fgt [7, 8] (w1__law_paper m)))))
def s1__law_paper (m : Ev → FR) : SS :=
 (sIf (sCmp (eqD) (sVar 1) (sC (.int 0)))
 (sRet (sLst (sCons (sTup (sCons (sTup sNil) (sCons (sEsc (sLc (iAny (sVar 0)) [9, 10] (gTup [(gVar 9), (gVar 10)]) sYes (sVar 9))) sNil))) sNil)))
 sSkip)
def s2__law_paper (m : Ev → FR) : SS :=
 (sAsg (sEsc (sSSet (sBin addD (sLc (iAny (sVar 0)) [9, 10] (gTup [(gVar 9), (gVar 10)]) sYes (e1__law_paper m)) (sLc (iAny (sVar 0)) [9, 10] (gTup [(gVar 9), (gVar 10)]) sYes (e2__law_paper m))))) (gVar 2))
def s3__law_paper (m : Ev → FR) : SS :=
 (fgt [4, 5, 6, 7, 8] (sFor (iZp (sCons (sVar 2) (sCons (sEsc (sSl (sVar 2) (oSome (sC (.int 1))) oNone)) sNil))) (gTup [(gVar 4), (gVar 5)])
 (fgt [6, 7, 8, 4, 5] (w2__law_paper m))))
def b__law_paper (m : Ev → FR) : SS :=
 (sSeq (s1__law_paper m)
 (sSeq (s2__law_paper m)
 (sSeq (sOwn (sLst sNil) 3)
 (sSeq (s3__law_paper m)
 (sRet (sVar 3))))))
def m__law_paper : Nat → Ev → FR
  | 0 => fun _ => .bad
  | n + 1 => fnM 2 11 (b__law_paper (m__law_paper n))
end Bk
end
end

section
set_option Elab.async false
set_option linter.all false
set_option maxRecDepth 100000
set_option maxHeartbeats 4000000
set_option autoImplicit false
set_option backward.isDefEq.respectTransparency false
noncomputable section
namespace Bk
open L2 Bx
mutual
/-- data that the law compares -/
def okS : D → Bool
  | .non => true
  | .int _ => true
  | .str z => eqOk (.str z)
  | .tup l => decide (l.length ≤ 1000) && okSs l
  | .lst l => decide (l.length ≤ 1000) && okSs l
  | .bl _ => false
  | .scr _ => false
  | .dct _ => false
  | .fn _ => false
  | .ex _ => false
  | .dtt _ => false
def okSs : List D → Bool
  | [] => true
  | d :: r => okS d && okSs r
end
theorem okSs_mem : ∀ {l : List D} {d : D}, okSs l = true → d ∈ l → okS d = true
  | e :: r, d, h, m => by
    rw [okSs, Bool.and_eq_true] at h
    rcases List.mem_cons.mp m with q | q
    · rw [q]; exact h.1
    · exact okSs_mem h.2 q
theorem same_seq {n : Nat} {l : List D} {d : D} (hd : d = .tup l ∨ d = .lst l) (hl : l.length ≤ 1000) (h : ∀ x ∈ l, m__law_same n [.fr x, .fr x] = .ok (.d (.bl true)) [.no, .no]) : m__law_same (n + 1) [.fr d, .fr d] = .ok (.d (.bl true)) [.no, .no] := by
  have lc : lcF (lcTurn [2] (gVar 2) (c1__law_same (m__law_same n)) (sVar 2)) (rgD 0 l.length) [] [.fr d, .fr d, .no] = .ok [] [.fr d, .fr d, .no] := by
    have := lcF_pure (turn := lcTurn [2] (gVar 2) (c1__law_same (m__law_same n)) (sVar 2)) (t := fun _ => none) (Γ := [.fr d, .fr d, .no]) (l := rgD 0 l.length) (acc := []) (by
      intro e he
      obtain ⟨i, rfl, h0, h1⟩ := rgD_mem he
      obtain ⟨x, e1, f1⟩ := atI_map (f := id) (l := l) (i := i) h0 (by omega)
      rw [List.map_id] at e1
      have k := h x (List.mem_of_getElem? f1)
      rcases hd with rfl | rfl <;> simp [lcTurn, c1__law_same, e1, k])
    rw [this]
    simp
  have c1 : inW (l.length : Int) = true := inW_of (by omega)
  have z : l.length ≤ PySem.sizeLine := line1000 hl
  rcases hd with rfl | rfl
  · simp [m__law_same, b__law_same, s4__law_same, s1__law_same, s2__law_same, s3__law_same, neD, eqD, rg_len, c1, z, lc]
  · simp [m__law_same, b__law_same, s4__law_same, s1__law_same, s2__law_same, s3__law_same, neD, eqD, rg_len, c1, z, lc]
theorem same_t : ∀ {n : Nat} {d : D}, okS d = true → dep d < n → m__law_same n [.fr d, .fr d] = .ok (.d (.bl true)) [.no, .no]
  | 0, d, _, h => absurd h (Nat.not_lt_zero _)
  | n + 1, d, h, k => by
    cases d with
    | tup l =>
      rw [okS, Bool.and_eq_true] at h
      exact same_seq (.inl rfl) (of_decide_eq_true h.1) fun x hx => same_t (okSs_mem h.2 hx) (by have := deps_mem hx; simp only [dep] at k; omega)
    | lst l =>
      rw [okS, Bool.and_eq_true] at h
      exact same_seq (.inr rfl) (of_decide_eq_true h.1) fun x hx => same_t (okSs_mem h.2 hx) (by have := deps_mem hx; simp only [dep] at k; omega)
    | non => simp [m__law_same, b__law_same, s4__law_same, s5__law_same, s6__law_same, eqD]
    | int i => simp [m__law_same, b__law_same, s4__law_same, s5__law_same, s6__law_same, eqD]
    | str i =>
      rw [okS] at h
      simp [m__law_same, b__law_same, s4__law_same, s5__law_same, s6__law_same, eqD, h]
    | _ => rw [okS] at h; cases h
@[simp] theorem same_int (i : Int) : m__law_same 8 [.fr (.int i), .fr (.int i)] = .ok (.d (.bl true)) [.no, .no] := same_t (by rw [okS]) (by simp)
theorem okSs_ints : ∀ l : List Int, okSs (l.map D.int) = true
  | [] => by rw [List.map_nil, okSs]
  | x :: r => by rw [List.map_cons, okSs, okS, okSs_ints r]; rfl
end Bk
end
end

section
set_option Elab.async false
set_option linter.all false
set_option maxRecDepth 100000
set_option maxHeartbeats 4000000
set_option autoImplicit false
set_option backward.isDefEq.respectTransparency false
noncomputable section
namespace Bk
open L2 Bx
abbrev eW (s : Int × Int) : List D := [.int s.1, .int s.2]
theorem draw_t (s : Int × Int) {many : Int} (h0 : 0 < many) (h1 : many < 1000000000000000000) : ∃ r s', m__law_draw [.ow (some 0) (eW s), .fr (.int many)] = .ok (.d (.int r)) [.ow (some 0) (eW s'), .no] ∧ 0 ≤ r ∧ r < many := by
  obtain ⟨a, b⟩ := s
  have hm : divOk many = true := divOk_of (by omega)
  have h8 : divOk 8 = true := divOk_of (by omega)
  by_cases ha : 0 < a
  · refine ⟨a % many, (a / many, b), ?_, Int.emod_nonneg _ (by omega), Int.emod_lt_of_pos _ h0⟩
    simp [m__law_draw, b__law_draw, s1__law_draw, s2__law_draw, s3__law_draw, s4__law_draw, s5__law_draw, s6__law_draw, s7__law_draw, ha, h0, hm, h8]
  · have e1 : mulOk b 48271 = true := mul_small (by omega)
    have st : ∀ x : Int, 0 ≤ x % 2147483647 ∧ x % 2147483647 < 2147483647 := fun x => ⟨Int.emod_nonneg _ (by decide), Int.emod_lt_of_pos _ (by decide)⟩
    have e2 : mulOk ((b * 48271 + 11) % 2147483647) ((b * 48271 + 11) % 2147483647) = true := mul_small (by have := st (b * 48271 + 11); omega)
    have e3 : ∀ x, mulOk x 69621 = true := fun x => mul_small (by omega)
    have e4 : ∀ x, mulOk x 8191 = true := fun x => mul_small (by omega)
    have e5 : ∀ x, mulOk x 1 = true := fun x => mul_small (by omega)
    by_cases hb : 1000000 < many
    · refine ⟨((b * 48271 + 11) % 2147483647 * ((b * 48271 + 11) % 2147483647) % 2147483587 * 69621 + 40692) % 2147483629 / 8 * 8191 % many, (a, ((b * 48271 + 11) % 2147483647 * ((b * 48271 + 11) % 2147483647) % 2147483587 * 69621 + 40692) % 2147483629), ?_, Int.emod_nonneg _ (by omega), Int.emod_lt_of_pos _ h0⟩
      simp [m__law_draw, b__law_draw, s1__law_draw, s2__law_draw, s3__law_draw, s4__law_draw, s5__law_draw, s6__law_draw, s7__law_draw, ha, h0, hm, h8, e1, e2, e3, e4, e5, hb]
    · refine ⟨((b * 48271 + 11) % 2147483647 * ((b * 48271 + 11) % 2147483647) % 2147483587 * 69621 + 40692) % 2147483629 / 8 * 1 % many, (a, ((b * 48271 + 11) % 2147483647 * ((b * 48271 + 11) % 2147483647) % 2147483587 * 69621 + 40692) % 2147483629), ?_, Int.emod_nonneg _ (by omega), Int.emod_lt_of_pos _ h0⟩
      simp [m__law_draw, b__law_draw, s1__law_draw, s2__law_draw, s3__law_draw, s4__law_draw, s5__law_draw, s6__law_draw, s7__law_draw, ha, h0, hm, h8, e1, e2, e3, e4, e5, hb]

theorem well_t (c : Int) : ∃ s, m__law_well [.fr (.int c)] = .ok (.n (eW s)) [.no] := by
  by_cases h : 1000000000000000000 ≤ c
  · exact ⟨(c, c % 2147483629), by simp [m__law_well, b__law_well, h]⟩
  · exact ⟨(0, c % 2147483629), by simp [m__law_well, b__law_well, h]⟩
structure Mk (ms : List Int) : Prop where
  up : ms.Pairwise (· < ·)
  two : 2 ≤ ms.length
  few : ms.length ≤ 100
theorem Mk.lt {ms : List Int} (h : Mk ms) {i j : Nat} {x y : Int} (hij : i < j) (hx : ms[i]? = some x) (hy : ms[j]? = some y) : x < y := by
  obtain ⟨h1, e1⟩ := List.getElem?_eq_some_iff.mp hx
  obtain ⟨h2, e2⟩ := List.getElem?_eq_some_iff.mp hy
  rw [← e1, ← e2]
  exact List.pairwise_iff_getElem.mp h.up i j h1 h2 hij
theorem stretch_t (s : Int × Int) {ms : List Int} (h : Mk ms) : ∃ p s', m__law_stretch [.ow (some 0) (eW s), .fr (eI ms)] = .ok (.d (eP p)) [.ow (some 0) (eW s'), .no] ∧ p.1 < p.2 := by
  have h2 := h.two
  have h3 := h.few
  obtain ⟨r, s1, e1, a1, b1⟩ := draw_t s (many := (ms.length : Int) - 1) (by omega) (by omega)
  obtain ⟨q, s2, e2, a2, b2⟩ := draw_t s1 (many := (ms.length : Int) - 1 - r) (by omega) (by omega)
  obtain ⟨x, e3, f3⟩ := atI_map (f := D.int) (l := ms) (i := r) a1 (by omega)
  obtain ⟨y, e4, f4⟩ := atI_map (f := D.int) (l := ms) (i := r + 1 + q) (by omega) (by omega)
  refine ⟨(x, y), s2, ?_, h.lt (by omega) f3 f4⟩
  simp [m__law_stretch, b__law_stretch, e1, e2, e3, e4, eP]
theorem rg_mk (lo : Int) {n : Nat} (h : 2 ≤ n) (h2 : n ≤ 100) : Mk (rgI lo n) where
  up := by
    unfold rgI
    rw [List.pairwise_map]
    exact List.pairwise_lt_range.imp fun h => by omega
  two := by unfold rgI; simpa using h
  few := by unfold rgI; simpa using h2
theorem dsrt_mk {l : List Int} {x y : Int} (hx : x ∈ l) (hy : y ∈ l) (hne : x ≠ y) (hl : l.length ≤ 100) : Mk (dsrt l) where
  up := dsrt_lt l
  two := by
    have h1 := dsrt_mem.mpr hx
    have h2 := dsrt_mem.mpr hy
    match h : dsrt l, h1, h2 with
    | [], h1, _ => simp at h1
    | [a], h1, h2 => simp at h1 h2; exact absurd (h1.trans h2.symm) hne
    | a :: b :: r, _, _ => simp
  few := Nat.le_trans (dsrt_len l) hl
theorem marks_some {s2 : Int × Int} {many : Int} {far way : Int} (h0 : 0 ≤ many) : ∃ zs s3, lcF (lcTurn [5] (gVar 5) sYes e1__law_marks) (rgD 0 (2 + many).toNat) [] [.ow (some 0) (eW s2), .fr (.int many), .fr (.int far), .fr (.int way), .no, .no] =
    .ok (List.map D.int zs) [.ow (some 0) (eW s3), .fr (.int many), .fr (.int far), .fr (.int way), .no, .no] ∧ (zs.length : Int) = 2 + many := by
  obtain ⟨ys, s3, e3, _, p3⟩ := lcF_st (turn := lcTurn [5] (gVar 5) sYes e1__law_marks)
    (fun s : Int × Int => [.ow (some 0) (eW s), .fr (.int many), .fr (.int far), .fr (.int way), .no, .no]) (fun _ => True) (fun _ y => ∃ i, y = D.int i) (l := rgD 0 (2 + many).toNat) (acc := []) (s := s2) trivial (by
      intro d _ s _
      obtain ⟨r, s', e, _⟩ := draw_t s (many := 2000000001) (by omega) (by omega)
      refine ⟨.int (r - 1000000000), s', ?_, trivial, _, rfl⟩
      simp [lcTurn, e1__law_marks, e, mul_small, mul_smallL])
  obtain ⟨zs, rfl, hz⟩ := all2_ints p3
  rw [rg_len] at hz
  exact ⟨zs, s3, by simpa using e3, by omega⟩
section
variable {s s1 s2 s3 : Int × Int} {many : Int} {far way : Int} {zs : List Int} {x y : SD}
theorem mk1 (e1 : m__law_draw [.ow (some 0) (eW s), .fr (.int 1999999980)] = .ok (.d (.int far)) [.ow (some 0) (eW s1), .no]) : s1__law_marks [.ow (some 0) (eW s), .fr (.int many), .no, .no, .no, .no] = .ok .nx [.ow (some 0) (eW s1), .fr (.int many), .fr (.int (far - 1000000000 + 10)), .no, .no, .no] := by
  simp [s1__law_marks, e1, mul_small, mul_smallL]
theorem mk2 (e2 : m__law_draw [.ow (some 0) (eW s1), .fr (.int 5)] = .ok (.d (.int way)) [.ow (some 0) (eW s2), .no]) : s2__law_marks [.ow (some 0) (eW s1), .fr (.int many), .fr (.int far), .no, .no, .no] = .ok .nx [.ow (some 0) (eW s2), .fr (.int many), .fr (.int far), .fr (.int way), .no, .no] := by
  simp [s2__law_marks, e2]
theorem mk3 : s3__law_marks [.ow (some 0) (eW s2), .fr (.int many), .fr (.int far), .fr (.int 0), .no, .no] = .ok (.rt (.d (.lst (rgD 0 7)))) [.ow (some 0) (eW s2), .fr (.int many), .fr (.int far), .fr (.int 0), .no, .no] := by
  have c0 : inW 7 = true := inW_of (by omega)
  have c1 : inW (-3) = true := inW_of (by omega)
  have c2 : inW 4 = true := inW_of (by omega)
  have c3 : 7 ≤ PySem.sizeLine := line1000 (by omega)
  simp [s3__law_marks, rg_len, c0, c1, c2, c3]
theorem mk3' : s3__law_marks [.ow (some 0) (eW s2), .fr (.int many), .fr (.int far), .fr (.int 1), .no, .no] = .ok (.rt (.d (.lst (rgD (-3) 7)))) [.ow (some 0) (eW s2), .fr (.int many), .fr (.int far), .fr (.int 1), .no, .no] := by
  have c0 : inW 7 = true := inW_of (by omega)
  have c1 : inW (-3) = true := inW_of (by omega)
  have c2 : inW 4 = true := inW_of (by omega)
  have c3 : 7 ≤ PySem.sizeLine := line1000 (by omega)
  simp [s3__law_marks, rg_len, c0, c1, c2, c3]
theorem mk4 (h : ¬ way < 2) : s3__law_marks [.ow (some 0) (eW s2), .fr (.int many), .fr (.int far), .fr (.int way), .no, .no] = .ok .nx [.ow (some 0) (eW s2), .fr (.int many), .fr (.int far), .fr (.int way), .no, .no] := by
  simp [s3__law_marks, h]
theorem mk5 (hf : -1000000000 ≤ far ∧ far ≤ 1000000000) : s4__law_marks [.ow (some 0) (eW s2), .fr (.int many), .fr (.int far), .fr (.int 2), .no, .no] = .ok (.rt (.n (rgD far 6))) [.ow (some 0) (eW s2), .fr (.int many), .fr (.int far), .fr (.int 2), .no, .no] := by
  have c1 : inW far = true := inW_of (by omega)
  have c2 : inW (far + 6) = true := inW_of (by omega)
  have c3 : 6 ≤ PySem.sizeLine := line1000 (by omega)
  have c5 : (far + 6 - far).toNat = 6 := by omega
  simp [s4__law_marks, rg_len, eqD, c1, c2, c3, c5]
theorem mk6 (h : way ≠ 2) : s4__law_marks [.ow (some 0) (eW s2), .fr (.int many), .fr (.int far), .fr (.int way), .no, .no] = .ok .nx [.ow (some 0) (eW s2), .fr (.int many), .fr (.int far), .fr (.int way), .no, .no] := by
  simp [s4__law_marks, eqD, h]
theorem mk7 (hm : 0 ≤ many ∧ many ≤ 20) (e3 : lcF (lcTurn [5] (gVar 5) sYes e1__law_marks) (rgD 0 (2 + many).toNat) [] [.ow (some 0) (eW s2), .fr (.int many), .fr (.int far), .fr (.int way), .no, .no] =
    .ok (List.map D.int zs) [.ow (some 0) (eW s3), .fr (.int many), .fr (.int far), .fr (.int way), .no, .no]) : s5__law_marks [.ow (some 0) (eW s2), .fr (.int many), .fr (.int far), .fr (.int way), .no, .no] = .ok .nx [.ow (some 0) (eW s3), .fr (.int many), .fr (.int far), .fr (.int way), .fr (eI zs), .no] := by
  have c1 : inW (2 + many) = true := inW_of (by omega)
  have c3 : (2 + many).toNat ≤ PySem.sizeLine := line1000 (by omega)
  simp [s5__law_marks, rg_len, c1, c3, e3]
theorem mk8 (h : zs.length ≤ 40) : s6__law_marks [.ow (some 0) (eW s3), .fr (.int many), .fr (.int far), .fr (.int 3), .fr (eI zs), .no] = .ok .nx [.ow (some 0) (eW s3), .fr (.int many), .fr (.int far), .fr (.int 3), .fr (eI (zs ++ [-1000000000, 1000000000])), .no] := by
  have c4 : zs.length + 2 ≤ PySem.sizeLine := line1000 (by omega)
  simp [s6__law_marks, eqD, c4]
theorem mk8' (h : way ≠ 3) : s6__law_marks [.ow (some 0) (eW s3), .fr (.int many), .fr (.int far), .fr (.int way), .fr (eI zs), .no] = .ok .nx [.ow (some 0) (eW s3), .fr (.int many), .fr (.int far), .fr (.int way), .fr (eI zs), .no] := by
  simp [s6__law_marks, eqD, h]
theorem mk9 (h : zs.length ≤ 50) : s7__law_marks [.ow (some 0) (eW s3), .fr (.int many), .fr (.int far), .fr (.int way), .fr (eI zs), .no] = .ok (.rt (.n ((dsrt (zs ++ [far, far + 1])).map D.int))) [.ow (some 0) (eW s3), .fr (.int many), .fr (.int far), .fr (.int way), .fr (eI zs), .no] := by
  have c4 : zs.length + 2 ≤ PySem.sizeLine := line1000 (by omega)
  have c6 : zs.length + 2 < 4000 := by omega
  have ii : intsD (zs.map D.int ++ [D.int far, D.int (far + 1)]) = some (zs ++ [far, far + 1]) := by
    have := intsD_map (zs ++ [far, far + 1])
    simpa using this
  simp [s7__law_marks, c4, c6, ii]
end
theorem dmk {zs : List Int} {x : Int} (h : zs.length ≤ 50) : Mk (dsrt (zs ++ [x, x + 1])) := dsrt_mk (x := x) (y := x + 1) (by simp) (by simp) (by omega) (by simp; omega)
theorem marks_t (s : Int × Int) {many : Int} (hm : 0 ≤ many ∧ many ≤ 20) : ∃ av ms s', m__law_marks [.ow (some 0) (eW s), .fr (.int many)] = .ok av [.ow (some 0) (eW s'), .no] ∧ isLst av (ms.map D.int) ∧ Mk ms := by
  obtain ⟨far, s1, e1, a1, b1⟩ := draw_t s (many := 1999999980) (by omega) (by omega)
  obtain ⟨way, s2, e2, a2, b2⟩ := draw_t s1 (many := 5) (by omega) (by omega)
  have go : ∀ {r : R Fl}, b__law_marks [.ow (some 0) (eW s), .fr (.int many), .no, .no, .no, .no] = r → m__law_marks [.ow (some 0) (eW s), .fr (.int many)] = fin 2 r := by
    intro r h
    rw [← h]
    simp [m__law_marks]
  by_cases h0 : way = 0
  · subst h0
    exact ⟨_, rgI 0 7, s2, go ((seq_nx (mk1 e1)).trans ((seq_nx (mk2 e2)).trans (seq_rt mk3))), .inr (by rw [rgD_ints]), rg_mk 0 (by decide) (by decide)⟩
  by_cases h1 : way = 1
  · subst h1
    exact ⟨_, rgI (-3) 7, s2, go ((seq_nx (mk1 e1)).trans ((seq_nx (mk2 e2)).trans (seq_rt mk3'))), .inr (by rw [rgD_ints]), rg_mk (-3) (by decide) (by decide)⟩
  have hw : ¬ way < 2 := by omega
  by_cases h2 : way = 2
  · subst h2
    exact ⟨_, rgI (far - 1000000000 + 10) 6, s2, go ((seq_nx (mk1 e1)).trans ((seq_nx (mk2 e2)).trans ((seq_nx (mk4 hw)).trans (seq_rt (mk5 (by omega)))))), .inl (by rw [rgD_ints]), rg_mk _ (by decide) (by decide)⟩
  obtain ⟨zs, s3, e3, hz⟩ := marks_some hm.1 (s2 := s2) (many := many) (far := far - 1000000000 + 10) (way := way)
  have st : ∀ {r : R Fl}, _ = r → _ := fun {r} h => go ((seq_nx (mk1 e1)).trans ((seq_nx (mk2 e2)).trans ((seq_nx (mk4 hw)).trans ((seq_nx (mk6 h2)).trans ((seq_nx (mk7 hm e3)).trans h)))))
  by_cases h3 : way = 3
  · subst h3
    exact ⟨_, _, s3, st ((seq_nx (mk8 (by omega))).trans (mk9 (by simp; omega))), .inl rfl, dmk (by simp; omega)⟩
  · exact ⟨_, _, s3, st ((seq_nx (mk8' h3)).trans (mk9 (by omega))), .inl rfl, dmk (by omega)⟩

end Bk
end
end

section
set_option Elab.async false
set_option linter.all false
set_option maxRecDepth 100000
set_option maxHeartbeats 4000000
set_option autoImplicit false
set_option backward.isDefEq.respectTransparency false
noncomputable section
namespace Bk
open L2 Bx
section
variable {s s1 s2 s3 : Int × Int} {b : Box} {mss : List (List Int)} {way at_ lo hi : Int} {x : SD}
abbrev nG (s : Int × Int) (b : Box) (mss : List (List Int)) (way at_ lo hi : Int) : Ev := [.ow (some 0) (eW s), .fr (eB b), .fr (.lst (mss.map eI)), .fr (.int way), .fr (.int at_), .fr (.int lo), .fr (.int hi), .no, .no]
end
theorem near_t (s : Int × Int) {b : Box} {mss : List (List Int)} (hb : okB b) (h1 : 1 ≤ b.length) (h3 : b.length ≤ 3) (hm : mss.length = b.length) (hM : ∀ ms ∈ mss, Mk ms) : ∃ b' s', m__law_near [.ow (some 0) (eW s), .fr (eB b), .fr (.lst (mss.map eI))] = .ok (.d (eB b')) [.ow (some 0) (eW s'), .no, .no] ∧ b'.length = b.length ∧ ∀ p ∈ b', p.1 < p.2 := by
  obtain ⟨way, s1, e1, a1, b1⟩ := draw_t s (many := 6) (by omega) (by omega)
  obtain ⟨at_, s2, e2, a2, b2⟩ := draw_t s1 (many := b.length) (by omega) (by omega)
  obtain ⟨p, e3, f3⟩ := atI_map (f := eP) (l := b) (i := at_) a2 b2
  obtain ⟨lo, hi⟩ := p
  have hp := hb.1 _ (List.mem_of_getElem? f3)
  have hn := hb.2 _ (List.mem_of_getElem? f3)
  have g1 : s1__law_near [.ow (some 0) (eW s), .fr (eB b), .fr (.lst (mss.map eI)), .no, .no, .no, .no, .no, .no] = .ok .nx [.ow (some 0) (eW s1), .fr (eB b), .fr (.lst (mss.map eI)), .fr (.int way), .no, .no, .no, .no, .no] := by
    simp [s1__law_near, e1]
  have g2 : s2__law_near [.ow (some 0) (eW s1), .fr (eB b), .fr (.lst (mss.map eI)), .fr (.int way), .no, .no, .no, .no, .no] = .ok .nx [.ow (some 0) (eW s2), .fr (eB b), .fr (.lst (mss.map eI)), .fr (.int way), .fr (.int at_), .no, .no, .no, .no] := by
    simp [s2__law_near, e2]
  have g3 : s3__law_near [.ow (some 0) (eW s2), .fr (eB b), .fr (.lst (mss.map eI)), .fr (.int way), .fr (.int at_), .no, .no, .no, .no] = .ok .nx (nG s2 b mss way at_ lo hi) := by
    simp [s3__law_near, e3, eP]
  have go : ∀ {r : R Fl}, sSeq s4__law_near (sSeq s5__law_near (sSeq s6__law_near (sSeq s7__law_near (sSeq s8__law_near (sRet (sVar 1)))))) (nG s2 b mss way at_ lo hi) = r → m__law_near [.ow (some 0) (eW s), .fr (eB b), .fr (.lst (mss.map eI))] = fin 3 r := by
    intro r h
    have q := (seq_nx g1).trans ((seq_nx g2).trans ((seq_nx g3).trans h))
    rw [← q]
    simp [m__law_near, b__law_near]
  have pl := fun {q : Int × Int} => put_len (b := b) (n := at_.toNat) (p := q) (by omega)
  have pa := fun {q : Int × Int} (h : q.1 < q.2) => put_all (b := b) (n := at_.toNat) h hb.1
  have h4 : 0 ≤ at_ + 1 := by omega
  have h5 : (at_ + 1).toNat = at_.toNat + 1 := by omega
  have z1 : min at_.toNat b.length + 1 ≤ PySem.sizeLine := line1000 (by omega)
  have z2 : min at_.toNat b.length + 1 + (b.length - (at_.toNat + 1)) ≤ PySem.sizeLine := line1000 (by omega)
  have skip : ∀ {s : Int × Int} {way : Int}, (way ≠ 1 → s4__law_near (nG s b mss way at_ lo hi) = .ok .nx (nG s b mss way at_ lo hi)) ∧ (way ≠ 2 → s5__law_near (nG s b mss way at_ lo hi) = .ok .nx (nG s b mss way at_ lo hi)) ∧
      (way ≠ 3 → s6__law_near (nG s b mss way at_ lo hi) = .ok .nx (nG s b mss way at_ lo hi)) ∧ (way ≠ 4 → s7__law_near (nG s b mss way at_ lo hi) = .ok .nx (nG s b mss way at_ lo hi)) ∧ (way ≠ 5 → s8__law_near (nG s b mss way at_ lo hi) = .ok .nx (nG s b mss way at_ lo hi)) := by
    intro s way
    exact ⟨fun h => by simp [s4__law_near, eqD, h], fun h => by simp [s5__law_near, eqD, h], fun h => by simp [s6__law_near, eqD, h], fun h => by simp [s7__law_near, eqD, h], fun h => by simp [s8__law_near, eqD, h]⟩
  by_cases w1 : way = 1
  · subst w1
    obtain ⟨r, s3, e4, a4, b4⟩ := draw_t s2 (many := 3) (by omega) (by omega)
    have g4 : s4__law_near (nG s2 b mss 1 at_ lo hi) = .ok (.rt (.d (eB (putB b at_.toNat (hi, hi + 1 + r))))) (nG s3 b mss 1 at_ lo hi) := by
      simp [s4__law_near, eqD, e4, eP, cut_to, cut_from, a2, h4, h5, z1, z2, putB]
    exact ⟨_, s3, go (seq_rt g4), pl, pa (by show hi < hi + 1 + r; omega)⟩
  have k1 : ∀ t : SS, sSeq s4__law_near t (nG s2 b mss way at_ lo hi) = t (nG s2 b mss way at_ lo hi) := fun t => seq_nx (skip.1 w1)
  by_cases w2 : way = 2
  · subst w2
    obtain ⟨r, s3, e4, a4, b4⟩ := draw_t s2 (many := hi - lo) (by simp at hp; omega) (by simp at hn; omega)
    have g5 : s5__law_near (nG s2 b mss 2 at_ lo hi) = .ok (.rt (.d (eB (putB b at_.toNat (lo + r, hi))))) [.ow (some 0) (eW s3), .fr (eB b), .fr (.lst (mss.map eI)), .fr (.int 2), .fr (.int at_), .fr (.int lo), .fr (.int hi), .fr (.int (lo + r)), .no] := by
      simp [s5__law_near, eqD, e4, eP, cut_to, cut_from, a2, h4, h5, z1, z2, putB]
    exact ⟨_, s3, go ((k1 _).trans (seq_rt g5)), pl, pa (by show lo + r < hi; omega)⟩
  have k2 : ∀ t : SS, sSeq s5__law_near t (nG s2 b mss way at_ lo hi) = t (nG s2 b mss way at_ lo hi) := fun t => seq_nx (skip.2.1 w2)
  by_cases w3 : way = 3
  · subst w3
    obtain ⟨ms, e5, f5⟩ := atI_map (f := eI) (l := mss) (i := at_) a2 (by omega)
    obtain ⟨q, s3, e4, a4⟩ := stretch_t s2 (hM _ (List.mem_of_getElem? f5))
    have g6 : s6__law_near (nG s2 b mss 3 at_ lo hi) = .ok (.rt (.d (eB (putB b at_.toNat q)))) (nG s3 b mss 3 at_ lo hi) := by
      simp [s6__law_near, eqD, e4, e5, cut_to, cut_from, a2, h4, h5, z1, z2, putB]
    exact ⟨_, s3, go ((k1 _).trans ((k2 _).trans (seq_rt g6))), pl, pa a4⟩
  have k3 : ∀ t : SS, sSeq s6__law_near t (nG s2 b mss way at_ lo hi) = t (nG s2 b mss way at_ lo hi) := fun t => seq_nx (skip.2.2.1 w3)
  by_cases w4 : way = 4
  · subst w4
    obtain ⟨r, s3, e4, a4, b4⟩ := draw_t s2 (many := 3) (by omega) (by omega)
    have g7 : s7__law_near (nG s2 b mss 4 at_ lo hi) = .ok (.rt (.d (eB (putB b at_.toNat (lo - 1 - r, lo))))) (nG s3 b mss 4 at_ lo hi) := by
      simp [s7__law_near, eqD, e4, eP, cut_to, cut_from, a2, h4, h5, z1, z2, putB]
    exact ⟨_, s3, go ((k1 _).trans ((k2 _).trans ((k3 _).trans (seq_rt g7)))), pl, pa (by show lo - 1 - r < lo; omega)⟩
  have k4 : ∀ t : SS, sSeq s7__law_near t (nG s2 b mss way at_ lo hi) = t (nG s2 b mss way at_ lo hi) := fun t => seq_nx (skip.2.2.2.1 w4)
  by_cases w5 : way = 5
  · subst w5
    have lc := lcF_map (turn := lcTurn [8] (gVar 8) sYes e1__law_near) (Γ := nG s2 b mss 5 at_ lo hi) (f := eP) (g := fun p => eP (p.2, p.2 + 1)) (l := b) (acc := []) (fun p _ => by simp [lcTurn, e1__law_near, eP])
    have z : b.length ≤ PySem.sizeLine := line1000 (by omega)
    have g8 : s8__law_near (nG s2 b mss 5 at_ lo hi) = .ok (.rt (.d (eB (b.map fun p => (p.2, p.2 + 1))))) (nG s2 b mss 5 at_ lo hi) := by
      simp [s8__law_near, eqD, lc, z]
    exact ⟨_, s2, go ((k1 _).trans ((k2 _).trans ((k3 _).trans ((k4 _).trans (seq_rt g8))))), by simp, fun q hq => by
      obtain ⟨x, _, rfl⟩ := List.mem_map.mp hq
      show x.2 < x.2 + 1
      omega⟩
  have k5 : ∀ t : SS, sSeq s8__law_near t (nG s2 b mss way at_ lo hi) = t (nG s2 b mss way at_ lo hi) := fun t => seq_nx (skip.2.2.2.2 w5)
  have k6 : (sRet (sVar 1)) (nG s2 b mss way at_ lo hi) = .ok (.rt (.d (eB b))) (nG s2 b mss way at_ lo hi) := by simp
  exact ⟨b, s2, go ((k1 _).trans ((k2 _).trans ((k3 _).trans ((k4 _).trans ((k5 _).trans k6))))), rfl, hb.1⟩

theorem all2_box {l ys : List D} (h : All2 (fun _ y => ∃ p : Int × Int, y = eP p ∧ p.1 < p.2) l ys) : ∃ b : Box, ys = b.map eP ∧ b.length = l.length ∧ ∀ p ∈ b, p.1 < p.2 := by
  induction h with
  | nil => exact ⟨[], rfl, rfl, fun _ h => nomatch h⟩
  | cons h t ih =>
    obtain ⟨p, rfl, hp⟩ := h
    obtain ⟨b, rfl, e, k⟩ := ih
    exact ⟨p :: b, rfl, by simp [e], fun q hq => by rcases List.mem_cons.mp hq with z | z; exact z ▸ hp; exact k q z⟩
theorem all2_mks {l ys : List D} (h : All2 (fun _ y => ∃ ms, y = eI ms ∧ Mk ms) l ys) : ∃ mss : List (List Int), ys = mss.map eI ∧ mss.length = l.length ∧ ∀ ms ∈ mss, Mk ms := by
  induction h with
  | nil => exact ⟨[], rfl, rfl, fun _ h => nomatch h⟩
  | cons h t ih =>
    obtain ⟨p, rfl, hp⟩ := h
    obtain ⟨b, rfl, e, k⟩ := ih
    exact ⟨p :: b, rfl, by simp [e], fun q hq => by rcases List.mem_cons.mp hq with z | z; exact z ▸ hp; exact k q z⟩
section
variable {s s1 s2 : Int × Int} {w most many alike k : Int} {mss : List (List Int)} {bs : List Box} {b : Box}
abbrev hG (s : Int × Int) (w most many : Int) (mss : List (List Int)) (bs : List Box) (alike : Int) (x7 x8 : SD) : Ev := [.ow (some 0) (eW s), .fr (.int w), .fr (.int most), .fr (.int many), .fr (.lst (mss.map eI)), .ow none (bs.map eB), .fr (.int alike), x7, x8, .no, .no, .no]
theorem hp1 (hw : 1 ≤ w ∧ w ≤ 3) (hm : (mss.length : Int) = w) (hM : ∀ ms ∈ mss, Mk ms) (x7 : SD) : ∃ b s1, s1__law_heap (hG s w most many mss bs alike x7 .no) = .ok .nx (hG s1 w most many mss bs alike x7 (.fr (eB b))) ∧ (b.length : Int) = w ∧ ∀ p ∈ b, p.1 < p.2 := by
  obtain ⟨ys, s3, e3, _, p3⟩ := lcF_st (turn := lcTurn [9] (gVar 9) sYes e2__law_heap) (fun s : Int × Int => hG s w most many mss bs alike x7 .no) (fun _ => True) (fun _ y => ∃ p : Int × Int, y = eP p ∧ p.1 < p.2) (l := rgD 0 w.toNat) (acc := []) (s := s) trivial (by
    intro d hd s _
    obtain ⟨i, rfl, h1, h2⟩ := rgD_mem hd
    obtain ⟨ms, e5, f5⟩ := atI_map (f := eI) (l := mss) (i := i) h1 (by omega)
    obtain ⟨q, s', e4, a4⟩ := stretch_t s (hM _ (List.mem_of_getElem? f5))
    refine ⟨eP q, s', ?_, trivial, q, rfl, a4⟩
    simp [lcTurn, e2__law_heap, e4, e5])
  obtain ⟨b, rfl, hl, hb⟩ := all2_box p3
  rw [rg_len] at hl
  refine ⟨b, s3, ?_, by omega, hb⟩
  have c1 : inW w = true := inW_of (by omega)
  have c3 : w.toNat ≤ PySem.sizeLine := line1000 (by omega)
  simp only [List.nil_append] at e3
  simp [s1__law_heap, rg_len, c1, c3, e3]
theorem hp2 (hw : 1 ≤ w ∧ w ≤ 3) (hm : (mss.length : Int) = w) (hM : ∀ ms ∈ mss, Mk ms) (hbs : ∀ b ∈ bs, boxOk w b) (hl : bs.length ≤ 1000) (hb : (b.length : Int) = w ∧ ∀ p ∈ b, p.1 < p.2) (x7 : SD) : ∃ b' s1, s2__law_heap (hG s w most many mss bs alike x7 (.fr (eB b))) = .ok .nx (hG s1 w most many mss bs alike x7 (.fr (eB b'))) ∧ (b'.length : Int) = w ∧ ∀ p ∈ b', p.1 < p.2 := by
  cases bs with
  | nil => exact ⟨b, s, by simp [s2__law_heap, neD], hb⟩
  | cons c r =>
    obtain ⟨a, s2, e1, _⟩ := draw_t s (many := 3) (by omega) (by omega)
    have eo : eqOk (.lst (eB c :: r.map eB)) = true := eqOk_eBs (c :: r)
    by_cases h : a < alike
    · obtain ⟨j, s3, e2, a2, b2⟩ := draw_t s2 (many := ((c :: r).length : Nat)) (by simp) (by omega)
      obtain ⟨o, e3, f3⟩ := atI_map (f := eB) (l := c :: r) (i := j) a2 b2
      have ok := hbs o (List.mem_of_getElem? f3)
      obtain ⟨b', s4, e4, h4, k4⟩ := near_t s3 (b := o) (mss := mss) ok.2 (by have := ok.1; omega) (by have := ok.1; omega) (by have := ok.1; omega) hM
      refine ⟨b', s4, ?_, by have := ok.1; omega, k4⟩
      simp at e2 e3
      simp [s2__law_heap, neD, eo, e1, h, e2, e3, e4]
    · exact ⟨b, s2, by simp [s2__law_heap, neD, eo, e1, h], hb⟩
theorem hp3 (hw : 1 ≤ w ∧ w ≤ 3) (hl : bs.length ≤ 1000) (hbs : ∀ b ∈ bs, boxOk w b) (hb : (b.length : Int) = w ∧ ∀ p ∈ b, p.1 < p.2) (x7 : SD) : ∃ bs', s3__law_heap (hG s w most many mss bs alike x7 (.fr (eB b))) = .ok .nx (hG s w most many mss bs' alike x7 (.fr (eB b))) ∧ bs'.length ≤ bs.length + 1 ∧ ∀ b ∈ bs', boxOk w b := by
  have lc := lcF_map (turn := lcTurn [10, 11] (gTup [gVar 10, gVar 11]) sYes e3__law_heap) (Γ := hG s w most many mss bs alike x7 (.fr (eB b))) (f := eP) (g := fun p => .int (max (absI p.1) (absI p.2))) (l := b) (acc := []) (fun p _ => by
    simp [lcTurn, e3__law_heap, eP, absI])
  have ii : intsD (b.map fun p => D.int (max (absI p.1) (absI p.2))) = some (b.map fun p => max (absI p.1) (absI p.2)) := by
    have := intsD_map (b.map fun p => max (absI p.1) (absI p.2))
    rw [List.map_map] at this
    exact this
  have z : b.length ≤ PySem.sizeLine := line1000 (by omega)
  have z2 : bs.length < PySem.sizeLine := by rw [PySem.sizeLine_eq]; omega
  cases hm : b.map (fun p => max (absI p.1) (absI p.2)) with
  | nil =>
    have := congrArg List.length hm
    simp at this
    have := hb.1
    rw [‹b = []›] at this
    simp at this
    omega
  | cons x r =>
    rw [hm] at ii
    by_cases h : r.foldl max x ≤ 1000000000
    · refine ⟨bs ++ [b], ?_, by simp, fun c hc => ?_⟩
      · simp [s3__law_heap, lc, ii, h, z, z2]
      · rcases List.mem_append.mp hc with q | q
        · exact hbs c q
        · rw [List.mem_singleton.mp q]
          exact ⟨hb.1, hb.2, max_near hm h⟩
    · exact ⟨bs, by simp [s3__law_heap, lc, ii, h, z], by omega, hbs⟩
end
theorem heap_t (s : Int × Int) {w : Int} (hw : isWays (.int w) = true) : ∃ bs s', m__law_heap [.ow (some 0) (eW s), .fr (.int w), .fr (.int (most w))] = .ok (.u (eH w bs)) [.ow (some 0) (eW s'), .no, .no] ∧ bs.length ≤ most w ∧ ∀ b ∈ bs, boxOk w b := by
  have hw3 : 1 ≤ w ∧ w ≤ 3 := by have := ways_cases hw; omega
  have hM : (6 : Int) ≤ most w ∧ (most w : Int) ≤ 20 := by unfold most; split <;> (try split) <;> omega
  obtain ⟨M, eM⟩ : ∃ M : Int, M = (most w : Int) := ⟨_, rfl⟩
  rw [← eM] at hM ⊢
  obtain ⟨r1, s1, e1, a1, b1⟩ := draw_t s (many := min M 4 + 1) (by omega) (by omega)
  obtain ⟨r2, s2, e2, a2, b2⟩ := draw_t s1 (many := M + 1) (by omega) (by omega)
  obtain ⟨r3, s3, e3, a3, b3⟩ := draw_t s2 (many := 3) (by omega) (by omega)
  obtain ⟨many, g1, hm⟩ : ∃ many : Int, s4__law_heap [.ow (some 0) (eW s), .fr (.int w), .fr (.int M), .no, .no, .no, .no, .no, .no, .no, .no, .no] = .ok .nx [.ow (some 0) (eW s3), .fr (.int w), .fr (.int M), .fr (.int many), .no, .no, .no, .no, .no, .no, .no, .no] ∧ 0 ≤ many ∧ many ≤ M := by
    have : r3 = 0 ∨ r3 = 1 ∨ r3 = 2 := by omega
    rcases this with rfl | rfl | rfl
    · exact ⟨r1, by simp [s4__law_heap, e1, e2, e3], a1, by omega⟩
    · exact ⟨r2, by simp [s4__law_heap, e1, e2, e3], a2, by omega⟩
    · exact ⟨M, by simp [s4__law_heap, e1, e2, e3], by omega, by omega⟩
  obtain ⟨ys, s4, e4, _, p4⟩ := lcF_st (turn := lcTurn [9] (gVar 9) sYes e1__law_heap) (fun s : Int × Int => [.ow (some 0) (eW s), .fr (.int w), .fr (.int M), .fr (.int many), .no, .no, .no, .no, .no, .no, .no, .no]) (fun _ => True) (fun _ y => ∃ ms, y = eI ms ∧ Mk ms) (l := rgD 0 w.toNat) (acc := []) (s := s3) trivial (by
    intro d hd s _
    obtain ⟨i, rfl, h1, h2⟩ := rgD_mem hd
    obtain ⟨av, ms, s', e, hav, hms⟩ := marks_t s (many := many) (by omega)
    refine ⟨eI ms, s', ?_, trivial, ms, rfl, hms⟩
    rcases hav with rfl | rfl <;> simp [lcTurn, e1__law_heap, e])
  obtain ⟨mss, rfl, hml, hMk⟩ := all2_mks p4
  rw [rg_len] at hml
  simp only [List.nil_append] at e4
  have c1 : inW w = true := inW_of (by omega)
  have c3 : w.toNat ≤ PySem.sizeLine := line1000 (by omega)
  have g2 : s5__law_heap [.ow (some 0) (eW s3), .fr (.int w), .fr (.int M), .fr (.int many), .no, .no, .no, .no, .no, .no, .no, .no] = .ok .nx [.ow (some 0) (eW s4), .fr (.int w), .fr (.int M), .fr (.int many), .fr (.lst (mss.map eI)), .no, .no, .no, .no, .no, .no, .no] := by
    simp [s5__law_heap, rg_len, c1, c3, e4]
  obtain ⟨alike, s5, e5, _⟩ := draw_t s4 (many := 3) (by omega) (by omega)
  have g3 : (sOwn (sLst sNil) 5) [.ow (some 0) (eW s4), .fr (.int w), .fr (.int M), .fr (.int many), .fr (.lst (mss.map eI)), .no, .no, .no, .no, .no, .no, .no] = .ok .nx [.ow (some 0) (eW s4), .fr (.int w), .fr (.int M), .fr (.int many), .fr (.lst (mss.map eI)), .ow none [], .no, .no, .no, .no, .no, .no] := by
    simp
  have g4 : s6__law_heap [.ow (some 0) (eW s4), .fr (.int w), .fr (.int M), .fr (.int many), .fr (.lst (mss.map eI)), .ow none [], .no, .no, .no, .no, .no, .no] = .ok .nx (hG s5 w M many mss [] alike .no .no) := by
    simp [s6__law_heap, e5]
  obtain ⟨Γ', lp, s6, bs, rfl, hbl, hbs⟩ := forF_inv (body := turnF (gVar 7) (fgt [8, 7] w1__law_heap)) (fun pre Γ => ∃ s bs, Γ = hG s w M many mss bs alike .no .no ∧ bs.length ≤ pre.length ∧ ∀ b ∈ bs, boxOk w b) (l := rgD 0 many.toNat) (pre := []) (Γ := hG s5 w M many mss [] alike .no .no) ⟨s5, [], rfl, Nat.le_refl _, fun _ h => nomatch h⟩ (by
    rintro p d q hp Γ ⟨s, bs, rfl, hl, hbs⟩
    have hpl : p.length ≤ 20 := by
      have := congrArg List.length hp
      rw [rg_len] at this
      simp at this
      omega
    have hd : d ∈ rgD 0 many.toNat := by rw [← hp]; simp
    obtain ⟨i, rfl, _, _⟩ := rgD_mem hd
    rw [List.nil_append] at hl
    obtain ⟨b1, t1, k1, h1⟩ := hp1 (s := s) (most := M) (many := many) (bs := bs) (alike := alike) hw3 (by omega) hMk (.fr (.int i))
    obtain ⟨b2, t2, k2, h2⟩ := hp2 (s := t1) (most := M) (many := many) (alike := alike) hw3 (by omega) hMk hbs (by omega) h1 (.fr (.int i))
    obtain ⟨bs', k3, h3, h4⟩ := hp3 (s := t2) (most := M) (many := many) (mss := mss) (alike := alike) hw3 (by omega) hbs h2 (.fr (.int i))
    refine ⟨hG t2 w M many mss bs' alike .no .no, .inl ?_, t2, bs', rfl, by simp; omega, h4⟩
    have k := (seq_nx k1).trans ((seq_nx k2).trans k3)
    have k : w1__law_heap (hG s w M many mss bs alike (.fr (.int i)) .no) = _ := k
    unfold turnF
    simp [k])
  have d1 : inW many = true := inW_of (by omega)
  have g5 : s7__law_heap (hG s5 w M many mss [] alike .no .no) = .ok .nx (hG s6 w M many mss bs alike .no .no) := by
    have lp2 : forF (turnF (gVar 7) (fgt [8, 7] w1__law_heap)) (rgD 0 many.toNat) [.ow (some 0) (eW s5), .fr (.int w), .fr (.int M), .fr (.int many), .fr (.lst (mss.map eI)), .ow none [], .fr (.int alike), .no, .no, .no, .no, .no] = _ := lp
    simp [s7__law_heap, d1, lp2]
  have g6 : s8__law_heap (hG s6 w M many mss bs alike .no .no) = .ok (.rt (.u (eH w bs))) [.ow (some 0) (eW s6), .fr (.int w), .fr (.int M), .fr (.int many), .fr (.lst (mss.map eI)), .fu (.lst (bs.map eB)), .fr (.int alike), .no, .no, .no, .no, .no] := by
    simp [s8__law_heap]
  have g := (seq_nx g1).trans ((seq_nx g2).trans ((seq_nx g3).trans ((seq_nx g4).trans ((seq_nx g5).trans g6))))
  have g : b__law_heap _ = _ := g
  refine ⟨bs, s6, ?_, ?_, hbs⟩
  · simp [m__law_heap, g]
  · rw [List.nil_append, rg_len] at hbl
    omega
theorem some_heap_t (s : Int × Int) : ∃ w bs s', m__law_some_heap [.ow (some 0) (eW s)] = .ok (.u (eH w bs)) [.ow (some 0) (eW s')] ∧ isWays (.int w) = true ∧ bs.length ≤ most w ∧ ∀ b ∈ bs, boxOk w b := by
  obtain ⟨r, s1, e1, a1, b1⟩ := draw_t s (many := 3) (by omega) (by omega)
  have hw : isWays (.int (1 + r)) = true := by simp [isWays]; omega
  obtain ⟨bs, s2, e2, h2, h3⟩ := heap_t s1 hw
  have : r = 0 ∨ r = 1 ∨ r = 2 := by omega
  refine ⟨1 + r, bs, s2, ?_, hw, h2, h3⟩
  rcases this with rfl | rfl | rfl
  · simp [most] at e2
    simp [m__law_some_heap, b__law_some_heap, e1, e2]
  · simp [most] at e2
    simp [m__law_some_heap, b__law_some_heap, e1, e2]
  · simp [most] at e2
    simp [m__law_some_heap, b__law_some_heap, e1, e2]

end Bk
end
end

section

section
set_option Elab.async false
set_option linter.all false
set_option maxRecDepth 100000
set_option maxHeartbeats 4000000
set_option autoImplicit false
set_option backward.isDefEq.respectTransparency false
noncomputable section
namespace Bk
open L2 Bx
structure Runs (p : Int → Bool) (l : Box) : Prop where
  up : ∀ s ∈ l, s.1 < s.2
  gap : l.Pairwise fun a b => a.2 < b.1
  mem : ∀ x, p x = true ↔ ∃ s ∈ l, s.1 ≤ x ∧ x < s.2
theorem Runs.tail {p : Int → Bool} {s : Int × Int} {l : Box} (h : Runs p (s :: l)) : Runs (fun x => p x && decide (s.2 ≤ x)) l where
  up := fun t ht => h.up t (List.mem_cons_of_mem _ ht)
  gap := (List.pairwise_cons.mp h.gap).2
  mem := fun x => by
    rw [Bool.and_eq_true, decide_eq_true_eq, h.mem]
    constructor
    · rintro ⟨⟨t, ht, h1⟩, h2⟩
      rcases List.mem_cons.mp ht with e | e
      · rw [e] at h1; omega
      · exact ⟨t, e, h1⟩
    · rintro ⟨t, ht, h1⟩
      have := (List.pairwise_cons.mp h.gap).1 t ht
      exact ⟨⟨t, List.mem_cons_of_mem _ ht, h1⟩, by omega⟩
theorem Runs.congr {p q : Int → Bool} {l : Box} (h : Runs p l) (e : ∀ x, p x = q x) : Runs q l := ⟨h.up, h.gap, fun x => by rw [← e]; exact h.mem x⟩
theorem Runs.end_ {p : Int → Bool} {l : Box} (h : Runs p l) {s : Int × Int} (hs : s ∈ l) : p s.2 = false := by
  cases e : p s.2 with
  | false => rfl
  | true =>
    obtain ⟨t, ht, h1, h2⟩ := (h.mem _).mp e
    obtain ⟨i, hi, ei⟩ := List.mem_iff_getElem.mp hs
    obtain ⟨j, hj, ej⟩ := List.mem_iff_getElem.mp ht
    have us := h.up s hs
    rcases Nat.lt_trichotomy i j with k | k | k
    · have := List.pairwise_iff_getElem.mp h.gap i j hi hj k
      rw [ei, ej] at this
      omega
    · subst k
      rw [ei] at ej
      subst ej
      omega
    · have := List.pairwise_iff_getElem.mp h.gap j i hj hi k
      rw [ei, ej] at this
      omega
end Bk
end
end
section
set_option Elab.async false
set_option linter.all false
set_option maxRecDepth 100000
set_option maxHeartbeats 4000000
set_option autoImplicit false
set_option backward.isDefEq.respectTransparency false
noncomputable section
namespace Bk
open L2 Bx
abbrev Rw := Int × Int × List Box
theorem lineM {n : Nat} (h : n ≤ 16000000) : n ≤ PySem.sizeLine := by rw [PySem.sizeLine_eq]; omega
end Bk
end
end
section
set_option Elab.async false
set_option linter.all false
set_option maxRecDepth 100000
set_option maxHeartbeats 4000000
set_option autoImplicit false
set_option backward.isDefEq.respectTransparency false
noncomputable section
namespace Bk
open L2 Bx
theorem pairs_first : ∀ {m : List Int}, m.Pairwise (· < ·) → (pairsM m).Pairwise fun c d => c.1 < d.1
  | [], _ => List.Pairwise.nil
  | [a], _ => List.Pairwise.nil
  | a :: b :: r, h => by
    have e : pairsM (a :: b :: r) = (a, b) :: pairsM (b :: r) := rfl
    rw [e]
    obtain ⟨h1, h2⟩ := List.pairwise_cons.mp h
    exact List.pairwise_cons.mpr ⟨fun c hc => h1 c.1 (List.of_mem_zip hc).1, pairs_first h2⟩
theorem toks_cons (p : Int × Int) (b : Box) : PySem.W.keyToks (py (eB (p :: b))) = [.inl 1, .inl 1, .inl p.1, .inl 1, .inl p.2, .inl 0] ++ PySem.W.keyToks (py (eB b)) := by
  have e : py (eB (p :: b)) = .tuple (.tuple [.int p.1, .int p.2] :: pys (b.map eP)) := rfl
  have e2 : py (eB b) = .tuple (pys (b.map eP)) := rfl
  rw [e, e2]
  simp [PySem.W.keyToks, PySem.W.keyToksAll]
theorem alike_pairs : ∀ b c : Box, PySem.W.alikeAll (pys (b.map eP)) (pys (c.map eP)) = true
  | [], _ => by simp [PySem.W.alikeAll]
  | _ :: _, [] => by simp [PySem.W.alikeAll]
  | p :: b, q :: c => by
    have e1 : pys ((p :: b).map eP) = .tuple [.int p.1, .int p.2] :: pys (b.map eP) := rfl
    have e2 : pys ((q :: c).map eP) = .tuple [.int q.1, .int q.2] :: pys (c.map eP) := rfl
    rw [e1, e2]
    simp [PySem.W.alikeAll, PySem.W.alike, alike_pairs b c]
theorem same_seqL {n : Nat} {l : List D} (hl : l.length ≤ 1000000) (h : ∀ x ∈ l, m__law_same n [.fr x, .fr x] = .ok (.d (.bl true)) [.no, .no]) : m__law_same (n + 1) [.fr (.lst l), .fr (.lst l)] = .ok (.d (.bl true)) [.no, .no] := by
  have lc : lcF (lcTurn [2] (gVar 2) (c1__law_same (m__law_same n)) (sVar 2)) (rgD 0 l.length) [] [.fr (.lst l), .fr (.lst l), .no] = .ok [] [.fr (.lst l), .fr (.lst l), .no] := by
    have := lcF_pure (turn := lcTurn [2] (gVar 2) (c1__law_same (m__law_same n)) (sVar 2)) (t := fun _ => none) (Γ := [.fr (.lst l), .fr (.lst l), .no]) (l := rgD 0 l.length) (acc := []) (by
      intro e he
      obtain ⟨i, rfl, h0, h1⟩ := rgD_mem he
      obtain ⟨x, e1, f1⟩ := atI_map (f := id) (l := l) (i := i) h0 (by omega)
      rw [List.map_id] at e1
      have k := h x (List.mem_of_getElem? f1)
      simp [lcTurn, c1__law_same, e1, k])
    rw [this]
    simp
  have c1 : inW (l.length : Int) = true := inW_of (by omega)
  have z : l.length ≤ PySem.sizeLine := lineM (by omega)
  simp [m__law_same, b__law_same, s4__law_same, s1__law_same, s2__law_same, s3__law_same, neD, eqD, rg_len, c1, z, lc]
theorem okS_pairs : ∀ b : Box, okSs (b.map eP) = true
  | [] => by rw [List.map_nil, okSs]
  | p :: b => by
    have e : eP p = .tup [.int p.1, .int p.2] := rfl
    rw [List.map_cons, okSs, e, okS, okSs, okSs, okSs, okS, okS, okS_pairs b]
    rfl
end Bk
end
end
section
set_option Elab.async false
set_option linter.all false
set_option maxRecDepth 100000
set_option maxHeartbeats 4000000
set_option autoImplicit false
set_option backward.isDefEq.respectTransparency false
noncomputable section
namespace Bk
open L2 Bx
def isR (V : Int → List Box) (q : Rw) : Prop := q.1 < q.2.1 ∧ q.2.2 ≠ [] ∧ (∀ x, q.1 ≤ x → x < q.2.1 → V x = q.2.2) ∧ V (q.1 - 1) ≠ q.2.2 ∧ V q.2.1 ≠ q.2.2
inductive RI (V : Int → List Box) (a : Int) : Int → List Rw → Prop
  | nil : RI V a a []
  | snoc {e e' : Int} {f : List Rw} {P : List Box} (h : RI V a e f) (lt : e < e') (k : ∀ x, e ≤ x → x < e' → V x = P) (ne : ∀ q, f.getLast? = some q → q.2.2 ≠ P) : RI V a e' (f ++ [(e, e', P)])
section
variable {V : Int → List Box} {a e e' : Int} {f : List Rw}
theorem RI.is (h : RI V a e f) : a ≤ e ∧ ∀ r ∈ f, a ≤ r.1 ∧ r.1 < r.2.1 ∧ r.2.1 ≤ e ∧ ∀ x, r.1 ≤ x → x < r.2.1 → V x = r.2.2 := by
  induction h with
  | nil => exact ⟨Int.le_refl _, fun r hr => nomatch hr⟩
  | snoc h lt k ne ih =>
    refine ⟨by omega, fun r hr => ?_⟩
    rcases List.mem_append.mp hr with m | m
    · have := ih.2 r m
      exact ⟨this.1, this.2.1, by omega, this.2.2.2⟩
    · rw [List.mem_singleton.mp m]
      exact ⟨ih.1, lt, Int.le_refl _, k⟩
theorem RI.cov (h : RI V a e f) : ∀ x, a ≤ x → x < e → ∃ r ∈ f, r.1 ≤ x ∧ x < r.2.1 := by
  induction h with
  | nil => intro x h1 h2; omega
  | snoc h lt k ne ih =>
    rename_i e0 e1 f0 P
    intro x h1 h2
    by_cases hx : x < e0
    · obtain ⟨r, hr, q⟩ := ih x h1 hx
      exact ⟨r, List.mem_append_left _ hr, q⟩
    · exact ⟨(e0, e1, P), by simp, by show e0 ≤ x; omega, h2⟩
theorem RI.last (h : RI V a e f) {r : Rw} (hr : r ∈ f) (e1 : r.2.1 = e) : f.getLast? = some r := by
  cases h with
  | nil => cases hr
  | snoc h lt k ne =>
    rw [List.getLast?_concat]
    rcases List.mem_append.mp hr with m | m
    · have := (h.is.2 r m).2.2.1
      omega
    · rw [List.mem_singleton.mp m]
theorem RI.end_ (h : RI V a e f) {r : Rw} (hr : f.getLast? = some r) : r.2.1 = e := by
  cases h with
  | nil => cases hr
  | snoc h lt k ne =>
    rw [List.getLast?_concat] at hr
    injection hr with hr
    rw [← hr]
theorem RI.none (h : RI V a e f) (hf : f = []) : e = a := by
  cases h with
  | nil => rfl
  | snoc h lt k ne => simp at hf
theorem RI.hi (h : RI V a e f) : ∀ r ∈ f, r.2.1 = e ∨ V r.2.1 ≠ r.2.2 := by
  induction h with
  | nil => exact fun r hr => nomatch hr
  | snoc h lt k ne ih =>
    intro r hr
    rcases List.mem_append.mp hr with m | m
    · right
      rcases ih r m with w | w
      · rw [w, k _ (Int.le_refl _) lt]
        exact fun z => ne r (h.last m w) z.symm
      · exact w
    · rw [List.mem_singleton.mp m]
      exact .inl rfl
theorem RI.lo (h : RI V a e f) : ∀ r ∈ f, r.1 = a ∨ V (r.1 - 1) ≠ r.2.2 := by
  induction h with
  | nil => exact fun r hr => nomatch hr
  | snoc h lt k ne ih =>
    rename_i e0 e1 f0 P
    intro r hr
    rcases List.mem_append.mp hr with m | m
    · exact ih r m
    · rw [List.mem_singleton.mp m]
      rcases List.eq_nil_or_concat f0 with z | ⟨t, q, z⟩
      · exact .inl (h.none z)
      · rw [List.concat_eq_append] at z
        right
        have hq : f0.getLast? = some q := by rw [z, List.getLast?_concat]
        have e1 := h.end_ hq
        have qm : q ∈ f0 := by rw [z]; simp
        have q2 := h.is.2 q qm
        show V (e0 - 1) ≠ P
        rw [q2.2.2.2 (e0 - 1) (by omega) (by omega)]
        exact ne q hq
theorem RI.mem (h : RI V a e f) (h0 : ∀ x, x < a ∨ e ≤ x → V x = []) (q : Rw) : (q ∈ f ∧ q.2.2 ≠ []) ↔ isR V q := by
  constructor
  · rintro ⟨hq, hn⟩
    have i := h.is.2 q hq
    refine ⟨i.2.1, hn, i.2.2.2, ?_, ?_⟩
    · rcases h.lo q hq with w | w
      · rw [h0 (q.1 - 1) (by omega)]
        exact fun z => hn z.symm
      · exact w
    · rcases h.hi q hq with w | w
      · rw [h0 q.2.1 (by omega)]
        exact fun z => hn z.symm
      · exact w
  · rintro ⟨lt, hn, k, l, r⟩
    obtain ⟨lo, hi, P⟩ := q
    simp only at lt hn k l r ⊢
    have inn : ∀ x, lo ≤ x → x < hi → a ≤ x ∧ x < e := fun x h1 h2 => by
      have := k x h1 h2
      by_cases z : x < a ∨ e ≤ x
      · rw [h0 x z] at this
        exact absurd this.symm hn
      · omega
    have i0 := inn lo (Int.le_refl _) lt
    obtain ⟨s, hs, s1, s2⟩ := h.cov lo i0.1 i0.2
    have si := h.is.2 s hs
    have sv : s.2.2 = P := by rw [← si.2.2.2 lo s1 s2]; exact k lo (Int.le_refl _) lt
    have e1 : s.1 = lo := by
      by_cases z : s.1 < lo
      · exact absurd ((si.2.2.2 (lo - 1) (by omega) (by omega)).trans sv) l
      · omega
    have e2 : s.2.1 = hi := by
      by_cases z : s.2.1 < hi
      · have v1 := k s.2.1 (by omega) z
        rcases h.hi s hs with w | w
        · have := inn s.2.1 (by omega) z
          omega
        · exact absurd (v1.trans sv.symm) w
      · by_cases z2 : hi < s.2.1
        · exact absurd ((si.2.2.2 hi (by omega) z2).trans sv) r
        · omega
    have : s = (lo, hi, P) := Prod.ext e1 (Prod.ext e2 sv)
    rw [← this]
    exact ⟨hs, hn⟩
end
end Bk
end
end
section
set_option Elab.async false
set_option linter.all false
set_option maxRecDepth 100000
set_option maxHeartbeats 4000000
set_option autoImplicit false
set_option backward.isDefEq.respectTransparency false
noncomputable section
namespace Bk
open L2 Bx
def numsP (rows : List Row) (p : List Int) : List Int := (rows.filter fun r => holdsB r.2 p).map (·.1)
def lows (b : Box) : List Int := b.map (·.1)
theorem numsP_cons {w : Nat} {rows : List Row} (h : ∀ r ∈ rows, r.2.length = w + 1) (x : Int) (p : List Int) : numsP rows (x :: p) = numsP (rowsAt x rows) p := by
  unfold numsP rowsAt
  rw [List.filter_map, List.map_map, List.filter_filter]
  congr 1
  apply List.filter_congr
  intro r hr
  have hl := h r hr
  obtain ⟨n0, b⟩ := r
  cases b with
  | nil => simp at hl
  | cons q b =>
    show (decide (q.1 ≤ x ∧ x < q.2) && holdsB b p) = _
    simp only [prAt, Function.comp]
    rw [Bool.eq_iff_iff]
    simp
    constructor
    · rintro ⟨h1, h2⟩; exact ⟨h2, h1⟩
    · rintro ⟨h1, h2⟩; exact ⟨h2, h1⟩
def lenR (w : Nat) (rows : List Row) : Prop := ∀ r ∈ rows, r.2.length = w
theorem lenR.at {w : Nat} {rows : List Row} (h : lenR (w + 1) rows) (x : Int) : lenR w (rowsAt x rows) := by
  intro r hr
  unfold rowsAt at hr
  obtain ⟨q, hq, rfl⟩ := List.mem_map.mp hr
  have := h q (List.mem_filter.mp hq).1
  simp only [List.length_drop]
  omega
theorem cutG_mem {k : Nat} {rows : List Row} {c : Int × Int} {q : Box × List Int} : q ∈ cutG k rows c ↔ (thereR c.1 c.2 rows).isEmpty = false ∧ ∃ t ∈ cutA k (thereR c.1 c.2 rows), q = (c :: t.1, t.2) := by
  unfold cutG
  cases h : (thereR c.1 c.2 rows).isEmpty with
  | true => simp
  | false =>
    simp only [Bool.false_eq_true, if_false, true_and, List.mem_map]
    constructor
    · rintro ⟨t, a, rfl⟩; exact ⟨t, a, rfl⟩
    · rintro ⟨t, a, rfl⟩; exact ⟨t, a, rfl⟩
theorem numsP_zero {rows : List Row} (h : lenR 0 rows) (p : List Int) : numsP rows p = rows.map (·.1) := by
  unfold numsP
  rw [List.filter_eq_self.mpr]
  intro r hr
  have := h r hr
  obtain ⟨n0, b⟩ := r
  cases b with
  | nil => rfl
  | cons p b => simp at this
theorem cut_nums : ∀ (w : Nat) (rows : List Row), lenR w rows → rows ≠ [] → ∀ q ∈ cutA w rows, q.2 = numsP rows (lows q.1) ∧ q.2 ≠ []
  | 0, rows, h, hn, q, hq => by
    unfold cutA at hq
    rw [List.mem_singleton] at hq
    subst hq
    refine ⟨(numsP_zero h _).symm, ?_⟩
    simpa using hn
  | w + 1, rows, h, _, q, hq => by
    rw [cutA_succ] at hq
    obtain ⟨c, hc, hq⟩ := List.mem_flatMap.mp hq
    obtain ⟨he, t, ht, rfl⟩ := cutG_mem.mp hq
    have e := there_eq (mkL_holds rows) (dsrt_lt _) hc
    rw [e] at ht he
    have ih := cut_nums w (rowsAt c.1 rows) (h.at _) (by simpa using he) t ht
    refine ⟨?_, ih.2⟩
    show t.2 = numsP rows (c.1 :: lows t.1)
    rw [numsP_cons h]
    exact ih.1
end Bk
end
end
section
set_option Elab.async false
set_option linter.all false
set_option maxRecDepth 100000
set_option maxHeartbeats 4000000
set_option autoImplicit false
set_option backward.isDefEq.respectTransparency false
noncomputable section
namespace Bk
open L2 Bx
section
variable {w : Int} {bs : List Box} {n : Nat} {g : Nat → Int} {q : Box × List Int}
theorem cells_few (h : VH w bs) : ∀ q ∈ cellsL w bs, q.2.length ≤ bs.length := by
  intro q hq
  unfold cellsL at hq
  split at hq
  · cases hq
  · rename_i hb
    have hr : rowsE 0 bs ≠ [] := by
      intro e
      have := rowsE_len bs 0
      rw [e] at this
      exact hb (by cases bs with
        | nil => rfl
        | cons b r => simp at this)
    have hl : lenR w.toNat (rowsE 0 bs) := fun r hr => by
      have := (h.box _ (rowsE_mem hr).1).1
      omega
    rw [(cut_nums _ _ hl hr q hq).1]
    unfold numsP
    rw [List.length_map]
    have := List.length_filter_le (fun r : Row => holdsB r.2 (lows q.1)) (rowsE 0 bs)
    rw [rowsE_len] at this
    exact this
end
end Bk
end
end
section
set_option Elab.async false
set_option linter.all false
set_option maxRecDepth 100000
set_option maxHeartbeats 4000000
set_option autoImplicit false
set_option backward.isDefEq.respectTransparency false
noncomputable section
namespace Bk
open L2 Bx
section
variable {a : Int} {n : Nat}
theorem sumR_scale (c : Int) (f : Int → Int) : ∀ (n : Nat) (a : Int), sumR a n (fun x => c * f x) = c * sumR a n f
  | 0, a => by simp [sumR]
  | n + 1, a => by
    have := sumR_scale c f n (a + 1)
    simp only [sumR]
    rw [this, Int.mul_add]
theorem sumR_congr {f g : Int → Int} : ∀ (n : Nat) (a : Int), (∀ x, a ≤ x → x < a + n → f x = g x) → sumR a n f = sumR a n g
  | 0, a, _ => rfl
  | n + 1, a, h => by
    simp only [sumR]
    rw [h a (by omega) (by push_cast; omega), sumR_congr n (a + 1) fun x h1 h2 => h x (by omega) (by push_cast; omega)]
def sumP (a : Int) (n : Nat) : Nat → (List Int → Int) → Int
  | 0, f => f []
  | w + 1, f => sumR a n fun x => sumP a n w fun p => f (x :: p)
theorem sumP_scale (c : Int) : ∀ (w : Nat) (f : List Int → Int), sumP a n w (fun p => c * f p) = c * sumP a n w f
  | 0, f => rfl
  | w + 1, f => by
    show sumR a n (fun x => sumP a n w fun p => c * f (x :: p)) = _
    rw [sumR_congr n a fun x _ _ => sumP_scale c w fun p => f (x :: p), sumR_scale]
    rfl
theorem sumP_zero (w : Nat) : sumP a n w (fun _ => 0) = 0 := by
  have := sumP_scale (a := a) (n := n) 0 w fun _ => 0
  simpa using this
def sizM (b : Box) : Int := b.foldl (fun s p => s * max 0 (p.2 - p.1)) 1
theorem sizM_go (b : Box) : ∀ s : Int, b.foldl (fun s p => s * max 0 (p.2 - p.1)) s = s * sizM b := by
  induction b with
  | nil => intro s; simp [sizM]
  | cons p b ih =>
    intro s
    unfold sizM
    rw [List.foldl_cons, List.foldl_cons, ih, ih, Int.one_mul, Int.mul_assoc]
theorem sizM_cons (p : Int × Int) (b : Box) : sizM (p :: b) = max 0 (p.2 - p.1) * sizM b := by
  show b.foldl _ (1 * max 0 (p.2 - p.1)) = _
  rw [sizM_go, Int.one_mul]
theorem sizM_size : ∀ b : Box, (∀ p ∈ b, p.1 < p.2) → sizM b = sizeB b
  | [], _ => rfl
  | p :: b, h => by
    have := h p List.mem_cons_self
    rw [sizM_cons, sizeB_cons', sizM_size b fun q hq => h q (List.mem_cons_of_mem _ hq), show max 0 (p.2 - p.1) = p.2 - p.1 by omega]
theorem sum_in {lo hi v : Int} (h1 : a ≤ lo) (h2 : hi ≤ a + n) : sumR a n (fun x => if lo ≤ x ∧ x < hi then v else 0) = max 0 (hi - lo) * v := by
  by_cases h : lo < hi
  · have e : n = (lo - a).toNat + ((hi - lo).toNat + (a + n - hi).toNat) := by omega
    rw [e, sumR_add, sumR_add, sumR_zero _ _ a (fun x h1 h2 => if_neg (by omega)), sumR_const _ v _ _ (fun x h1 h2 => if_pos (by omega)), sumR_zero _ _ _ (fun x h1 h2 => if_neg (by omega)), show (((hi - lo).toNat : Nat) : Int) = max 0 (hi - lo) by omega]
    omega
  · rw [sumR_zero _ _ a fun x _ _ => if_neg (by omega), show max 0 (hi - lo) = 0 by omega]
    simp
theorem sumP_box : ∀ (b : Box), (∀ p ∈ b, a ≤ p.1 ∧ p.2 ≤ a + n) → sumP a n b.length (fun p => if holdsB b p = true then 1 else 0) = sizM b
  | [], _ => rfl
  | q :: b, h => by
    have ih := sumP_box b fun p hp => h p (List.mem_cons_of_mem _ hp)
    have hq := h q List.mem_cons_self
    rw [sizM_cons, ← ih, ← sum_in hq.1 hq.2]
    show sumR a n (fun x => sumP a n b.length fun p => if holdsB (q :: b) (x :: p) = true then 1 else 0) = _
    congr 1
    funext x
    by_cases hx : q.1 ≤ x ∧ x < q.2
    · rw [if_pos hx]
      congr 1
      funext p
      have : holdsB (q :: b) (x :: p) = holdsB b p := by
        show (decide (q.1 ≤ x ∧ x < q.2) && holdsB b p) = _
        simp [hx]
      rw [this]
    · rw [if_neg hx]
      have : (fun p => if holdsB (q :: b) (x :: p) = true then (1 : Int) else 0) = fun _ => 0 := by
        funext p
        refine if_neg ?_
        show ¬ (decide (q.1 ≤ x ∧ x < q.2) && holdsB b p) = true
        simp [hx]
      rw [this, sumP_zero]
end
theorem holds_com : ∀ (c b : Box) (p : List Int), c.length = p.length → b.length = p.length → holdsB (comB c b) p = (holdsB c p && holdsB b p)
  | [], [], [], _, _ => rfl
  | q :: c, r :: b, x :: p, h1, h2 => by
    have ih := holds_com c b p (by simpa using h1) (by simpa using h2)
    show (decide (max q.1 r.1 ≤ x ∧ x < min q.2 r.2) && holdsB (comB c b) p) = ((decide (q.1 ≤ x ∧ x < q.2) && holdsB c p) && (decide (r.1 ≤ x ∧ x < r.2) && holdsB b p))
    rw [ih]
    rw [Bool.eq_iff_iff]
    simp only [Bool.and_eq_true, decide_eq_true_eq]
    constructor
    · rintro ⟨h, k1, k2⟩; exact ⟨⟨by omega, k1⟩, by omega, k2⟩
    · rintro ⟨⟨h, k1⟩, k, k2⟩; exact ⟨by omega, k1, k2⟩
  | [], _ :: _, [], _, h => by simp at h
  | _ :: _, _, [], h, _ => by simp at h
  | [], _, _ :: _, h, _ => by simp at h
  | _ :: _, [], _ :: _, _, h => by simp at h
end Bk
end
end
section
set_option Elab.async false
set_option linter.all false
set_option maxRecDepth 100000
set_option maxHeartbeats 4000000
set_option autoImplicit false
set_option backward.isDefEq.respectTransparency false
noncomputable section
namespace Bk
open L2 Bx
abbrev aL : Int := -1000000000
abbrev nL : Nat := 2000000000
theorem size_P {b : Box} {w : Int} (hl : (b.length : Int) = w ∧ ∀ p ∈ b, p.1 < p.2) (hn : near b) : sizeB b = sumP aL nL w.toNat fun p => if holdsB b p = true then 1 else 0 := by
  have := sumP_box (a := aL) (n := nL) b fun p hp => by have := hn p hp; show (-1000000000 : Int) ≤ p.1 ∧ p.2 ≤ (-1000000000 : Int) + (2000000000 : Nat); omega
  rw [show w.toNat = b.length by omega, this, sizM_size b hl.2]
end Bk
end
end
section
set_option Elab.async false
set_option linter.all false
set_option maxRecDepth 100000
set_option maxHeartbeats 4000000
set_option autoImplicit false
set_option backward.isDefEq.respectTransparency false
noncomputable section
namespace Bk
open L2 Bx
def phi (k : Nat) : List Int → Int := fun l => if l = [(k : Int)] then 1 else 0
end Bk
end
end
section
set_option Elab.async false
set_option linter.all false
set_option maxRecDepth 100000
set_option maxHeartbeats 4000000
set_option autoImplicit false
set_option backward.isDefEq.respectTransparency false
noncomputable section
namespace Bk
open L2 Bx PySem
theorem pls_intsx (l : List Int) : pls (l.map D.int) = true := by
  induction l with
  | nil => rfl
  | cons x r ih => simp [ih]
end Bk
end
end
section
set_option Elab.async false
set_option linter.all false
set_option maxRecDepth 100000
set_option maxHeartbeats 4000000
set_option autoImplicit false
set_option backward.isDefEq.respectTransparency false
noncomputable section
namespace Bk
open L2 Bx
section
variable {w : Int} {bs : List Box}
theorem cellsL_len (h : VH w bs) : (cellsL w bs).length ≤ 64000 := by
  unfold cellsL
  split
  · simp
  · have h20 := h.le20
    have hw := ways_cases h.ways
    have := cutA_len w.toNat (rowsE 0 bs) (by rw [rowsE_len]; omega)
    have : (40 : Nat) ^ w.toNat ≤ 40 ^ 3 := Nat.pow_le_pow_right (by omega) (by omega)
    omega
theorem cells_wide (h : VH w bs) : ∀ q ∈ cellsL w bs, q.1.length ≤ 3 := by
  intro q hq
  unfold cellsL at hq
  split at hq
  · cases hq
  · have hw := ways_cases h.ways
    have := cutA_box _ _ q hq
    omega
end
end Bk
end
end
section
set_option Elab.async false
set_option linter.all false
set_option maxRecDepth 100000
set_option maxHeartbeats 4000000
set_option autoImplicit false
set_option backward.isDefEq.respectTransparency false
noncomputable section
namespace Bk
open L2 Bx
def nP (bs : List Box) (p : List Int) : List Int := numsP (rowsE 0 bs) p
theorem rowsE_at : ∀ {bs : List Box} {k : Nat} {r : Row}, r ∈ rowsE k bs ↔ ∃ j b, bs[j]? = some b ∧ r = (((k + j : Nat) : Int), b)
  | [], k, r => by simp [rowsE]
  | b :: bs, k, r => by
    rw [rowsE, List.mem_cons, rowsE_at (bs := bs)]
    constructor
    · rintro (e | ⟨j, c, h, e⟩)
      · exact ⟨0, b, rfl, by simpa using e⟩
      · exact ⟨j + 1, c, h, by rw [e, show k + 1 + j = k + (j + 1) by omega]⟩
    · rintro ⟨j, c, h, e⟩
      cases j with
      | zero =>
        left
        have : b = c := by simpa using h
        rw [e, this]
        rfl
      | succ j => exact .inr ⟨j, c, h, by rw [e, show k + 1 + j = k + (j + 1) by omega]⟩
theorem nP_mem {bs : List Box} {p : List Int} {x : Int} : x ∈ nP bs p ↔ ∃ j b, bs[j]? = some b ∧ x = (j : Nat) ∧ holdsB b p = true := by
  unfold nP numsP
  rw [List.mem_map]
  constructor
  · rintro ⟨r, hr, rfl⟩
    obtain ⟨h1, h2⟩ := List.mem_filter.mp hr
    obtain ⟨j, b, h, e⟩ := rowsE_at.mp h1
    rw [e] at h2
    exact ⟨j, b, h, by rw [e]; simp, h2⟩
  · rintro ⟨j, b, h, rfl, hh⟩
    exact ⟨((j : Nat), b), List.mem_filter.mpr ⟨rowsE_at.mpr ⟨j, b, h, by simp⟩, hh⟩, rfl⟩
section
variable {w : Int} {bs : List Box}
theorem getD_some {bs : List Box} {k : Nat} (hk : k < bs.length) : bs[k]? = some (bs.getD k []) := by
  rw [List.getElem?_eq_getElem hk]
  simp [hk]
end
end Bk
end
end
section
set_option Elab.async false
set_option linter.all false
set_option maxRecDepth 100000
set_option maxHeartbeats 4000000
set_option autoImplicit false
set_option backward.isDefEq.respectTransparency false
noncomputable section
namespace Bk
open L2 Bx
def meet (a b : Box) : Bool := upB (comB a b)
theorem lows_held : ∀ {b : Box}, upB b = true → holdsB b (lows b) = true
  | [], _ => rfl
  | q :: b, h => by
    unfold upB at h
    rw [List.all_cons, Bool.and_eq_true, decide_eq_true_eq] at h
    have ih := lows_held (b := b) h.2
    show (decide (q.1 ≤ q.1 ∧ q.1 < q.2) && holdsB b (lows b)) = true
    rw [ih, decide_eq_true (by omega)]
    rfl
theorem lows_len (b : Box) : (lows b).length = b.length := by unfold lows; simp
def inB (b c : Box) : Bool := decide (comO b c = some b)
theorem inB_of : ∀ {b c : Box}, b.length = c.length → upB b = true → (∀ p : List Int, p.length = b.length → holdsB b p = true → holdsB c p = true) → comB b c = b
  | [], [], _, _, _ => rfl
  | q :: b, r :: c, hl, hu, h => by
    unfold upB at hu
    rw [List.all_cons, Bool.and_eq_true, decide_eq_true_eq] at hu
    have hb : holdsB b (lows b) = true := lows_held hu.2
    have k : ∀ x : Int, q.1 ≤ x → x < q.2 → r.1 ≤ x ∧ x < r.2 := fun x h1 h2 => by
      have := h (x :: lows b) (by simp [lows_len]) (by
        show (decide (q.1 ≤ x ∧ x < q.2) && holdsB b (lows b)) = true
        rw [hb, decide_eq_true ⟨h1, h2⟩]; rfl)
      have this : (decide (r.1 ≤ x ∧ x < r.2) && holdsB c (lows b)) = true := this
      rw [Bool.and_eq_true, decide_eq_true_eq] at this
      exact this.1
    have k1 := k q.1 (by omega) hu.1
    have k2 := k (q.2 - 1) (by omega) (by omega)
    have ih := inB_of (b := b) (c := c) (by simpa using hl) hu.2 fun p hp hh => by
      have := h (q.1 :: p) (by simp [hp]) (by
        show (decide (q.1 ≤ q.1 ∧ q.1 < q.2) && holdsB b p) = true
        rw [hh, decide_eq_true (by omega)]; rfl)
      have this : (decide (r.1 ≤ q.1 ∧ q.1 < r.2) && holdsB c p) = true := this
      rw [Bool.and_eq_true] at this
      exact this.2
    show (max q.1 r.1, min q.2 r.2) :: comB b c = q :: b
    rw [ih]
    congr 1
    apply Prod.ext <;> simp only <;> omega
theorem inB_iff {b c : Box} (hl : b.length = c.length) (hu : upB b = true) : inB b c = true ↔ ∀ p : List Int, p.length = b.length → holdsB b p = true → holdsB c p = true := by
  unfold inB
  rw [decide_eq_true_eq]
  constructor
  · intro h p hp hb
    unfold comO at h
    split at h
    · have e : comB b c = b := Option.some.inj h
      have := holds_com b c p hp.symm (by omega)
      rw [e, hb] at this
      cases hc : holdsB c p with
      | true => rfl
      | false => rw [hc] at this; cases this
    · cases h
  · intro h
    have e := inB_of hl hu h
    unfold comO
    rw [e, if_pos hu]
abbrev PR := Box × List Int
def offB (a b : PR) : Prop := meet a.1 b.1 = false
section
variable {w : Int} {bs : List Box}
structure Paper (w : Int) (bs : List Box) (R : List PR) : Prop where
  box : ∀ q ∈ R, q.1.length = w.toNat ∧ upB q.1 = true ∧ near q.1
  nums : ∀ q ∈ R, ∀ p : List Int, p.length = w.toNat → holdsB q.1 p = true → nP bs p = q.2
  some' : ∀ q ∈ R, q.2 ≠ []
  find : ∀ p : List Int, p.length = w.toNat → nP bs p ≠ [] → ∃ q ∈ R, holdsB q.1 p = true
  off : R.Pairwise offB
  phi : ∀ φ : List Int → Int, φ [] = 0 → sumC φ R = sumP aL nL w.toNat fun p => φ (nP bs p)
end
end Bk
end
end
section
set_option Elab.async false
set_option linter.all false
set_option maxRecDepth 100000
set_option maxHeartbeats 4000000
set_option autoImplicit false
set_option backward.isDefEq.respectTransparency false
noncomputable section
namespace Bk
open L2 Bx
section
variable {w : Int} {bs : List Box} {ns : List Int}
def rowOk (bs : List Box) (q : PR) : Bool := !q.2.isEmpty && q.2.all fun n => inB q.1 (bs.getD n.toNat [])
end
end Bk
end
end
section
set_option Elab.async false
set_option linter.all false
set_option maxRecDepth 100000
set_option maxHeartbeats 4000000
set_option autoImplicit false
set_option backward.isDefEq.respectTransparency false
noncomputable section
namespace Bk
open L2 Bx
def apart (l : List Box) : Bool := @decide (l.Pairwise fun a b => meet a b = false) (Classical.propDecidable _)
theorem apart_iff {l : List Box} : apart l = true ↔ l.Pairwise fun a b => meet a b = false := by
  unfold apart
  exact @decide_eq_true_iff _ (Classical.propDecidable _)
end Bk
end
end
section
set_option Elab.async false
set_option linter.all false
set_option maxRecDepth 100000
set_option maxHeartbeats 4000000
set_option autoImplicit false
set_option backward.isDefEq.respectTransparency false
noncomputable section
namespace Bk
open L2 Bx
def sumK (R : List PR) (k : Nat) : Int := (R.map fun q => if (k : Int) ∈ q.2 then sizeB q.1 else 0).sum
end Bk
end
end
section
set_option Elab.async false
set_option linter.all false
set_option maxRecDepth 100000
set_option maxHeartbeats 4000000
set_option autoImplicit false
set_option backward.isDefEq.respectTransparency false
noncomputable section
namespace Bk
open L2 Bx
def okP (bs : List Box) (R : List PR) : Bool := R.all (rowOk bs) && apart (R.map (·.1)) && decide ((List.range bs.length).map (sumK R) = bs.map sizeB)
theorem eqOk_eC (L : List PR) : eqOk (.lst (L.map eC)) = true := eqOk_map (fun q => by simp [pls_intsx, pls_prs]) fun q => by
  have c := deps_prs q.1
  have a := dep_eB q.1
  have b := deps_ints q.2
  simp only [dep, deps]
  omega
end Bk
end
end
section
set_option Elab.async false
set_option linter.all false
set_option maxRecDepth 100000
set_option maxHeartbeats 4000000
set_option autoImplicit false
set_option backward.isDefEq.respectTransparency false
noncomputable section
namespace Bk
open L2 Bx
theorem upB_iff {b : Box} : upB b = true ↔ ∀ p ∈ b, p.1 < p.2 := by
  unfold upB
  rw [List.all_eq_true]
  simp only [decide_eq_true_eq]
theorem nP_up (bs : List Box) (p : List Int) : (nP bs p).Pairwise (· < ·) := by
  have key : ∀ (bs : List Box) (k : Nat), (rowsE k bs).Pairwise fun r s : Row => r.1 < s.1 := by
    intro bs
    induction bs with
    | nil => intro k; exact List.Pairwise.nil
    | cons b bs ih =>
      intro k
      rw [rowsE]
      refine List.pairwise_cons.mpr ⟨fun r hr => ?_, ih (k + 1)⟩
      have := (rowsE_mem hr).2.1
      show (k : Int) < r.1
      push_cast at this
      omega
  unfold nP numsP
  rw [List.pairwise_map]
  exact (key bs 0).filter _
theorem nP_rng {bs : List Box} {p : List Int} {x : Int} (h : x ∈ nP bs p) : 0 ≤ x ∧ x < bs.length := by
  obtain ⟨j, b, hj, rfl, _⟩ := nP_mem.mp h
  have := (List.getElem?_eq_some_iff.mp hj).1
  omega
def rowK (w : Int) (n : Nat) (q : PR) : Prop := ((q.1.length : Int) = w ∧ ∀ p ∈ q.1, p.1 < p.2) ∧ near q.1 ∧ q.2.Pairwise (· < ·) ∧ ∀ x ∈ q.2, 0 ≤ x ∧ x < n
section
variable {w : Int} {bs : List Box} {R : List PR}
theorem Paper.at (P : Paper w bs R) {q : PR} (h : q ∈ R) : nP bs (lows q.1) = q.2 := P.nums q h _ (by rw [lows_len, (P.box q h).1]) (lows_held (P.box q h).2.1)
theorem Paper.rowK (P : Paper w bs R) (hw : isWays (.int w) = true) {q : PR} (h : q ∈ R) : rowK w bs.length q := by
  have hwc := ways_cases hw
  have b := P.box q h
  have e := P.at h
  refine ⟨⟨by omega, upB_iff.mp b.2.1⟩, b.2.2, ?_, ?_⟩
  · rw [← e]; exact nP_up _ _
  · rw [← e]; exact fun x hx => nP_rng hx
theorem Paper.inn (P : Paper w bs R) (h : VH w bs) {q : PR} (hq : q ∈ R) {n : Int} (hn : 0 ≤ n ∧ n < bs.length) : inB q.1 (bs.getD n.toNat []) = true ↔ n ∈ q.2 := by
  have b := P.box q hq
  obtain ⟨k, hk⟩ : ∃ k : Nat, n = (k : Int) := ⟨n.toNat, by omega⟩
  subst hk
  have hg : bs[k]? = some (bs.getD k []) := getD_some (by omega)
  rw [Int.toNat_natCast]
  have hl : q.1.length = (bs.getD k []).length := by
    have := (h.box _ (List.mem_of_getElem? hg)).1
    omega
  rw [inB_iff hl b.2.1]
  constructor
  · intro hh
    rw [← P.at hq]
    exact nP_mem.mpr ⟨k, _, hg, rfl, hh _ (lows_len _) (lows_held b.2.1)⟩
  · intro hm p hp hh
    have := P.nums q hq p (by omega) hh
    rw [← this] at hm
    obtain ⟨j, c, hj, e, hc⟩ := nP_mem.mp hm
    have hjk : j = k := by omega
    subst hjk
    rw [hg] at hj
    rw [Option.some.inj hj]
    exact hc
theorem Paper.sums (P : Paper w bs R) (h : VH w bs) (hn : ∀ b ∈ bs, near b) {k : Nat} (hk : k < bs.length) : sumK R k = sizeB (bs.getD k []) := by
  have hg : bs[k]? = some (bs.getD k []) := getD_some hk
  have hb := List.mem_of_getElem? hg
  have e := P.phi (fun l => if (k : Int) ∈ l then 1 else 0) (by simp)
  have e1 : sumC (fun l => if (k : Int) ∈ l then 1 else 0) R = sumK R k := by
    unfold sumC sumK
    congr 1
    apply List.map_congr_left
    intro q _
    by_cases m : (k : Int) ∈ q.2
    · simp only [m, if_true, Int.mul_one]
    · simp only [m, if_false, Int.mul_zero]
  rw [← e1, e, size_P (w := w) (h.box _ hb) (hn _ hb)]
  congr 1
  funext p
  by_cases m : holdsB (bs.getD k []) p = true
  · rw [if_pos m, if_pos (nP_mem.mpr ⟨k, _, hg, rfl, m⟩)]
  · rw [if_neg m, if_neg (fun hm => by
      obtain ⟨j, c, hj, e, hc⟩ := nP_mem.mp hm
      have hjk : j = k := by omega
      subst hjk
      rw [hg] at hj
      rw [Option.some.inj hj] at m
      exact m hc)]
theorem sums_list : ((List.range bs.length).map (sumK R) = bs.map sizeB) ↔ ∀ k, k < bs.length → sumK R k = sizeB (bs.getD k []) := by
  constructor
  · intro e k hk
    have := congrArg (fun l : List Int => l[k]?) e
    simp only [List.getElem?_map, List.getElem?_range hk, getD_some hk, Option.map_some] at this
    exact Option.some.inj this
  · intro h
    apply List.ext_getElem?
    intro k
    by_cases hk : k < bs.length
    · simp only [List.getElem?_map, List.getElem?_range hk, getD_some hk, Option.map_some, h k hk]
    · rw [List.getElem?_eq_none (by simp; omega), List.getElem?_eq_none (by simp; omega)]
theorem Paper.ok (P : Paper w bs R) (h : VH w bs) (hn : ∀ b ∈ bs, near b) : okP bs R = true := by
  unfold okP
  rw [Bool.and_eq_true, Bool.and_eq_true, decide_eq_true_eq, List.all_eq_true]
  refine ⟨⟨fun q hq => ?_, ?_⟩, sums_list.mpr fun k hk => P.sums h hn hk⟩
  · unfold rowOk
    rw [Bool.and_eq_true, List.all_eq_true]
    refine ⟨by
      cases e : q.2 with
      | nil => exact absurd e (P.some' q hq)
      | cons a l => rfl, fun n hm => ?_⟩
    exact (P.inn h hq ((P.rowK h.ways hq).2.2.2 n hm)).mpr hm
  · rw [apart_iff, List.pairwise_map]
    exact P.off
end
end Bk
end
end
section
set_option Elab.async false
set_option linter.all false
set_option maxRecDepth 100000
set_option maxHeartbeats 4000000
set_option autoImplicit false
set_option backward.isDefEq.respectTransparency false
noncomputable section
namespace Bk
open L2 Bx
section
variable {m : Ev → FR} {rows : List Row} {w lo hi : Int}
theorem pq_marks (hr : ∀ r ∈ rows, 0 < r.2.length) (hl : rows.length ≤ 20) : s2__law_paper m (aG rows w .no .no .no .no .no) = .ok .nx (aG rows w (.fr (.lst ((mkL (rows.map (·.2)) 0).map D.int))) .no .no .no .no) := by
  have lc1 := lcF_map (turn := lcTurn [9, 10] (gTup [(gVar 9), (gVar 10)]) sYes (e1__law_paper m)) (Γ := aG rows w .no .no .no .no .no) (f := eR) (g := fun r => D.int (prAt r.2 0).1) (l := rows) (acc := []) (fun r hm => by
    have e := ca_row (hr r hm)
    rw [atI_zero] at e
    simp [lcTurn, e1__law_paper, e, eP])
  have lc2 := lcF_map (turn := lcTurn [9, 10] (gTup [(gVar 9), (gVar 10)]) sYes (e2__law_paper m)) (Γ := aG rows w .no .no .no .no .no) (f := eR) (g := fun r => D.int (prAt r.2 0).2) (l := rows) (acc := []) (fun r hm => by
    have e := ca_row (hr r hm)
    rw [atI_zero] at e
    simp [lcTurn, e2__law_paper, e, eP])
  have z : rows.length ≤ PySem.sizeLine := line1000 (by omega)
  have z2 : rows.length + rows.length ≤ PySem.sizeLine := line1000 (by omega)
  have z3 : rows.length + rows.length < 4000 := by omega
  have ii : intsD (rows.map (fun r => D.int (prAt r.2 0).1) ++ rows.map (fun r => D.int (prAt r.2 0).2)) = some (loL (rows.map (·.2)) 0 ++ hiL (rows.map (·.2)) 0) := by
    have := intsD_map (loL (rows.map (·.2)) 0 ++ hiL (rows.map (·.2)) 0)
    rw [List.map_append] at this
    unfold loL hiL at this
    rw [List.map_map, List.map_map, List.map_map, List.map_map] at this
    exact this
  simp only [List.nil_append] at lc1 lc2
  simp [s2__law_paper, lc1, lc2, z, z2, ii, z3, mkL]
theorem pq_there (hr : ∀ r ∈ rows, 0 < r.2.length) (hl : rows.length ≤ 20) (x2 x3 : SD) : (sAsg (sEsc (sLc (iAny (sVar 0)) [9, 10] (gTup [(gVar 9), (gVar 10)]) (c1__law_paper m) (e3__law_paper m))) (gVar 6)) (aG rows w x2 x3 (.fr (.int lo)) (.fr (.int hi)) .no) = .ok .nx (aG rows w x2 x3 (.fr (.int lo)) (.fr (.int hi)) (.fr (.lst ((rowsAt lo rows).map eR)))) := by
  have lc := lcF_fil (turn := lcTurn [9, 10] (gTup [(gVar 9), (gVar 10)]) (c1__law_paper m) (e3__law_paper m)) (Γ := aG rows w x2 x3 (.fr (.int lo)) (.fr (.int hi)) .no) (f := eR) (g := fun r => eR (r.1, r.2.drop 1)) (p := fun r => decide ((prAt r.2 0).1 ≤ lo) && decide (lo < (prAt r.2 0).2)) (l := rows) (acc := []) (fun r hm => by
    have e := ca_row (hr r hm)
    have e2 : cutD (r.2.map eP) (some 1) none = (r.2.drop 1).map eP := by rw [cut_from (by decide), ← List.map_drop]; rfl
    rw [atI_zero] at e
    by_cases h1 : (prAt r.2 0).1 ≤ lo
    · by_cases h2 : lo < (prAt r.2 0).2
      · simp [lcTurn, c1__law_paper, e3__law_paper, e, eP, h1, h2, e2]
      · simp [lcTurn, c1__law_paper, e3__law_paper, e, eP, h1, h2]
    · simp [lcTurn, c1__law_paper, e3__law_paper, e, eP, h1])
  have e : (rows.filter fun r => decide ((prAt r.2 0).1 ≤ lo) && decide (lo < (prAt r.2 0).2)).map (fun r => eR (r.1, r.2.drop 1)) = (rowsAt lo rows).map eR := by
    unfold rowsAt
    rw [List.map_map]
    rfl
  rw [List.nil_append, e] at lc
  have z : rows.length ≤ PySem.sizeLine := line1000 (by omega)
  generalize (rowsAt lo rows).map eR = q at *
  simp [lc, z]
theorem pq_in {s : List D} {cs : List (Box × List Int)} (T : D) (hb : ∀ q ∈ cs, q.1.length ≤ 3) (hs : s.length + cs.length ≤ 3000000) (x2 : SD) : forF (turnF (gTup [(gVar 7), (gVar 8)]) (fgt [7, 8] (w1__law_paper m))) (cs.map eC) (aG rows w x2 (.ow none s) (.fr (.int lo)) (.fr (.int hi)) (.fr T)) = .ok .nx (aG rows w x2 (.ow none (s ++ (cs.map fun q => ((lo, hi) :: q.1, q.2)).map eC)) (.fr (.int lo)) (.fr (.int hi)) (.fr T)) := by
  have lp := forF_app (body := turnF (gTup [(gVar 7), (gVar 8)]) (fgt [7, 8] (w1__law_paper m))) (fun s => aG rows w x2 (.ow none s) (.fr (.int lo)) (.fr (.int hi)) (.fr T)) eC (fun q => eC ((lo, hi) :: q.1, q.2)) 3000000 (l := cs) (s := s) (fun q hq s hs => by
    have h3 := hb q hq
    have z : 1 + q.1.length ≤ PySem.sizeLine := line1000 (by omega)
    have z2 : s.length < PySem.sizeLine := by rw [PySem.sizeLine_eq]; omega
    generalize rows.map eR = RR at *
    simp [turnF, w1__law_paper, z, z2, eP]) hs
  rw [List.map_map]
  exact lp
end
theorem law_paper_t : ∀ (k f : Nat) (rows : List Row), k ≤ 3 → k < f → (∀ r ∈ rows, r.2.length = k) → rows.length ≤ 20 → m__law_paper f [.fr (.lst (rows.map eR)), .fr (.int k)] = .ok (.n ((cutA k rows).map eC)) [.no, .no]
  | k, 0, rows, _, h, _, _ => absurd h (Nat.not_lt_zero _)
  | 0, f + 1, rows, _, _, hr, hl => by
    have lc := lcF_map (turn := lcTurn [9, 10] (gTup [(gVar 9), (gVar 10)]) sYes (sVar 9)) (Γ := aG rows 0 .no .no .no .no .no) (f := eR) (g := fun r => D.int r.1) (l := rows) (acc := []) (fun r _ => by simp [lcTurn])
    have z : rows.length ≤ PySem.sizeLine := line1000 (by omega)
    have e : rows.map (fun r => D.int r.1) = (rows.map (·.1)).map D.int := by rw [List.map_map]; rfl
    rw [e, List.nil_append] at lc
    have g1 : (s1__law_paper (m__law_paper f)) (aG rows 0 .no .no .no .no .no) = .ok (.rt (.n [eC ([], rows.map (·.1))])) (aG rows 0 .no .no .no .no .no) := by
      generalize rows.map (·.1) = q at *
      simp [s1__law_paper, eqD, deq, lc, z]
    have g : b__law_paper (m__law_paper f) (aG rows 0 .no .no .no .no .no) = _ := seq_rt g1
    show fnM 2 11 (b__law_paper (m__law_paper f)) [.fr (.lst (rows.map eR)), .fr (.int 0)] = _
    simp [g, cutA]
  | k + 1, f + 1, rows, hk, hf, hr, hl => by
    obtain ⟨w, hw⟩ : ∃ w : Int, w = ((k + 1 : Nat) : Int) := ⟨_, rfl⟩
    have hw0 : w ≠ 0 := by omega
    have hwk : w - 1 = (k : Nat) := by push_cast at hw; omega
    have hr0 : ∀ r ∈ rows, 0 < r.2.length := fun r m => by have := hr r m; omega
    have g1 : (s1__law_paper (m__law_paper f)) (aG rows w .no .no .no .no .no) = .ok .nx (aG rows w .no .no .no .no .no) := by
      simp [s1__law_paper, eqD, deq, hw0]
    have g2 := pq_marks (m := m__law_paper f) (w := w) hr0 hl
    have g3 : (sOwn (sLst sNil) 3) (aG rows w (.fr (.lst ((mkL (rows.map (·.2)) 0).map D.int))) .no .no .no .no) = .ok .nx (aG rows w (.fr (.lst ((mkL (rows.map (·.2)) 0).map D.int))) (.ow none []) .no .no .no) := by
      generalize (mkL (rows.map (·.2)) 0).map D.int = ML
      simp
    have hml : (mkL (rows.map (·.2)) 0).length ≤ 40 := by
      have := mk_len (rows.map (·.2)) 0
      rw [List.length_map] at this
      omega
    have hpow : 40 ^ k ≤ 1600 := by
      have : k = 0 ∨ k = 1 ∨ k = 2 := by omega
      rcases this with rfl | rfl | rfl <;> decide
    have hcl := cutA_len (k + 1) rows hl
    have hpow2 : 40 ^ (k + 1) ≤ 64000 := by
      have : k = 0 ∨ k = 1 ∨ k = 2 := by omega
      rcases this with rfl | rfl | rfl <;> decide
    have lp := forF_ext (body := turnF (gTup [(gVar 4), (gVar 5)]) (fgt [6, 7, 8, 4, 5] (w2__law_paper (m__law_paper f)))) (fun s => aG rows w (.fr (.lst ((mkL (rows.map (·.2)) 0).map D.int))) (.ow none s) .no .no .no) eP (fun c => (cutG k rows c).map eC) 100000 (l := pairsM (mkL (rows.map (·.2)) 0)) (s := []) (by
      intro c hc s hs
      rw [List.length_map] at hs
      obtain ⟨lo, hi⟩ := c
      have htl := there_len lo hi rows
      have eth : thereR lo hi rows = rowsAt lo rows := there_eq (mkL_holds rows) (dsrt_lt _) hc
      rw [eth] at htl
      have a1 := pq_there (m := m__law_paper f) (w := w) (lo := lo) (hi := hi) hr0 hl (.fr (.lst ((mkL (rows.map (·.2)) 0).map D.int))) (.ow none s)
      have ih := law_paper_t k f (rowsAt lo rows) (by omega) (by omega) (fun r hm => by
        unfold rowsAt at hm
        obtain ⟨q, hq, rfl⟩ := List.mem_map.mp hm
        have := hr q (List.mem_filter.mp hq).1
        rw [List.length_drop]
        omega) (by omega)
      rw [← hwk] at ih
      have ne := ne_rows (rowsAt lo rows)
      have e0 : cutG k rows (lo, hi) = if (rowsAt lo rows).isEmpty = true then [] else (cutA k (rowsAt lo rows)).map fun q => ((lo, hi) :: q.1, q.2) := by
        unfold cutG
        rw [eth]
      have hcut := cutA_len k (rowsAt lo rows) (by omega)
      have w0 : inW 0 = true := inW_of (by omega)
      have w1 : inW 1 = true := inW_of (by omega)
      have hn := pq_in (m := m__law_paper f) (rows := rows) (w := w) (lo := lo) (hi := hi) (s := s) (cs := if (rowsAt lo rows).isEmpty = true then [] else cutA k (rowsAt lo rows)) (.lst ((rowsAt lo rows).map eR)) (fun q hq => by
        split at hq
        · cases hq
        · rw [cutA_box k _ q hq]; omega) (by
        rw [e0] at hs
        cases he : (rowsAt lo rows).isEmpty with
        | true => rw [he] at hs; simp at hs ⊢; omega
        | false => rw [he] at hs; simp at hs ⊢; omega) (.fr (.lst ((mkL (rows.map (·.2)) 0).map D.int)))
      have e1 : (if (rowsAt lo rows).isEmpty = true then [] else cutA k (rowsAt lo rows)).map (fun q => ((lo, hi) :: q.1, q.2)) = cutG k rows (lo, hi) := by
        rw [e0]
        split <;> rfl
      rw [e1] at hn
      have zc : (cutA k (rowsAt lo rows)).length ≤ PySem.sizeLine := lineBig (by omega)
      have zc' : ((cutA k (rowsAt lo rows)).map eC).length ≤ PySem.sizeLine := lineBig (by simp; omega)
      cases he : (rowsAt lo rows).isEmpty with
      | true =>
        rw [he] at ne hn
        rw [if_pos rfl, List.map_nil] at hn
        generalize (cutA k (rowsAt lo rows)).map eC = CC at *
        generalize (cutG k rows (lo, hi)).map eC = GG at *
        generalize (mkL (rows.map (·.2)) 0).map D.int = ML at *
        generalize (rowsAt lo rows).map eR = TT at *
        have k1 : w2__law_paper (m__law_paper f) (aG rows w (.fr (.lst ML)) (.ow none s) (.fr (.int lo)) (.fr (.int hi)) .no) = .ok .nx (aG rows w (.fr (.lst ML)) (.ow none (s ++ GG)) (.fr (.int lo)) (.fr (.int hi)) (.fr (.lst TT))) := by
          refine (seq_nx a1).trans ?_
          simp [ih, ne, w0, zc', hn]
        unfold turnF
        simp [eP, k1]
      | false =>
        rw [he] at ne hn
        rw [if_neg (by simp)] at hn
        generalize (cutA k (rowsAt lo rows)).map eC = CC at *
        generalize (cutG k rows (lo, hi)).map eC = GG at *
        generalize (mkL (rows.map (·.2)) 0).map D.int = ML at *
        generalize (rowsAt lo rows).map eR = TT at *
        have k1 : w2__law_paper (m__law_paper f) (aG rows w (.fr (.lst ML)) (.ow none s) (.fr (.int lo)) (.fr (.int hi)) .no) = .ok .nx (aG rows w (.fr (.lst ML)) (.ow none (s ++ GG)) (.fr (.int lo)) (.fr (.int hi)) (.fr (.lst TT))) := by
          refine (seq_nx a1).trans ?_
          simp [ih, ne, w1, zc', hn]
        unfold turnF
        simp [eP, k1]) (by
      have : ((pairsM (mkL (rows.map (·.2)) 0)).flatMap fun c => (cutG k rows c).map eC) = (cutA (k + 1) rows).map eC := by rw [cutA_succ, List.map_flatMap]
      rw [this, List.length_map]
      simp
      omega)
    have ef : ((pairsM (mkL (rows.map (·.2)) 0)).flatMap fun c => (cutG k rows c).map eC) = (cutA (k + 1) rows).map eC := by rw [cutA_succ, List.map_flatMap]
    rw [ef, List.nil_append, ← pairs_zw] at lp
    have e1 : cutD ((mkL (rows.map (·.2)) 0).map D.int) (some 1) none = ((mkL (rows.map (·.2)) 0).map D.int).tail := by rw [cut_from (by decide)]; exact List.drop_one
    have z3 : ((mkL (rows.map (·.2)) 0).map D.int).length ≤ PySem.sizeLine := line1000 (by simp; omega)
    show fnM 2 11 (b__law_paper (m__law_paper f)) [.fr (.lst (rows.map eR)), .fr (.int ((k + 1 : Nat) : Int))] = _
    rw [← hw]
    generalize (cutA (k + 1) rows).map eC = CC at *
    generalize (mkL (rows.map (·.2)) 0).map D.int = ML at *
    have g4 : s3__law_paper (m__law_paper f) (aG rows w (.fr (.lst ML)) (.ow none []) .no .no .no) = .ok .nx (aG rows w (.fr (.lst ML)) (.ow none CC) .no .no .no) := by
      simp [s3__law_paper, e1, z3, lp]
    have g : b__law_paper (m__law_paper f) (aG rows w .no .no .no .no .no) = .ok (.rt (.n CC)) (aG rows w (.fr (.lst ML)) .no .no .no .no) := (seq_nx g1).trans ((seq_nx g2).trans ((seq_nx g3).trans ((seq_nx g4).trans (by simp))))
    simp [g]
end Bk
end
end
end

section
set_option Elab.async false
set_option linter.all false
set_option maxRecDepth 100000
set_option maxHeartbeats 4000000
set_option autoImplicit false
set_option backward.isDefEq.respectTransparency false
noncomputable section
namespace Bx
open PySem L2
theorem ne_self {d : D} (h : eqOk d = true) (k : deq d d = true) : neD d d = some false := by
  unfold neD
  rw [if_pos ⟨h, h⟩, k]
  rfl
theorem eq_self' {d : D} (h : eqOk d = true) (k : deq d d = true) : eqD d d = some true := by
  unfold eqD
  rw [if_pos ⟨h, h⟩, k]
theorem ne_eH' (w : Int) (bs : List Box) : neD (eH w bs) (eH w bs) = some false := by
  have qs : deqs (bs.map eB) (bs.map eB) = true := by rw [deqs_eBs]; simp
  exact ne_self (eqOk_eH w bs) (by simp [qs])
end Bx
end
end

section
set_option Elab.async false
set_option linter.all false
set_option maxRecDepth 100000
set_option maxHeartbeats 4000000
set_option autoImplicit false
set_option backward.isDefEq.respectTransparency false
noncomputable section
namespace Bk
open L2 Bx
abbrev CRow := Box × List Int
def befS : Box → Box → Prop
  | p :: b, q :: c => p.1 < q.1 ∨ (p = q ∧ befS b c)
  | _, _ => False
theorem cut_befS : ∀ (k : Nat) (rows : List Row), ((cutA k rows).map (·.1)).Pairwise befS
  | 0, rows => by
    show ([([], rows.map (·.1))].map (·.1) : List Box).Pairwise befS
    exact List.pairwise_singleton _ _
  | k + 1, rows => by
    rw [cutA_succ, List.map_flatMap, List.pairwise_flatMap]
    have hc : ∀ c : Int × Int, ∀ b ∈ (cutG k rows c).map (·.1), ∃ r, b = c :: r := fun c b hb => by
      unfold cutG at hb
      split at hb
      · cases hb
      · rw [List.map_map] at hb
        obtain ⟨q, _, rfl⟩ := List.mem_map.mp hb
        exact ⟨q.1, rfl⟩
    refine ⟨fun c hm => ?_, ?_⟩
    · unfold cutG
      split
      · exact List.Pairwise.nil
      · rw [List.map_map]
        have ih := cut_befS k (thereR c.1 c.2 rows)
        rw [List.pairwise_map] at ih ⊢
        exact ih.imp fun h => .inr ⟨rfl, h⟩
    · refine (pairs_first (dsrt_lt _)).imp fun {c d} h x hx y hy => ?_
      obtain ⟨r, rfl⟩ := hc c x hx
      obtain ⟨t, rfl⟩ := hc d y hy
      exact .inl h
theorem cells_befS (w : Int) (bs : List Box) : (cellsL w bs).Pairwise fun a b => befS a.1 b.1 := by
  have h := cut_befS w.toNat (rowsE 0 bs)
  rw [List.pairwise_map] at h
  unfold cellsL
  split
  · exact List.Pairwise.nil
  · exact h
theorem befS_lex : ∀ {b c : Box}, befS b c → ∀ r s, PyProof.Rows.lexLt PyProof.Rows.itemOrd (PySem.W.keyToks (py (eB c)) ++ r) (PySem.W.keyToks (py (eB b)) ++ s) = false
  | [], _, h, _, _ => h.elim
  | _ :: _, [], h, _, _ => h.elim
  | p :: b, q :: c, h, r, s => by
    rw [toks_cons, toks_cons, List.append_assoc, List.append_assoc]
    rcases h with h | ⟨rfl, h⟩
    · have e : ∀ (x : Int × Int) (l : List (Int ⊕ List Nat)), [.inl 1, .inl 1, .inl x.1, .inl 1, .inl x.2, .inl 0] ++ l = [.inl 1, .inl 1] ++ (.inl x.1 :: ([.inl 1, .inl x.2, .inl 0] ++ l)) := fun _ _ => rfl
      rw [e, e, PySem.W.lex_pre, PyProof.Rows.lex_diff (O := PyProof.Rows.itemOrd) (by intro x; injection x with x; omega)]
      show decide (q.1 < p.1) = false
      simp
      omega
    · rw [PySem.W.lex_pre]
      exact befS_lex h r s
theorem alike_ints : ∀ b c : List Int, PySem.W.alikeAll (pys (b.map D.int)) (pys (c.map D.int)) = true
  | [], _ => by simp [PySem.W.alikeAll]
  | _ :: _, [] => by simp [PySem.W.alikeAll]
  | p :: b, q :: c => by
    have e1 : pys ((p :: b).map D.int) = .int p :: pys (b.map D.int) := rfl
    have e2 : pys ((q :: c).map D.int) = .int q :: pys (c.map D.int) := rfl
    rw [e1, e2]
    simp [PySem.W.alikeAll, PySem.W.alike, alike_ints b c]
theorem py_eC (q : CRow) : py (eC q) = .tuple [.tuple (pys (q.1.map eP)), .list (pys (q.2.map D.int))] := rfl
theorem sorted_rows {l : List CRow} (h : l.Pairwise fun a b => befS a.1 b.1) (hz : l.length ≤ 1000000) : sortedT [.lst (l.map eC)] = some (.n (l.map eC)) := by
  have ok : srtOk (l.map eC) = true := srtOk_of ⟨eqOk_eC l, by
    intro d hd e he
    rw [List.map_map] at hd he
    obtain ⟨b, _, rfl⟩ := List.mem_map.mp hd
    obtain ⟨c, _, rfl⟩ := List.mem_map.mp he
    show PySem.W.alike (py (eC b)) (py (eC c)) = true
    rw [py_eC, py_eC]
    simp [PySem.W.alike, PySem.W.alikeAll, alike_pairs b.1 c.1, alike_ints b.2 c.2], by
    refine .inl fun d hd => ?_
    rw [List.map_map] at hd
    obtain ⟨b, hb, rfl⟩ := List.mem_map.mp hd
    exact ⟨_, _, rfl⟩, lineM (by simp; omega)⟩
  have e : srtD (l.map eC) = l.map eC := by
    unfold srtD
    refine List.mergeSort_of_pairwise ?_
    rw [List.pairwise_map]
    refine h.imp fun {a b} k => ?_
    show (!PyProof.Rows.lexLt PyProof.Rows.itemOrd (PySem.W.keyToks (py (eC b))) (PySem.W.keyToks (py (eC a)))) = true
    have tk : ∀ q : CRow, PySem.W.keyToks (py (eC q)) = [.inl 1] ++ (PySem.W.keyToks (py (eB q.1)) ++ PySem.W.keyToksAll [.list (pys (q.2.map D.int))]) := fun q => by
      rw [py_eC]
      rfl
    rw [tk, tk, PySem.W.lex_pre, befS_lex k]
    rfl
  show (if srtOk (l.map eC) = true then some (Rs.n (srtD (l.map eC))) else none) = _
  rw [if_pos ok, e]
theorem ne_rowsC (l : List CRow) : neD (.lst (l.map eC)) (.lst (l.map eC)) = some false := ne_self (eqOk_eC l) (by
  simp only [deq]
  induction l with
  | nil => rfl
  | cons q l ih =>
    simp only [List.map_cons, deqs, ih, Bool.and_true]
    show (deq (eB q.1) (eB q.1) && (deqs (q.2.map D.int) (q.2.map D.int) && true)) = true
    rw [deq_eB]
    simp
    induction q.2 with
    | nil => rfl
    | cons x r ih2 => simp [deqs, deq, ih2])
theorem same_rows (l : List CRow) (hb : ∀ q ∈ l, q.1.length ≤ 3 ∧ q.2.length ≤ 20) (hz : l.length ≤ 1000000) : m__law_same 8 [.fr (.lst (l.map eC)), .fr (.lst (l.map eC))] = .ok (.d (.bl true)) [.no, .no] := by
  refine same_seqL (by rw [List.length_map]; exact hz) fun x hx => ?_
  obtain ⟨q, hq, rfl⟩ := List.mem_map.mp hx
  have h := hb q hq
  refine same_t ?_ ?_
  · show okS (.tup [eB q.1, eI q.2]) = true
    rw [okS, okSs, okSs, okSs, okS, okS, okS_pairs, okSs_ints]
    simp
    omega
  · have h1 := dep_eB q.1
    have h2 := deps_ints q.2
    unfold eB at h1
    simp only [dep] at h1
    simp only [dep, deps, deps_ints]
    omega
def bumpC (k : Nat) : List CRow → List CRow
  | [] => []
  | q :: r => (q.1, q.2 ++ [(k : Int)]) :: bumpC (k + 1) r
theorem bumpC_len : ∀ (l : List CRow) (k : Nat), (bumpC k l).length = l.length
  | [], _ => rfl
  | q :: r, k => by rw [bumpC, List.length_cons, List.length_cons, bumpC_len r]
theorem bumpC_get : ∀ (l : List CRow) (k j : Nat), (bumpC k l)[j]? = (l[j]?).map fun q => (q.1, q.2 ++ [((k + j : Nat) : Int)])
  | [], _, _ => by simp [bumpC]
  | q :: r, k, 0 => by simp [bumpC]
  | q :: r, k, j + 1 => by
    rw [bumpC, List.getElem?_cons_succ, List.getElem?_cons_succ, bumpC_get r (k + 1) j, show k + 1 + j = k + (j + 1) by omega]
theorem bumpN_eC (l : List CRow) : ∀ n j : Nat, (bumpN n (l.map eC))[j]? = if j < n then (l[j]?).map fun q => eC (q.1, q.2 ++ [(j : Int)]) else (l[j]?).map eC
  | 0, j => by rw [if_neg (by omega), bumpN, List.getElem?_map]
  | n + 1, j => by
    have ih := bumpN_eC l n j
    have ihn := bumpN_eC l n n
    rw [if_neg (by omega)] at ihn
    unfold bumpN
    by_cases hj : j = n
    · subst hj
      rw [if_pos (by omega)]
      cases hl : l[j]? with
      | none =>
        rw [hl] at ihn
        have ihn : (bumpN j (l.map eC))[j]? = none := ihn
        unfold setRow
        rw [ihn]
        exact ihn
      | some q =>
        rw [hl] at ihn
        have ihn : (bumpN j (l.map eC))[j]? = some (.tup [eB q.1, .lst (q.2.map D.int)]) := ihn
        unfold setRow
        rw [ihn]
        show ((bumpN j (l.map eC)).set j (.tup [eB q.1, .lst (q.2.map D.int ++ [.int (j : Nat)])]))[j]? = _
        rw [List.getElem?_set_self (List.getElem?_eq_some_iff.mp ihn).1]
        show _ = some (D.tup [eB q.1, .lst ((q.2 ++ [(j : Int)]).map D.int)])
        rw [List.map_append]
        rfl
    · rw [setRow_ne _ hj, ih]
      by_cases h : j < n
      · rw [if_pos h, if_pos (by omega)]
      · rw [if_neg h, if_neg (by omega)]
theorem bump_all (l : List CRow) : bumpN l.length (l.map eC) = (bumpC 0 l).map eC := by
  apply List.ext_getElem?
  intro j
  rw [bumpN_eC, List.getElem?_map, bumpC_get]
  by_cases h : j < l.length
  · rw [if_pos h, Option.map_map, Nat.zero_add]
    rfl
  · rw [if_neg h, List.getElem?_eq_none_iff.mpr (by omega)]
    rfl
end Bk
end
end

section
set_option Elab.async false
set_option linter.all false
set_option maxRecDepth 100000
set_option maxHeartbeats 8000000
set_option autoImplicit false
set_option backward.isDefEq.respectTransparency false
noncomputable section
namespace Bk
open PySem PySem.Spec PyProof.Rows L2 Bx
def c1__law_right : SB :=
 (sOr (sNot (sTru (sCall (m__law_same 8) [] (sCons (sVar 4) (sCons (sVar 1) sNil))))) (sOr (sCmp (neD) (sVar 4) (sCB sortedT (sCons (sVar 4) sNil))) (sCmp (neD) (sVar 2) (sVar 0))))
def c2__law_right : SB :=
 (sCmp (neD) (sBin ixD (sVar 6) (sC (.int 1))) (sBin addD (sBin ixD (sBin ixD (sVar 1) (sVar 5)) (sC (.int 1))) (sLst (sCons (sVar 5) sNil))))
def c3__law_right : SB :=
 (sCmp (neD) (sLc (iEnm (sCons (sEsc (sVar 4)) sNil)) [5, 6] (gTup [(gVar 5), (gVar 6)]) c2__law_right (sVar 5)) (sLst sNil))
def s1__law_right : SS :=
 (sSetT (sCallT m_paperT (sCons (sVar 2) sNil)) 4)
def s2__law_right : SS :=
 (sIf (lendRw 4 c1__law_right)
 (sRet (sC (.bl false)))
 sSkip)
def s3__law_right : SS :=
 (sIf (lendRw 4 c3__law_right)
 (sRet (sC (.bl false)))
 sSkip)
def w1__law_right : SS :=
 (sSeq s1__law_right
 (sSeq s2__law_right
 (sSeq (sForRw 4 5 6)
 (sSeq s3__law_right
 (sAppT 4)))))
def s4__law_right : SS :=
 (sAsg (sEsc (sBin mulD (sCall (m__law_paper 8) [] (sCons (sEsc (sLEnm (sCons (sBin ixD (sVar 0) (sC (.int 1))) sNil))) (sCons (sBin ixD (sVar 0) (sC (.int 0))) sNil))) (sCB intC (sCons (sVal (sCmp (neD) (sBin ixD (sVar 0) (sC (.int 1))) (sLst sNil))) sNil)))) (gVar 1))
def s5__law_right : SS :=
 (sAsg (sTup (sCons (sBin ixD (sVar 0) (sC (.int 0))) (sCons (sEsc (sCB listC (sCons (sBin ixD (sVar 0) (sC (.int 1))) sNil))) sNil))) (gVar 2))
def s6__law_right : SS :=
 (fgt [3, 4, 5, 6] (sFor (iRng1 (sCons (sC (.int 2)) sNil)) (gVar 3)
 (fgt [4, 5, 6, 3] w1__law_right)))
def b__law_right : SS :=
 (sSeq s4__law_right
 (sSeq s5__law_right
 (sSeq s6__law_right
 (sRet (sC (.bl true))))))
def m__law_right : Ev → FR := fnM 1 7 b__law_right
def s1_law : SS :=
 (sOwn (sCall m__law_well [] (sCons (sVar 1) sNil)) 2)
def s2_law : SS :=
 (sSetU (sCall m__law_some_heap [0] (sCons (sVar 2) sNil)) 3)
def s3_law : SS :=
 (sIf (sNot (sTru (sCall m__law_right [] (sCons (sVar 3) sNil))))
 (sRet (sC (.bl false)))
 sSkip)
def s4_law : SS :=
 (sIf (sCmp (neD) (sBin ixD (sVar 3) (sC (.int 1))) (sLst sNil))
 (sSeq (sThaw 3 1 popD (sCons (sCall m__law_draw [0] (sCons (sVar 2) (sCons (sCB lenD (sCons (sBin ixD (sVar 3) (sC (.int 1))) sNil)) sNil))) sNil))
 (sIf (sNot (sTru (sCall m__law_right [] (sCons (sVar 3) sNil))))
 (sRet (sC (.bl false)))
 sSkip))
 sSkip)
def w1_law : SS :=
 (sSeq s1_law
 (sSeq s2_law
 (sSeq s3_law
 s4_law)))
def b_law : SS :=
 (sSeq (fgt [1, 2, 3] (sFor (iAny (sEsc (sBin addD (sLst (sCons (sC (.int 0)) (sCons (sC (.int 5)) sNil))) (sSl (sVar 0) oNone (oSome (sC (.int 8))))))) (gVar 1)
 (fgt [2, 3, 1] w1_law)))
 (sRet (sVal (sCmp (eqD) (sCall m_paper_of [] (sCons (sTup (sCons (sC (.int 1)) (sCons (sEsc (sLst (sCons (sTup (sCons (sTup (sCons (sC (.int 0)) (sCons (sC (.int 3)) sNil))) sNil)) (sCons (sTup (sCons (sTup (sCons (sC (.int 2)) (sCons (sC (.int 5)) sNil))) sNil)) sNil)))) sNil))) sNil)) (sLst (sCons (sTup (sCons (sTup (sCons (sTup (sCons (sC (.int 0)) (sCons (sC (.int 2)) sNil))) sNil)) (sCons (sEsc (sLst (sCons (sC (.int 0)) sNil))) sNil))) (sCons (sTup (sCons (sTup (sCons (sTup (sCons (sC (.int 2)) (sCons (sC (.int 3)) sNil))) sNil)) (sCons (sEsc (sLst (sCons (sC (.int 0)) (sCons (sC (.int 1)) sNil)))) sNil))) (sCons (sTup (sCons (sTup (sCons (sTup (sCons (sC (.int 3)) (sCons (sC (.int 5)) sNil))) sNil)) (sCons (sEsc (sLst (sCons (sC (.int 1)) sNil))) sNil))) sNil))))))))
def m_law : Ev → FR := fnM 1 4 b_law
end Bk
end
end

section
set_option Elab.async false
set_option linter.all false
set_option maxRecDepth 100000
set_option maxHeartbeats 4000000
set_option autoImplicit false
set_option backward.isDefEq.respectTransparency false
noncomputable section
namespace Bk
open L2 Bx
abbrev prG (H DU : D) (x2 x3 x4 x5 x6 : SD) : Ev := [.fr H, .fr DU, x2, x3, x4, x5, x6]
section
variable {w : Int} {bs : List Box}
theorem short_eC {l : List CRow} (hb : ∀ q ∈ l, q.2.length ≤ 20) : (l.map eC).all shortR = true := by
  rw [List.all_eq_true]
  intro d hd
  obtain ⟨q, hq, rfl⟩ := List.mem_map.mp hd
  have := hb q hq
  show decide ((q.2.map D.int).length < 100000) = true
  rw [List.length_map]
  exact decide_eq_true (by omega)
theorem cells_facts (h : VH w bs) : (∀ q ∈ cellsL w bs, q.1.length ≤ 3 ∧ q.2.length ≤ 20) ∧ (cellsL w bs).length ≤ 64000 := by
  refine ⟨fun q hq => ⟨cells_wide h q hq, ?_⟩, cellsL_len h⟩
  have := cells_few h q hq
  have := h.le20
  omega
theorem pr1 (h : VH w bs) (DU : D) (x3 : SD) : s1__law_right (prG (eH w bs) DU (.fr (eH w bs)) x3 .no .no .no) = .ok .nx (prG (eH w bs) DU (.fr (eH w bs)) x3 (trO (cellsL w bs)) .no .no) := by
  have e := paperT_t h
  unfold trO
  generalize (cellsL w bs).map eC = CC at *
  generalize eH w bs = H at *
  simp [s1__law_right, e]
theorem pr2 (h : VH w bs) (t : Int) : s2__law_right (prG (eH w bs) (.lst ((cellsL w bs).map eC)) (.fr (eH w bs)) (.fr (.int t)) (trO (cellsL w bs)) .no .no) = .ok .nx (prG (eH w bs) (.lst ((cellsL w bs).map eC)) (.fr (eH w bs)) (.fr (.int t)) (trO (cellsL w bs)) .no .no) := by
  obtain ⟨k1, k2⟩ := cells_facts h
  have e1 := same_rows (cellsL w bs) k1 (by omega)
  have e2 := sorted_rows (cells_befS w bs) (by omega)
  have e3 := ne_rowsC (cellsL w bs)
  have e4 := ne_eH' w bs
  have rd := rowsD_eC (cellsL w bs)
  unfold trO
  generalize ((cellsL w bs).map eC).map rowO = RO at *
  generalize (cellsL w bs).map eC = CC at *
  generalize eH w bs = H at *
  simp [s2__law_right, c1__law_right, e1, e2, e3, e4, rd, SD.own]
theorem pr3 (h : VH w bs) (H DU : D) (x2 x3 : SD) : (sForRw 4 5 6) (prG H DU x2 x3 (trO (cellsL w bs)) .no .no) = .ok .nx (prG H DU x2 x3 (trO (bumpC 0 (cellsL w bs))) .no .no) := by
  obtain ⟨k1, k2⟩ := cells_facts h
  have rd := rowsD_eC (cellsL w bs)
  have sh := short_eC fun q hq => (k1 q hq).2
  have b := bump_all (cellsL w bs)
  have hl : ((cellsL w bs).map eC).length = (cellsL w bs).length := List.length_map _
  unfold trO
  rw [← b, ← hl]
  generalize hR : ((cellsL w bs).map eC).map rowO = RO at *
  generalize (cellsL w bs).map eC = CC at *
  have sh : (∀ x ∈ CC, shortR x = true) := List.all_eq_true.mp sh
  generalize hB : bumpN CC.length CC = BB at *
  have key : CC.all shortR = true := List.all_eq_true.mpr sh
  clear sh
  simp only [sForRw, List.getElem?_cons_succ, List.getElem?_cons_zero, forRwS, rd, forRwO, forRws, hB]
  rw [if_pos ⟨rfl, rfl, by decide, by decide, by decide, key⟩]
  rfl
theorem pr4 (h : VH w bs) (H d2 d3 : D) : s3__law_right (prG H (.lst ((cellsL w bs).map eC)) (.fr d2) (.fr d3) (trO (bumpC 0 (cellsL w bs))) .no .no) = .ok .nx (prG H (.lst ((cellsL w bs).map eC)) (.fr d2) (.fr d3) (trO (bumpC 0 (cellsL w bs))) .no .no) := by
  obtain ⟨k1, k2⟩ := cells_facts h
  have rd := rowsD_eC (bumpC 0 (cellsL w bs))
  have lc : lcF (lcTurn [5, 6] (gTup [(gVar 5), (gVar 6)]) c2__law_right (sVar 5)) (enumF 0 ((bumpC 0 (cellsL w bs)).map eC)) [] (prG H (.lst ((cellsL w bs).map eC)) (.fr d2) (.fr d3) (.fr (.lst ((bumpC 0 (cellsL w bs)).map eC))) .no .no) = .ok [] (prG H (.lst ((cellsL w bs).map eC)) (.fr d2) (.fr d3) (.fr (.lst ((bumpC 0 (cellsL w bs)).map eC))) .no .no) := by
    rw [lcF_pure (t := fun _ => none) (fun d hd => ?_)]
    · simp
    · obtain ⟨j, hj⟩ := List.mem_iff_getElem?.mp hd
      rw [enumF_get, List.getElem?_map, bumpC_get] at hj
      cases hq : (cellsL w bs)[j]? with
      | none => rw [hq] at hj; cases hj
      | some q =>
        rw [hq] at hj
        have hj : D.tup [.int ((0 + j : Nat) : Int), .tup [eB q.1, .lst ((q.2 ++ [((0 + j : Nat) : Int)]).map D.int)]] = d := by
          have := Option.some.inj hj
          exact this
        rw [Nat.zero_add] at hj
        subst hj
        have hm : ((cellsL w bs).map eC)[j]? = some (.tup [eB q.1, .lst (q.2.map D.int)]) := by rw [List.getElem?_map, hq]; rfl
        have ha := atI_nat hm
        have e1 : (q.2 ++ [(j : Int)]).map D.int = q.2.map D.int ++ [.int (j : Int)] := by rw [List.map_append]; rfl
        have hl := (k1 q (List.mem_of_getElem? hq)).2
        have z : (q.2.map D.int).length + 1 ≤ PySem.sizeLine := line1000 (by rw [List.length_map]; omega)
        have e2 : neD (.lst (q.2.map D.int ++ [.int (j : Int)])) (.lst (q.2.map D.int ++ [.int (j : Int)])) = some false := by
          rw [← e1]
          exact ne_self (eqOk_of (n := 1) (by simp only [pl]; exact pls_ints _) (by simp only [dep, deps_ints]; omega) (by decide)) (by
            simp only [deq]
            generalize q.2 ++ [(j : Int)] = L
            induction L with
            | nil => rfl
            | cons x r ih => simp [deqs, deq, ih])
        rw [e1]
        generalize q.2.map D.int = QQ at *
        generalize (cellsL w bs).map eC = CC at *
        generalize (bumpC 0 (cellsL w bs)).map eC = BB at *
        simp [lcTurn, c2__law_right, ha, z, e2]
  have ne0 : neD (.lst []) (.lst []) = some false := by simp [neD, eqD, deq]
  have zz : ((bumpC 0 (cellsL w bs)).map eC).length ≤ PySem.sizeLine := lineM (by rw [List.length_map, bumpC_len]; omega)
  have ze : (enumF 0 ((bumpC 0 (cellsL w bs)).map eC)).length ≤ PySem.sizeLine := by rw [enumF_len]; exact zz
  unfold trO
  generalize ((bumpC 0 (cellsL w bs)).map eC).map rowO = RO at *
  generalize hE : enumF 0 ((bumpC 0 (cellsL w bs)).map eC) = EE at *
  generalize (bumpC 0 (cellsL w bs)).map eC = BB at *
  generalize (cellsL w bs).map eC = CC at *
  simp [s3__law_right, c3__law_right, rd, SD.own, lc, hE, ze, ne0]
theorem pr5 (h : VH w bs) (H DU : D) (x2 x3 : SD) : (sAppT 4) (prG H DU x2 x3 (trO (bumpC 0 (cellsL w bs))) .no .no) = .ok .nx (prG H DU x2 x3 .no .no .no) := by
  obtain ⟨k1, k2⟩ := cells_facts h
  have rd := rowsD_eC (bumpC 0 (cellsL w bs))
  have zz : ((bumpC 0 (cellsL w bs)).map eC).length ≤ 100000 := by rw [List.length_map, bumpC_len]; omega
  unfold trO
  generalize ((bumpC 0 (cellsL w bs)).map eC).map rowO = RO at *
  generalize (bumpC 0 (cellsL w bs)).map eC = BB at *
  simp [rd, zz]
theorem pr6 (h : VH w bs) : s6__law_right (prG (eH w bs) (.lst ((cellsL w bs).map eC)) (.fr (eH w bs)) .no .no .no .no) = .ok .nx (prG (eH w bs) (.lst ((cellsL w bs).map eC)) (.fr (eH w bs)) .no .no .no .no) := by
  have lp := forF_nx (body := turnF (gVar 3) (fgt [4, 5, 6, 3] w1__law_right)) (Γ := prG (eH w bs) (.lst ((cellsL w bs).map eC)) (.fr (eH w bs)) .no .no .no .no) (l := rgD 0 2) (by
    intro d hd
    obtain ⟨t, rfl, _, _⟩ := rgD_mem hd
    have g1 := pr1 h (.lst ((cellsL w bs).map eC)) (.fr (.int t))
    have g2 := pr2 h t
    have g3 := pr3 h (eH w bs) (.lst ((cellsL w bs).map eC)) (.fr (eH w bs)) (.fr (.int t))
    have g4 := pr4 h (eH w bs) (eH w bs) (.int t)
    have g5 := pr5 h (eH w bs) (.lst ((cellsL w bs).map eC)) (.fr (eH w bs)) (.fr (.int t))
    have k : w1__law_right _ = _ := (seq_nx g1).trans ((seq_nx g2).trans ((seq_nx g3).trans ((seq_nx g4).trans g5)))
    clear g1 g2 g3 g4 g5
    generalize (cellsL w bs).map eC = CC at *
    generalize eH w bs = H at *
    unfold turnF
    simp [k])
  have c1 : inW 2 = true := inW_of (by omega)
  generalize (cellsL w bs).map eC = CC at *
  generalize eH w bs = H at *
  simp [s6__law_right, lp, c1]
theorem paper_right_t (h : VH w bs) : m__law_right [.fr (eH w bs)] = .ok (.d (.bl true)) [.no] := by
  have h20 := h.le20
  have hwc := ways_cases h.ways
  have hcl := cutA_len w.toNat (rowsE 0 bs) (by rw [rowsE_len]; exact h20)
  have hpow : 40 ^ w.toNat ≤ 64000 := by rcases hwc with rfl | rfl | rfl <;> decide
  have e3 := law_paper_t w.toNat 8 (rowsE 0 bs) (by omega) (by omega) (fun r hr => by have := (h.box _ (rowsE_mem hr).1).1; omega) (by rw [rowsE_len]; exact h20)
  rw [show ((w.toNat : Nat) : Int) = w by omega, ← rowsE_enum] at e3
  have nb := ne_eBs bs
  have g6 := pr6 h
  have g4 : s4__law_right [.fr (eH w bs), .no, .no, .no, .no, .no, .no] = .ok .nx (prG (eH w bs) (.lst ((cellsL w bs).map eC)) .no .no .no .no .no) := by
    have w0 : inW 0 = true := inW_of (by omega)
    have w1 : inW 1 = true := inW_of (by omega)
    have ze : (enumF 0 (bs.map eB)).length ≤ PySem.sizeLine := by rw [enumF_len]; exact line1000 (by simp; omega)
    have zc : ((cutA w.toNat (rowsE 0 bs)).map eC).length ≤ PySem.sizeLine := lineM (by simp; omega)
    clear g6
    unfold eH
    unfold cellsL
    cases hb : bs.isEmpty with
    | true =>
      rw [hb] at nb
      rw [if_pos rfl]
      generalize (cutA w.toNat (rowsE 0 bs)).map eC = CC at *
      generalize hE : enumF 0 (bs.map eB) = E at *
      generalize bs.map eB = B at *
      simp [s4__law_right, hE, ze, e3, nb, w0]
    | false =>
      rw [hb] at nb
      rw [if_neg (by simp)]
      generalize (cutA w.toNat (rowsE 0 bs)).map eC = CC at *
      generalize hE : enumF 0 (bs.map eB) = E at *
      generalize bs.map eB = B at *
      simp [s4__law_right, hE, ze, e3, nb, w1, zc]
  have g5 : s5__law_right (prG (eH w bs) (.lst ((cellsL w bs).map eC)) .no .no .no .no .no) = .ok .nx (prG (eH w bs) (.lst ((cellsL w bs).map eC)) (.fr (eH w bs)) .no .no .no .no) := by
    have z : (bs.map eB).length ≤ PySem.sizeLine := line1000 (by rw [List.length_map]; omega)
    have nl : noLs (bs.map eB) = true := noLs_eBs _
    clear g6 g4 e3
    unfold eH
    generalize (cellsL w bs).map eC = CC at *
    generalize bs.map eB = B at *
    simp [s5__law_right, z, nl]
  have k : b__law_right [.fr (eH w bs), .no, .no, .no, .no, .no, .no] = _ := (seq_nx g4).trans ((seq_nx g5).trans (seq_nx (t := sRet (sC (.bl true))) g6))
  clear g4 g5 g6 e3 nb
  generalize (cellsL w bs).map eC = CC at *
  generalize eH w bs = H at *
  simp [m__law_right, k]
end
end Bk
end
end

section
set_option Elab.async false
set_option linter.all false
set_option maxRecDepth 100000
set_option maxHeartbeats 4000000
set_option autoImplicit false
set_option backward.isDefEq.respectTransparency false
noncomputable section
namespace Bk
open L2 Bx
section
variable {s s1 : Int × Int} {w : Int} {bs : List Box} {x0 : SD}
abbrev lGp (x0 : SD) (d : D) (x2 x3 : SD) : Ev := [x0, .fr d, x2, x3]
theorem pw1 {l : SD} {c : Int} (e : m__law_well [.fr (.int c)] = .ok (.n (eW s)) [.no]) : s1_law (lGp l (.int c) .no .no) = .ok .nx (lGp l (.int c) (.ow none (eW s)) .no) := by
  simp [s1_law, e]
theorem pw2 {l : SD} {c : D} (e : m__law_some_heap [.ow (some 0) (eW s)] = .ok (.u (eH w bs)) [.ow (some 0) (eW s1)]) : s2_law (lGp l c (.ow none (eW s)) .no) = .ok .nx (lGp l c (.ow none (eW s1)) (.fu (eH w bs))) := by
  simp [s2_law, e]
theorem pw3 {l : SD} {c : D} (e : m__law_right [.fr (eH w bs)] = .ok (.d (.bl true)) [.no]) : s3_law (lGp l c (.ow none (eW s)) (.fu (eH w bs))) = .ok .nx (lGp l c (.ow none (eW s)) (.fu (eH w bs))) := by
  simp [s3_law, e]
theorem pw4 {l : SD} {c : D} (e : bs.isEmpty = true) : s4_law (lGp l c (.ow none (eW s)) (.fu (eH w bs))) = .ok .nx (lGp l c (.ow none (eW s)) (.fu (eH w bs))) := by
  have : bs = [] := List.isEmpty_iff.mp e
  subst this
  simp [s4_law, neD]
end
theorem pw5 {s s1 : Int × Int} {w i : Int} {bs : List Box} {l : SD} {c : Int} (hb : bs.isEmpty = false) (hl : bs.length ≤ 1000) (h0 : 0 ≤ i) (h1 : i < bs.length) (e : m__law_draw [.ow (some 0) (eW s), .fr (.int bs.length)] = .ok (.d (.int i)) [.ow (some 0) (eW s1), .no])
    (e2 : m__law_right [.fr (eH w (bs.eraseIdx i.toNat))] = .ok (.d (.bl true)) [.no]) : s4_law (lGp l (.int c) (.ow none (eW s)) (.fu (eH w bs))) = .ok .nx (lGp (keepS l) (.int c) (.ow none (eW s1)) (.fu (eH w (bs.eraseIdx i.toNat)))) := by
  have c1 : inW i = true := inW_of (by omega)
  have c2 : PySem.seqIndex? i bs.length = some i.toNat := by
    unfold PySem.seqIndex?
    split <;> simp <;> omega
  have c3 : bs[i.toNat]? = some bs[i.toNat] := List.getElem?_eq_getElem (by omega)
  have c4 := eraseIdx_mapD eB bs i.toNat
  simp [s4_law, ne_eBs, hb, e, c1, c2, c3, c4, e2]
theorem law_turnP {l : SD} {c : Int} : ∃ l', turnF (gVar 1) (fgt [2, 3, 1] w1_law) (.int c) [l, .no, .no, .no] = .ok .nx [l', .no, .no, .no] := by
  obtain ⟨s, e1⟩ := well_t c
  obtain ⟨w, bs, s1, e2, hw, hf, hbs⟩ := some_heap_t s
  have h := VH.of hw hf hbs
  have e3 := paper_right_t h
  have k1 := (seq_nx (pw1 (l := l) e1)).trans ((seq_nx (pw2 (l := l) (c := .int c) e2)).trans (seq_nx (t := s4_law) (pw3 (s := s1) (l := l) (c := .int c) e3)))
  have hl : bs.length ≤ 20 := h.le20
  cases hb : bs.isEmpty with
  | true =>
    have k : w1_law (lGp l (.int c) .no .no) = _ := k1.trans (pw4 hb)
    unfold turnF
    exact ⟨l, by simp [k]⟩
  | false =>
    have hp : 0 < bs.length := by cases bs with
      | nil => cases hb
      | cons b r => simp
    obtain ⟨i, s3, e4, a4, b4⟩ := draw_t s1 (many := bs.length) (by omega) (by omega)
    have hl2 : (bs.eraseIdx i.toNat).length ≤ most w := Nat.le_trans (List.length_eraseIdx_le _ _) hf
    have hb2 : ∀ b ∈ bs.eraseIdx i.toNat, boxOk w b := fun b m => hbs b (List.mem_of_mem_eraseIdx m)
    have e5 := paper_right_t (VH.of hw hl2 hb2)
    have k : w1_law (lGp l (.int c) .no .no) = _ := k1.trans (pw5 hb (by omega) a4 b4 e4 e5)
    unfold turnF
    exact ⟨keepS l, by simp [k]⟩
theorem law_true : ∀ ns : List Int, ns.length ≤ 63 → ∃ o, m_law [.fr (.scr (ns.map D.int))] = .ok (.d (.bl true)) o := by
  intro ns hns
  obtain ⟨Γ', lp, x, rfl⟩ := forF_all (body := turnF (gVar 1) (fgt [2, 3, 1] w1_law)) (fun Γ => ∃ x, Γ = [x, .no, .no, .no]) (Γ := [.fr (.scr (ns.map D.int)), .no, .no, .no]) (l := ([0, 5] ++ ns.take 8).map D.int) ⟨_, rfl⟩ (by
    rintro d hd Γ ⟨x, rfl⟩
    obtain ⟨c, _, rfl⟩ := List.mem_map.mp hd
    obtain ⟨x', k⟩ := law_turnP (l := x) (c := c)
    exact ⟨_, .inl k, x', rfl⟩)
  have c1 : 2 + min 8 ns.length ≤ PySem.sizeLine := line1000 (by omega)
  have c2 : cutD (ns.map D.int) none (some 8) = (ns.map D.int).take 8 := by rw [cut_to (by decide)]; rfl
  have hv : VH 1 [[(0, 3)], [(2, 5)]] := ⟨by decide, by decide, by decide⟩
  have vc : cellsL 1 [[(0, 3)], [(2, 5)]] = [([(0, 2)], [0]), ([(2, 3)], [0, 1]), ([(3, 5)], [1])] := by
    have hm : mkL ((rowsE 0 [[(0, 3)], [(2, 5)]]).map (·.2)) 0 = [0, 2, 3, 5] := (dsrt_eq (by decide) (by intro x; simp [loL, hiL, prAt, rowsE] <;> omega)).symm
    show cutA 1 (rowsE 0 [[(0, 3)], [(2, 5)]]) = _
    rw [cutA_succ, hm]
    decide
  have e1 : m_paper_of [.fr (.tup [.int 1, .lst [.tup [.tup [.int 0, .int 3]], .tup [.tup [.int 2, .int 5]]]])] = .ok (.n [.tup [.tup [.tup [.int 0, .int 2]], .lst [.int 0]], .tup [.tup [.tup [.int 2, .int 3]], .lst [.int 0, .int 1]], .tup [.tup [.tup [.int 3, .int 5]], .lst [.int 1]]]) [.no] := by
    have k1 := need_heap_ok hv
    have k2 := cells_of_t hv
    rw [vc] at k2
    have k1 : m_need_heap [.fr (.tup [.int 1, .lst [.tup [.tup [.int 0, .int 3]], .tup [.tup [.int 2, .int 5]]]])] = .ok (.d .non) [.no] := k1
    have k2 : m_cells_of [.fr (.tup [.int 1, .lst [.tup [.tup [.int 0, .int 3]], .tup [.tup [.int 2, .int 5]]]])] = .ok (.n [.tup [.tup [.tup [.int 0, .int 2]], .lst [.int 0]], .tup [.tup [.tup [.int 2, .int 3]], .lst [.int 0, .int 1]], .tup [.tup [.tup [.int 3, .int 5]], .lst [.int 1]]]) [.no] := k2
    simp [m_paper_of, b_paper_of, k1, k2]
  have lp : forF (turnF (gVar 1) (fgt [2, 3, 1] w1_law)) (.int 0 :: .int 5 :: (ns.map D.int).take 8) [.fr (.scr (ns.map D.int)), .no, .no, .no] = .ok .nx [x, .no, .no, .no] := by
    rw [← lp, List.map_append, List.map_take]
    rfl
  have hz : ((ns.map D.int).take 8).length = min 8 ns.length := by rw [List.length_take, List.length_map]
  have q : eqD (.lst [.tup [.tup [.tup [.int 0, .int 2]], .lst [.int 0]], .tup [.tup [.tup [.int 2, .int 3]], .lst [.int 0, .int 1]], .tup [.tup [.tup [.int 3, .int 5]], .lst [.int 1]]]) (.lst [.tup [.tup [.tup [.int 0, .int 2]], .lst [.int 0]], .tup [.tup [.tup [.int 2, .int 3]], .lst [.int 0, .int 1]], .tup [.tup [.tup [.int 3, .int 5]], .lst [.int 1]]]) = some true := eq_self' (eqOk_of (n := 4) (by decide) (by decide) (by omega)) (by decide)
  generalize ns.map D.int = L at *
  exact ⟨_, by simp [m_law, b_law, lp, c1, c2, hz, e1, q]; rfl⟩
end Bk
end
end

section
set_option Elab.async false
set_option linter.all false
set_option maxRecDepth 100000
set_option maxHeartbeats 8000000
set_option autoImplicit false
set_option backward.isDefEq.respectTransparency false
noncomputable section
namespace Bk
open PySem PySem.Spec PyProof.Rows L2 Bx
def top (i : Nat) : Stmt := PySem.Challenge.pw_boxcover_k48_papers_told.main.body.getD i (.Pass ⟨0, 0, 0, 0⟩)
abbrev s_is_whole : Stmt := top 5
theorem sc_is_whole : FnScope ["thing"] ["thing"] (defScope s_is_whole) := ⟨rfl, rfl, rfl, by decide +kernel, rfl, by decide +kernel, by decide +kernel⟩
theorem d_is_whole {P : Program} {w : World} {K : PySem.W.Frag} {mg : Str → Option Value} {base : Heap} {f : Addr} {fd : FuncData} (U : Fun K "is_whole" "is_whole" s_is_whole f fd) (hx : mg "is_whole" = some (.ref f)) (b : Binds K fd ["thing"] []) (z_bool : mg "bool" = none) (z_int : mg "int" = none) (z_isinstance : mg "isinstance" = none) : CallD P w K mg base 1 "is_whole" m_is_whole :=
 callD_of (k := 0) U hx b sc_is_whole (fun cdv A out s H E hr hg =>
 (q_last (q_ret (q_andV (q_isi z_isinstance z_int (q_var 0)) (q_one (q_notV (q_isi z_isinstance z_bool (q_var 0))))))))
abbrev s_is_ways : Stmt := top 6
theorem sc_is_ways : FnScope ["thing"] ["thing"] (defScope s_is_ways) := ⟨rfl, rfl, rfl, by decide +kernel, rfl, by decide +kernel, by decide +kernel⟩
theorem d_is_ways {P : Program} {w : World} {K : PySem.W.Frag} {mg : Str → Option Value} {base : Heap} {f : Addr} {fd : FuncData} (U : Fun K "is_ways" "is_ways" s_is_ways f fd) (hx : mg "is_ways" = some (.ref f)) (b : Binds K fd ["thing"] []) (D_is_whole : CallD P w K mg base 1 "is_whole" m_is_whole) : CallD P w K mg base 2 "is_ways" m_is_ways :=
 callD_of (k := 1) U hx b sc_is_ways (fun cdv A out s H E hr hg =>
 (q_last (q_ret (q_andV (q_callD [] D_is_whole hr hg (takesB (takes_of rfl rfl rfl rfl)) (q_pcons (q_var 0) q_nil)) (q_one (q_chain (op_leS) (op_leS) q_int (q_var 0) q_int))))))
abbrev s_is_stretch : Stmt := top 7
theorem sc_is_stretch : FnScope ["thing"] ["thing"] (defScope s_is_stretch) := ⟨rfl, rfl, rfl, by decide +kernel, rfl, by decide +kernel, by decide +kernel⟩
theorem d_is_stretch {P : Program} {w : World} {K : PySem.W.Frag} {mg : Str → Option Value} {base : Heap} {f : Addr} {fd : FuncData} (U : Fun K "is_stretch" "is_stretch" s_is_stretch f fd) (hx : mg "is_stretch" = some (.ref f)) (b : Binds K fd ["thing"] []) (z_isinstance : mg "isinstance" = none) (z_len : mg "len" = none) (z_tuple : mg "tuple" = none) (D_is_whole : CallD P w K mg base 1 "is_whole" m_is_whole) : CallD P w K mg base 2 "is_stretch" m_is_stretch :=
 callD_of (k := 1) U hx b sc_is_stretch (fun cdv A out s H E hr hg =>
 (q_seq (q_if (PW.pt (q_or (q_not (q_tru (q_isi z_isinstance z_tuple (q_var 0)))) (q_or1 (q_cmpT (op_neS (hu64 hr)) (q_callB c_len z_len (q_pcons (q_var 0) q_nil)) q_int))))
 (q_last (q_ret q_bl))
 q_end)
 (q_last (q_ret (q_andV (q_callD [] D_is_whole hr hg (takesB (takes_of rfl rfl rfl rfl)) (q_pcons (q_ix (q_var 0) q_int) q_nil)) (q_andV (q_callD [] D_is_whole hr hg (takesB (takes_of rfl rfl rfl rfl)) (q_pcons (q_ix (q_var 0) q_int) q_nil)) (q_one (q_cmp (op_ltS) (q_ix (q_var 0) q_int) (q_ix (q_var 0) q_int)))))))))
abbrev s_is_box : Stmt := top 8
theorem sc_is_box : FnScope ["ways", "thing", "one"] ["ways", "thing"] (defScope s_is_box) := ⟨rfl, rfl, rfl, by decide +kernel, rfl, by decide +kernel, by decide +kernel⟩
theorem d_is_box {P : Program} {w : World} {K : PySem.W.Frag} {mg : Str → Option Value} {base : Heap} {f : Addr} {fd : FuncData} (U : Fun K "is_box" "is_box" s_is_box f fd) (hx : mg "is_box" = some (.ref f)) (b : Binds K fd ["ways", "thing"] []) (z_isinstance : mg "isinstance" = none) (z_len : mg "len" = none) (z_tuple : mg "tuple" = none) (D_is_stretch : CallD P w K mg base 2 "is_stretch" m_is_stretch) (D_is_ways : CallD P w K mg base 2 "is_ways" m_is_ways) : CallD P w K mg base 3 "is_box" m_is_box :=
 callD_of (k := 2) U hx b sc_is_box (fun cdv A out s H E hr hg =>
 (q_seq (q_if (PW.pt (q_or (q_not (q_tru (q_callD [] D_is_ways hr hg (takesB (takes_of rfl rfl rfl rfl)) (q_pcons (q_var 0) q_nil)))) (q_or (q_not (q_tru (q_isi z_isinstance z_tuple (q_var 1)))) (q_or1 (q_cmpT (op_neS (hu64 hr)) (q_callB c_len z_len (q_pcons (q_var 1) q_nil)) (q_var 0))))))
 (q_last (q_ret q_bl))
 q_end)
 (q_last (q_ret (q_cmp (op_eqS (hu64 hr)) (q_lc [("one", 2)] rfl sc_is_box.nd (q_iAny (q_var 1)) (by show blkC ["ways", "thing", "one"] (defScope s_is_box) _ _ = true; decide +kernel) (fun s H C cl fp => (q_gVar 2 sc_is_box.nd)) (fun s H C cl fp => (q_one1 (q_not (q_tru (q_callD [] D_is_stretch hr hg takes0 (q_pcons (q_var 2) q_nil)))))) (fun s H C cl fp => (q_var 2))) (q_lst q_nil))))))
abbrev s_is_heap : Stmt := top 9
theorem sc_is_heap : FnScope ["thing", "ways", "boxes", "box"] ["thing"] (defScope s_is_heap) := ⟨rfl, rfl, rfl, by decide +kernel, rfl, by decide +kernel, by decide +kernel⟩
theorem d_is_heap {P : Program} {w : World} {K : PySem.W.Frag} {mg : Str → Option Value} {base : Heap} {f : Addr} {fd : FuncData} (U : Fun K "is_heap" "is_heap" s_is_heap f fd) (hx : mg "is_heap" = some (.ref f)) (b : Binds K fd ["thing"] []) (z_isinstance : mg "isinstance" = none) (z_len : mg "len" = none) (z_list : mg "list" = none) (z_tuple : mg "tuple" = none) (D_is_box : CallD P w K mg base 3 "is_box" m_is_box) (D_is_ways : CallD P w K mg base 2 "is_ways" m_is_ways) (c_MOST_BOXES : Kon ⟨K, mg, P, w⟩ "MOST_BOXES" k_MOST_BOXES) : CallD P w K mg base 4 "is_heap" m_is_heap :=
 callD_of (k := 3) U hx b sc_is_heap (fun cdv A out s H E hr hg =>
 (q_seq (q_if (PW.pt (q_or (q_not (q_tru (q_isi z_isinstance z_tuple (q_var 0)))) (q_or (q_cmpT (op_neS (hu64 hr)) (q_callB c_len z_len (q_pcons (q_var 0) q_nil)) q_int) (q_or1 (q_not (q_tru (q_callD [] D_is_ways hr hg (takesB (takes_of rfl rfl rfl rfl)) (q_pcons (q_ix (q_var 0) q_int) q_nil))))))))
 (q_last (q_ret q_bl))
 q_end)
 (q_seq (q_asg (q_var 0) (q_gTup rfl (q_gCons (q_gVar 1 sc_is_heap.nd) (q_gCons (q_gVar 2 sc_is_heap.nd) q_gNil))))
 (q_seq (q_if (PW.pt (q_or (q_not (q_tru (q_isi z_isinstance z_list (q_var 2)))) (q_or1 (q_cmpT (op_gtS) (q_callB c_len z_len (q_pcons (q_var 2) q_nil)) (q_ix (q_kon c_MOST_BOXES) (q_var 1))))))
 (q_last (q_ret q_bl))
 q_end)
 (q_last (q_ret (q_cmp (op_eqS (hu64 hr)) (q_lc [("box", 3)] rfl sc_is_heap.nd (q_iAny (q_var 2)) (by show blkC ["thing", "ways", "boxes", "box"] (defScope s_is_heap) _ _ = true; decide +kernel) (fun s H C cl fp => (q_gVar 3 sc_is_heap.nd)) (fun s H C cl fp => (q_one1 (q_not (q_tru (q_callD [] D_is_box hr hg takes0 (q_pcons (q_var 1) (q_pcons (q_var 3) q_nil))))))) (fun s H C cl fp => (q_var 3))) (q_lst q_nil))))))))
abbrev s_need_heap : Stmt := top 10
theorem sc_need_heap : FnScope ["thing"] ["thing"] (defScope s_need_heap) := ⟨rfl, rfl, rfl, by decide +kernel, rfl, by decide +kernel, by decide +kernel⟩
theorem d_need_heap {P : Program} {w : World} {K : PySem.W.Frag} {mg : Str → Option Value} {base : Heap} {f : Addr} {fd : FuncData} (U : Fun K "need_heap" "need_heap" s_need_heap f fd) (hx : mg "need_heap" = some (.ref f)) (b : Binds K fd ["thing"] []) (D_is_heap : CallD P w K mg base 4 "is_heap" m_is_heap) (x_NoHeap : ExcK K mg "NoHeap") : CallD P w K mg base 5 "need_heap" m_need_heap :=
 callD_of (k := 4) U hx b sc_need_heap (fun cdv A out s H E hr hg =>
 (q_last (q_if (q_not (q_tru (q_callD [] D_is_heap hr hg (takesB (takes_of rfl rfl rfl rfl)) (q_pcons (q_var 0) q_nil))))
 (q_last (q_raise rfl (takesB (takes_of rfl rfl rfl rfl)) x_NoHeap))
 q_end)))
abbrev s_marks_of : Stmt := top 11
theorem sc_marks_of : FnScope ["boxes", "way", "box"] ["boxes", "way"] (defScope s_marks_of) := ⟨rfl, rfl, rfl, by decide +kernel, rfl, by decide +kernel, by decide +kernel⟩
theorem d_marks_of {P : Program} {w : World} {K : PySem.W.Frag} {mg : Str → Option Value} {base : Heap} {f : Addr} {fd : FuncData} (U : Fun K "marks_of" "marks_of" s_marks_of f fd) (hx : mg "marks_of" = some (.ref f)) (b : Binds K fd ["boxes", "way"] []) (z_set : mg "set" = none) (z_sorted : mg "sorted" = none) : CallD P w K mg base 1 "marks_of" m_marks_of :=
 callD_of (k := 0) U hx b sc_marks_of (fun cdv A out s H E hr hg =>
 (q_last (q_ret (q_sset rfl z_sorted z_set (q_bin op_addS (q_lc [("box", 2)] rfl sc_marks_of.nd (q_iAny (q_var 0)) (by show blkC ["boxes", "way", "box"] (defScope s_marks_of) _ _ = true; decide +kernel) (fun s H C cl fp => (q_gVar 2 sc_marks_of.nd)) (fun s H C cl fp => q_yes) (fun s H C cl fp => (q_ix (q_ix (q_var 2) (q_var 1)) q_int))) (q_lc [("box", 2)] rfl sc_marks_of.nd (q_iAny (q_var 0)) (by show blkC ["boxes", "way", "box"] (defScope s_marks_of) _ _ = true; decide +kernel) (fun s H C cl fp => (q_gVar 2 sc_marks_of.nd)) (fun s H C cl fp => q_yes) (fun s H C cl fp => (q_ix (q_ix (q_var 2) (q_var 1)) q_int))))))))
abbrev s_cut_apart : Stmt := top 12
theorem sc_cut_apart : FnScope ["rows", "ways", "found", "marks", "low", "high", "there", "number", "left", "box", "numbers"] ["rows", "ways"] (defScope s_cut_apart) := ⟨rfl, rfl, rfl, by decide +kernel, rfl, by decide +kernel, by decide +kernel⟩
theorem d_cut_apart {P : Program} {w : World} {K : PySem.W.Frag} {mg : Str → Option Value} {base : Heap} {f : Addr} {fd : FuncData} (U : Fun K "cut_apart" "cut_apart" s_cut_apart f fd) (hx : mg "cut_apart" = some (.ref f)) (b : Binds K fd ["rows", "ways"] []) (z_zip : mg "zip" = none) (D_marks_of : CallD P w K mg base 1 "marks_of" m_marks_of) : ∀ n : Nat, CallD P w K mg base (2 + n) "cut_apart" (m_cut_apart n)
  | 0 => callD_bad _ U hx b
  | n + 1 => callD_of (k := 2 + n) U hx b sc_cut_apart (fun cdv A out s H E hr hg => by
 have D : CallD P w K mg base (2 + n) "cut_apart" (m_cut_apart n) := d_cut_apart U hx b z_zip D_marks_of n
 exact (q_seq (q_if (q_cmpT (op_eqS (hu64 hr)) (q_var 1) q_int)
 (q_last (q_ret (q_lst (q_pcons (q_tup (q_pcons (q_tup q_nil) (q_pcons (q_esc (q_lc [("number", 7), ("left", 8)] rfl sc_cut_apart.nd (q_iAny (q_var 0)) (by show blkC ["rows", "ways", "found", "marks", "low", "high", "there", "number", "left", "box", "numbers"] (defScope s_cut_apart) _ _ = true; decide +kernel) (fun s H C cl fp => (q_gTup rfl (q_gCons (q_gVar 7 sc_cut_apart.nd) (q_gCons (q_gVar 8 sc_cut_apart.nd) q_gNil)))) (fun s H C cl fp => q_yes) (fun s H C cl fp => (q_var 7)))) q_nil))) q_nil))))
 q_end)
 (q_seq (q_own 2 sc_cut_apart.nd (q_lst q_nil))
 (q_seq (q_set 3 sc_cut_apart.nd (q_esc (q_callD [] D_marks_of hr hg (takesB (takes_of rfl rfl rfl rfl)) (q_pcons (q_esc (q_lc [("number", 7), ("left", 8)] rfl sc_cut_apart.nd (q_iAny (q_var 0)) (by show blkC ["rows", "ways", "found", "marks", "low", "high", "there", "number", "left", "box", "numbers"] (defScope s_cut_apart) _ _ = true; decide +kernel) (fun s H C cl fp => (q_gTup rfl (q_gCons (q_gVar 7 sc_cut_apart.nd) (q_gCons (q_gVar 8 sc_cut_apart.nd) q_gNil)))) (fun s H C cl fp => q_yes) (fun s H C cl fp => (q_var 8)))) (q_pcons q_int q_nil)) (by omega))))
 (q_seq (q_fgt1 [4, 5, 6] (q_for (passes_of rfl) rfl (q_iZp z_zip (q_pcons (q_var 3) (q_pcons (q_esc (q_slice (q_var 3) (qo_some q_int) qo_none)) q_nil))) (q_gTup rfl (q_gCons (q_gVar 4 sc_cut_apart.nd) (q_gCons (q_gVar 5 sc_cut_apart.nd) q_gNil)))
 (q_fgt [6, 4, 5] (q_seq (q_setLc 6 [("number", 7), ("left", 8)] rfl sc_cut_apart.nd (q_iAny (q_var 0)) (by show blkC ["rows", "ways", "found", "marks", "low", "high", "there", "number", "left", "box", "numbers"] (defScope s_cut_apart) _ _ = true; decide +kernel) (fun s H C cl fp => (q_gTup rfl (q_gCons (q_gVar 7 sc_cut_apart.nd) (q_gCons (q_gVar 8 sc_cut_apart.nd) q_gNil)))) (fun s H C cl fp => (q_one1 (PW.pt (q_and (q_cmpT (op_leS) (q_ix (q_ix (q_var 8) q_int) q_int) (q_var 4)) (q_and1 (q_cmpT (op_leS) (q_var 5) (q_ix (q_ix (q_var 8) q_int) q_int))))))) (fun s H C cl fp => (q_tup (q_pcons (q_var 7) (q_pcons (q_esc (q_slice (q_var 8) (qo_some q_int) qo_none)) q_nil)))))
 (q_last (q_if (q_cmpT (op_neS (hu64 hr)) (q_var 6) (q_lst q_nil))
 (q_last (q_expr (q_meth 2 PySem.F.plainAttrs_list PySem.F.slot_list_extend PySem.F.type_list_extend mt_extS len_ext (q_pcons (q_esc (q_lc [("box", 9), ("numbers", 10)] rfl sc_cut_apart.nd (q_iAny (q_esc (q_callD [] D hr hg (takesB (takes_of rfl rfl rfl rfl)) (q_pcons (q_var 6) (q_pcons (q_bin op_subS (q_var 1) q_int) q_nil)) (by omega)))) (by show blkC ["rows", "ways", "found", "marks", "low", "high", "there", "number", "left", "box", "numbers"] (defScope s_cut_apart) _ _ = true; decide +kernel) (fun s H C cl fp => (q_gTup rfl (q_gCons (q_gVar 9 sc_cut_apart.nd) (q_gCons (q_gVar 10 sc_cut_apart.nd) q_gNil)))) (fun s H C cl fp => q_yes) (fun s H C cl fp => (q_tup (q_pcons (q_esc (q_bin op_addS (q_tup (q_pcons (q_tup (q_pcons (q_var 4) (q_pcons (q_var 5) q_nil))) q_nil)) (q_var 9))) (q_pcons (q_var 10) q_nil)))))) q_nil))))
 q_end))))))
 (q_last (q_ret (q_var 2))))))))
theorem dT_cut_apart {P : Program} {w : World} {K : PySem.W.Frag} {mg : Str → Option Value} {base : Heap} {f : Addr} {fd : FuncData} (U : Fun K "cut_apart" "cut_apart" s_cut_apart f fd) (hx : mg "cut_apart" = some (.ref f)) (b : Binds K fd ["rows", "ways"] []) (z_zip : mg "zip" = none) (D_marks_of : CallD P w K mg base 1 "marks_of" m_marks_of) : ∀ n : Nat, CallT P w K mg base (2 + n) "cut_apart" (m_cutT n)
  | 0 => callT_bad _ U hx b
  | n + 1 => callT_of (k := 2 + n) U hx b sc_cut_apart (fun cdv A out s H E hr hg => by
 have DT : CallT P w K mg base (2 + n) "cut_apart" (m_cutT n) := dT_cut_apart U hx b z_zip D_marks_of n
 exact (q_seqT (q_ifT (q_cmpT (op_eqS (hu64 hr)) (q_var 1) q_int) (q_lastT (q_retT (q_baseT (q_tup q_nil) (q_lc [("number", 7), ("left", 8)] rfl sc_cut_apart.nd (q_iAny (q_var 0)) (by show blkC ["rows", "ways", "found", "marks", "low", "high", "there", "number", "left", "box", "numbers"] (defScope s_cut_apart) _ _ = true; decide +kernel) (fun s H C cl fp => (q_gTup rfl (q_gCons (q_gVar 7 sc_cut_apart.nd) (q_gCons (q_gVar 8 sc_cut_apart.nd) q_gNil)))) (fun s H C cl fp => q_yes) (fun s H C cl fp => (q_var 7)))))) q_endT)
 (q_seqT (q_liftT (q_setT 2 sc_cut_apart.nd q_nilT))
 (q_seqT (q_liftT (q_set 3 sc_cut_apart.nd (q_esc (q_callD [] D_marks_of hr hg (takesB (takes_of rfl rfl rfl rfl)) (q_pcons (q_esc (q_lc [("number", 7), ("left", 8)] rfl sc_cut_apart.nd (q_iAny (q_var 0)) (by show blkC ["rows", "ways", "found", "marks", "low", "high", "there", "number", "left", "box", "numbers"] (defScope s_cut_apart) _ _ = true; decide +kernel) (fun s H C cl fp => (q_gTup rfl (q_gCons (q_gVar 7 sc_cut_apart.nd) (q_gCons (q_gVar 8 sc_cut_apart.nd) q_gNil)))) (fun s H C cl fp => q_yes) (fun s H C cl fp => (q_var 8)))) (q_pcons q_int q_nil)) (by omega)))))
 (q_seqT (q_liftT (q_fgt1 [4, 5, 6] (q_for (passes_of rfl) rfl (q_iZp z_zip (q_pcons (q_var 3) (q_pcons (q_esc (q_slice (q_var 3) (qo_some q_int) qo_none)) q_nil))) (q_gTup rfl (q_gCons (q_gVar 4 sc_cut_apart.nd) (q_gCons (q_gVar 5 sc_cut_apart.nd) q_gNil)))
 (q_fgt [6, 4, 5] (q_seq (q_setLc 6 [("number", 7), ("left", 8)] rfl sc_cut_apart.nd (q_iAny (q_var 0)) (by show blkC ["rows", "ways", "found", "marks", "low", "high", "there", "number", "left", "box", "numbers"] (defScope s_cut_apart) _ _ = true; decide +kernel) (fun s H C cl fp => (q_gTup rfl (q_gCons (q_gVar 7 sc_cut_apart.nd) (q_gCons (q_gVar 8 sc_cut_apart.nd) q_gNil)))) (fun s H C cl fp => (q_one1 (PW.pt (q_and (q_cmpT (op_leS) (q_ix (q_ix (q_var 8) q_int) q_int) (q_var 4)) (q_and1 (q_cmpT (op_leS) (q_var 5) (q_ix (q_ix (q_var 8) q_int) q_int))))))) (fun s H C cl fp => (q_tup (q_pcons (q_var 7) (q_pcons (q_esc (q_slice (q_var 8) (qo_some q_int) qo_none)) q_nil)))))
 (q_last (q_if (q_cmpT (op_neS (hu64 hr)) (q_var 6) (q_lst q_nil))
 (q_last (q_extT 2 9 10 rfl sc_cut_apart.nd PySem.F.plainAttrs_list PySem.F.slot_list_extend PySem.F.type_list_extend pure_low (q_callT DT hr hg (takesB (takes_of rfl rfl rfl rfl)) (q_pcons (q_var 6) (q_pcons (q_bin op_subS (q_var 1) q_int) q_nil)) (by omega)) (by show blkC ["rows", "ways", "found", "marks", "low", "high", "there", "number", "left", "box", "numbers"] (defScope s_cut_apart) _ _ = true; decide +kernel)
 (fun s H C cl fp => pg_tup rfl (pgs_cons (pg_name sc_cut_apart.nd (by rfl) (by first | exact Or.inl rfl | exact Or.inr rfl)) (pgs_cons (pg_name sc_cut_apart.nd (by rfl) (by first | exact Or.inl rfl | exact Or.inr rfl)) pgs_nil)))
 (fun s H C cl fp => pe_tup (pa_cons (q_bin op_addS (q_tup (q_pcons (q_tup (q_pcons (q_var 4) (q_pcons (q_var 5) q_nil))) q_nil)) (q_var 9)) (pa_cons (pe_var (i := 10) (by rfl) (by first | exact Or.inl rfl | exact Or.inr (Or.inl rfl) | exact Or.inr (Or.inr rfl))) pa_nil)))))
 q_end)))))))
 (q_lastT (q_retTV 2)))))))
abbrev s_cells_of : Stmt := top 13
theorem sc_cells_of : FnScope ["heap"] ["heap"] (defScope s_cells_of) := ⟨rfl, rfl, rfl, by decide +kernel, rfl, by decide +kernel, by decide +kernel⟩
theorem d_cells_of {P : Program} {w : World} {K : PySem.W.Frag} {mg : Str → Option Value} {base : Heap} {f : Addr} {fd : FuncData} (U : Fun K "cells_of" "cells_of" s_cells_of f fd) (hx : mg "cells_of" = some (.ref f)) (b : Binds K fd ["heap"] []) (z_enumerate : mg "enumerate" = none) (z_list : mg "list" = none) (D_cut_apart : CallD P w K mg base 10 "cut_apart" (m_cut_apart 8)) : CallD P w K mg base 11 "cells_of" m_cells_of :=
 callD_of (k := 10) U hx b sc_cells_of (fun cdv A out s H E hr hg =>
 (q_last (q_ret (q_ifx (q_cmpT (op_neS (hu64 hr)) (q_ix (q_var 0) q_int) (q_lst q_nil)) (q_callD [] D_cut_apart hr hg (takesB (takes_of rfl rfl rfl rfl)) (q_pcons (q_esc (q_lenm rfl z_list z_enumerate (q_pcons (q_ix (q_var 0) q_int) q_nil))) (q_pcons (q_ix (q_var 0) q_int) q_nil))) (q_lst q_nil)))))
theorem dT_cells_of {P : Program} {w : World} {K : PySem.W.Frag} {mg : Str → Option Value} {base : Heap} {f : Addr} {fd : FuncData} (U : Fun K "cells_of" "cells_of" s_cells_of f fd) (hx : mg "cells_of" = some (.ref f)) (b : Binds K fd ["heap"] []) (z_enumerate : mg "enumerate" = none) (z_list : mg "list" = none) (DT_cut_apart : CallT P w K mg base 10 "cut_apart" (m_cutT 8)) : CallT P w K mg base 11 "cells_of" m_cellsT :=
 callT_of (k := 10) U hx b sc_cells_of (fun cdv A out s H E hr hg =>
 (q_lastT (q_retT (q_ifxT (q_cmpT (op_neS (hu64 hr)) (q_ix (q_var 0) q_int) (q_lst q_nil)) (q_callT DT_cut_apart hr hg (takesB (takes_of rfl rfl rfl rfl)) (q_pcons (q_esc (q_lenm rfl z_list z_enumerate (q_pcons (q_ix (q_var 0) q_int) q_nil))) (q_pcons (q_ix (q_var 0) q_int) q_nil))) q_nilT))))
abbrev s_paper_of : Stmt := top 15
theorem sc_paper_of : FnScope ["heap"] ["heap"] (defScope s_paper_of) := ⟨rfl, rfl, rfl, by decide +kernel, rfl, by decide +kernel, by decide +kernel⟩
theorem d_paper_of {P : Program} {w : World} {K : PySem.W.Frag} {mg : Str → Option Value} {base : Heap} {f : Addr} {fd : FuncData} (U : Fun K "paper_of" "paper_of" s_paper_of f fd) (hx : mg "paper_of" = some (.ref f)) (b : Binds K fd ["heap"] []) (D_cells_of : CallD P w K mg base 11 "cells_of" m_cells_of) (D_need_heap : CallD P w K mg base 5 "need_heap" m_need_heap) : CallD P w K mg base 12 "paper_of" m_paper_of :=
 callD_of (k := 11) U hx b sc_paper_of (fun cdv A out s H E hr hg =>
 (q_seq (q_expr (q_callD [] D_need_heap hr hg (takesB (takes_of rfl rfl rfl rfl)) (q_pcons (q_var 0) q_nil)))
 (q_last (q_ret (q_callD [] D_cells_of hr hg (takesB (takes_of rfl rfl rfl rfl)) (q_pcons (q_var 0) q_nil))))))
theorem dT_paper_of {P : Program} {w : World} {K : PySem.W.Frag} {mg : Str → Option Value} {base : Heap} {f : Addr} {fd : FuncData} (U : Fun K "paper_of" "paper_of" s_paper_of f fd) (hx : mg "paper_of" = some (.ref f)) (b : Binds K fd ["heap"] []) (D_need_heap : CallD P w K mg base 5 "need_heap" m_need_heap) (DT_cells_of : CallT P w K mg base 11 "cells_of" m_cellsT) : CallT P w K mg base 12 "paper_of" m_paperT :=
 callT_of (k := 11) U hx b sc_paper_of (fun cdv A out s H E hr hg =>
 (q_seqT (q_liftT (q_expr (q_callD [] D_need_heap hr hg (takesB (takes_of rfl rfl rfl rfl)) (q_pcons (q_var 0) q_nil))))
 (q_lastT (q_retT (q_callT DT_cells_of hr hg (takesB (takes_of rfl rfl rfl rfl)) (q_pcons (q_var 0) q_nil))))))
abbrev s__law_well : Stmt := top 17
theorem sc__law_well : FnScope ["cell"] ["cell"] (defScope s__law_well) := ⟨rfl, rfl, rfl, by decide +kernel, rfl, by decide +kernel, by decide +kernel⟩
theorem d__law_well {P : Program} {w : World} {K : PySem.W.Frag} {mg : Str → Option Value} {base : Heap} {f : Addr} {fd : FuncData} (U : Fun K "_law_well" "_law_well" s__law_well f fd) (hx : mg "_law_well" = some (.ref f)) (b : Binds K fd ["cell"] []) : CallD P w K mg base 1 "_law_well" m__law_well :=
 callD_of (k := 0) U hx b sc__law_well (fun cdv A out s H E hr hg =>
 (q_seq (q_if (q_cmpT (op_geS) (q_var 0) (q_bin op_powS q_int q_int))
 (q_last (q_ret (q_lst (q_pcons (q_var 0) (q_pcons (q_bin op_modS (q_var 0) q_int) q_nil)))))
 q_end)
 (q_last (q_ret (q_lst (q_pcons q_int (q_pcons (q_bin op_modS (q_var 0) q_int) q_nil)))))))
abbrev s__law_draw : Stmt := top 18
theorem sc__law_draw : FnScope ["well", "many", "got", "stirred"] ["well", "many"] (defScope s__law_draw) := ⟨rfl, rfl, rfl, by decide +kernel, rfl, by decide +kernel, by decide +kernel⟩
theorem d__law_draw {P : Program} {w : World} {K : PySem.W.Frag} {mg : Str → Option Value} {base : Heap} {f : Addr} {fd : FuncData} (U : Fun K "_law_draw" "_law_draw" s__law_draw f fd) (hx : mg "_law_draw" = some (.ref f)) (b : Binds K fd ["well", "many"] []) (z_int : mg "int" = none) : CallD P w K mg base 1 "_law_draw" m__law_draw :=
 callD_of (k := 0) U hx b sc__law_draw (fun cdv A out s H E hr hg =>
 (q_seq (q_fgt1 [2] (q_if (q_cmpT (op_gtS) (q_ix (q_var 0) q_int) q_int)
 (q_seq (q_set 2 sc__law_draw.nd (q_bin op_modS (q_ix (q_var 0) q_int) (q_var 1)))
 (q_seq (q_asg (q_bin op_fdivS (q_ix (q_var 0) q_int) (q_var 1)) (q_gSto (W := W0) 0 q_int))
 (q_last (q_ret (q_var 2)))))
 q_end))
 (q_seq (q_set 3 sc__law_draw.nd (q_bin op_modS (q_bin op_addS (q_bin op_mulS (q_ix (q_var 0) q_int) q_int) q_int) q_int))
 (q_seq (q_set 3 sc__law_draw.nd (q_bin op_modS (q_bin op_mulS (q_var 3) (q_var 3)) q_int))
 (q_seq (q_asg (q_bin op_modS (q_bin op_addS (q_bin op_mulS (q_var 3) q_int) q_int) q_int) (q_gSto (W := W0) 0 q_int))
 (q_last (q_ret (q_bin op_modS (q_bin op_mulS (q_bin op_fdivS (q_ix (q_var 0) q_int) q_int) (q_ix (q_lst (q_pcons q_int (q_pcons q_int q_nil))) (q_callTy c_int z_int (q_pcons (q_cmp (op_gtS) (q_var 1) (q_bin op_powS q_int q_int)) q_nil)))) (q_var 1)))))))))
abbrev s__law_marks : Stmt := top 19
theorem sc__law_marks : FnScope ["well", "many", "far", "way", "some", "k"] ["well", "many"] (defScope s__law_marks) := ⟨rfl, rfl, rfl, by decide +kernel, rfl, by decide +kernel, by decide +kernel⟩
theorem d__law_marks {P : Program} {w : World} {K : PySem.W.Frag} {mg : Str → Option Value} {base : Heap} {f : Addr} {fd : FuncData} (U : Fun K "_law_marks" "_law_marks" s__law_marks f fd) (hx : mg "_law_marks" = some (.ref f)) (b : Binds K fd ["well", "many"] []) (z_list : mg "list" = none) (z_range : mg "range" = none) (z_set : mg "set" = none) (z_sorted : mg "sorted" = none) (D__law_draw : CallD P w K mg base 1 "_law_draw" m__law_draw) : CallD P w K mg base 2 "_law_marks" m__law_marks :=
 callD_of (k := 1) U hx b sc__law_marks (fun cdv A out s H E hr hg =>
 (q_seq (q_set 2 sc__law_marks.nd (q_bin op_addS (q_bin op_subS (q_callD [0] D__law_draw hr hg (takesB (takes_of rfl rfl rfl rfl)) (q_pcons (q_var 0) (q_pcons (q_bin op_subS (q_bin op_mulS q_int (q_bin op_powS q_int q_int)) q_int) q_nil))) (q_bin op_powS q_int q_int)) q_int))
 (q_seq (q_set 3 sc__law_marks.nd (q_callD [0] D__law_draw hr hg (takesB (takes_of rfl rfl rfl rfl)) (q_pcons (q_var 0) (q_pcons q_int q_nil))))
 (q_seq (q_if (q_cmpT (op_ltS) (q_var 3) q_int)
 (q_last (q_ret (q_ix (q_lst (q_pcons (q_esc (q_lrg1 rfl z_list z_range q_int)) (q_pcons (q_esc (q_lrg2 rfl z_list z_range (q_un un_negS q_int) q_int)) q_nil))) (q_var 3))))
 q_end)
 (q_seq (q_if (q_cmpT (op_eqS (hu64 hr)) (q_var 3) q_int)
 (q_last (q_ret (q_lrg2 rfl z_list z_range (q_var 2) (q_bin op_addS (q_var 2) q_int))))
 q_end)
 (q_seq (q_setLc 4 [("k", 5)] rfl sc__law_marks.nd (q_iRng1 z_range (q_pcons (q_bin op_addS q_int (q_var 1)) q_nil)) (by show blkC ["well", "many", "far", "way", "some", "k"] (defScope s__law_marks) _ _ = true; decide +kernel) (fun s H C cl fp => (q_gVar 5 sc__law_marks.nd)) (fun s H C cl fp => q_yes) (fun s H C cl fp => (q_bin op_subS (q_callD [0] D__law_draw hr hg takes0 (q_pcons (q_var 0) (q_pcons (q_bin op_addS (q_bin op_mulS q_int (q_bin op_powS q_int q_int)) q_int) q_nil))) (q_bin op_powS q_int q_int))))
 (q_seq (q_if (q_cmpT (op_eqS (hu64 hr)) (q_var 3) q_int)
 (q_last (q_set 4 sc__law_marks.nd (q_esc (q_bin op_addS (q_var 4) (q_lst (q_pcons (q_un un_negS (q_bin op_powS q_int q_int)) (q_pcons (q_bin op_powS q_int q_int) q_nil)))))))
 q_end)
 (q_last (q_ret (q_sset rfl z_sorted z_set (q_bin op_addS (q_var 4) (q_lst (q_pcons (q_var 2) (q_pcons (q_esc (q_bin op_addS (q_var 2) q_int)) q_nil))))))))))))))
abbrev s__law_stretch : Stmt := top 20
theorem sc__law_stretch : FnScope ["well", "marks", "at"] ["well", "marks"] (defScope s__law_stretch) := ⟨rfl, rfl, rfl, by decide +kernel, rfl, by decide +kernel, by decide +kernel⟩
theorem d__law_stretch {P : Program} {w : World} {K : PySem.W.Frag} {mg : Str → Option Value} {base : Heap} {f : Addr} {fd : FuncData} (U : Fun K "_law_stretch" "_law_stretch" s__law_stretch f fd) (hx : mg "_law_stretch" = some (.ref f)) (b : Binds K fd ["well", "marks"] []) (z_len : mg "len" = none) (D__law_draw : CallD P w K mg base 1 "_law_draw" m__law_draw) : CallD P w K mg base 2 "_law_stretch" m__law_stretch :=
 callD_of (k := 1) U hx b sc__law_stretch (fun cdv A out s H E hr hg =>
 (q_seq (q_set 2 sc__law_stretch.nd (q_callD [0] D__law_draw hr hg (takesB (takes_of rfl rfl rfl rfl)) (q_pcons (q_var 0) (q_pcons (q_bin op_subS (q_callB c_len z_len (q_pcons (q_var 1) q_nil)) q_int) q_nil))))
 (q_last (q_ret (q_tup (q_pcons (q_ix (q_var 1) (q_var 2)) (q_pcons (q_ix (q_var 1) (q_bin op_addS (q_bin op_addS (q_var 2) q_int) (q_callD [0] D__law_draw hr hg (takesB (takes_of rfl rfl rfl rfl)) (q_pcons (q_var 0) (q_pcons (q_bin op_subS (q_bin op_subS (q_callB c_len z_len (q_pcons (q_var 1) q_nil)) q_int) (q_var 2)) q_nil))))) q_nil)))))))
abbrev s__law_near : Stmt := top 21
theorem sc__law_near : FnScope ["well", "box", "marks", "way", "at", "low", "high", "inner", "one"] ["well", "box", "marks"] (defScope s__law_near) := ⟨rfl, rfl, rfl, by decide +kernel, rfl, by decide +kernel, by decide +kernel⟩
theorem d__law_near {P : Program} {w : World} {K : PySem.W.Frag} {mg : Str → Option Value} {base : Heap} {f : Addr} {fd : FuncData} (U : Fun K "_law_near" "_law_near" s__law_near f fd) (hx : mg "_law_near" = some (.ref f)) (b : Binds K fd ["well", "box", "marks"] []) (z_len : mg "len" = none) (z_tuple : mg "tuple" = none) (D__law_draw : CallD P w K mg base 1 "_law_draw" m__law_draw) (D__law_stretch : CallD P w K mg base 2 "_law_stretch" m__law_stretch) : CallD P w K mg base 3 "_law_near" m__law_near :=
 callD_of (k := 2) U hx b sc__law_near (fun cdv A out s H E hr hg =>
 (q_seq (q_set 3 sc__law_near.nd (q_callD [0] D__law_draw hr hg (takesB (takes_of rfl rfl rfl rfl)) (q_pcons (q_var 0) (q_pcons q_int q_nil))))
 (q_seq (q_set 4 sc__law_near.nd (q_callD [0] D__law_draw hr hg (takesB (takes_of rfl rfl rfl rfl)) (q_pcons (q_var 0) (q_pcons (q_callB c_len z_len (q_pcons (q_var 1) q_nil)) q_nil))))
 (q_seq (q_asg (q_ix (q_var 1) (q_var 4)) (q_gTup rfl (q_gCons (q_gVar 5 sc__law_near.nd) (q_gCons (q_gVar 6 sc__law_near.nd) q_gNil))))
 (q_seq (q_if (q_cmpT (op_eqS (hu64 hr)) (q_var 3) q_int)
 (q_last (q_ret (q_bin op_addS (q_bin op_addS (q_slice (q_var 1) qo_none (qo_some (q_var 4))) (q_tup (q_pcons (q_tup (q_pcons (q_var 6) (q_pcons (q_esc (q_bin op_addS (q_bin op_addS (q_var 6) q_int) (q_callD [0] D__law_draw hr hg (takesB (takes_of rfl rfl rfl rfl)) (q_pcons (q_var 0) (q_pcons q_int q_nil))))) q_nil))) q_nil))) (q_slice (q_var 1) (qo_some (q_bin op_addS (q_var 4) q_int)) qo_none))))
 q_end)
 (q_seq (q_fgt1 [7] (q_if (q_cmpT (op_eqS (hu64 hr)) (q_var 3) q_int)
 (q_seq (q_set 7 sc__law_near.nd (q_esc (q_bin op_addS (q_var 5) (q_callD [0] D__law_draw hr hg (takesB (takes_of rfl rfl rfl rfl)) (q_pcons (q_var 0) (q_pcons (q_bin op_subS (q_var 6) (q_var 5)) q_nil))))))
 (q_last (q_ret (q_bin op_addS (q_bin op_addS (q_slice (q_var 1) qo_none (qo_some (q_var 4))) (q_tup (q_pcons (q_tup (q_pcons (q_var 7) (q_pcons (q_var 6) q_nil))) q_nil))) (q_slice (q_var 1) (qo_some (q_bin op_addS (q_var 4) q_int)) qo_none)))))
 q_end))
 (q_seq (q_if (q_cmpT (op_eqS (hu64 hr)) (q_var 3) q_int)
 (q_last (q_ret (q_bin op_addS (q_bin op_addS (q_slice (q_var 1) qo_none (qo_some (q_var 4))) (q_tup (q_pcons (q_callD [0] D__law_stretch hr hg (takesB (takes_of rfl rfl rfl rfl)) (q_pcons (q_var 0) (q_pcons (q_ix (q_var 2) (q_var 4)) q_nil))) q_nil))) (q_slice (q_var 1) (qo_some (q_bin op_addS (q_var 4) q_int)) qo_none))))
 q_end)
 (q_seq (q_if (q_cmpT (op_eqS (hu64 hr)) (q_var 3) q_int)
 (q_last (q_ret (q_bin op_addS (q_bin op_addS (q_slice (q_var 1) qo_none (qo_some (q_var 4))) (q_tup (q_pcons (q_tup (q_pcons (q_bin op_subS (q_bin op_subS (q_var 5) q_int) (q_callD [0] D__law_draw hr hg (takesB (takes_of rfl rfl rfl rfl)) (q_pcons (q_var 0) (q_pcons q_int q_nil)))) (q_pcons (q_var 5) q_nil))) q_nil))) (q_slice (q_var 1) (qo_some (q_bin op_addS (q_var 4) q_int)) qo_none))))
 q_end)
 (q_seq (q_if (q_cmpT (op_eqS (hu64 hr)) (q_var 3) q_int)
 (q_last (q_ret (q_callTy c_tup z_tuple (q_pcons (q_lc [("one", 8)] rfl sc__law_near.nd (q_iAny (q_var 1)) (by show blkC ["well", "box", "marks", "way", "at", "low", "high", "inner", "one"] (defScope s__law_near) _ _ = true; decide +kernel) (fun s H C cl fp => (q_gVar 8 sc__law_near.nd)) (fun s H C cl fp => q_yes) (fun s H C cl fp => (q_tup (q_pcons (q_ix (q_var 8) q_int) (q_pcons (q_esc (q_bin op_addS (q_ix (q_var 8) q_int) q_int)) q_nil))))) q_nil))))
 q_end)
 (q_last (q_ret (q_var 1))))))))))))
abbrev s__law_heap : Stmt := top 22
theorem sc__law_heap : FnScope ["well", "ways", "most", "many", "marks", "boxes", "alike", "k", "box", "way", "low", "high"] ["well", "ways", "most"] (defScope s__law_heap) := ⟨rfl, rfl, rfl, by decide +kernel, rfl, by decide +kernel, by decide +kernel⟩
theorem d__law_heap {P : Program} {w : World} {K : PySem.W.Frag} {mg : Str → Option Value} {base : Heap} {f : Addr} {fd : FuncData} (U : Fun K "_law_heap" "_law_heap" s__law_heap f fd) (hx : mg "_law_heap" = some (.ref f)) (b : Binds K fd ["well", "ways", "most"] []) (z_abs : mg "abs" = none) (z_len : mg "len" = none) (z_max : mg "max" = none) (z_min : mg "min" = none) (z_range : mg "range" = none) (z_tuple : mg "tuple" = none) (D__law_draw : CallD P w K mg base 1 "_law_draw" m__law_draw) (D__law_marks : CallD P w K mg base 2 "_law_marks" m__law_marks) (D__law_near : CallD P w K mg base 3 "_law_near" m__law_near) (D__law_stretch : CallD P w K mg base 2 "_law_stretch" m__law_stretch) : CallD P w K mg base 4 "_law_heap" m__law_heap :=
 callD_of (k := 3) U hx b sc__law_heap (fun cdv A out s H E hr hg =>
 (q_seq (q_set 3 sc__law_heap.nd (q_ix (q_lst (q_pcons (q_callD [0] D__law_draw hr hg (takesB (takes_of rfl rfl rfl rfl)) (q_pcons (q_var 0) (q_pcons (q_bin op_addS (q_callB (c_min rfl) z_min (q_pcons (q_var 2) (q_pcons q_int q_nil))) q_int) q_nil))) (q_pcons (q_callD [0] D__law_draw hr hg (takesB (takes_of rfl rfl rfl rfl)) (q_pcons (q_var 0) (q_pcons (q_esc (q_bin op_addS (q_var 2) q_int)) q_nil))) (q_pcons (q_var 2) q_nil)))) (q_callD [0] D__law_draw hr hg (takesB (takes_of rfl rfl rfl rfl)) (q_pcons (q_var 0) (q_pcons q_int q_nil)))))
 (q_seq (q_set 4 sc__law_heap.nd (q_esc (q_lc [("way", 9)] rfl sc__law_heap.nd (q_iRng1 z_range (q_pcons (q_var 1) q_nil)) (by show blkC ["well", "ways", "most", "many", "marks", "boxes", "alike", "k", "box", "way", "low", "high"] (defScope s__law_heap) _ _ = true; decide +kernel) (fun s H C cl fp => (q_gVar 9 sc__law_heap.nd)) (fun s H C cl fp => q_yes) (fun s H C cl fp => (q_esc (q_callD [0] D__law_marks hr hg takes0 (q_pcons (q_var 0) (q_pcons (q_var 3) q_nil))))))))
 (q_seq (q_own 5 sc__law_heap.nd (q_lst q_nil))
 (q_seq (q_set 6 sc__law_heap.nd (q_callD [0] D__law_draw hr hg (takesB (takes_of rfl rfl rfl rfl)) (q_pcons (q_var 0) (q_pcons q_int q_nil))))
 (q_seq (q_fgt1 [7, 8] (q_for (passes_of rfl) rfl (q_iRng1 z_range (q_pcons (q_var 3) q_nil)) (q_gVar 7 sc__law_heap.nd)
 (q_fgt [8, 7] (q_seq (q_set 8 sc__law_heap.nd (q_callTy c_tup z_tuple (q_pcons (q_lc [("way", 9)] rfl sc__law_heap.nd (q_iRng1 z_range (q_pcons (q_var 1) q_nil)) (by show blkC ["well", "ways", "most", "many", "marks", "boxes", "alike", "k", "box", "way", "low", "high"] (defScope s__law_heap) _ _ = true; decide +kernel) (fun s H C cl fp => (q_gVar 9 sc__law_heap.nd)) (fun s H C cl fp => q_yes) (fun s H C cl fp => (q_callD [0] D__law_stretch hr hg takes0 (q_pcons (q_var 0) (q_pcons (q_ix (q_var 4) (q_var 9)) q_nil))))) q_nil)))
 (q_seq (q_if (PW.pt (q_and (q_cmpT (op_neS (hu64 hr)) (q_var 5) (q_lst q_nil)) (q_and1 (q_cmpT (op_ltS) (q_callD [0] D__law_draw hr hg (takesB (takes_of rfl rfl rfl rfl)) (q_pcons (q_var 0) (q_pcons q_int q_nil))) (q_var 6)))))
 (q_last (q_set 8 sc__law_heap.nd (q_esc (q_callD [0] D__law_near hr hg (takesB (takes_of rfl rfl rfl rfl)) (q_pcons (q_var 0) (q_pcons (q_ix (q_var 5) (q_callD [0] D__law_draw hr hg (takesB (takes_of rfl rfl rfl rfl)) (q_pcons (q_var 0) (q_pcons (q_callB c_len z_len (q_pcons (q_var 5) q_nil)) q_nil)))) (q_pcons (q_var 4) q_nil)))))))
 q_end)
 (q_last (q_if (q_cmpT (op_leS) (q_callB (c_maxL rfl) z_max (q_pcons (q_lc [("low", 10), ("high", 11)] rfl sc__law_heap.nd (q_iAny (q_var 8)) (by show blkC ["well", "ways", "most", "many", "marks", "boxes", "alike", "k", "box", "way", "low", "high"] (defScope s__law_heap) _ _ = true; decide +kernel) (fun s H C cl fp => (q_gTup rfl (q_gCons (q_gVar 10 sc__law_heap.nd) (q_gCons (q_gVar 11 sc__law_heap.nd) q_gNil)))) (fun s H C cl fp => q_yes) (fun s H C cl fp => (q_callB (c_max rfl) z_max (q_pcons (q_callB c_abs z_abs (q_pcons (q_var 10) q_nil)) (q_pcons (q_callB c_abs z_abs (q_pcons (q_var 11) q_nil)) q_nil))))) q_nil)) (q_bin op_powS q_int q_int))
 (q_last (q_expr (q_meth 5 PySem.F.plainAttrs_list PySem.F.slot_list_append PySem.F.type_list_append mt_appS len_app (q_pcons (q_var 8) q_nil))))
 q_end)))))))
 (q_last (q_ret (q_tupU (q_pcons (q_escU (q_var 1)) (q_pcons (q_escU (q_var 5)) q_nil)))))))))))
abbrev s__law_some_heap : Stmt := top 23
theorem sc__law_some_heap : FnScope ["well", "ways"] ["well"] (defScope s__law_some_heap) := ⟨rfl, rfl, rfl, by decide +kernel, rfl, by decide +kernel, by decide +kernel⟩
theorem d__law_some_heap {P : Program} {w : World} {K : PySem.W.Frag} {mg : Str → Option Value} {base : Heap} {f : Addr} {fd : FuncData} (U : Fun K "_law_some_heap" "_law_some_heap" s__law_some_heap f fd) (hx : mg "_law_some_heap" = some (.ref f)) (b : Binds K fd ["well"] []) (D__law_draw : CallD P w K mg base 1 "_law_draw" m__law_draw) (D__law_heap : CallD P w K mg base 4 "_law_heap" m__law_heap) : CallD P w K mg base 5 "_law_some_heap" m__law_some_heap :=
 callD_of (k := 4) U hx b sc__law_some_heap (fun cdv A out s H E hr hg =>
 (q_seq (q_set 1 sc__law_some_heap.nd (q_bin op_addS q_int (q_callD [0] D__law_draw hr hg (takesB (takes_of rfl rfl rfl rfl)) (q_pcons (q_var 0) (q_pcons q_int q_nil)))))
 (q_last (q_ret (q_callD [0] D__law_heap hr hg (takesB (takes_of rfl rfl rfl rfl)) (q_pcons (q_var 0) (q_pcons (q_var 1) (q_pcons (q_ix (q_lst (q_pcons q_int (q_pcons q_int (q_pcons q_int (q_pcons q_int q_nil))))) (q_var 1)) q_nil))))))))
abbrev s__law_same : Stmt := top 24
theorem sc__law_same : FnScope ["found", "due", "k"] ["found", "due"] (defScope s__law_same) := ⟨rfl, rfl, rfl, by decide +kernel, rfl, by decide +kernel, by decide +kernel⟩
theorem d__law_same {P : Program} {w : World} {K : PySem.W.Frag} {mg : Str → Option Value} {base : Heap} {f : Addr} {fd : FuncData} (U : Fun K "_law_same" "_law_same" s__law_same f fd) (hx : mg "_law_same" = some (.ref f)) (b : Binds K fd ["found", "due"] []) (z_bool : mg "bool" = none) (z_int : mg "int" = none) (z_isinstance : mg "isinstance" = none) (z_len : mg "len" = none) (z_list : mg "list" = none) (z_range : mg "range" = none) (z_str : mg "str" = none) (z_tuple : mg "tuple" = none) : ∀ n : Nat, CallD P w K mg base (1 + n) "_law_same" (m__law_same n)
  | 0 => callD_bad _ U hx b
  | n + 1 => callD_of (k := 1 + n) U hx b sc__law_same (fun cdv A out s H E hr hg => by
 have D : CallD P w K mg base (1 + n) "_law_same" (m__law_same n) := d__law_same U hx b z_bool z_int z_isinstance z_len z_list z_range z_str z_tuple n
 exact (q_seq (q_if (q_tru (q_isi2 z_isinstance z_tuple z_list (q_var 1)))
 (q_seq (q_if (PW.pt (q_or (q_cmpT (op_neS (hu64 hr)) (q_isi z_isinstance z_tuple (q_var 0)) (q_isi z_isinstance z_tuple (q_var 1))) (q_or1 (q_cmpT (op_neS (hu64 hr)) (q_isi z_isinstance z_list (q_var 0)) (q_isi z_isinstance z_list (q_var 1))))))
 (q_last (q_ret q_bl))
 q_end)
 (q_seq (q_if (q_cmpT (op_neS (hu64 hr)) (q_callB c_len z_len (q_pcons (q_var 0) q_nil)) (q_callB c_len z_len (q_pcons (q_var 1) q_nil)))
 (q_last (q_ret q_bl))
 q_end)
 (q_last (q_ret (q_cmp (op_eqS (hu64 hr)) (q_lc [("k", 2)] rfl sc__law_same.nd (q_iRng1 z_range (q_pcons (q_callB c_len z_len (q_pcons (q_var 1) q_nil)) q_nil)) (by show blkC ["found", "due", "k"] (defScope s__law_same) _ _ = true; decide +kernel) (fun s H C cl fp => (q_gVar 2 sc__law_same.nd)) (fun s H C cl fp => (q_one1 (q_not (q_tru (q_callD [] D hr hg takes0 (q_pcons (q_ix (q_var 0) (q_var 2)) (q_pcons (q_ix (q_var 1) (q_var 2)) q_nil)) (by omega)))))) (fun s H C cl fp => (q_var 2))) (q_lst q_nil))))))
 q_end)
 (q_seq (q_if (PW.pt (q_or (q_cmpT (op_isS) (q_var 1) q_non) (q_or1 (q_tru (q_isi z_isinstance z_str (q_var 1))))))
 (q_last (q_ret (q_cmp (op_eqS (hu64 hr)) (q_var 0) (q_var 1))))
 q_end)
 (q_last (q_ret (q_andV (q_isi z_isinstance z_int (q_var 0)) (q_andV (q_notV (q_isi z_isinstance z_bool (q_var 0))) (q_one (q_cmp (op_eqS (hu64 hr)) (q_var 0) (q_var 1))))))))))
abbrev s__law_paper : Stmt := top 25
theorem sc__law_paper : FnScope ["rows", "ways", "marks", "found", "low", "high", "there", "box", "numbers", "number", "left"] ["rows", "ways"] (defScope s__law_paper) := ⟨rfl, rfl, rfl, by decide +kernel, rfl, by decide +kernel, by decide +kernel⟩
theorem d__law_paper {P : Program} {w : World} {K : PySem.W.Frag} {mg : Str → Option Value} {base : Heap} {f : Addr} {fd : FuncData} (U : Fun K "_law_paper" "_law_paper" s__law_paper f fd) (hx : mg "_law_paper" = some (.ref f)) (b : Binds K fd ["rows", "ways"] []) (z_int : mg "int" = none) (z_set : mg "set" = none) (z_sorted : mg "sorted" = none) (z_zip : mg "zip" = none) : ∀ n : Nat, CallD P w K mg base (1 + n) "_law_paper" (m__law_paper n)
  | 0 => callD_bad _ U hx b
  | n + 1 => callD_of (k := 1 + n) U hx b sc__law_paper (fun cdv A out s H E hr hg => by
 have D : CallD P w K mg base (1 + n) "_law_paper" (m__law_paper n) := d__law_paper U hx b z_int z_set z_sorted z_zip n
 exact (q_seq (q_if (q_cmpT (op_eqS (hu64 hr)) (q_var 1) q_int)
 (q_last (q_ret (q_lst (q_pcons (q_tup (q_pcons (q_tup q_nil) (q_pcons (q_esc (q_lc [("number", 9), ("left", 10)] rfl sc__law_paper.nd (q_iAny (q_var 0)) (by show blkC ["rows", "ways", "marks", "found", "low", "high", "there", "box", "numbers", "number", "left"] (defScope s__law_paper) _ _ = true; decide +kernel) (fun s H C cl fp => (q_gTup rfl (q_gCons (q_gVar 9 sc__law_paper.nd) (q_gCons (q_gVar 10 sc__law_paper.nd) q_gNil)))) (fun s H C cl fp => q_yes) (fun s H C cl fp => (q_var 9)))) q_nil))) q_nil))))
 q_end)
 (q_seq (q_set 2 sc__law_paper.nd (q_esc (q_sset rfl z_sorted z_set (q_bin op_addS (q_lc [("number", 9), ("left", 10)] rfl sc__law_paper.nd (q_iAny (q_var 0)) (by show blkC ["rows", "ways", "marks", "found", "low", "high", "there", "box", "numbers", "number", "left"] (defScope s__law_paper) _ _ = true; decide +kernel) (fun s H C cl fp => (q_gTup rfl (q_gCons (q_gVar 9 sc__law_paper.nd) (q_gCons (q_gVar 10 sc__law_paper.nd) q_gNil)))) (fun s H C cl fp => q_yes) (fun s H C cl fp => (q_ix (q_ix (q_var 10) q_int) q_int))) (q_lc [("number", 9), ("left", 10)] rfl sc__law_paper.nd (q_iAny (q_var 0)) (by show blkC ["rows", "ways", "marks", "found", "low", "high", "there", "box", "numbers", "number", "left"] (defScope s__law_paper) _ _ = true; decide +kernel) (fun s H C cl fp => (q_gTup rfl (q_gCons (q_gVar 9 sc__law_paper.nd) (q_gCons (q_gVar 10 sc__law_paper.nd) q_gNil)))) (fun s H C cl fp => q_yes) (fun s H C cl fp => (q_ix (q_ix (q_var 10) q_int) q_int)))))))
 (q_seq (q_own 3 sc__law_paper.nd (q_lst q_nil))
 (q_seq (q_fgt1 [4, 5, 6, 7, 8] (q_for (passes_of rfl) rfl (q_iZp z_zip (q_pcons (q_var 2) (q_pcons (q_esc (q_slice (q_var 2) (qo_some q_int) qo_none)) q_nil))) (q_gTup rfl (q_gCons (q_gVar 4 sc__law_paper.nd) (q_gCons (q_gVar 5 sc__law_paper.nd) q_gNil)))
 (q_fgt [6, 7, 8, 4, 5] (q_seq (q_setLc 6 [("number", 9), ("left", 10)] rfl sc__law_paper.nd (q_iAny (q_var 0)) (by show blkC ["rows", "ways", "marks", "found", "low", "high", "there", "box", "numbers", "number", "left"] (defScope s__law_paper) _ _ = true; decide +kernel) (fun s H C cl fp => (q_gTup rfl (q_gCons (q_gVar 9 sc__law_paper.nd) (q_gCons (q_gVar 10 sc__law_paper.nd) q_gNil)))) (fun s H C cl fp => (q_one1 (q_chainT (op_leS) (op_ltS) (q_ix (q_ix (q_var 10) q_int) q_int) (q_var 4) (q_ix (q_ix (q_var 10) q_int) q_int)))) (fun s H C cl fp => (q_tup (q_pcons (q_var 9) (q_pcons (q_esc (q_slice (q_var 10) (qo_some q_int) qo_none)) q_nil)))))
 (q_last (q_fgt1 [7, 8] (q_for (passes_of rfl) rfl (q_iAny (q_esc (q_bin op_mulS (q_callD [] D hr hg (takesB (takes_of rfl rfl rfl rfl)) (q_pcons (q_var 6) (q_pcons (q_bin op_subS (q_var 1) q_int) q_nil)) (by omega)) (q_callTy c_int z_int (q_pcons (q_cmp (op_neS (hu64 hr)) (q_var 6) (q_lst q_nil)) q_nil))))) (q_gTup rfl (q_gCons (q_gVar 7 sc__law_paper.nd) (q_gCons (q_gVar 8 sc__law_paper.nd) q_gNil)))
 (q_fgt [7, 8] (q_last (q_expr (q_meth 3 PySem.F.plainAttrs_list PySem.F.slot_list_append PySem.F.type_list_append mt_appS len_app (q_pcons (q_tup (q_pcons (q_esc (q_bin op_addS (q_tup (q_pcons (q_tup (q_pcons (q_var 4) (q_pcons (q_var 5) q_nil))) q_nil)) (q_var 7))) (q_pcons (q_var 8) q_nil))) q_nil))))))))))))
 (q_last (q_ret (q_var 3))))))))
abbrev s__law_right : Stmt := top 26
theorem sc__law_right : FnScope ["heap", "due", "handed", "turn", "found", "k", "row"] ["heap"] (defScope s__law_right) := ⟨rfl, rfl, rfl, by decide +kernel, rfl, by decide +kernel, by decide +kernel⟩
theorem d__law_right {P : Program} {w : World} {K : PySem.W.Frag} {mg : Str → Option Value} {base : Heap} {f : Addr} {fd : FuncData} (U : Fun K "_law_right" "_law_right" s__law_right f fd) (hx : mg "_law_right" = some (.ref f)) (b : Binds K fd ["heap"] []) (z_enumerate : mg "enumerate" = none) (z_int : mg "int" = none) (z_list : mg "list" = none) (z_range : mg "range" = none) (z_sorted : mg "sorted" = none) (D__law_paper : CallD P w K mg base 9 "_law_paper" (m__law_paper 8)) (D__law_same : CallD P w K mg base 9 "_law_same" (m__law_same 8)) (DT_paper_of : CallT P w K mg base 12 "paper_of" m_paperT) : CallD P w K mg base 13 "_law_right" m__law_right :=
 callD_of (k := 12) U hx b sc__law_right (fun cdv A out s H E hr hg =>
 (q_seq (q_set 1 sc__law_right.nd (q_esc (q_bin op_mulS (q_callD [] D__law_paper hr hg (takesB (takes_of rfl rfl rfl rfl)) (q_pcons (q_esc (q_lenm rfl z_list z_enumerate (q_pcons (q_ix (q_var 0) q_int) q_nil))) (q_pcons (q_ix (q_var 0) q_int) q_nil))) (q_callTy c_int z_int (q_pcons (q_cmp (op_neS (hu64 hr)) (q_ix (q_var 0) q_int) (q_lst q_nil)) q_nil)))))
 (q_seq (q_set 2 sc__law_right.nd (q_tup (q_pcons (q_ix (q_var 0) q_int) (q_pcons (q_esc (q_callTy c_list z_list (q_pcons (q_ix (q_var 0) q_int) q_nil))) q_nil))))
 (q_seq (q_fgt1 [3, 4, 5, 6] (q_for (passes_of rfl) rfl (q_iRng1 z_range (q_pcons q_int q_nil)) (q_gVar 3 sc__law_right.nd)
 (q_fgt [4, 5, 6, 3] (q_seq (q_setT 4 sc__law_right.nd (q_callT DT_paper_of hr hg (takesB (takes_of rfl rfl rfl rfl)) (q_pcons (q_var 2) q_nil)))
 (q_seq (q_if (q_lendRw 4 (PW.pt (q_or (q_not (q_tru (q_callD [] D__law_same hr hg (takesB (takes_of rfl rfl rfl rfl)) (q_pcons (q_var 4) (q_pcons (q_var 1) q_nil))))) (q_or (q_cmpT (op_neS (hu64 hr)) (q_var 4) (q_callB (c_sortedT (hu64 hr)) z_sorted (q_pcons (q_var 4) q_nil))) (q_or1 (q_cmpT (op_neS (hu64 hr)) (q_var 2) (q_var 0)))))))
 (q_last (q_ret q_bl))
 q_end)
 (q_seq (q_forRw 4 5 6 (passes_of rfl) rfl z_enumerate sc__law_right.nd PySem.F.plainAttrs_list PySem.F.slot_list_append PySem.F.type_list_append)
 (q_seq (q_if (q_lendRw 4 (q_cmpT (op_neS (hu64 hr)) (q_lc [("k", 5), ("row", 6)] rfl sc__law_right.nd (q_iEnm z_enumerate (q_pcons (q_esc (q_var 4)) q_nil)) (by show blkC ["heap", "due", "handed", "turn", "found", "k", "row"] (defScope s__law_right) _ _ = true; decide +kernel) (fun s H C cl fp => (q_gTup rfl (q_gCons (q_gVar 5 sc__law_right.nd) (q_gCons (q_gVar 6 sc__law_right.nd) q_gNil)))) (fun s H C cl fp => (q_one1 (q_cmpT (op_neS (hu64 hr)) (q_ix (q_var 6) q_int) (q_bin op_addS (q_ix (q_ix (q_var 1) (q_var 5)) q_int) (q_lst (q_pcons (q_var 5) q_nil)))))) (fun s H C cl fp => (q_var 5))) (q_lst q_nil)))
 (q_last (q_ret q_bl))
 q_end)
 (q_last (q_appT 4 PySem.F.plainAttrs_list PySem.F.slot_list_append PySem.F.type_list_append)))))))))
 (q_last (q_ret q_bl))))))
abbrev s_law : Stmt := top 27
theorem sc_law : FnScope ["script", "cell", "well", "heap"] ["script"] (defScope s_law) := ⟨rfl, rfl, rfl, by decide +kernel, rfl, by decide +kernel, by decide +kernel⟩
theorem d_law {P : Program} {w : World} {K : PySem.W.Frag} {mg : Str → Option Value} {base : Heap} {f : Addr} {fd : FuncData} (U : Fun K "law" "law" s_law f fd) (hx : mg "law" = some (.ref f)) (b : Binds K fd ["script"] []) (z_len : mg "len" = none) (D__law_draw : CallD P w K mg base 1 "_law_draw" m__law_draw) (D__law_right : CallD P w K mg base 13 "_law_right" m__law_right) (D__law_some_heap : CallD P w K mg base 5 "_law_some_heap" m__law_some_heap) (D__law_well : CallD P w K mg base 1 "_law_well" m__law_well) (D_paper_of : CallD P w K mg base 12 "paper_of" m_paper_of) : CallD P w K mg base 14 "law" m_law :=
 callD_of (k := 13) U hx b sc_law (fun cdv A out s H E hr hg =>
 (q_seq (q_fgt1 [1, 2, 3] (q_for (passes_of rfl) rfl (q_iAny (q_esc (q_bin op_addS (q_lst (q_pcons q_int (q_pcons q_int q_nil))) (q_slice (q_var 0) qo_none (qo_some q_int))))) (q_gVar 1 sc_law.nd)
 (q_fgt [2, 3, 1] (q_seq (q_own 2 sc_law.nd (q_callD [] D__law_well hr hg (takesB (takes_of rfl rfl rfl rfl)) (q_pcons (q_var 1) q_nil)))
 (q_seq (q_setU 3 sc_law.nd (q_callD [0] D__law_some_heap hr hg (takesB (takes_of rfl rfl rfl rfl)) (q_pcons (q_var 2) q_nil)))
 (q_seq (q_if (q_not (q_tru (q_callD [] D__law_right hr hg (takesB (takes_of rfl rfl rfl rfl)) (q_pcons (q_var 3) q_nil))))
 (q_last (q_ret q_bl))
 q_end)
 (q_last (q_if (q_cmpT (op_neS (hu64 hr)) (q_ix (q_var 3) q_int) (q_lst q_nil))
 (q_seq (q_thaw 3 1 PySem.F.plainAttrs_list PySem.F.slot_list_pop PySem.F.type_list_pop mt_pop0S len_pop (q_pcons (q_callD [0] D__law_draw hr hg (takesB (takes_of rfl rfl rfl rfl)) (q_pcons (q_var 2) (q_pcons (q_callB c_len z_len (q_pcons (q_ix (q_var 3) q_int) q_nil)) q_nil))) q_nil))
 (q_last (q_if (q_not (q_tru (q_callD [] D__law_right hr hg (takesB (takes_of rfl rfl rfl rfl)) (q_pcons (q_var 3) q_nil))))
 (q_last (q_ret q_bl))
 q_end)))
 q_end))))))))
 (q_last (q_ret (q_cmp (op_eqS (hu64 hr)) (q_callD [] D_paper_of hr hg (takesB (takes_of rfl rfl rfl rfl)) (q_pcons (q_tup (q_pcons q_int (q_pcons (q_esc (q_lst (q_pcons (q_tup (q_pcons (q_tup (q_pcons q_int (q_pcons q_int q_nil))) q_nil)) (q_pcons (q_tup (q_pcons (q_tup (q_pcons q_int (q_pcons q_int q_nil))) q_nil)) q_nil)))) q_nil))) q_nil)) (q_lst (q_pcons (q_tup (q_pcons (q_tup (q_pcons (q_tup (q_pcons q_int (q_pcons q_int q_nil))) q_nil)) (q_pcons (q_esc (q_lst (q_pcons q_int q_nil))) q_nil))) (q_pcons (q_tup (q_pcons (q_tup (q_pcons (q_tup (q_pcons q_int (q_pcons q_int q_nil))) q_nil)) (q_pcons (q_esc (q_lst (q_pcons q_int (q_pcons q_int q_nil)))) q_nil))) (q_pcons (q_tup (q_pcons (q_tup (q_pcons (q_tup (q_pcons q_int (q_pcons q_int q_nil))) q_nil)) (q_pcons (q_esc (q_lst (q_pcons q_int q_nil))) q_nil))) q_nil)))))))))
end Bk
end
end

section
set_option Elab.async false
set_option linter.all false
set_option maxRecDepth 100000
set_option maxHeartbeats 8000000
set_option autoImplicit false
set_option backward.isDefEq.respectTransparency false
noncomputable section
namespace Bk
open PySem PySem.Spec PyProof.Rows L2 Bx
theorem all_mk {P : Program} {w : World} {K : PySem.W.Frag} {h base : Heap} {mg : Str → Option Value} (X : K.In h) (G : h.Ns mainGlobals mg)
  {f0 : Addr} {od0 an0 : Option Addr} {sl0 : Array (Option Value)} {oc0 kV0 dc0 pm0 cd0 ct0 : Value}
  {f1 : Addr} {od1 an1 : Option Addr} {sl1 : Array (Option Value)} {oc1 kV1 dc1 pm1 cd1 ct1 : Value}
  {f2 : Addr} {od2 an2 : Option Addr} {sl2 : Array (Option Value)} {oc2 kV2 dc2 pm2 cd2 ct2 : Value}
  {f3 : Addr} {od3 an3 : Option Addr} {sl3 : Array (Option Value)} {oc3 kV3 dc3 pm3 cd3 ct3 : Value}
  {f4 : Addr} {od4 an4 : Option Addr} {sl4 : Array (Option Value)} {oc4 kV4 dc4 pm4 cd4 ct4 : Value}
  {f5 : Addr} {od5 an5 : Option Addr} {sl5 : Array (Option Value)} {oc5 kV5 dc5 pm5 cd5 ct5 : Value}
  {f6 : Addr} {od6 an6 : Option Addr} {sl6 : Array (Option Value)} {oc6 kV6 dc6 pm6 cd6 ct6 : Value}
  {f7 : Addr} {od7 an7 : Option Addr} {sl7 : Array (Option Value)} {oc7 kV7 dc7 pm7 cd7 ct7 : Value}
  {f8 : Addr} {od8 an8 : Option Addr} {sl8 : Array (Option Value)} {oc8 kV8 dc8 pm8 cd8 ct8 : Value}
  {f9 : Addr} {od9 an9 : Option Addr} {sl9 : Array (Option Value)} {oc9 kV9 dc9 pm9 cd9 ct9 : Value}
  {f10 : Addr} {od10 an10 : Option Addr} {sl10 : Array (Option Value)} {oc10 kV10 dc10 pm10 cd10 ct10 : Value}
  {f11 : Addr} {od11 an11 : Option Addr} {sl11 : Array (Option Value)} {oc11 kV11 dc11 pm11 cd11 ct11 : Value}
  {f12 : Addr} {od12 an12 : Option Addr} {sl12 : Array (Option Value)} {oc12 kV12 dc12 pm12 cd12 ct12 : Value}
  {f13 : Addr} {od13 an13 : Option Addr} {sl13 : Array (Option Value)} {oc13 kV13 dc13 pm13 cd13 ct13 : Value}
  {f14 : Addr} {od14 an14 : Option Addr} {sl14 : Array (Option Value)} {oc14 kV14 dc14 pm14 cd14 ct14 : Value}
  {f15 : Addr} {od15 an15 : Option Addr} {sl15 : Array (Option Value)} {oc15 kV15 dc15 pm15 cd15 ct15 : Value}
  {f16 : Addr} {od16 an16 : Option Addr} {sl16 : Array (Option Value)} {oc16 kV16 dc16 pm16 cd16 ct16 : Value}
  {f17 : Addr} {od17 an17 : Option Addr} {sl17 : Array (Option Value)} {oc17 kV17 dc17 pm17 cd17 ct17 : Value}
  {f18 : Addr} {od18 an18 : Option Addr} {sl18 : Array (Option Value)} {oc18 kV18 dc18 pm18 cd18 ct18 : Value}
  {f19 : Addr} {od19 an19 : Option Addr} {sl19 : Array (Option Value)} {oc19 kV19 dc19 pm19 cd19 ct19 : Value}
  {f20 : Addr} {od20 an20 : Option Addr} {sl20 : Array (Option Value)} {oc20 kV20 dc20 pm20 cd20 ct20 : Value}
  {C_NoHeap : Addr}
  {A_MOST_BOXES : Addr} {dd_MOST_BOXES : Option Addr} {nn_MOST_BOXES : Nat} {ss_MOST_BOXES : Array (Option Value)} {tMOST_BOXES0 tMOST_BOXES1 tMOST_BOXES2 tMOST_BOXES3 : Tok}
  (a0 : PySem.W.nsIn K mainGlobals "is_whole" = some (some (.ref f0))) (l0 : K.lookup f0 = some ⟨oc0, od0, .func (PySem.W.fnOf "is_whole" "is_whole" (defArgs s_is_whole) (defBody s_is_whole) (defScope s_is_whole) .none kV0 dc0 pm0 an0 cd0 ct0), sl0⟩) (e0 : PySem.W.codeIn K cd0 "is_whole" = true) (k0 : PySem.W.keepIn K (.ref f0) = true)
  (a1 : PySem.W.nsIn K mainGlobals "is_ways" = some (some (.ref f1))) (l1 : K.lookup f1 = some ⟨oc1, od1, .func (PySem.W.fnOf "is_ways" "is_ways" (defArgs s_is_ways) (defBody s_is_ways) (defScope s_is_ways) .none kV1 dc1 pm1 an1 cd1 ct1), sl1⟩) (e1 : PySem.W.codeIn K cd1 "is_ways" = true) (k1 : PySem.W.keepIn K (.ref f1) = true)
  (a2 : PySem.W.nsIn K mainGlobals "is_stretch" = some (some (.ref f2))) (l2 : K.lookup f2 = some ⟨oc2, od2, .func (PySem.W.fnOf "is_stretch" "is_stretch" (defArgs s_is_stretch) (defBody s_is_stretch) (defScope s_is_stretch) .none kV2 dc2 pm2 an2 cd2 ct2), sl2⟩) (e2 : PySem.W.codeIn K cd2 "is_stretch" = true) (k2 : PySem.W.keepIn K (.ref f2) = true)
  (a3 : PySem.W.nsIn K mainGlobals "is_box" = some (some (.ref f3))) (l3 : K.lookup f3 = some ⟨oc3, od3, .func (PySem.W.fnOf "is_box" "is_box" (defArgs s_is_box) (defBody s_is_box) (defScope s_is_box) .none kV3 dc3 pm3 an3 cd3 ct3), sl3⟩) (e3 : PySem.W.codeIn K cd3 "is_box" = true) (k3 : PySem.W.keepIn K (.ref f3) = true)
  (a4 : PySem.W.nsIn K mainGlobals "is_heap" = some (some (.ref f4))) (l4 : K.lookup f4 = some ⟨oc4, od4, .func (PySem.W.fnOf "is_heap" "is_heap" (defArgs s_is_heap) (defBody s_is_heap) (defScope s_is_heap) .none kV4 dc4 pm4 an4 cd4 ct4), sl4⟩) (e4 : PySem.W.codeIn K cd4 "is_heap" = true) (k4 : PySem.W.keepIn K (.ref f4) = true)
  (a5 : PySem.W.nsIn K mainGlobals "need_heap" = some (some (.ref f5))) (l5 : K.lookup f5 = some ⟨oc5, od5, .func (PySem.W.fnOf "need_heap" "need_heap" (defArgs s_need_heap) (defBody s_need_heap) (defScope s_need_heap) .none kV5 dc5 pm5 an5 cd5 ct5), sl5⟩) (e5 : PySem.W.codeIn K cd5 "need_heap" = true) (k5 : PySem.W.keepIn K (.ref f5) = true)
  (a6 : PySem.W.nsIn K mainGlobals "marks_of" = some (some (.ref f6))) (l6 : K.lookup f6 = some ⟨oc6, od6, .func (PySem.W.fnOf "marks_of" "marks_of" (defArgs s_marks_of) (defBody s_marks_of) (defScope s_marks_of) .none kV6 dc6 pm6 an6 cd6 ct6), sl6⟩) (e6 : PySem.W.codeIn K cd6 "marks_of" = true) (k6 : PySem.W.keepIn K (.ref f6) = true)
  (a7 : PySem.W.nsIn K mainGlobals "cut_apart" = some (some (.ref f7))) (l7 : K.lookup f7 = some ⟨oc7, od7, .func (PySem.W.fnOf "cut_apart" "cut_apart" (defArgs s_cut_apart) (defBody s_cut_apart) (defScope s_cut_apart) .none kV7 dc7 pm7 an7 cd7 ct7), sl7⟩) (e7 : PySem.W.codeIn K cd7 "cut_apart" = true) (k7 : PySem.W.keepIn K (.ref f7) = true)
  (a8 : PySem.W.nsIn K mainGlobals "cells_of" = some (some (.ref f8))) (l8 : K.lookup f8 = some ⟨oc8, od8, .func (PySem.W.fnOf "cells_of" "cells_of" (defArgs s_cells_of) (defBody s_cells_of) (defScope s_cells_of) .none kV8 dc8 pm8 an8 cd8 ct8), sl8⟩) (e8 : PySem.W.codeIn K cd8 "cells_of" = true) (k8 : PySem.W.keepIn K (.ref f8) = true)
  (a9 : PySem.W.nsIn K mainGlobals "paper_of" = some (some (.ref f9))) (l9 : K.lookup f9 = some ⟨oc9, od9, .func (PySem.W.fnOf "paper_of" "paper_of" (defArgs s_paper_of) (defBody s_paper_of) (defScope s_paper_of) .none kV9 dc9 pm9 an9 cd9 ct9), sl9⟩) (e9 : PySem.W.codeIn K cd9 "paper_of" = true) (k9 : PySem.W.keepIn K (.ref f9) = true)
  (a10 : PySem.W.nsIn K mainGlobals "_law_well" = some (some (.ref f10))) (l10 : K.lookup f10 = some ⟨oc10, od10, .func (PySem.W.fnOf "_law_well" "_law_well" (defArgs s__law_well) (defBody s__law_well) (defScope s__law_well) .none kV10 dc10 pm10 an10 cd10 ct10), sl10⟩) (e10 : PySem.W.codeIn K cd10 "_law_well" = true) (k10 : PySem.W.keepIn K (.ref f10) = true)
  (a11 : PySem.W.nsIn K mainGlobals "_law_draw" = some (some (.ref f11))) (l11 : K.lookup f11 = some ⟨oc11, od11, .func (PySem.W.fnOf "_law_draw" "_law_draw" (defArgs s__law_draw) (defBody s__law_draw) (defScope s__law_draw) .none kV11 dc11 pm11 an11 cd11 ct11), sl11⟩) (e11 : PySem.W.codeIn K cd11 "_law_draw" = true) (k11 : PySem.W.keepIn K (.ref f11) = true)
  (a12 : PySem.W.nsIn K mainGlobals "_law_marks" = some (some (.ref f12))) (l12 : K.lookup f12 = some ⟨oc12, od12, .func (PySem.W.fnOf "_law_marks" "_law_marks" (defArgs s__law_marks) (defBody s__law_marks) (defScope s__law_marks) .none kV12 dc12 pm12 an12 cd12 ct12), sl12⟩) (e12 : PySem.W.codeIn K cd12 "_law_marks" = true) (k12 : PySem.W.keepIn K (.ref f12) = true)
  (a13 : PySem.W.nsIn K mainGlobals "_law_stretch" = some (some (.ref f13))) (l13 : K.lookup f13 = some ⟨oc13, od13, .func (PySem.W.fnOf "_law_stretch" "_law_stretch" (defArgs s__law_stretch) (defBody s__law_stretch) (defScope s__law_stretch) .none kV13 dc13 pm13 an13 cd13 ct13), sl13⟩) (e13 : PySem.W.codeIn K cd13 "_law_stretch" = true) (k13 : PySem.W.keepIn K (.ref f13) = true)
  (a14 : PySem.W.nsIn K mainGlobals "_law_near" = some (some (.ref f14))) (l14 : K.lookup f14 = some ⟨oc14, od14, .func (PySem.W.fnOf "_law_near" "_law_near" (defArgs s__law_near) (defBody s__law_near) (defScope s__law_near) .none kV14 dc14 pm14 an14 cd14 ct14), sl14⟩) (e14 : PySem.W.codeIn K cd14 "_law_near" = true) (k14 : PySem.W.keepIn K (.ref f14) = true)
  (a15 : PySem.W.nsIn K mainGlobals "_law_heap" = some (some (.ref f15))) (l15 : K.lookup f15 = some ⟨oc15, od15, .func (PySem.W.fnOf "_law_heap" "_law_heap" (defArgs s__law_heap) (defBody s__law_heap) (defScope s__law_heap) .none kV15 dc15 pm15 an15 cd15 ct15), sl15⟩) (e15 : PySem.W.codeIn K cd15 "_law_heap" = true) (k15 : PySem.W.keepIn K (.ref f15) = true)
  (a16 : PySem.W.nsIn K mainGlobals "_law_some_heap" = some (some (.ref f16))) (l16 : K.lookup f16 = some ⟨oc16, od16, .func (PySem.W.fnOf "_law_some_heap" "_law_some_heap" (defArgs s__law_some_heap) (defBody s__law_some_heap) (defScope s__law_some_heap) .none kV16 dc16 pm16 an16 cd16 ct16), sl16⟩) (e16 : PySem.W.codeIn K cd16 "_law_some_heap" = true) (k16 : PySem.W.keepIn K (.ref f16) = true)
  (a17 : PySem.W.nsIn K mainGlobals "_law_same" = some (some (.ref f17))) (l17 : K.lookup f17 = some ⟨oc17, od17, .func (PySem.W.fnOf "_law_same" "_law_same" (defArgs s__law_same) (defBody s__law_same) (defScope s__law_same) .none kV17 dc17 pm17 an17 cd17 ct17), sl17⟩) (e17 : PySem.W.codeIn K cd17 "_law_same" = true) (k17 : PySem.W.keepIn K (.ref f17) = true)
  (a18 : PySem.W.nsIn K mainGlobals "_law_paper" = some (some (.ref f18))) (l18 : K.lookup f18 = some ⟨oc18, od18, .func (PySem.W.fnOf "_law_paper" "_law_paper" (defArgs s__law_paper) (defBody s__law_paper) (defScope s__law_paper) .none kV18 dc18 pm18 an18 cd18 ct18), sl18⟩) (e18 : PySem.W.codeIn K cd18 "_law_paper" = true) (k18 : PySem.W.keepIn K (.ref f18) = true)
  (a19 : PySem.W.nsIn K mainGlobals "_law_right" = some (some (.ref f19))) (l19 : K.lookup f19 = some ⟨oc19, od19, .func (PySem.W.fnOf "_law_right" "_law_right" (defArgs s__law_right) (defBody s__law_right) (defScope s__law_right) .none kV19 dc19 pm19 an19 cd19 ct19), sl19⟩) (e19 : PySem.W.codeIn K cd19 "_law_right" = true) (k19 : PySem.W.keepIn K (.ref f19) = true)
  (a20 : PySem.W.nsIn K mainGlobals "law" = some (some (.ref f20))) (l20 : K.lookup f20 = some ⟨oc20, od20, .func (PySem.W.fnOf "law" "law" (defArgs s_law) (defBody s_law) (defScope s_law) .none kV20 dc20 pm20 an20 cd20 ct20), sl20⟩) (e20 : PySem.W.codeIn K cd20 "law" = true) (k20 : PySem.W.keepIn K (.ref f20) = true)
  (n_abs : PySem.W.nsIn K mainGlobals "abs" = some none)
  (n_bool : PySem.W.nsIn K mainGlobals "bool" = some none)
  (n_enumerate : PySem.W.nsIn K mainGlobals "enumerate" = some none)
  (n_int : PySem.W.nsIn K mainGlobals "int" = some none)
  (n_isinstance : PySem.W.nsIn K mainGlobals "isinstance" = some none)
  (n_len : PySem.W.nsIn K mainGlobals "len" = some none)
  (n_list : PySem.W.nsIn K mainGlobals "list" = some none)
  (n_max : PySem.W.nsIn K mainGlobals "max" = some none)
  (n_min : PySem.W.nsIn K mainGlobals "min" = some none)
  (n_range : PySem.W.nsIn K mainGlobals "range" = some none)
  (n_set : PySem.W.nsIn K mainGlobals "set" = some none)
  (n_sorted : PySem.W.nsIn K mainGlobals "sorted" = some none)
  (n_str : PySem.W.nsIn K mainGlobals "str" = some none)
  (n_tuple : PySem.W.nsIn K mainGlobals "tuple" = some none)
  (n_zip : PySem.W.nsIn K mainGlobals "zip" = some none)
  (xa_NoHeap : PySem.W.nsIn K mainGlobals "NoHeap" = some (some (.ref C_NoHeap))) (xb_NoHeap : PySem.W.excIn K C_NoHeap [.type "ValueError", .type "Exception", .type "BaseException", .type "object"] "ValueError.__new__" = true) (xc_NoHeap : PySem.W.keepIn K (.ref C_NoHeap) = true) (xd_NoHeap : PySem.W.subIn K (.ref C_NoHeap) (.type "BaseException") = some true) (xe_NoHeap : PySem.W.typeIn K (.ref C_NoHeap) = some (.type "type"))
  (ca_MOST_BOXES : PySem.W.nsIn K mainGlobals "MOST_BOXES" = some (some (.ref A_MOST_BOXES))) (cb_MOST_BOXES : K.lookup A_MOST_BOXES = some ⟨.type "tuple", dd_MOST_BOXES, .seq #[.int 0 tMOST_BOXES0, .int 20 tMOST_BOXES1, .int 10 tMOST_BOXES2, .int 6 tMOST_BOXES3] nn_MOST_BOXES, ss_MOST_BOXES⟩) :
  CallD P w K mg base 14 "law" m_law := by
  have F_is_whole := fun_mk (st := s_is_whole) l0 e0 k0
  have b_is_whole := F_is_whole.binds (ps := ["thing"]) fun _ _ _ _ _ _ us hl => match us, hl with | [_], _ => rfl
  have F_is_ways := fun_mk (st := s_is_ways) l1 e1 k1
  have b_is_ways := F_is_ways.binds (ps := ["thing"]) fun _ _ _ _ _ _ us hl => match us, hl with | [_], _ => rfl
  have F_is_stretch := fun_mk (st := s_is_stretch) l2 e2 k2
  have b_is_stretch := F_is_stretch.binds (ps := ["thing"]) fun _ _ _ _ _ _ us hl => match us, hl with | [_], _ => rfl
  have F_is_box := fun_mk (st := s_is_box) l3 e3 k3
  have b_is_box := F_is_box.binds (ps := ["ways", "thing"]) fun _ _ _ _ _ _ us hl => match us, hl with | [_, _], _ => rfl
  have F_is_heap := fun_mk (st := s_is_heap) l4 e4 k4
  have b_is_heap := F_is_heap.binds (ps := ["thing"]) fun _ _ _ _ _ _ us hl => match us, hl with | [_], _ => rfl
  have F_need_heap := fun_mk (st := s_need_heap) l5 e5 k5
  have b_need_heap := F_need_heap.binds (ps := ["thing"]) fun _ _ _ _ _ _ us hl => match us, hl with | [_], _ => rfl
  have F_marks_of := fun_mk (st := s_marks_of) l6 e6 k6
  have b_marks_of := F_marks_of.binds (ps := ["boxes", "way"]) fun _ _ _ _ _ _ us hl => match us, hl with | [_, _], _ => rfl
  have F_cut_apart := fun_mk (st := s_cut_apart) l7 e7 k7
  have b_cut_apart := F_cut_apart.binds (ps := ["rows", "ways"]) fun _ _ _ _ _ _ us hl => match us, hl with | [_, _], _ => rfl
  have F_cells_of := fun_mk (st := s_cells_of) l8 e8 k8
  have b_cells_of := F_cells_of.binds (ps := ["heap"]) fun _ _ _ _ _ _ us hl => match us, hl with | [_], _ => rfl
  have F_paper_of := fun_mk (st := s_paper_of) l9 e9 k9
  have b_paper_of := F_paper_of.binds (ps := ["heap"]) fun _ _ _ _ _ _ us hl => match us, hl with | [_], _ => rfl
  have F__law_well := fun_mk (st := s__law_well) l10 e10 k10
  have b__law_well := F__law_well.binds (ps := ["cell"]) fun _ _ _ _ _ _ us hl => match us, hl with | [_], _ => rfl
  have F__law_draw := fun_mk (st := s__law_draw) l11 e11 k11
  have b__law_draw := F__law_draw.binds (ps := ["well", "many"]) fun _ _ _ _ _ _ us hl => match us, hl with | [_, _], _ => rfl
  have F__law_marks := fun_mk (st := s__law_marks) l12 e12 k12
  have b__law_marks := F__law_marks.binds (ps := ["well", "many"]) fun _ _ _ _ _ _ us hl => match us, hl with | [_, _], _ => rfl
  have F__law_stretch := fun_mk (st := s__law_stretch) l13 e13 k13
  have b__law_stretch := F__law_stretch.binds (ps := ["well", "marks"]) fun _ _ _ _ _ _ us hl => match us, hl with | [_, _], _ => rfl
  have F__law_near := fun_mk (st := s__law_near) l14 e14 k14
  have b__law_near := F__law_near.binds (ps := ["well", "box", "marks"]) fun _ _ _ _ _ _ us hl => match us, hl with | [_, _, _], _ => rfl
  have F__law_heap := fun_mk (st := s__law_heap) l15 e15 k15
  have b__law_heap := F__law_heap.binds (ps := ["well", "ways", "most"]) fun _ _ _ _ _ _ us hl => match us, hl with | [_, _, _], _ => rfl
  have F__law_some_heap := fun_mk (st := s__law_some_heap) l16 e16 k16
  have b__law_some_heap := F__law_some_heap.binds (ps := ["well"]) fun _ _ _ _ _ _ us hl => match us, hl with | [_], _ => rfl
  have F__law_same := fun_mk (st := s__law_same) l17 e17 k17
  have b__law_same := F__law_same.binds (ps := ["found", "due"]) fun _ _ _ _ _ _ us hl => match us, hl with | [_, _], _ => rfl
  have F__law_paper := fun_mk (st := s__law_paper) l18 e18 k18
  have b__law_paper := F__law_paper.binds (ps := ["rows", "ways"]) fun _ _ _ _ _ _ us hl => match us, hl with | [_, _], _ => rfl
  have F__law_right := fun_mk (st := s__law_right) l19 e19 k19
  have b__law_right := F__law_right.binds (ps := ["heap"]) fun _ _ _ _ _ _ us hl => match us, hl with | [_], _ => rfl
  have F_law := fun_mk (st := s_law) l20 e20 k20
  have b_law := F_law.binds (ps := ["script"]) fun _ _ _ _ _ _ us hl => match us, hl with | [_], _ => rfl
  have z_abs := PySem.W.mg_none_of X G n_abs
  have z_bool := PySem.W.mg_none_of X G n_bool
  have z_enumerate := PySem.W.mg_none_of X G n_enumerate
  have z_int := PySem.W.mg_none_of X G n_int
  have z_isinstance := PySem.W.mg_none_of X G n_isinstance
  have z_len := PySem.W.mg_none_of X G n_len
  have z_list := PySem.W.mg_none_of X G n_list
  have z_max := PySem.W.mg_none_of X G n_max
  have z_min := PySem.W.mg_none_of X G n_min
  have z_range := PySem.W.mg_none_of X G n_range
  have z_set := PySem.W.mg_none_of X G n_set
  have z_sorted := PySem.W.mg_none_of X G n_sorted
  have z_str := PySem.W.mg_none_of X G n_str
  have z_tuple := PySem.W.mg_none_of X G n_tuple
  have z_zip := PySem.W.mg_none_of X G n_zip
  have x_NoHeap : ExcK K mg "NoHeap" := ⟨C_NoHeap, PySem.W.mg_of X G xa_NoHeap, xb_NoHeap, xc_NoHeap, xd_NoHeap, xe_NoHeap⟩
  have c_MOST_BOXES : Kon ⟨K, mg, P, w⟩ "MOST_BOXES" k_MOST_BOXES := kon_mk (l := [.int 0, .int 20, .int 10, .int 6]) (xs := [.int 0, .int 20, .int 10, .int 6]) (PySem.W.mg_of X G ca_MOST_BOXES) cb_MOST_BOXES rfl rfl (by rw [sizeLine_eq]; show 4 ≤ _; decide) (.cons ⟨tMOST_BOXES0, rfl⟩ (.cons ⟨tMOST_BOXES1, rfl⟩ (.cons ⟨tMOST_BOXES2, rfl⟩ (.cons ⟨tMOST_BOXES3, rfl⟩ .nil)))) (fun F => (.cons rfl (.cons rfl (.cons rfl (.cons rfl .nil))))) (by rw [sizeLine_eq]; decide)
  have D_is_whole := d_is_whole (P := P) (w := w) (base := base) F_is_whole (PySem.W.mg_of X G a0) b_is_whole z_bool z_int z_isinstance
  have D_is_ways := d_is_ways (P := P) (w := w) (base := base) F_is_ways (PySem.W.mg_of X G a1) b_is_ways D_is_whole
  have D_is_stretch := d_is_stretch (P := P) (w := w) (base := base) F_is_stretch (PySem.W.mg_of X G a2) b_is_stretch z_isinstance z_len z_tuple D_is_whole
  have D_is_box := d_is_box (P := P) (w := w) (base := base) F_is_box (PySem.W.mg_of X G a3) b_is_box z_isinstance z_len z_tuple D_is_stretch D_is_ways
  have D_is_heap := d_is_heap (P := P) (w := w) (base := base) F_is_heap (PySem.W.mg_of X G a4) b_is_heap z_isinstance z_len z_list z_tuple D_is_box D_is_ways c_MOST_BOXES
  have D_need_heap := d_need_heap (P := P) (w := w) (base := base) F_need_heap (PySem.W.mg_of X G a5) b_need_heap D_is_heap x_NoHeap
  have D_marks_of := d_marks_of (P := P) (w := w) (base := base) F_marks_of (PySem.W.mg_of X G a6) b_marks_of z_set z_sorted
  have D_cut_apart := d_cut_apart (P := P) (w := w) (base := base) F_cut_apart (PySem.W.mg_of X G a7) b_cut_apart z_zip D_marks_of 8
  have DT_cut_apart := dT_cut_apart (P := P) (w := w) (base := base) F_cut_apart (PySem.W.mg_of X G a7) b_cut_apart z_zip D_marks_of 8
  have D_cells_of := d_cells_of (P := P) (w := w) (base := base) F_cells_of (PySem.W.mg_of X G a8) b_cells_of z_enumerate z_list D_cut_apart
  have DT_cells_of := dT_cells_of (P := P) (w := w) (base := base) F_cells_of (PySem.W.mg_of X G a8) b_cells_of z_enumerate z_list DT_cut_apart
  have D_paper_of := d_paper_of (P := P) (w := w) (base := base) F_paper_of (PySem.W.mg_of X G a9) b_paper_of D_cells_of D_need_heap
  have DT_paper_of := dT_paper_of (P := P) (w := w) (base := base) F_paper_of (PySem.W.mg_of X G a9) b_paper_of D_need_heap DT_cells_of
  have D__law_well := d__law_well (P := P) (w := w) (base := base) F__law_well (PySem.W.mg_of X G a10) b__law_well 
  have D__law_draw := d__law_draw (P := P) (w := w) (base := base) F__law_draw (PySem.W.mg_of X G a11) b__law_draw z_int
  have D__law_marks := d__law_marks (P := P) (w := w) (base := base) F__law_marks (PySem.W.mg_of X G a12) b__law_marks z_list z_range z_set z_sorted D__law_draw
  have D__law_stretch := d__law_stretch (P := P) (w := w) (base := base) F__law_stretch (PySem.W.mg_of X G a13) b__law_stretch z_len D__law_draw
  have D__law_near := d__law_near (P := P) (w := w) (base := base) F__law_near (PySem.W.mg_of X G a14) b__law_near z_len z_tuple D__law_draw D__law_stretch
  have D__law_heap := d__law_heap (P := P) (w := w) (base := base) F__law_heap (PySem.W.mg_of X G a15) b__law_heap z_abs z_len z_max z_min z_range z_tuple D__law_draw D__law_marks D__law_near D__law_stretch
  have D__law_some_heap := d__law_some_heap (P := P) (w := w) (base := base) F__law_some_heap (PySem.W.mg_of X G a16) b__law_some_heap D__law_draw D__law_heap
  have D__law_same := d__law_same (P := P) (w := w) (base := base) F__law_same (PySem.W.mg_of X G a17) b__law_same z_bool z_int z_isinstance z_len z_list z_range z_str z_tuple 8
  have D__law_paper := d__law_paper (P := P) (w := w) (base := base) F__law_paper (PySem.W.mg_of X G a18) b__law_paper z_int z_set z_sorted z_zip 8
  have D__law_right := d__law_right (P := P) (w := w) (base := base) F__law_right (PySem.W.mg_of X G a19) b__law_right z_enumerate z_int z_list z_range z_sorted D__law_paper D__law_same DT_paper_of
  have D_law := d_law (P := P) (w := w) (base := base) F_law (PySem.W.mg_of X G a20) b_law z_len D__law_draw D__law_right D__law_some_heap D__law_well D_paper_of
  exact D_law
end Bk
open PySem PySem.W PyProof.Rows
set_option maxHeartbeats 0 in
theorem PySem.Challenge.cw_boxcover_k48_papers_told_holds : PySem.Challenge.rw_boxcover_k48_papers_told.Holds := by
  w_on; o_law; k_head; (case hw => w_witness2)
  k_fill
  refine Bx.law_walk (l := PySem.Challenge.rw_boxcover_k48_papers_told) (n := 63) (k := 14) (m := Bk.m_law) rfl (by decide) rfl ⟨rfl, by decide, by decide⟩ (fun w h Y => PySem.W.kIn_of Y) Bk.law_true ?F
  case F =>
    intro w mg h KX G base KB GB
    refine' Bk.all_mk KX G ?a0 ?l0 ?e0 ?k0 ?a1 ?l1 ?e1 ?k1 ?a2 ?l2 ?e2 ?k2 ?a3 ?l3 ?e3 ?k3 ?a4 ?l4 ?e4 ?k4 ?a5 ?l5 ?e5 ?k5 ?a6 ?l6 ?e6 ?k6 ?a7 ?l7 ?e7 ?k7 ?a8 ?l8 ?e8 ?k8 ?a9 ?l9 ?e9 ?k9 ?a10 ?l10 ?e10 ?k10 ?a11 ?l11 ?e11 ?k11 ?a12 ?l12 ?e12 ?k12 ?a13 ?l13 ?e13 ?k13 ?a14 ?l14 ?e14 ?k14 ?a15 ?l15 ?e15 ?k15 ?a16 ?l16 ?e16 ?k16 ?a17 ?l17 ?e17 ?k17 ?a18 ?l18 ?e18 ?k18 ?a19 ?l19 ?e19 ?k19 ?a20 ?l20 ?e20 ?k20 ?n_abs ?n_bool ?n_enumerate ?n_int ?n_isinstance ?n_len ?n_list ?n_max ?n_min ?n_range ?n_set ?n_sorted ?n_str ?n_tuple ?n_zip ?xa_NoHeap ?xb_NoHeap ?xc_NoHeap ?xd_NoHeap ?xe_NoHeap ?ca_MOST_BOXES ?cb_MOST_BOXES
    (case a0 => k_is); (case l0 => k_is); (case e0 => k_is); (case k0 => k_is); (case a1 => k_is); (case l1 => k_is); (case e1 => k_is); (case k1 => k_is); (case a2 => k_is); (case l2 => k_is); (case e2 => k_is); (case k2 => k_is); (case a3 => k_is); (case l3 => k_is); (case e3 => k_is); (case k3 => k_is); (case a4 => k_is); (case l4 => k_is); (case e4 => k_is); (case k4 => k_is); (case a5 => k_is); (case l5 => k_is); (case e5 => k_is); (case k5 => k_is); (case a6 => k_is); (case l6 => k_is); (case e6 => k_is); (case k6 => k_is); (case a7 => k_is); (case l7 => k_is); (case e7 => k_is); (case k7 => k_is); (case a8 => k_is); (case l8 => k_is); (case e8 => k_is); (case k8 => k_is); (case a9 => k_is); (case l9 => k_is); (case e9 => k_is); (case k9 => k_is); (case a10 => k_is); (case l10 => k_is); (case e10 => k_is); (case k10 => k_is); (case a11 => k_is); (case l11 => k_is); (case e11 => k_is); (case k11 => k_is); (case a12 => k_is); (case l12 => k_is); (case e12 => k_is); (case k12 => k_is); (case a13 => k_is); (case l13 => k_is); (case e13 => k_is); (case k13 => k_is); (case a14 => k_is); (case l14 => k_is); (case e14 => k_is); (case k14 => k_is); (case a15 => k_is); (case l15 => k_is); (case e15 => k_is); (case k15 => k_is); (case a16 => k_is); (case l16 => k_is); (case e16 => k_is); (case k16 => k_is); (case a17 => k_is); (case l17 => k_is); (case e17 => k_is); (case k17 => k_is); (case a18 => k_is); (case l18 => k_is); (case e18 => k_is); (case k18 => k_is); (case a19 => k_is); (case l19 => k_is); (case e19 => k_is); (case k19 => k_is); (case a20 => k_is); (case l20 => k_is); (case e20 => k_is); (case k20 => k_is); (case n_abs => k_is); (case n_bool => k_is); (case n_enumerate => k_is); (case n_int => k_is); (case n_isinstance => k_is); (case n_len => k_is); (case n_list => k_is); (case n_max => k_is); (case n_min => k_is); (case n_range => k_is); (case n_set => k_is); (case n_sorted => k_is); (case n_str => k_is); (case n_tuple => k_is); (case n_zip => k_is); (case xa_NoHeap => k_is); (case xb_NoHeap => k_exc); (case xc_NoHeap => k_is); (case xd_NoHeap => k_is); (case xe_NoHeap => k_is); (case ca_MOST_BOXES => k_is); (case cb_MOST_BOXES => k_is)

end
end
