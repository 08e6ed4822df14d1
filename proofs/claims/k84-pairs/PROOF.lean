import PyProof.Rows.All
import Wide.All
import OpenK.AllK
import Wide.FinOn
import HandS.ForMost
import HandS.ForExc
import KE.KDictKeyed
import KE.SortData
import KE.DataEq
import KE.DataMinMax
import HandS.TupAny
import HandS.IsInst
import KE.KDictDisplayH
import KE.GoesEnum
import HandS.Strs
import HandS.SetFor
import HandS.TupMul
import HandS.ExcOwn
import HandS.TryOnly
import PySem.Challenge.RW_fourthword_k84_pairs_that_are_to_each_ot
set_option Elab.async false
set_option linter.all false
set_option maxRecDepth 100000
set_option maxHeartbeats 4000000
namespace VL
open PySem PySem.Spec PyProof.Rows L2

abbrev D := PyData
/-- the module at hand -/
structure Md where
  P : Program
  w : World
  K : PySem.W.Frag

/-! ### data that never changes -/
mutual
def Im (K : PySem.W.Frag) (H : Hp) : D → V → Prop
  | .none, v => v = .non
  | .bool b, v => v = .bl b
  | .int i, v => v = .int i
  | .str s, v => v = .str s
  | .tuple ds, v => ∃ a vs, v = .ref a ∧ SqT K H a vs ∧ ImA K H ds vs
  | .list _, _ => False
  | .dict _, _ => False
def ImA (K : PySem.W.Frag) (H : Hp) : List D → List V → Prop
  | [], vs => vs = []
  | d :: ds, vs => ∃ v r, vs = v :: r ∧ Im K H d v ∧ ImA K H ds r
end
mutual
def imm : D → Bool
  | .none => true
  | .bool _ => true
  | .int _ => true
  | .str _ => true
  | .tuple ds => immA ds
  | .list _ => false
  | .dict _ => false
def immA : List D → Bool
  | [] => true
  | d :: ds => imm d && immA ds
end
-- a key of a dict, up to ==
mutual
def nk : D → NestedKey
  | .none => .none
  | .bool b => .num (if b = true then 1 else 0)
  | .int i => .num i
  | .str s => .text s
  | .tuple ds => .tup (nkA ds)
  | .list _ => .none
  | .dict _ => .none
def nkA : List D → List NestedKey
  | [] => []
  | d :: ds => nk d :: nkA ds
end
def flatK : D → Bool
  | .int _ => true
  | .str _ => true
  | _ => false
/-- a tuple of what never changes, not deep -/
def tupK : D → Bool
  | .tuple ds => immA ds && decide ((NestedKey.tup (nkA ds)).depth ≤ 8)
  | _ => false
def keyD : Key → D
  | .inl i => .int i
  | .inr s => .str s

/-! ### a dict's object -/
inductive DcO (M : Md) (H : Hp) (a : Addr) (o : Obj) : List D → List V → Prop
  | flat {es : Array DictEntry} {ep : Nat} {kvs : List (Key × Value)} {vs : List V} : o.ExactDict → o.data = .dict es ep → KeysOf (mixKind M.P M.w) es → Pairs (mixKind M.P M.w) es.toList kvs → (kvs.map (·.1)).Nodup →
      Vals vs (kvs.map (·.2)) → kvs.length ≤ sizeLine → (a == sysModules) = false → DcO M H a o (kvs.map fun p => keyD p.1) vs
  | nest {es : Array DictEntry} {ep : Nat} {xs : List (NestedKey × Addr × Value)} {ks : List D} {vs : List V} : o.ExactDict → o.data = .dict es ep → es.toList = xs.map (entryOfKey (nestedKind M.P M.w)) → (xs.map (·.1)).Nodup →
      Paired (fun (d : D) (x : NestedKey × Addr × Value) => tupK d = true ∧ nk d = x.1 ∧ Im M.K H d (.ref x.2.1)) ks xs → Vals vs (xs.map (·.2.2)) → xs.length ≤ sizeLine → (a == sysModules) = false → DcO M H a o ks vs
/-- the object at a is o -/
def exact (a : Addr) (o : Obj) : HO := .ext fun h => h.get? a = some o
def DcR (M : Md) (H : Hp) (a : Addr) (ks : List D) (vs : List V) : Prop := ∃ o, H a = some (exact a o) ∧ DcO M H a o ks vs

/-- a list in Z, or one that the top has made -/
def ZL (M : Md) (Z : Addr → Prop) (a : Addr) (vs : List V) : Prop := Z a ∨ ∀ H, SqL M.K H a vs
/-! ### data in the heap; what may change lies in Z -/
mutual
def Rp (M : Md) (Z : Addr → Prop) (H : Hp) : D → V → Prop
  | .none, v => v = .non
  | .bool b, v => v = .bl b
  | .int i, v => v = .int i
  | .str s, v => v = .str s
  | .tuple ds, v => ∃ a vs, v = .ref a ∧ SqT M.K H a vs ∧ RpA M Z H ds vs
  | .list ds, v => ∃ a vs, v = .ref a ∧ ZL M Z a vs ∧ SqL M.K H a vs ∧ RpA M Z H ds vs
  | .dict kvs, v => ∃ a vs, v = .ref a ∧ Z a ∧ DcR M H a (kvs.map (·.1)) vs ∧ RpK M Z H kvs vs
def RpA (M : Md) (Z : Addr → Prop) (H : Hp) : List D → List V → Prop
  | [], vs => vs = []
  | d :: ds, vs => ∃ v r, vs = v :: r ∧ Rp M Z H d v ∧ RpA M Z H ds r
def RpK (M : Md) (Z : Addr → Prop) (H : Hp) : List (D × D) → List V → Prop
  | [], vs => vs = []
  | (_, d) :: r, vs => ∃ v r', vs = v :: r' ∧ Rp M Z H d v ∧ RpK M Z H r r'
end
theorem RpK_iff {M : Md} {Z : Addr → Prop} {H : Hp} : ∀ {kvs : List (D × D)} {vs : List V}, RpK M Z H kvs vs ↔ RpA M Z H (kvs.map (·.2)) vs
  | [], vs => by simp [RpK, RpA]
  | (k, d) :: r, vs => by simp only [RpK, List.map_cons, RpA, RpK_iff]

/-- what H' keeps of H: what stands in Z, tuples, what is known -/
structure Kp (Z : Addr → Prop) (H H' : Hp) : Prop where
  z : ∀ a o, Z a → H a = some o → H' a = some o
  t : ∀ a xs, H a = some (.tup xs) → H' a = some (.tup xs)
  f : ∀ a o u, H a = some (.frz o u) → H' a = some (.frz o u)
theorem Kp.refl (Z : Addr → Prop) (H : Hp) : Kp Z H H := ⟨fun _ _ _ h => h, fun _ _ h => h, fun _ _ _ h => h⟩
theorem Kp.trans {Z : Addr → Prop} {H H1 H2 : Hp} (a : Kp Z H H1) (b : Kp Z H1 H2) : Kp Z H H2 :=
  ⟨fun c o z h => b.z c o z (a.z c o z h), fun c o h => b.t c o (a.t c o h), fun c o u h => b.f c o u (a.f c o u h)⟩
theorem Kp.mono {Z Z' : Addr → Prop} {H H1 : Hp} (a : Kp Z H H1) (h : ∀ p, Z' p → Z p) : Kp Z' H H1 := ⟨fun c o z e => a.z c o (h c z) e, a.t, a.f⟩
section
variable {M : Md} {K : PySem.W.Frag} {Z Z' : Addr → Prop} {H H' : Hp} {a : Addr} {vs : List V} {v : V} {d : D} {ds : List D}
theorem Kp.sqT (k : Kp Z H H') (h : SqT K H a vs) : SqT K H' a vs := by
  rcases h with (h | ⟨o, h⟩) | h
  · exact .inl (.inl (k.t _ _ h))
  · exact .inl (.inr ⟨o, k.f _ _ _ h⟩)
  · exact .inr h
theorem Kp.rd {u : HO} (k : Kp Z H H') (z : Z a) (h : Rd H a u) : Rd H' a u := by
  rcases h with h | ⟨o, h⟩
  · exact .inl (k.z _ _ z h)
  · exact .inr ⟨o, k.z _ _ z h⟩
theorem sqL_split {a : Addr} {vs : List V} (h : SqL K H a vs) : Rd H a (.lst vs) ∨ ∀ H, SqL K H a vs := h.imp id fun h H => .inr h
theorem ZL.keep {a : Addr} {vs : List V} (k : Kp Z H H') (z : ZL M Z a vs) (h : SqL M.K H a vs) : SqL M.K H' a vs := by
  rcases z with z | z
  · rcases h with h | h
    · exact .inl (k.rd z h)
    · exact .inr h
  · exact z H'
theorem Rd.trk {u : HO} (h : Rd H a u) : H a ≠ none := by
  rcases h with h | ⟨o, h⟩ <;> rw [h] <;> exact Option.some_ne_none _
mutual
theorem Im.keep (k : Kp Z H H') : ∀ (d : D) (v : V), Im K H d v → Im K H' d v
  | .none, _, h => h
  | .bool _, _, h => h
  | .int _, _, h => h
  | .str _, _, h => h
  | .tuple ds, v, h => by
    obtain ⟨a, vs, e, q, r⟩ := h
    exact ⟨a, vs, e, k.sqT q, ImA.keep k ds vs r⟩
  | .list _, _, h => h.elim
  | .dict _, _, h => h.elim
theorem ImA.keep (k : Kp Z H H') : ∀ (ds : List D) (vs : List V), ImA K H ds vs → ImA K H' ds vs
  | [], _, h => h
  | d :: ds, _, h => by
    obtain ⟨v, r, e, q, t⟩ := h
    exact ⟨v, r, e, Im.keep k d v q, ImA.keep k ds r t⟩
end
theorem Paired.mapR {α β : Type} {F G : α → β → Prop} : ∀ {l₁ : List α} {l₂ : List β}, Paired F l₁ l₂ → (∀ a b, F a b → G a b) → Paired G l₁ l₂
  | _, _, .nil, _ => .nil
  | _, _, .cons r t, f => .cons (f _ _ r) (Paired.mapR t f)
theorem DcO.keep {o : Obj} {ks : List D} (k : Kp Z H H') (h : DcO M H a o ks vs) : DcO M H' a o ks vs := by
  cases h with
  | flat h1 h2 h3 h4 h5 h6 h7 h8 => exact .flat h1 h2 h3 h4 h5 h6 h7 h8
  | nest h1 h2 h3 h4 h5 h6 h7 h8 => exact .nest h1 h2 h3 h4 (Paired.mapR h5 fun d x q => ⟨q.1, q.2.1, Im.keep k _ _ q.2.2⟩) h6 h7 h8
theorem DcR.keep {ks : List D} (k : Kp Z H H') (z : Z a) (h : DcR M H a ks vs) : DcR M H' a ks vs := by
  obtain ⟨o, e, q⟩ := h
  exact ⟨o, k.z _ _ z e, q.keep k⟩
mutual
theorem Rp.keep (k : Kp Z H H') : ∀ (d : D) (v : V), Rp M Z H d v → Rp M Z H' d v
  | .none, _, h => h
  | .bool _, _, h => h
  | .int _, _, h => h
  | .str _, _, h => h
  | .tuple ds, v, h => by
    obtain ⟨a, vs, e, q, r⟩ := h
    exact ⟨a, vs, e, k.sqT q, RpA.keep k ds vs r⟩
  | .list ds, v, h => by
    obtain ⟨a, vs, e, z, q, r⟩ := h
    exact ⟨a, vs, e, z, z.keep k q, RpA.keep k ds vs r⟩
  | .dict kvs, v, h => by
    obtain ⟨a, vs, e, z, q, r⟩ := h
    exact ⟨a, vs, e, z, q.keep k z, RpK.keep k kvs vs r⟩
theorem RpA.keep (k : Kp Z H H') : ∀ (ds : List D) (vs : List V), RpA M Z H ds vs → RpA M Z H' ds vs
  | [], _, h => h
  | d :: ds, _, h => by
    obtain ⟨v, r, e, q, t⟩ := h
    exact ⟨v, r, e, Rp.keep k d v q, RpA.keep k ds r t⟩
theorem RpK.keep (k : Kp Z H H') : ∀ (kvs : List (D × D)) (vs : List V), RpK M Z H kvs vs → RpK M Z H' kvs vs
  | [], _, h => h
  | (_, d) :: ds, _, h => by
    obtain ⟨v, r, e, q, t⟩ := h
    exact ⟨v, r, e, Rp.keep k d v q, RpK.keep k ds r t⟩
end
-- a wider region
mutual
theorem Rp.wide (hz : ∀ p, Z p → H p ≠ none → Z' p) : ∀ (d : D) (v : V), Rp M Z H d v → Rp M Z' H d v
  | .none, _, h => h
  | .bool _, _, h => h
  | .int _, _, h => h
  | .str _, _, h => h
  | .tuple ds, v, h => by
    obtain ⟨a, vs, e, q, r⟩ := h
    exact ⟨a, vs, e, q, RpA.wide hz ds vs r⟩
  | .list ds, v, h => by
    obtain ⟨a, vs, e, z, q, r⟩ := h
    refine ⟨a, vs, e, ?_, q, RpA.wide hz ds vs r⟩
    rcases sqL_split q with q | q
    · exact z.imp (fun z => hz a z (Rd.trk q)) id
    · exact .inr q
  | .dict kvs, v, h => by
    obtain ⟨a, vs, e, z, q, r⟩ := h
    exact ⟨a, vs, e, hz a z (by obtain ⟨o, e', _⟩ := q; rw [e']; exact Option.some_ne_none _), q, RpK.wide hz kvs vs r⟩
theorem RpA.wide (hz : ∀ p, Z p → H p ≠ none → Z' p) : ∀ (ds : List D) (vs : List V), RpA M Z H ds vs → RpA M Z' H ds vs
  | [], _, h => h
  | d :: ds, _, h => by
    obtain ⟨v, r, e, q, t⟩ := h
    exact ⟨v, r, e, Rp.wide hz d v q, RpA.wide hz ds r t⟩
theorem RpK.wide (hz : ∀ p, Z p → H p ≠ none → Z' p) : ∀ (kvs : List (D × D)) (vs : List V), RpK M Z H kvs vs → RpK M Z' H kvs vs
  | [], _, h => h
  | (_, d) :: ds, _, h => by
    obtain ⟨v, r, e, q, t⟩ := h
    exact ⟨v, r, e, Rp.wide hz d v q, RpK.wide hz ds r t⟩
end
-- what never changes lies in any region
mutual
theorem Rp.of_imm : ∀ (d : D) (v : V), imm d = true → Rp M Z H d v → Im M.K H d v
  | .none, _, _, h => h
  | .bool _, _, _, h => h
  | .int _, _, _, h => h
  | .str _, _, _, h => h
  | .tuple ds, v, i, h => by
    obtain ⟨a, vs, e, q, r⟩ := h
    exact ⟨a, vs, e, q, RpA.of_imm ds vs (by simpa [imm] using i) r⟩
  | .list _, _, i, _ => by simp [imm] at i
  | .dict _, _, i, _ => by simp [imm] at i
theorem RpA.of_imm : ∀ (ds : List D) (vs : List V), immA ds = true → RpA M Z H ds vs → ImA M.K H ds vs
  | [], _, _, h => h
  | d :: ds, _, i, h => by
    obtain ⟨v, r, e, q, t⟩ := h
    have i' : imm d = true ∧ immA ds = true := by simpa [immA] using i
    exact ⟨v, r, e, Rp.of_imm d v i'.1 q, RpA.of_imm ds r i'.2 t⟩
end
mutual
theorem Im.rp : ∀ (d : D) (v : V), Im M.K H d v → Rp M Z H d v
  | .none, _, h => h
  | .bool _, _, h => h
  | .int _, _, h => h
  | .str _, _, h => h
  | .tuple ds, v, h => by
    obtain ⟨a, vs, e, q, r⟩ := h
    exact ⟨a, vs, e, q, ImA.rp ds vs r⟩
  | .list _, _, h => h.elim
  | .dict _, _, h => h.elim
theorem ImA.rp : ∀ (ds : List D) (vs : List V), ImA M.K H ds vs → RpA M Z H ds vs
  | [], _, h => h
  | d :: ds, _, h => by
    obtain ⟨v, r, e, q, t⟩ := h
    exact ⟨v, r, e, Im.rp d v q, ImA.rp ds r t⟩
end
theorem Rp.imm_any (i : imm d = true) (h : Rp M Z H d v) : Rp M Z' H d v := Im.rp d v (Rp.of_imm d v i h)
theorem RpA.length : ∀ {ds : List D} {vs : List V}, RpA M Z H ds vs → vs.length = ds.length
  | [], _, h => by
    have e : _ = [] := h
    rw [e]; rfl
  | d :: ds, _, h => by
    obtain ⟨v, r, e, _, t⟩ := h
    rw [e, List.length_cons, List.length_cons, RpA.length t]
theorem RpA.get : ∀ {ds : List D} {vs : List V} {i : Nat} {d : D}, RpA M Z H ds vs → ds[i]? = some d → ∃ v, vs[i]? = some v ∧ Rp M Z H d v
  | [], _, _, _, _, e => by simp at e
  | d :: ds, _, 0, _, h, e => by
    obtain ⟨v, r, e', q, t⟩ := h
    subst e'
    simp at e
    subst e
    exact ⟨v, rfl, q⟩
  | d :: ds, _, i + 1, x, h, e => by
    obtain ⟨v, r, e', q, t⟩ := h
    subst e'
    obtain ⟨u, h1, h2⟩ := RpA.get (i := i) t (by simpa using e)
    exact ⟨u, by simpa using h1, h2⟩
theorem RpA.append : ∀ {ds es : List D} {vs us : List V}, RpA M Z H ds vs → RpA M Z H es us → RpA M Z H (ds ++ es) (vs ++ us)
  | [], _, _, _, h, h' => by
    have e : _ = [] := h
    rw [e]; exact h'
  | d :: ds, _, _, _, h, h' => by
    obtain ⟨v, r, e, q, t⟩ := h
    subst e
    exact ⟨v, _, rfl, q, RpA.append t h'⟩
theorem RpA.one (h : Rp M Z H d v) : RpA M Z H [d] [v] := ⟨v, [], rfl, h, rfl⟩
theorem RpA.cons (h : Rp M Z H d v) (t : RpA M Z H ds vs) : RpA M Z H (d :: ds) (v :: vs) := ⟨v, vs, rfl, h, t⟩
theorem RpA.take : ∀ {ds : List D} {vs : List V} (n : Nat), RpA M Z H ds vs → RpA M Z H (ds.take n) (vs.take n)
  | _, _, 0, _ => by simp [RpA]
  | [], _, _ + 1, h => by
    have e : _ = [] := h
    rw [e]; exact rfl
  | d :: ds, _, n + 1, h => by
    obtain ⟨v, r, e, q, t⟩ := h
    subst e
    exact ⟨v, _, rfl, q, RpA.take n t⟩
theorem RpA.drop : ∀ {ds : List D} {vs : List V} (n : Nat), RpA M Z H ds vs → RpA M Z H (ds.drop n) (vs.drop n)
  | _, _, 0, h => h
  | [], _, _ + 1, h => by
    have e : _ = [] := h
    rw [e]; exact rfl
  | d :: ds, _, n + 1, h => by
    obtain ⟨v, r, e, q, t⟩ := h
    subst e
    exact RpA.drop n t
theorem RpA.set : ∀ {ds : List D} {vs : List V} (n : Nat), RpA M Z H ds vs → Rp M Z H d v → RpA M Z H (ds.set n d) (vs.set n v)
  | [], _, _, h, _ => by
    have e : _ = [] := h
    rw [e]; exact rfl
  | e :: ds, _, 0, h, h' => by
    obtain ⟨u, r, e', q, t⟩ := h
    subst e'
    exact ⟨v, _, rfl, h', t⟩
  | e :: ds, _, n + 1, h, h' => by
    obtain ⟨u, r, e', q, t⟩ := h
    subst e'
    exact ⟨u, _, rfl, q, RpA.set n t h'⟩
theorem RpA.at : ∀ {ds : List D} {vs : List V} {i : Nat} {v : V}, RpA M Z H ds vs → vs[i]? = some v → ∃ d, ds[i]? = some d ∧ Rp M Z H d v
  | [], _, _, _, h, e => by
    have e' : _ = [] := h
    rw [e'] at e; simp at e
  | d :: ds, _, 0, _, h, e => by
    obtain ⟨v, r, e', q, t⟩ := h
    subst e'
    simp at e
    subst e
    exact ⟨d, rfl, q⟩
  | d :: ds, _, i + 1, x, h, e => by
    obtain ⟨v, r, e', q, t⟩ := h
    subst e'
    obtain ⟨u, h1, h2⟩ := RpA.at (i := i) t (by simpa using e)
    exact ⟨u, by simpa using h1, h2⟩
end
end VL
namespace VL
open PySem PySem.Spec PyProof.Rows L2

/-! ### owned data: k levels down, what may change lies at F, the rest in Z -/
inductive OwA (P : D → V → List Addr → Prop) : List D → List V → List (List Addr) → Prop
  | nil : OwA P [] [] []
  | cons {d v F ds vs Fs} : P d v F → OwA P ds vs Fs → OwA P (d :: ds) (v :: vs) (F :: Fs)
def Ow (M : Md) (Z : Addr → Prop) (H : Hp) : Nat → D → V → List Addr → Prop
  | 0, d, v, F => F = [] ∧ Rp M Z H d v
  | k + 1, .list ds, v, F => ∃ a vs Fs, v = .ref a ∧ F = a :: Fs.flatten ∧ H a = some (.lst vs) ∧ OwA (fun d v F => Ow M Z H k d v F) ds vs Fs
  | k + 1, .dict kvs, v, F => ∃ a vs Fs, v = .ref a ∧ F = a :: Fs.flatten ∧ DcR M H a (kvs.map (·.1)) vs ∧ OwA (fun d v F => Ow M Z H k d v F) (kvs.map (·.2)) vs Fs
  | _ + 1, d, v, F => F = [] ∧ Rp M Z H d v
def mutb : D → Bool
  | .list _ => true
  | .dict _ => true
  | _ => false
section
variable {M : Md} {Z Z' : Addr → Prop} {H H' : Hp} {k : Nat} {d : D} {v : V} {F : List Addr} {ds : List D} {vs : List V} {Fs : List (List Addr)}
theorem Ow.plain (h : mutb d = false) : Ow M Z H k d v F ↔ F = [] ∧ Rp M Z H d v := by
  cases k with
  | zero => simp [Ow]
  | succ k => cases d <;> simp_all [Ow, mutb]
theorem mutb_imm (h : imm d = true) : mutb d = false := by cases d <;> simp_all [imm, mutb]
theorem Ow.imm (i : imm d = true) (h : Rp M Z' H d v) : Ow M Z H k d v [] := (Ow.plain (mutb_imm i)).mpr ⟨rfl, Rp.imm_any i h⟩
theorem OwA.imp {P Q : D → V → List Addr → Prop} (h : OwA P ds vs Fs) (hPQ : ∀ d v F, F ∈ Fs → P d v F → Q d v F) : OwA Q ds vs Fs := by
  induction h with
  | nil => exact .nil
  | cons p _ ih => exact .cons (hPQ _ _ _ List.mem_cons_self p) (ih fun d v F hF => hPQ d v F (List.mem_cons_of_mem _ hF))
theorem OwA.len {P : D → V → List Addr → Prop} (h : OwA P ds vs Fs) : vs.length = ds.length ∧ Fs.length = ds.length := by
  induction h with
  | nil => exact ⟨rfl, rfl⟩
  | cons _ _ ih => simp [ih]
theorem OwA.append {P : D → V → List Addr → Prop} {ds' vs' Fs'} (h : OwA P ds vs Fs) (h' : OwA P ds' vs' Fs') : OwA P (ds ++ ds') (vs ++ vs') (Fs ++ Fs') := by
  induction h with
  | nil => exact h'
  | cons p _ ih => exact .cons p ih
theorem Kp.dcR {a : Addr} {ks : List D} (k : Kp Z H H') (z : Z a) (h : DcR M H a ks vs) : DcR M H' a ks vs := h.keep k z
theorem Ow.keep : ∀ {k : Nat} {d : D} {v : V} {F : List Addr}, Kp (fun p => Z p ∨ p ∈ F) H H' → Ow M Z H k d v F → Ow M Z H' k d v F
  | 0, d, v, F, kp, h => ⟨h.1, Rp.keep (kp.mono fun p hp => .inl hp) d v h.2⟩
  | k + 1, d, v, F, kp, h => by
    cases d with
    | list ds =>
      obtain ⟨a, vs, Fs, e, eF, ha, q⟩ := h
      subst eF
      refine ⟨a, vs, Fs, e, rfl, kp.z _ _ (.inr List.mem_cons_self) ha, q.imp fun d v F hF p => Ow.keep (kp.mono fun x hx => ?_) p⟩
      rcases hx with hx | hx
      · exact .inl hx
      · exact .inr (List.mem_cons_of_mem _ (List.mem_flatten.mpr ⟨F, hF, hx⟩))
    | dict kvs =>
      obtain ⟨a, vs, Fs, e, eF, ha, q⟩ := h
      subst eF
      refine ⟨a, vs, Fs, e, rfl, ha.keep kp (.inr List.mem_cons_self), q.imp fun d v F hF p => Ow.keep (kp.mono fun x hx => ?_) p⟩
      rcases hx with hx | hx
      · exact .inl hx
      · exact .inr (List.mem_cons_of_mem _ (List.mem_flatten.mpr ⟨F, hF, hx⟩))
    | _ =>
      obtain ⟨h1, h2⟩ := (Ow.plain rfl).mp h
      exact (Ow.plain rfl).mpr ⟨h1, Rp.keep (kp.mono fun p hp => .inl hp) _ v h2⟩
theorem Ow.wide (hz : ∀ p, Z p → H p ≠ none → Z' p) : ∀ {k : Nat} {d : D} {v : V} {F : List Addr}, Ow M Z H k d v F → Ow M Z' H k d v F
  | 0, d, v, F, h => ⟨h.1, Rp.wide hz d v h.2⟩
  | k + 1, d, v, F, h => by
    cases d with
    | list ds =>
      obtain ⟨a, vs, Fs, e, eF, ha, q⟩ := h
      exact ⟨a, vs, Fs, e, eF, ha, q.imp fun d v F hF p => Ow.wide hz p⟩
    | dict kvs =>
      obtain ⟨a, vs, Fs, e, eF, ha, q⟩ := h
      exact ⟨a, vs, Fs, e, eF, ha, q.imp fun d v F hF p => Ow.wide hz p⟩
    | _ =>
      obtain ⟨h1, h2⟩ := (Ow.plain rfl).mp h
      exact (Ow.plain rfl).mpr ⟨h1, Rp.wide hz _ v h2⟩
theorem Ow.tracked : ∀ {k : Nat} {d : D} {v : V} {F : List Addr}, Ow M Z H k d v F → ∀ p ∈ F, H p ≠ none
  | 0, d, v, F, h, p, hp => by rw [h.1] at hp; exact absurd hp (by simp)
  | k + 1, d, v, F, h, p, hp => by
    have go : ∀ {ds vs Fs}, OwA (fun d v F => Ow M Z H k d v F) ds vs Fs → p ∈ Fs.flatten → H p ≠ none := fun {ds vs Fs} q hp => by
      induction q with
      | nil => simp at hp
      | cons q _ ih =>
        rw [List.flatten_cons, List.mem_append] at hp
        rcases hp with hp | hp
        · exact Ow.tracked q p hp
        · exact ih hp
    cases d with
    | list ds =>
      obtain ⟨a, vs, Fs, e, eF, ha, q⟩ := h
      subst eF
      rcases List.mem_cons.mp hp with rfl | hp
      · rw [ha]; exact Option.some_ne_none _
      · exact go q hp
    | dict kvs =>
      obtain ⟨a, vs, Fs, e, eF, ⟨o, ha, _⟩, q⟩ := h
      subst eF
      rcases List.mem_cons.mp hp with rfl | hp
      · rw [ha]; exact Option.some_ne_none _
      · exact go q hp
    | _ =>
      obtain ⟨h1, h2⟩ := (Ow.plain rfl).mp h
      rw [h1] at hp; exact absurd hp (by simp)
theorem OwA.rpA {P : D → V → List Addr → Prop} {Z₁ : Addr → Prop} (h : OwA P ds vs Fs) (hP : ∀ d v F, F ∈ Fs → P d v F → Rp M Z₁ H d v) : RpA M Z₁ H ds vs := by
  induction h with
  | nil => exact rfl
  | cons p _ ih => exact ⟨_, _, rfl, hP _ _ _ List.mem_cons_self p, ih fun d v F hF => hP d v F (List.mem_cons_of_mem _ hF)⟩
/-- owned data, read -/
theorem Ow.rp : ∀ {k : Nat} {d : D} {v : V} {F : List Addr}, Ow M Z H k d v F → Rp M (fun p => Z p ∨ p ∈ F) H d v
  | 0, d, v, F, h => Rp.wide (fun p hp _ => .inl hp) d v h.2
  | k + 1, d, v, F, h => by
    cases d with
    | list ds =>
      obtain ⟨a, vs, Fs, e, eF, ha, q⟩ := h
      subst eF
      refine ⟨a, vs, e, .inl (.inr List.mem_cons_self), .inl (.inl ha), q.rpA fun d v F hF p => Rp.wide (fun x hx _ => ?_) d v (Ow.rp p)⟩
      rcases hx with hx | hx
      · exact .inl hx
      · exact .inr (List.mem_cons_of_mem _ (List.mem_flatten.mpr ⟨F, hF, hx⟩))
    | dict kvs =>
      obtain ⟨a, vs, Fs, e, eF, ha, q⟩ := h
      subst eF
      refine ⟨a, vs, e, .inr List.mem_cons_self, ha, RpK_iff.mpr (q.rpA fun d v F hF p => Rp.wide (fun x hx _ => ?_) d v (Ow.rp p))⟩
      rcases hx with hx | hx
      · exact .inl hx
      · exact .inr (List.mem_cons_of_mem _ (List.mem_flatten.mpr ⟨F, hF, hx⟩))
    | _ =>
      obtain ⟨h1, h2⟩ := (Ow.plain rfl).mp h
      exact Rp.wide (fun p hp _ => .inl hp) _ v h2
/-- fewer levels -/
theorem Ow.lower : ∀ {k j : Nat} {d : D} {v : V} {F : List Addr}, j ≤ k → F.Nodup → Ow M Z H k d v F → ∃ F', F'.Nodup ∧ (∀ p ∈ F', p ∈ F) ∧ Ow M (fun p => Z p ∨ (p ∈ F ∧ p ∉ F')) H j d v F'
  | k, 0, d, v, F, _, _, h => ⟨[], List.nodup_nil, fun p hp => absurd hp (by simp), rfl, Rp.wide (fun p hp _ => hp.imp id fun h => ⟨h, by simp⟩) d v (Ow.rp h)⟩
  | 0, j + 1, d, v, F, hj, _, h => absurd hj (by omega)
  | k + 1, j + 1, d, v, F, hj, nd, h => by
    have go : ∀ {ds vs Fs}, Fs.flatten.Nodup → OwA (fun d v F => Ow M Z H k d v F) ds vs Fs →
        ∃ Fs', Fs'.flatten.Nodup ∧ (∀ p ∈ Fs'.flatten, p ∈ Fs.flatten) ∧ OwA (fun d v F' => Ow M (fun p => Z p ∨ (p ∈ Fs.flatten ∧ p ∉ Fs'.flatten)) H j d v F') ds vs Fs' := fun {ds vs Fs} nd q => by
      induction q with
      | nil => exact ⟨[], List.nodup_nil, fun _ h => h, .nil⟩
      | @cons d v F ds vs Fs p _ ih =>
        rw [List.flatten_cons, List.nodup_append] at nd
        obtain ⟨n1, n2, n3⟩ := nd
        obtain ⟨F', m1, m2, m3⟩ := Ow.lower (Nat.le_of_succ_le_succ hj) n1 p
        obtain ⟨Fs', l1, l2, l3⟩ := ih n2
        refine ⟨F' :: Fs', ?_, fun x hx => ?_, .cons (Ow.wide (fun x hx _ => ?_) m3) (l3.imp fun d v G hG p => Ow.wide (fun x hx _ => ?_) p)⟩
        · rw [List.flatten_cons, List.nodup_append]
          exact ⟨m1, l1, fun a ha b hb => n3 a (m2 a ha) b (l2 b hb)⟩
        · rw [List.flatten_cons, List.mem_append] at hx ⊢
          exact hx.imp (m2 x) (l2 x)
        · rcases hx with hx | ⟨h1, h2⟩
          · exact .inl hx
          · refine .inr ⟨by rw [List.flatten_cons, List.mem_append]; exact .inl h1, ?_⟩
            rw [List.flatten_cons, List.mem_append]
            rintro (h | h)
            · exact h2 h
            · exact n3 x h1 x (l2 x h) rfl
        · rcases hx with hx | ⟨h1, h2⟩
          · exact .inl hx
          · refine .inr ⟨by rw [List.flatten_cons, List.mem_append]; exact .inr h1, ?_⟩
            rw [List.flatten_cons, List.mem_append]
            rintro (h | h)
            · exact n3 x (m2 x h) x h1 rfl
            · exact h2 h
    cases d with
    | list ds =>
      obtain ⟨a, vs, Fs, e, eF, ha, q⟩ := h
      subst eF
      rw [List.nodup_cons] at nd
      obtain ⟨Fs', l1, l2, l3⟩ := go nd.2 q
      refine ⟨a :: Fs'.flatten, ?_, fun x hx => ?_, a, vs, Fs', e, rfl, ha, l3.imp fun d v G hG p => Ow.wide (fun x hx _ => ?_) p⟩
      · rw [List.nodup_cons]; exact ⟨fun h => nd.1 (l2 _ h), l1⟩
      · rcases List.mem_cons.mp hx with rfl | hx
        · exact List.mem_cons_self
        · exact List.mem_cons_of_mem _ (l2 x hx)
      · rcases hx with hx | ⟨h1, h2⟩
        · exact .inl hx
        · exact .inr ⟨List.mem_cons_of_mem _ h1, fun h => (List.mem_cons.mp h).elim (fun e => nd.1 (e ▸ h1)) h2⟩
    | dict kvs =>
      obtain ⟨a, vs, Fs, e, eF, ha, q⟩ := h
      subst eF
      rw [List.nodup_cons] at nd
      obtain ⟨Fs', l1, l2, l3⟩ := go nd.2 q
      refine ⟨a :: Fs'.flatten, ?_, fun x hx => ?_, a, vs, Fs', e, rfl, ha, l3.imp fun d v G hG p => Ow.wide (fun x hx _ => ?_) p⟩
      · rw [List.nodup_cons]; exact ⟨fun h => nd.1 (l2 _ h), l1⟩
      · rcases List.mem_cons.mp hx with rfl | hx
        · exact List.mem_cons_self
        · exact List.mem_cons_of_mem _ (l2 x hx)
      · rcases hx with hx | ⟨h1, h2⟩
        · exact .inl hx
        · exact .inr ⟨List.mem_cons_of_mem _ h1, fun h => (List.mem_cons.mp h).elim (fun e => nd.1 (e ▸ h1)) h2⟩
    | _ =>
      obtain ⟨h1, h2⟩ := (Ow.plain rfl).mp h
      exact ⟨[], List.nodup_nil, fun p hp => absurd hp (by simp), (Ow.plain rfl).mpr ⟨rfl, Rp.wide (fun p hp _ => .inl hp) _ v h2⟩⟩
end

/-! ### the environment -/
inductive Sl where
  /-- nothing is known -/
  | gone
  /-- owned, so many levels down (0: it never changes as long as this body runs) -/
  | own (k : Nat) (d : D)
  /-- an argument that is only read -/
  | bor (d : D)
  /-- read off a thing that may change -/
  | now (d : D)
  /-- the drawing hand -/
  | hnd
structure Cv where
  H0 : Hp
  Zb : Addr → Prop
  hd : Addr → Prop
/-- the law's hand of numbers to draw from: its cells, and itself -/
def CellsAt (H : Hp) (c : Addr) : Prop := ∃ cs : List Int, H c = some (.lst (cs.map V.int)) ∧ (∀ x ∈ cs, 0 ≤ x ∧ x < 10 ^ 36) ∧ cs.length ≤ 63
def HandAt (hd : Addr → Prop) (H : Hp) (p : Addr) : Prop := ∃ (c : Addr) (i r m n : Int), H p = some (.lst [.ref c, .int i, .int r, .int m, .int n]) ∧ hd c ∧ CellsAt H c ∧
  0 ≤ i ∧ 0 ≤ r ∧ r < 10 ^ 36 ∧ 0 ≤ m ∧ m < 2147483648 ∧ 0 ≤ n
def HandOk (hd : Addr → Prop) (H : Hp) (p : Addr) : Prop := HandAt hd H p ∨ CellsAt H p
structure SameX (hd : Addr → Prop) (H H' : Hp) : Prop where
  kp : Kp (fun p => ¬ hd p) H H'
  hand : ∀ p, hd p → HandAt hd H p → HandAt hd H' p
  cell : ∀ p, hd p → CellsAt H p → CellsAt H' p
theorem SameX.refl (hd : Addr → Prop) (H : Hp) : SameX hd H H := ⟨Kp.refl _ _, fun _ _ h => h, fun _ _ h => h⟩
theorem SameX.trans {hd : Addr → Prop} {H H1 H2 : Hp} (a : SameX hd H H1) (b : SameX hd H1 H2) : SameX hd H H2 := ⟨a.kp.trans b.kp, fun p h q => b.hand p h (a.hand p h q), fun p h q => b.cell p h (a.cell p h q)⟩
theorem SameX.ok {hd : Addr → Prop} {H H1 : Hp} {p : Addr} (a : SameX hd H H1) (h : hd p) (q : HandOk hd H p) : HandOk hd H1 p := q.imp (a.hand p h) (a.cell p h)
theorem SameX.trk {hd : Addr → Prop} {H H1 : Hp} {p : Addr} (a : SameX hd H H1) (h : ¬ hd p) (e : H p ≠ none) : H1 p ≠ none := by
  cases q : H p with
  | none => exact absurd q e
  | some o => rw [a.kp.z p o h q]; exact Option.some_ne_none _
theorem CellsAt.keep {H H' : Hp} {c : Addr} (h : CellsAt H c) (k : ∀ o, H c = some o → H' c = some o) : CellsAt H' c := by
  obtain ⟨cs, e, r⟩ := h
  exact ⟨cs, k _ e, r⟩
theorem HandAt.keep {hd : Addr → Prop} {H H' : Hp} {p : Addr} (h : HandAt hd H p) (hp : hd p) (k : ∀ c o, hd c → H c = some o → H' c = some o) : HandAt hd H' p := by
  obtain ⟨c, i, r, m, n, e, hc, q, b⟩ := h
  exact ⟨c, i, r, m, n, k _ _ hp e, hc, q.keep fun o => k c o hc, b⟩
theorem SameX.of_same {hd : Addr → Prop} {H H' : Hp} (s : Same H H') : SameX hd H H' :=
  ⟨⟨fun a o _ h => s a o h, fun a xs h => s a _ h, fun a o u h => s a _ h⟩, fun p hp h => h.keep hp fun c o _ e => s c o e, fun p _ h => h.keep fun o e => s p o e⟩
abbrev Fp := Nat → List Addr
def updF (Fs : Fp) (n : Nat) (F : List Addr) : Fp := fun i => if i = n then F else Fs i
theorem updF_same {Fs : Fp} {n : Nat} {F : List Addr} : updF Fs n F n = F := by unfold updF; rw [if_pos rfl]
theorem updF_ne {Fs : Fp} {n i : Nat} {F : List Addr} (h : i ≠ n) : updF Fs n F i = Fs i := by unfold updF; rw [if_neg h]
theorem updF_upd {Fs : Fp} {n : Nat} {F G : List Addr} : updF (updF Fs n F) n G = updF Fs n G := by funext i; unfold updF; split <;> rfl
theorem updF_self {Fs : Fp} {n : Nat} : updF Fs n (Fs n) = Fs := by funext i; unfold updF; split <;> simp_all
theorem updF_comm {Fs : Fp} {n m : Nat} {F G : List Addr} (h : n ≠ m) : updF (updF Fs n F) m G = updF (updF Fs m G) n F := by funext i; unfold updF; split <;> split <;> simp_all
def ownd (Fs : Fp) (p : Addr) : Prop := ∃ i, p ∈ Fs i
/-- where frozen things lie -/
def Zf (C : Cv) (Fs : Fp) (p : Addr) : Prop := ¬ ownd Fs p ∧ ¬ C.hd p ∧ (C.Zb p ∨ C.H0 p = none)
/-- where arguments lie -/
def Zo (C : Cv) (p : Addr) : Prop := ¬ C.hd p ∧ C.H0 p ≠ none
def SlR (M : Md) (C : Cv) (Fs : Fp) (H : Hp) (i : Nat) : Sl → V → Prop
  | .gone, _ => True
  | .own k d, v => Ow M (Zf C Fs) H k d v (Fs i)
  | .bor d, v => Fs i = [] ∧ Rp M (Zo C) H d v
  | .now d, v => Fs i = [] ∧ Rp M (fun p => ¬ C.hd p) H d v
  | .hnd, v => Fs i = [] ∧ ∃ a, v = .ref a ∧ C.hd a ∧ HandAt C.hd H a
/-- the footprints are laid -/
structure FpR (C : Cv) (Fs : Fp) (H : Hp) : Prop where
  nd : ∀ i, (Fs i).Nodup
  dj : ∀ i j p, p ∈ Fs i → p ∈ Fs j → i = j
  fr : ∀ i p, p ∈ Fs i → C.H0 p = none ∧ ¬ C.hd p ∧ H p ≠ none
  fin : ∃ N, ∀ i, N ≤ i → Fs i = []
  same : SameX C.hd C.H0 H
  hok : ∀ p, C.hd p → HandOk C.hd H p
/-- of such slots something is known -/
def live : Sl → Bool
  | .gone => false
  | .now _ => false
  | _ => true
structure ER (M : Md) (C : Cv) (Fs : Fp) (Γ : List Sl) (σ : L2.St) (H : Hp) : Prop where
  fp : FpR C Fs H
  len : σ.length = Γ.length
  sl : ∀ i s, Γ[i]? = some s → live s = true → ∃ v, σ[i]? = some (some v) ∧ SlR M C Fs H i s v
  gn : ∀ i : Nat, Γ[i]? = some Sl.gone → Fs i = []
section
variable {M : Md} {C : Cv} {Fs : Fp} {Γ : List Sl} {σ : L2.St} {H H' : Hp} {n i j : Nat} {F : List Addr} {r s : Sl} {v : V} {d : D} {k : Nat}
theorem FpR.nohd {p : Addr} (f : FpR C Fs H) (h : H p = none) : ¬ C.hd p := fun z => by
  rcases f.hok p z with ⟨c, i, r, m, n, e, _⟩ | ⟨cs, e, _⟩
  · rw [h] at e; cases e
  · rw [h] at e; cases e
theorem FpR.free (f : FpR C Fs H) (m : Nat) : ∃ n, m ≤ n ∧ Fs n = [] := by
  obtain ⟨N, h⟩ := f.fin
  exact ⟨max m N, Nat.le_max_left _ _, h _ (Nat.le_max_right _ _)⟩
theorem FpR.step (f : FpR C Fs H) (x : SameX C.hd H H') : FpR C Fs H' :=
  ⟨f.nd, f.dj, fun i p hp => let ⟨a, b, c⟩ := f.fr i p hp; ⟨a, b, x.trk b c⟩, f.fin, f.same.trans x, fun p hp => x.ok hp (f.hok p hp)⟩
theorem ownd_updF (p : Addr) : ownd (updF Fs n F) p ↔ p ∈ F ∨ ∃ i, i ≠ n ∧ p ∈ Fs i := by
  constructor
  · rintro ⟨i, hi⟩
    by_cases h : i = n
    · subst h; rw [updF_same] at hi; exact .inl hi
    · rw [updF_ne h] at hi; exact .inr ⟨i, h, hi⟩
  · rintro (h | ⟨i, h, hi⟩)
    · exact ⟨n, by rw [updF_same]; exact h⟩
    · exact ⟨i, by rw [updF_ne h]; exact hi⟩
/-- a new footprint at n: fresh addresses -/
theorem FpR.lay (f : FpR C Fs H) (x : SameX C.hd H H') (nd : F.Nodup) (hF : ∀ p ∈ F, H p = none ∧ ¬ C.hd p ∧ H' p ≠ none) : FpR C (updF Fs n F) H' := by
  have old : ∀ i p, p ∈ Fs i → p ∉ F := fun i p hp hq => (f.fr i p hp).2.2 (hF p hq).1
  refine ⟨fun i => ?_, fun i j p hi hj => ?_, fun i p hp => ?_, ?_, f.same.trans x, fun p hp => x.ok hp (f.hok p hp)⟩
  · by_cases h : i = n
    · subst h; rw [updF_same]; exact nd
    · rw [updF_ne h]; exact f.nd i
  · by_cases h : i = n
    · subst h
      rw [updF_same] at hi
      by_cases h' : j = i
      · exact h'.symm
      · rw [updF_ne h'] at hj; exact absurd hi (old j p hj)
    · rw [updF_ne h] at hi
      by_cases h' : j = n
      · subst h'; rw [updF_same] at hj; exact absurd hj (old i p hi)
      · rw [updF_ne h'] at hj; exact f.dj i j p hi hj
  · by_cases h : i = n
    · subst h
      rw [updF_same] at hp
      obtain ⟨a, b, c⟩ := hF p hp
      refine ⟨?_, b, c⟩
      cases q : C.H0 p with
      | none => rfl
      | some o => exact absurd a (f.same.trk b (by rw [q]; exact Option.some_ne_none _))
    · rw [updF_ne h] at hp
      obtain ⟨a, b, c⟩ := f.fr i p hp
      exact ⟨a, b, x.trk b c⟩
  · obtain ⟨N, hN⟩ := f.fin
    refine ⟨max N (n + 1), fun i hi => ?_⟩
    rw [updF_ne (by have := Nat.le_max_right N (n + 1); omega)]
    exact hN i (Nat.le_trans (Nat.le_max_left _ _) hi)
/-- a smaller footprint at n -/
theorem FpR.shrink (f : FpR C Fs H) (nd : F.Nodup) (h : ∀ p ∈ F, p ∈ Fs n) : FpR C (updF Fs n F) H := by
  have sub : ∀ i p, p ∈ updF Fs n F i → p ∈ Fs i := fun i p hp => by
    by_cases h' : i = n
    · subst h'; rw [updF_same] at hp; exact h p hp
    · rwa [updF_ne h'] at hp
  refine ⟨fun i => ?_, fun i j p hi hj => f.dj i j p (sub i p hi) (sub j p hj), fun i p hp => f.fr i p (sub i p hp), ?_, f.same, f.hok⟩
  · by_cases h' : i = n
    · subst h'; rw [updF_same]; exact nd
    · rw [updF_ne h']; exact f.nd i
  · obtain ⟨N, hN⟩ := f.fin
    refine ⟨N, fun i hi => ?_⟩
    cases q : updF Fs n F i with
    | nil => rfl
    | cons p r => exact absurd (sub i p (by rw [q]; exact List.mem_cons_self)) (by rw [hN i hi]; simp)
theorem FpR.drop (f : FpR C Fs H) : FpR C (updF Fs n []) H := f.shrink List.nodup_nil fun p hp => absurd hp (by simp)
/-- the regions, when footprints change -/
theorem Zf.lay (hF : ∀ p ∈ F, H p = none) (hn : ∀ p, p ∈ Fs n → False) : ∀ p, Zf C Fs p → H p ≠ none → Zf C (updF Fs n F) p := fun p hp hh => by
  refine ⟨fun h => ?_, hp.2⟩
  rcases (ownd_updF p).mp h with h | ⟨i, _, h⟩
  · exact hh (hF p h)
  · exact hp.1 ⟨i, h⟩
theorem Zf.shrink (h : ∀ p ∈ F, p ∈ Fs n) : ∀ p, Zf C Fs p → Zf C (updF Fs n F) p := fun p hp => by
  refine ⟨fun h' => ?_, hp.2⟩
  rcases (ownd_updF p).mp h' with h' | ⟨i, _, h'⟩
  · exact hp.1 ⟨n, h p h'⟩
  · exact hp.1 ⟨i, h'⟩
/-- a slot stays: the heap grows, footprints elsewhere change -/
theorem SlR.step (x : SameX C.hd H H') (f : FpR C Fs H) (h : SlR M C Fs H i s v) : SlR M C Fs H' i s v := by
  cases s with
  | gone => trivial
  | own k d =>
    refine Ow.keep (x.kp.mono fun p hp => ?_) h
    rcases hp with hp | hp
    · exact hp.2.1
    · exact (f.fr i p hp).2.1
  | bor d => exact ⟨h.1, Rp.keep (x.kp.mono fun p hp => hp.1) _ _ h.2⟩
  | now d => exact ⟨h.1, Rp.keep x.kp _ _ h.2⟩
  | hnd =>
    obtain ⟨e, a, e', b, q⟩ := h
    exact ⟨e, a, e', b, x.hand a b q⟩
theorem SlR.lay (hF : ∀ p ∈ F, H p = none) (hn : Fs n = []) (hi : i ≠ n) (h : SlR M C Fs H i s v) : SlR M C (updF Fs n F) H i s v := by
  cases s with
  | gone => trivial
  | own k d =>
    show Ow M _ H k d v (updF Fs n F i)
    rw [updF_ne hi]
    exact Ow.wide (Zf.lay hF fun p hp => by rw [hn] at hp; simp at hp) h
  | bor d => exact ⟨by rw [updF_ne hi]; exact h.1, h.2⟩
  | now d => exact ⟨by rw [updF_ne hi]; exact h.1, h.2⟩
  | hnd => exact ⟨by rw [updF_ne hi]; exact h.1, h.2⟩
theorem SlR.shrink (hF : ∀ p ∈ F, p ∈ Fs n) (hi : i ≠ n) (h : SlR M C Fs H i s v) : SlR M C (updF Fs n F) H i s v := by
  cases s with
  | gone => trivial
  | own k d =>
    show Ow M _ H k d v (updF Fs n F i)
    rw [updF_ne hi]
    exact Ow.wide (fun p hp _ => Zf.shrink hF p hp) h
  | bor d => exact ⟨by rw [updF_ne hi]; exact h.1, h.2⟩
  | now d => exact ⟨by rw [updF_ne hi]; exact h.1, h.2⟩
  | hnd => exact ⟨by rw [updF_ne hi]; exact h.1, h.2⟩
theorem ER.step (e : ER M C Fs Γ σ H) (x : SameX C.hd H H') : ER M C Fs Γ σ H' :=
  ⟨e.fp.step x, e.len, fun i s hs hl => let ⟨v, a, b⟩ := e.sl i s hs hl; ⟨v, a, b.step x e.fp⟩, e.gn⟩
theorem ER.lay (e : ER M C Fs Γ σ H) (x : SameX C.hd H H') (nd : F.Nodup) (hF : ∀ p ∈ F, H p = none ∧ ¬ C.hd p ∧ H' p ≠ none) (hn : Fs n = []) (hl : Γ.length ≤ n) : ER M C (updF Fs n F) Γ σ H' := by
  refine ⟨e.fp.lay x nd hF, e.len, fun i s hs hlv => let ⟨v, a, b⟩ := e.sl i s hs hlv; ⟨v, a, ?_⟩, fun i hs => by
    have := (List.getElem?_eq_some_iff.mp hs).1
    rw [updF_ne (by omega)]; exact e.gn i hs⟩
  have hi : i ≠ n := by
    have := (List.getElem?_eq_some_iff.mp hs).1
    omega
  have b1 := SlR.lay (n := n) (F := F) (fun p hp => (hF p hp).1) hn hi b
  have f1 : FpR C (updF Fs n F) H' := e.fp.lay x nd hF
  -- carried over the step
  cases s with
  | gone => trivial
  | own k d =>
    have b1 : Ow M (Zf C (updF Fs n F)) H k d v (updF Fs n F i) := b1
    refine Ow.keep (x.kp.mono fun p hp => ?_) b1
    rcases hp with hp | hp
    · exact hp.2.1
    · rw [updF_ne hi] at hp; exact (e.fp.fr i p hp).2.1
  | bor d => exact ⟨b1.1, Rp.keep (x.kp.mono fun p hp => hp.1) _ _ b1.2⟩
  | now d => exact ⟨b1.1, Rp.keep x.kp _ _ b1.2⟩
  | hnd =>
    obtain ⟨e1, a, e', b, q⟩ := b1
    exact ⟨e1, a, e', b, x.hand a b q⟩
theorem ER.drop (e : ER M C Fs Γ σ H) (hl : Γ.length ≤ n) : ER M C (updF Fs n []) Γ σ H := by
  refine ⟨e.fp.drop, e.len, fun i s hs hlv => let ⟨v, a, b⟩ := e.sl i s hs hlv; ⟨v, a, b.shrink (fun p hp => absurd hp (by simp)) ?_⟩, fun i hs => by
    have := (List.getElem?_eq_some_iff.mp hs).1
    rw [updF_ne (by omega)]; exact e.gn i hs⟩
  have := (List.getElem?_eq_some_iff.mp hs).1
  omega
/-- the footprint at n goes over to i, with more or less -/
theorem ER.sl_of (e : ER M C Fs Γ σ H) (hs : Γ[i]? = some s) (hg : live s = true) : ∃ v, σ[i]? = some (some v) ∧ SlR M C Fs H i s v := e.sl i s hs hg
end
end VL
namespace VL
open PySem PySem.Spec PyProof.Rows L2

/-! ### the weakest readings -/
def wkE (X : Cx) (e : Expr) : TE := fun σ H Q => ∀ (pins : List (Addr × Obj)) (s : Shared), Inv X pins σ H s → wpAny (model X.prog X.w) X.A (eval e X.env) (EP X pins σ Q) X.xe s
def wkT (X : Cx) (e : Expr) : TT := fun σ H Q => ∀ (pins : List (Addr × Obj)) (s : Shared), Inv X pins σ H s → wpAny (model X.prog X.w) X.A (isTrue e X.env (eval e X.env)) (TP X pins σ Q) X.xe s
def wkA (X : Cx) (es : List Expr) : TA := fun σ H Q => ∀ (pos : Pos) (pins : List (Addr × Obj)) (s : Shared), Inv X pins σ H s → wpAny (model X.prog X.w) X.A (spliced (backTo pos (starEach es X.env))) (AP X pins σ Q) X.xe s
def wkS (X : Cx) (st : Stmt) : TS := fun D σ H => ∀ (pins : List (Addr × Obj)) (s : Shared), Inv X pins σ H s → wpAny (model X.prog X.w) X.A (exec st X.env) (SP X pins D) X.xe s
def wkSs (X : Cx) (st : List Stmt) : TS := fun D σ H => ∀ (pins : List (Addr × Obj)) (s : Shared), Inv X pins σ H s → wpAny (model X.prog X.w) X.A (execs st X.env) (SP X pins D) X.xe s
section
variable {X : Cx} {e : Expr} {es : List Expr} {st : Stmt} {sts : List Stmt} {σ : L2.St} {H : Hp}
theorem pe_wk : PE X e (wkE X e) := ⟨fun pins s _ _ _ I h => h pins s I⟩
theorem pt_wk : PT X e (wkT X e) := ⟨fun pins s _ _ _ I h => h pins s I⟩
theorem pa_wk : PA X es (wkA X es) := ⟨fun pos pins s _ _ _ I h => h pos pins s I⟩
theorem ps_wk : PS X st (wkS X st) := ⟨fun pins s _ _ _ I h => h pins s I⟩
theorem pss_wk : PSs X sts (wkSs X sts) := ⟨fun pins s _ _ _ I h => h pins s I⟩
theorem _root_.L2.PE.wk {t : TE} {Q : VK} (p : PE X e t) (h : t σ H Q) : wkE X e σ H Q := fun pins s I => p.run pins s σ H Q I h
theorem _root_.L2.PT.wk {t : TT} {Q : Bool → Hp → Prop} (p : PT X e t) (h : t σ H Q) : wkT X e σ H Q := fun pins s I => p.run pins s σ H Q I h
theorem _root_.L2.PA.wk {t : TA} {Q : List V → Hp → Prop} (p : PA X es t) (h : t σ H Q) : wkA X es σ H Q := fun pos pins s I => p.run pos pins s σ H Q I h
theorem _root_.L2.PS.wk {t : TS} {D : Ends} (p : PS X st t) (h : t D σ H) : wkS X st D σ H := fun pins s I => p.run pins s σ H D I h
theorem _root_.L2.PSs.wk {t : TS} {D : Ends} (p : PSs X sts t) (h : t D σ H) : wkSs X sts D σ H := fun pins s I => p.run pins s σ H D I h
theorem wkE.mono {Q Q' : VK} (h : wkE X e σ H Q) (f : ∀ v H', Q v H' → Q' v H') : wkE X e σ H Q' := fun pins s I => thn (h pins s I) fun _ _ ⟨v, H', I', r, q⟩ => ⟨v, H', I', r, f v H' q⟩
theorem wkT.mono {Q Q' : Bool → Hp → Prop} (h : wkT X e σ H Q) (f : ∀ v H', Q v H' → Q' v H') : wkT X e σ H Q' := fun pins s I => thn (h pins s I) fun v _ ⟨H', I', q⟩ => ⟨H', I', f v H' q⟩
theorem wkA.mono {Q Q' : List V → Hp → Prop} (h : wkA X es σ H Q) (f : ∀ v H', Q v H' → Q' v H') : wkA X es σ H Q' := fun pos pins s I => thn (h pos pins s I) fun _ _ ⟨v, H', I', r, q⟩ => ⟨v, H', I', r, f v H' q⟩
structure Imp (D D' : Ends) : Prop where
  nx : ∀ σ H, D.nx σ H → D'.nx σ H
  rt : ∀ v H, D.rt v H → D'.rt v H
  bk : ∀ σ H, D.bk σ H → D'.bk σ H
  ct : ∀ σ H, D.ct σ H → D'.ct σ H
theorem SP.imp {pins : List (Addr × Obj)} {D D' : Ends} {f : Flow} {s : Shared} (i : Imp D D') (h : SP X pins D f s) : SP X pins D' f s := by
  cases f with
  | next => obtain ⟨σ, H, I, q⟩ := h; exact ⟨σ, H, I, i.nx _ _ q⟩
  | brk => obtain ⟨σ, H, I, q⟩ := h; exact ⟨σ, H, I, i.bk _ _ q⟩
  | cont => obtain ⟨σ, H, I, q⟩ := h; exact ⟨σ, H, I, i.ct _ _ q⟩
  | ret u => obtain ⟨v, σ, H, I, r, q⟩ := h; exact ⟨v, σ, H, I, r, i.rt _ _ q⟩
theorem wkS.mono {D D' : Ends} (h : wkS X st D σ H) (i : Imp D D') : wkS X st D' σ H := fun pins s I => thn (h pins s I) fun _ _ q => SP.imp i q
theorem wkSs.mono {D D' : Ends} (h : wkSs X sts D σ H) (i : Imp D D') : wkSs X sts D' σ H := fun pins s I => thn (h pins s I) fun _ _ q => SP.imp i q
end
abbrev md (X : Cx) : Md := ⟨X.prog, X.w, X.K⟩

/-! ### results -/
/-- v is the result r, laid at n -/
structure Res (M : Md) (C : Cv) (Fs : Fp) (n : Nat) (H H' : Hp) (r : Sl) (F : List Addr) (v : V) : Prop where
  same : SameX C.hd H H'
  nd : F.Nodup
  fr : ∀ p ∈ F, H p = none ∧ ¬ C.hd p ∧ H' p ≠ none
  sl : SlR M C (updF Fs n F) H' n r v
def VE (X : Cx) (C : Cv) (e : Expr) (Γ : List Sl) (R : Sl → Prop) : Prop :=
  ∀ (Fs : Fp) (σ : L2.St) (H : Hp) (n : Nat), ER (md X) C Fs Γ σ H → Γ.length ≤ n → Fs n = [] → wkE X e σ H fun v H' => ∃ r F, R r ∧ Res (md X) C Fs n H H' r F v
/-- several values, held at ns -/
inductive Tms (M : Md) (C : Cv) (Fs : Fp) (H : Hp) : List Nat → List Sl → List V → Prop
  | nil : Tms M C Fs H [] [] []
  | cons {n ns r rs v vs} : SlR M C Fs H n r v → Tms M C Fs H ns rs vs → Tms M C Fs H (n :: ns) (r :: rs) (v :: vs)
structure Tm (M : Md) (C : Cv) (Γ : List Sl) (σ : L2.St) (Fs Fs' : Fp) (H H' : Hp) (ns : List Nat) (rs : List Sl) (vs : List V) : Prop where
  er : ER M C Fs' Γ σ H'
  same : SameX C.hd H H'
  out : ∀ i, i ∉ ns → Fs' i = Fs i
  new : ∀ i ∈ ns, ∀ p ∈ Fs' i, H p = none
  big : ∀ i ∈ ns, Γ.length ≤ i ∧ Fs i = []
  nd : ns.Nodup
  at_ : Tms M C Fs' H' ns rs vs
section
variable {M : Md} {C : Cv} {Γ : List Sl} {σ : L2.St} {Fs Fs' Fs2 : Fp} {H H' H2 : Hp} {ns : List Nat} {rs : List Sl} {vs : List V} {n : Nat} {r : Sl} {F : List Addr} {v : V}
theorem Tms.step (x : SameX C.hd H H') (f : FpR C Fs H) : ∀ {ns rs vs}, Tms M C Fs H ns rs vs → Tms M C Fs H' ns rs vs
  | _, _, _, .nil => .nil
  | _, _, _, .cons a b => .cons (a.step x f) (Tms.step x f b)
/-- a new footprint at n -/
theorem SlR.laid {i : Nat} {s : Sl} (x : SameX C.hd H H') (f : FpR C Fs H) (hF : ∀ p ∈ F, H p = none) (hn : Fs n = []) (hi : i ≠ n) (h : SlR M C Fs H i s v) : SlR M C (updF Fs n F) H' i s v := by
  have b1 := SlR.lay (n := n) (F := F) hF hn hi h
  cases s with
  | gone => trivial
  | own k d =>
    have b1 : Ow M (Zf C (updF Fs n F)) H k d v (updF Fs n F i) := b1
    refine Ow.keep (x.kp.mono fun p hp => ?_) b1
    rcases hp with hp | hp
    · exact hp.2.1
    · rw [updF_ne hi] at hp; exact (f.fr i p hp).2.1
  | bor d => exact ⟨b1.1, Rp.keep (x.kp.mono fun p hp => hp.1) _ _ b1.2⟩
  | now d => exact ⟨b1.1, Rp.keep x.kp _ _ b1.2⟩
  | hnd =>
    obtain ⟨e1, a, e', b, q⟩ := b1
    exact ⟨e1, a, e', b, x.hand a b q⟩
theorem Tms.laid (x : SameX C.hd H H') (f : FpR C Fs H) (hF : ∀ p ∈ F, H p = none) (hn : Fs n = []) : ∀ {ns rs vs}, n ∉ ns → Tms M C Fs H ns rs vs → Tms M C (updF Fs n F) H' ns rs vs
  | _, _, _, _, .nil => .nil
  | _, _, _, h, .cons a b => .cons (a.laid x f hF hn (fun e => h (e ▸ List.mem_cons_self))) (Tms.laid x f hF hn (fun e => h (List.mem_cons_of_mem _ e)) b)
theorem Tm.nil (e : ER M C Fs Γ σ H) : Tm M C Γ σ Fs Fs H H [] [] [] := ⟨e, .refl _ _, fun _ _ => rfl, fun _ h => absurd h (by simp), fun _ h => absurd h (by simp), List.nodup_nil, .nil⟩
theorem Res.er (e : ER M C Fs Γ σ H) (hl : Γ.length ≤ n) (hn : Fs n = []) (q : Res M C Fs n H H' r F v) : ER M C (updF Fs n F) Γ σ H' := e.lay q.same q.nd q.fr hn hl
theorem Tm.one (e : ER M C Fs Γ σ H) (hl : Γ.length ≤ n) (hn : Fs n = []) (q : Res M C Fs n H H' r F v) : Tm M C Γ σ Fs (updF Fs n F) H H' [n] [r] [v] :=
  ⟨q.er e hl hn, q.same, fun i hi => updF_ne (by simpa using hi), fun i hi p hp => by
    have hi : i = n := by simpa using hi
    subst hi; rw [updF_same] at hp; exact (q.fr p hp).1, fun i hi => by
    have hi : i = n := by simpa using hi
    subst hi; exact ⟨hl, hn⟩, by simp, .cons q.sl .nil⟩
/-- one more value ahead of others -/
theorem Tm.cons {Fs1 : Fp} {H1 : Hp} (hl : Γ.length ≤ n) (hn : Fs n = []) (e : ER M C Fs Γ σ H) (q : Res M C Fs n H H1 r F v) (t : Tm M C Γ σ (updF Fs n F) Fs' H1 H' ns rs vs) (hns : n ∉ ns)
    (keep : SlR M C Fs' H' n r v) : Tm M C Γ σ Fs Fs' H H' (n :: ns) (r :: rs) (v :: vs) := by
  refine ⟨t.er, q.same.trans t.same, fun i hi => ?_, fun i hi p hp => ?_, fun i hi => ?_, List.nodup_cons.mpr ⟨hns, t.nd⟩, .cons keep t.at_⟩
  · rw [t.out i fun h => hi (List.mem_cons_of_mem _ h), updF_ne fun h => hi (by rw [h]; exact List.mem_cons_self)]
  · rcases List.mem_cons.mp hi with rfl | hi
    · rw [t.out _ hns, updF_same] at hp
      exact (q.fr p hp).1
    · have h1 := t.new i hi p hp
      have h2 := (t.er.fp.fr i p hp).2.1
      cases z : H p with
      | none => rfl
      | some o => exact absurd h1 (q.same.trk h2 (by rw [z]; exact Option.some_ne_none _))
  · rcases List.mem_cons.mp hi with rfl | hi
    · exact ⟨hl, hn⟩
    · obtain ⟨a, b⟩ := t.big i hi
      refine ⟨a, ?_⟩
      rwa [updF_ne (fun h => hns (by rw [← h]; exact hi))] at b
end

/-- an argument list's values -/
def VA (X : Cx) (C : Cv) (es : List Expr) (Γ : List Sl) (R : List Sl → Prop) : Prop :=
  ∀ (Fs : Fp) (σ : L2.St) (H : Hp) (m : Nat), ER (md X) C Fs Γ σ H → wkA X es σ H fun vs H' => ∃ rs ns Fs', R rs ∧ (∀ i ∈ ns, m ≤ i) ∧ Tm (md X) C Γ σ Fs Fs' H H' ns rs vs
abbrev WE := List Sl → (Sl → Prop) → Prop
abbrev WA := List Sl → (List Sl → Prop) → Prop
structure VP (X : Cx) (C : Cv) (e : Expr) (w : WE) : Prop where
  run : ∀ Γ R, w Γ R → VE X C e Γ R
structure VPA (X : Cx) (C : Cv) (es : List Expr) (w : WA) : Prop where
  run : ∀ Γ R, w Γ R → VA X C es Γ R
def aNil : WA := fun _ R => R []
def aCons (a : WE) (b : WA) : WA := fun Γ R => a Γ fun r => b Γ fun rs => R (r :: rs)
section
variable {X : Cx} {C : Cv} {e a b : Expr} {es : List Expr} {Γ : List Sl} {we wa wb : WE} {w : WA} {σ : L2.St} {Fs : Fp} {H : Hp}
/-- what is held through a later evaluation -/
theorem SlR.thru {M : Md} {Fs Fs' : Fp} {H H' : Hp} {ns : List Nat} {rs : List Sl} {vs : List V} {n : Nat} {r : Sl} {v : V} (f : FpR C Fs H) (t : Tm M C Γ σ Fs Fs' H H' ns rs vs) (hn : n ∉ ns) (h : SlR M C Fs H n r v) : SlR M C Fs' H' n r v := by
  have e : Fs' n = Fs n := t.out n hn
  have zf : ∀ p, Zf C Fs p → H p ≠ none → Zf C Fs' p := fun p hp hh => ⟨fun ⟨i, hi⟩ => by
    by_cases h : i ∈ ns
    · exact hh (t.new i h p hi)
    · rw [t.out i h] at hi; exact hp.1 ⟨i, hi⟩, hp.2⟩
  cases r with
  | gone => trivial
  | own k d =>
    have h : Ow M (Zf C Fs) H k d v (Fs n) := h
    show Ow M (Zf C Fs') H' k d v (Fs' n)
    rw [e]
    refine Ow.keep (t.same.kp.mono fun p hp => ?_) (Ow.wide zf h)
    rcases hp with hp | hp
    · exact hp.2.1
    · exact (f.fr n p hp).2.1
  | bor d => exact ⟨e.trans h.1, Rp.keep (t.same.kp.mono fun p hp => hp.1) _ _ h.2⟩
  | now d => exact ⟨e.trans h.1, Rp.keep t.same.kp _ _ h.2⟩
  | hnd =>
    obtain ⟨e1, a, e', b, q⟩ := h
    exact ⟨e.trans e1, a, e', b, t.same.hand a b q⟩
theorem va_nil : VPA X C [] aNil := ⟨fun Γ R h Fs σ H m er => PA.wk pa_nil ⟨[], [], Fs, h, fun _ h => absurd h (by simp), Tm.nil er⟩⟩
theorem va_cons (ha : VP X C e we) (hr : VPA X C es w) (hs : starEach (e :: es) X.env = (false, eval e X.env) :: starEach es X.env := by rfl) : VPA X C (e :: es) (aCons we w) := by
  refine ⟨fun Γ R h Fs σ H m er => ?_⟩
  obtain ⟨n, hl, hn⟩ := er.fp.free (max Γ.length m)
  refine PA.wk (pa_cons pe_wk pa_wk hs) ?_
  have hl1 : Γ.length ≤ n := Nat.le_trans (Nat.le_max_left _ _) hl
  refine (ha.run Γ _ h Fs σ H n er hl1 hn).mono fun v H1 ⟨r, F, q, res⟩ => ?_
  have er1 := res.er er hl1 hn
  refine (hr.run Γ _ q (updF Fs n F) σ H1 (n + 1) er1).mono fun vs H2 ⟨rs, ns, Fs', q2, hb, t⟩ => ?_
  have hns : n ∉ ns := fun h => absurd (hb n h) (by omega)
  exact ⟨r :: rs, n :: ns, Fs', q2, fun i hi => (List.mem_cons.mp hi).elim (fun e => e ▸ Nat.le_trans (Nat.le_max_right _ _) hl) fun h => by have := hb i h; have := Nat.le_trans (Nat.le_max_right Γ.length m) hl; omega,
    Tm.cons (Fs1 := Fs') (H1 := H1) hl1 hn er res t hns (res.sl.thru er1.fp t hns)⟩
/-- two expressions, one behind the other -/
theorem ve2 (ha : VP X C a wa) (hb : VP X C b wb) {J : Sl → Sl → Prop} (h : wa Γ fun x => wb Γ fun y => J x y) (er : ER (md X) C Fs Γ σ H) :
    wkE X a σ H fun x H1 => wkE X b σ H1 fun y H2 => ∃ r1 r2 ns Fs', J r1 r2 ∧ Tm (md X) C Γ σ Fs Fs' H H2 ns [r1, r2] [x, y] := by
  obtain ⟨n, hl1, hn⟩ := er.fp.free Γ.length
  refine (ha.run Γ _ h Fs σ H n er hl1 hn).mono fun v H1 ⟨r, F, q, res⟩ => ?_
  have er1 := res.er er hl1 hn
  obtain ⟨m, hm1, hm⟩ := er1.fp.free (n + 1)
  refine (hb.run Γ _ q (updF Fs n F) σ H1 m er1 (by omega) hm).mono fun u H2 ⟨r2, F2, q2, res2⟩ => ?_
  have t := Tm.one er1 (by omega) hm res2
  have hns : n ∉ [m] := by simp; omega
  exact ⟨r, r2, [n, m], _, q2, Tm.cons (Fs1 := Fs) (H1 := H1) hl1 hn er res t hns (res.sl.thru er1.fp t hns)⟩
end
end VL
namespace VL
open PySem PySem.Spec PyProof.Rows L2

/-! ### from the abstract heap to the heap -/
section
variable {X : Cx} {pins : List (Addr × Obj)} {σ : L2.St} {H : Hp} {s : Shared} {Z : Addr → Prop}
mutual
theorem Rp.reads (I : Inv X pins σ H s) : ∀ (d : D) (v : V) (u : Value), d.plain = true → Rp (md X) Z H d v → RelV v u → ∃ as, Reads s.heap u d as
  | .none, v, u, _, h, r => by
    have e : v = .non := h
    subst e; cases r; exact ⟨_, .none⟩
  | .bool b, v, u, _, h, r => by
    have e : v = .bl b := h
    subst e; cases r; exact ⟨_, .bool b⟩
  | .int i, v, u, _, h, r => by
    have e : v = .int i := h
    subst e; obtain ⟨t, rfl⟩ := r; exact ⟨_, .int i t⟩
  | .str x, v, u, _, h, r => by
    have e : v = .str x := h
    subst e; obtain ⟨t, rfl⟩ := r; exact ⟨_, .str x t⟩
  | .tuple ds, v, u, hp, h, r => by
    obtain ⟨a, vs, e, q, rs⟩ := h
    subst e; cases r
    obtain ⟨its, rv, ⟨o, ho, hc, n, hd⟩, _⟩ := I.tuple q
    obtain ⟨as, ra⟩ := RpA.reads I ds vs its (by simpa [PyData.plain] using hp) rs rv
    exact ⟨_, .tuple ho hc hd (by simpa using ra)⟩
  | .list ds, v, u, hp, h, r => by
    obtain ⟨a, vs, e, z, q, rs⟩ := h
    subst e; cases r
    obtain ⟨its, rv, ⟨o, n, ho, hc, _, hd⟩, _⟩ := I.list q
    obtain ⟨as, ra⟩ := RpA.reads I ds vs its (by simpa [PyData.plain] using hp) rs rv
    exact ⟨_, .list ho hc hd (by simpa using ra)⟩
  | .dict _, _, _, hp, _, _ => by simp [PyData.plain] at hp
theorem RpA.reads (I : Inv X pins σ H s) : ∀ (ds : List D) (vs : List V) (us : List Value), PyData.plainAll ds = true → RpA (md X) Z H ds vs → Vals vs us → ∃ as, ReadsAll s.heap us ds as
  | [], vs, us, _, h, r => by
    have e : vs = [] := h
    subst e; cases r; exact ⟨_, .nil⟩
  | d :: ds, vs, us, hp, h, r => by
    obtain ⟨v, t, e, q, qs⟩ := h
    subst e
    cases r with
    | cons r rr =>
      have hp' : d.plain = true ∧ PyData.plainAll ds = true := by simpa [PyData.plainAll] using hp
      obtain ⟨as, ra⟩ := Rp.reads I d v _ hp'.1 q r
      obtain ⟨bs, rb⟩ := RpA.reads I ds t _ hp'.2 qs rr
      exact ⟨_, .cons ra rb⟩
end
end
abbrev nhd (C : Cv) : Addr → Prop := fun p => ¬ C.hd p
def dat : Sl → Option D
  | .own _ d => some d
  | .bor d => some d
  | .now d => some d
  | _ => none
/-- an operation on data: f x y k: it may be done, and k of its value -/
abbrev DOp := D → D → (D → Prop) → Prop
def rD (X : Cx) (C : Cv) (f : DOp) : R2 := fun x y H Q => ∃ dx dy, Rp (md X) (nhd C) H dx x ∧ Rp (md X) (nhd C) H dy y ∧ f dx dy fun z => ∀ w, Rp (md X) (nhd C) H z w → Q w H
def wOp (f : DOp) (a b : WE) : WE := fun Γ R => a Γ fun r1 => b Γ fun r2 => match dat r1, dat r2 with
  | some x, some y => f x y fun z => imm z = true ∧ R (.own 0 z)
  | _, _ => False
/-- f goes on with what k says -/
def Mono (f : DOp) : Prop := ∀ x y (k k' : D → Prop), (∀ z, k z → k' z) → f x y k → f x y k'
section
variable {M : Md} {C : Cv} {Γ : List Sl} {σ : L2.St} {Fs Fs' : Fp} {H H' H2 : Hp} {ns : List Nat} {rs : List Sl} {vs : List V} {n : Nat} {r : Sl} {F : List Addr} {v : V} {d : D} {i : Nat}
theorem SlR.rp (f : FpR C Fs H) (h : SlR M C Fs H i r v) (e : dat r = some d) : Rp M (nhd C) H d v := by
  cases r with
  | gone => cases e
  | own k d' =>
    cases e
    refine Rp.wide (fun p hp _ => ?_) d v (Ow.rp (show Ow M (Zf C Fs) H k d v (Fs i) from h))
    rcases hp with hp | hp
    · exact hp.2.1
    · exact (f.fr i p hp).2.1
  | bor d' => cases e; exact Rp.wide (fun p hp _ => hp.1) d v h.2
  | now d' => cases e; exact h.2
  | hnd => cases e
theorem Tm.zf (t : Tm M C Γ σ Fs Fs' H H' ns rs vs) (hF : ∀ p ∈ F, (∃ i ∈ ns, p ∈ Fs' i) ∨ H' p = none) (hn : Fs n = []) : ∀ p, Zf C Fs' p → H' p ≠ none → Zf C (updF Fs n F) p := fun p hp hh => by
  refine ⟨fun h => ?_, hp.2⟩
  rcases (ownd_updF p).mp h with h | ⟨j, hj, h⟩
  · rcases hF p h with ⟨i, _, hi⟩ | h'
    · exact hp.1 ⟨i, hi⟩
    · exact hh h'
  · by_cases hm : j ∈ ns
    · rw [(t.big j hm).2] at h; simp at h
    · exact hp.1 ⟨j, by rw [t.out j hm]; exact h⟩
theorem Tm.fin (t : Tm M C Γ σ Fs Fs' H H' ns rs vs) (x : SameX C.hd H' H2) (nd : F.Nodup) (hF : ∀ p ∈ F, (∃ i ∈ ns, p ∈ Fs' i) ∨ (H' p = none ∧ ¬ C.hd p ∧ H2 p ≠ none)) (h : SlR M C (updF Fs n F) H2 n r v) : Res M C Fs n H H2 r F v := by
  refine ⟨t.same.trans x, nd, fun p hp => ?_, h⟩
  rcases hF p hp with ⟨i, hi, hq⟩ | ⟨h1, h2, h3⟩
  · obtain ⟨a, b, c⟩ := t.er.fp.fr i p hq
    exact ⟨t.new i hi p hq, b, x.trk b c⟩
  · refine ⟨?_, h2, h3⟩
    cases z : H p with
    | none => rfl
    | some o => exact absurd h1 (t.same.trk h2 (by rw [z]; exact Option.some_ne_none _))
/-- a value that never changes -/
theorem Tm.imm (t : Tm M C Γ σ Fs Fs' H H' ns rs vs) (x : SameX C.hd H' H2) {Z : Addr → Prop} (i : imm d = true) (h : Rp M Z H2 d v) : Res M C Fs n H H2 (.own 0 d) [] v :=
  t.fin x List.nodup_nil (fun p hp => absurd hp (by simp)) ⟨updF_same, Rp.imm_any i h⟩
theorem Tm.imm0 (t : Tm M C Γ σ Fs Fs' H H' ns rs vs) {Z : Addr → Prop} (i : VL.imm d = true) (h : Rp M Z H' d v) : Res M C Fs n H H' (.own 0 d) [] v := t.imm (.refl _ _) i h
end
section
variable {X : Cx} {C : Cv} {e a b c : Expr} {es : List Expr} {Γ : List Sl} {we wa wb wc : WE} {σ : L2.St} {Fs : Fp} {H : Hp} {pos : Pos} {f : DOp}
/-- two values, an operation -/
theorem op_fin {x y : V} {r1 r2 : Sl} {ns : List Nat} {Fs' : Fp} {H' : Hp} {n : Nat} {R : Sl → Prop} (t : Tm (md X) C Γ σ Fs Fs' H H' ns [r1, r2] [x, y]) (hf : Mono f)
    (h : match dat r1, dat r2 with | some x, some y => f x y fun z => imm z = true ∧ R (.own 0 z) | _, _ => False) : rD X C f x y H' fun v H2 => ∃ r F, R r ∧ Res (md X) C Fs n H H2 r F v := by
  cases t.at_ with
  | cons s1 q =>
    cases q with
    | cons s2 q =>
      cases e1 : dat r1 with
      | none => rw [e1] at h; exact h.elim
      | some dx =>
        cases e2 : dat r2 with
        | none => rw [e1, e2] at h; exact h.elim
        | some dy =>
          rw [e1, e2] at h
          exact ⟨dx, dy, s1.rp t.er.fp e1, s2.rp t.er.fp e2, hf _ _ _ _ (fun z ⟨i, q⟩ w hw => ⟨_, [], q, t.imm0 i hw⟩) h⟩
theorem vp_bin {op : Operator} (hf : Mono f) (ho : OpR X (binaryOp op) (rD X C f)) (ha : VP X C a wa) (hb : VP X C b wb) : VP X C (.BinOp a op b pos) (wOp f wa wb) := by
  refine ⟨fun Γ R h Fs σ H n er hl hn => ?_⟩
  refine PE.wk (pe_op ho pe_wk pe_wk) ((ve2 ha hb h er).mono fun x H1 q => q.mono fun y H2 ⟨r1, r2, ns, Fs', q, t⟩ => ?_)
  exact op_fin t hf q
theorem vp_cmp {op : CmpOp} (hf : Mono f) (ho : OpR X (compareOp op) (rD X C f)) (hm : behindInMarks op b = false) (ha : VP X C a wa) (hb : VP X C b wb) : VP X C (.Compare a [op] [b] pos) (wOp f wa wb) := by
  refine ⟨fun Γ R h Fs σ H n er hl hn => ?_⟩
  refine PE.wk (pe_cmpR ho pe_wk pe_wk hm) ((ve2 ha hb h er).mono fun x H1 q => q.mono fun y H2 ⟨r1, r2, ns, Fs', q, t⟩ => ?_)
  exact op_fin t hf q

/-! ### tests -/
abbrev WT := List Sl → (Bool → Prop) → Prop
def VT (X : Cx) (C : Cv) (e : Expr) (Γ : List Sl) (R : Bool → Prop) : Prop :=
  ∀ (Fs : Fp) (σ : L2.St) (H : Hp), ER (md X) C Fs Γ σ H → wkT X e σ H fun b H' => R b ∧ SameX C.hd H H'
structure VPT (X : Cx) (C : Cv) (e : Expr) (w : WT) : Prop where
  run : ∀ Γ R, w Γ R → VT X C e Γ R
def wOpT (f : DOp) (a b : WE) : WT := fun Γ R => a Γ fun r1 => b Γ fun r2 => match dat r1, dat r2 with
  | some x, some y => f x y fun z => match z with
    | .bool c => R c
    | _ => False
  | _, _ => False
theorem vt_cmp {op : CmpOp} (hf : Mono f) (ho : OpR X (compareOp op) (rD X C f)) (hm : behindInMarks op b = false) (ha : VP X C a wa) (hb : VP X C b wb) : VPT X C (.Compare a [op] [b] pos) (wOpT f wa wb) := by
  refine ⟨fun Γ R h Fs σ H er => ?_⟩
  refine PT.wk (pt_cmpR ho pe_wk pe_wk hm) ((ve2 ha hb h er).mono fun x H1 q => q.mono fun y H2 ⟨r1, r2, ns, Fs', q, t⟩ => ?_)
  cases t.at_ with
  | cons s1 q' =>
    cases q' with
    | cons s2 q' =>
      cases e1 : dat r1 with
      | none => rw [e1] at q; exact q.elim
      | some dx =>
        cases e2 : dat r2 with
        | none => rw [e1, e2] at q; exact q.elim
        | some dy =>
          rw [e1, e2] at q
          refine ⟨dx, dy, s1.rp t.er.fp e1, s2.rp t.er.fp e2, hf _ _ _ _ (fun z q w hw => ?_) q⟩
          cases z with
          | bool c => exact ⟨c, hw, q, t.same⟩
          | _ => exact q.elim
/-- an expression as a test, by its truth -/
def truD : D → (Bool → Prop) → Prop
  | .none, k => k false
  | .bool b, k => k b
  | .int i, k => k (i != 0)
  | .str x, k => x.length ≤ sizeLine ∧ k ((x.length : Int) != 0)
  | .tuple ds, k => k (!ds.isEmpty)
  | .list ds, k => k (!ds.isEmpty)
  | .dict _, _ => False
def wTru (a : WE) : WT := fun Γ R => a Γ fun r => match dat r with
  | some d => truD d R
  | none => False
theorem vt_tru (ha : VP X C a wa) (he : ∀ whole, isTrue a X.env whole = (do let v ← whole; standAt a.pos; holding [v] (truthy v))) : VPT X C a (wTru wa) := by
  refine ⟨fun Γ R h Fs σ H er => ?_⟩
  obtain ⟨n, hl, hn⟩ := er.fp.free Γ.length
  refine PT.wk (pt_truth pe_wk he) ((ha.run Γ _ h Fs σ H n er hl hn).mono fun x H1 ⟨r, F, q, res⟩ => ?_)
  have f1 := (res.er er hl hn).fp
  cases e : dat r with
  | none => rw [e] at q; exact q.elim
  | some d =>
    rw [e] at q
    have hr := res.sl.rp f1 e
    cases d with
    | none => have e' : x = .non := hr; subst e'; exact ⟨false, rfl, q, res.same⟩
    | bool b => have e' : x = .bl b := hr; subst e'; exact ⟨b, rfl, q, res.same⟩
    | int i => have e' : x = .int i := hr; subst e'; exact ⟨_, rfl, q, res.same⟩
    | str y => have e' : x = .str y := hr; subst e'; exact ⟨_, ⟨q.1, rfl⟩, q.2, res.same⟩
    | tuple ds =>
      obtain ⟨p, vs, e', sq, rs⟩ := hr
      subst e'
      refine ⟨_, .inr (.inl ⟨vs, sq, rfl⟩), ?_, res.same⟩
      have := RpA.length rs
      have e2 : vs.isEmpty = ds.isEmpty := by cases vs <;> cases ds <;> simp_all
      rw [e2]; exact q
    | list ds =>
      obtain ⟨p, vs, e', z, sq, rs⟩ := hr
      subst e'
      refine ⟨_, .inl ⟨vs, sq, rfl⟩, ?_, res.same⟩
      have := RpA.length rs
      have e2 : vs.isEmpty = ds.isEmpty := by cases vs <;> cases ds <;> simp_all
      rw [e2]; exact q
    | dict _ => exact q.elim
end
end VL
namespace VL
open PySem PySem.Spec PyProof.Rows L2

/-! ### names, constants -/
def wName (i : Nat) : WE := fun Γ R => match Γ[i]? with
  | some (.own 0 d) => R (.own 0 d)
  | some (.own (_ + 1) d) => R (.now d)
  | some (.bor d) => R (.bor d)
  | some .hnd => R .hnd
  | _ => False
def wC (d : D) : WE := fun _ R => R (.own 0 d)
section
variable {X : Cx} {C : Cv} {e a b c : Expr} {es : List Expr} {Γ : List Sl} {we wa wb wc : WE} {σ : L2.St} {Fs : Fp} {H : Hp} {pos : Pos} {f : DOp}
theorem Res.imm {M : Md} {n : Nat} {d : D} {v : V} {Z : Addr → Prop} (i : VL.imm d = true) (h : Rp M Z H d v) : Res M C Fs n H H (.own 0 d) [] v :=
  ⟨.refl _ _, List.nodup_nil, fun p hp => absurd hp (by simp), updF_same, Rp.imm_any i h⟩
theorem vp_name (i : Nat) {x : Str} (hN : X.N[i]? = some x := by rfl) (hv : Vis X.env.scope x := by first | exact Or.inl rfl | exact Or.inr (Or.inl rfl) | exact Or.inr (Or.inr rfl)) (hd : (x == ("__debug__" : Str)) = false := by decide) (hcd : (x == ("__classdict__" : Str)) = false := by decide) :
    VP X C (.Name x pos) (wName i) := by
  refine ⟨fun Γ R h Fs σ H n er hl hn => ?_⟩
  refine PE.wk (pe_var hN hv hd hcd) ?_
  unfold wName at h
  cases e : Γ[i]? with
  | none => rw [e] at h; exact h.elim
  | some s =>
    rw [e] at h
    have eF : updF Fs n [] = Fs := by rw [← hn]; exact updF_self
    have mk : ∀ {r : Sl} {v : V}, σ[i]? = some (some v) → R r → SlR (md X) C Fs H n r v → tVar i σ H fun v H' => ∃ r F, R r ∧ Res (md X) C Fs n H H' r F v := fun {r v} ev q sl =>
      ⟨v, ev, r, [], q, .refl _ _, List.nodup_nil, fun p hp => absurd hp (by simp), by rw [eF]; exact sl⟩
    cases s with
    | gone => exact h.elim
    | own k d =>
      obtain ⟨v, ev, sl⟩ := er.sl_of e rfl
      cases k with
      | zero => exact mk ev h ⟨hn, (show Ow _ _ _ 0 d v _ from sl).2⟩
      | succ k => exact mk ev h ⟨hn, SlR.rp er.fp sl rfl⟩
    | bor d =>
      obtain ⟨v, ev, sl⟩ := er.sl_of e rfl
      exact mk ev h ⟨hn, sl.2⟩
    | now d => exact h.elim
    | hnd =>
      obtain ⟨v, ev, sl⟩ := er.sl_of e rfl
      exact mk ev h ⟨hn, sl.2⟩
theorem vp_of_const {v : V} {d : D} (p : PE X e (tC v)) (i : imm d = true) (h : ∀ H, Rp (md X) (fun _ => False) H d v) : VP X C e (wC d) :=
  ⟨fun Γ R h' Fs σ H n er hl hn => PE.wk p ⟨_, [], h', Res.imm i (h H)⟩⟩
theorem vp_int {i j} : VP X C (.Constant (.int i) j pos) (wC (.int i)) := vp_of_const pe_int rfl fun _ => rfl
theorem vp_bl {b j} : VP X C (.Constant (.bool b) j pos) (wC (.bool b)) := vp_of_const pe_bl rfl fun _ => rfl
theorem vp_non {j} : VP X C (.Constant .none j pos) (wC .none) := vp_of_const pe_non rfl fun _ => rfl
theorem vp_str {x j} : VP X C (.Constant (.str x) j pos) (wC (.str x)) := vp_of_const pe_str rfl fun _ => rfl
/-- a module's constant that is a text or an int -/
theorem vp_gstr {x z : Str} {t : Tok} (hg : Gl X x) (hm : X.mg x = some (.str z t)) (hd : (x == ("__debug__" : Str)) = false := by decide) : VP X C (.Name x pos) (wC (.str z)) := vp_of_const (v := .str z) (pe_glob hg hm ⟨t, rfl⟩ hd) rfl fun _ => rfl
theorem vp_gint {x : Str} {z : Int} {t : Tok} (hg : Gl X x) (hm : X.mg x = some (.int z t)) (hd : (x == ("__debug__" : Str)) = false := by decide) : VP X C (.Name x pos) (wC (.int z)) := vp_of_const (v := .int z) (pe_glob hg hm ⟨t, rfl⟩ hd) rfl fun _ => rfl
end

/-! ### operators on ints and texts -/
def dI (C : Int → Int → Prop) (g : Int → Int → D) : DOp := fun x y k => match x, y with
  | .int i, .int j => C i j ∧ k (g i j)
  | _, _ => False
def dI0 (g : Int → Int → D) : DOp := fun x y k => match x, y with
  | .int i, .int j => k (g i j)
  | _, _ => False
abbrev dSub : DOp := dI0 fun i j => .int (i - j)
abbrev dMul : DOp := dI CMul fun i j => .int (i * j)
abbrev dDiv : DOp := dI CDiv fun i j => .int (i / j)
abbrev dMod : DOp := dI (fun _ j => 0 < j) fun i j => .int (i % j)
abbrev dPow : DOp := dI CPow fun i j => .int (i ^ j.toNat)
def dLt : DOp := fun x y k => match x, y with
  | .int i, .int j => k (.bool (decide (i < j)))
  | .str a, .str b => k (.bool (decide (a.cps.toList < b.cps.toList)))
  | _, _ => False
abbrev dLe : DOp := dI0 fun i j => .bool (decide (i ≤ j))
abbrev dGt : DOp := dI0 fun i j => .bool (decide (j < i))
abbrev dGe : DOp := dI0 fun i j => .bool (decide (j ≤ i))
def eqB (x y : D) : Bool := match x, y with
  | .int i, .int j => decide (i = j)
  | .str a, .str b => decide (a = b)
  | .bool a, .bool b => decide (a = b)
  | x, y => PyData.eqv x y
def dEq : DOp := fun x y k => x.plain = true ∧ y.plain = true ∧ (x.depth ≤ 40 ∨ y.depth ≤ 40) ∧ k (.bool (eqB x y))
def dNe : DOp := fun x y k => x.plain = true ∧ y.plain = true ∧ (x.depth ≤ 40 ∨ y.depth ≤ 40) ∧ k (.bool (!eqB x y))
def dIsN : DOp := fun x y k => match y with
  | .none => k (.bool (match x with | .none => true | _ => false))
  | _ => False
def dNotN : DOp := fun x y k => match y with
  | .none => k (.bool (match x with | .none => false | _ => true))
  | _ => False
theorem beq_dec {α : Type} [BEq α] [LawfulBEq α] [DecidableEq α] (a b : α) : (a == b) = decide (a = b) := by
  rw [Bool.eq_iff_iff, beq_iff_eq, decide_eq_true_eq]
theorem eqB_eqv : ∀ x y, eqB x y = PyData.eqv x y := by
  intro x y
  unfold eqB
  split
  · rw [PyData.eqv]; exact (beq_dec _ _).symm
  · rw [PyData.eqv]; exact (beq_dec _ _).symm
  · rw [PyData.eqv]; exact (beq_dec _ _).symm
  · rfl
section
variable {X : Cx} {C : Cv}
theorem mono_I {P g} : Mono (dI P g) := by
  intro x y k k' h q
  unfold dI at q ⊢
  split <;> simp_all
theorem mono_I0 {g} : Mono (dI0 g) := by
  intro x y k k' h q
  unfold dI0 at q ⊢
  split <;> simp_all
theorem mono_lt : Mono dLt := by
  intro x y k k' h q
  unfold dLt at q ⊢
  split <;> simp_all
theorem mono_eq : Mono dEq := fun x y k k' h q => ⟨q.1, q.2.1, q.2.2.1, h _ q.2.2.2⟩
theorem mono_ne : Mono dNe := fun x y k k' h q => ⟨q.1, q.2.1, q.2.2.1, h _ q.2.2.2⟩
theorem mono_isN : Mono dIsN := by
  intro x y k k' h q
  unfold dIsN at q ⊢
  cases y <;> simp_all
theorem mono_notN : Mono dNotN := by
  intro x y k k' h q
  unfold dNotN at q ⊢
  cases y <;> simp_all
/-- an operation that is known on ints alone -/
theorem rD_I {g : Value → Value → Sem Value} {P : Int → Int → Prop} {fv : Int → Int → V} {fd : Int → Int → D} (h : OpR X g (rI P fv)) (hr : ∀ i j H, Rp (md X) (nhd C) H (fd i j) (fv i j)) : OpR X g (rD X C (dI P fd)) := by
  intro pins s σ H x y v u Q I rx ry q
  obtain ⟨dx, dy, h1, h2, q⟩ := q
  cases dx with
  | int i =>
    cases dy with
    | int j =>
      have e1 : x = .int i := h1
      have e2 : y = .int j := h2
      exact h pins s σ H x y v u Q I rx ry ⟨i, j, e1, e2, q.1, q.2 _ (hr i j H)⟩
    | _ => exact q.elim
  | _ => exact q.elim
theorem rD_I0 {g : Value → Value → Sem Value} {fv : Int → Int → V} {fd : Int → Int → D} (h : OpR X g (rI0 fv)) (hr : ∀ i j H, Rp (md X) (nhd C) H (fd i j) (fv i j)) : OpR X g (rD X C (dI0 fd)) := by
  intro pins s σ H x y v u Q I rx ry q
  obtain ⟨dx, dy, h1, h2, q⟩ := q
  cases dx with
  | int i =>
    cases dy with
    | int j =>
      have e1 : x = .int i := h1
      have e2 : y = .int j := h2
      exact h pins s σ H x y v u Q I rx ry ⟨i, j, e1, e2, q _ (hr i j H)⟩
    | _ => exact q.elim
  | _ => exact q.elim
theorem od_sub : OpR X (binaryOp .Sub) (rD X C dSub) := rD_I0 op_sub fun _ _ _ => rfl
theorem od_mul : OpR X (binaryOp .Mult) (rD X C dMul) := rD_I op_mul fun _ _ _ => rfl
theorem od_div : OpR X (binaryOp .FloorDiv) (rD X C dDiv) := rD_I op_fdiv fun _ _ _ => rfl
theorem od_mod : OpR X (binaryOp .Mod) (rD X C dMod) := rD_I op_mod fun _ _ _ => rfl
theorem od_pow : OpR X (binaryOp .Pow) (rD X C dPow) := rD_I op_pow fun _ _ _ => rfl
theorem od_le : OpR X (compareOp .LtE) (rD X C dLe) := rD_I0 op_le fun _ _ _ => rfl
theorem od_gt : OpR X (compareOp .Gt) (rD X C dGt) := rD_I0 op_gt fun _ _ _ => rfl
theorem od_ge : OpR X (compareOp .GtE) (rD X C dGe) := rD_I0 op_ge fun _ _ _ => rfl
theorem od_lt : OpR X (compareOp .Lt) (rD X C dLt) := by
  intro pins s σ H x y v u Q I rx ry q
  obtain ⟨dx, dy, h1, h2, q⟩ := q
  unfold dLt at q
  split at q
  · have e1 : x = .int _ := h1
    have e2 : y = .int _ := h2
    exact op_lt pins s σ H x y v u Q I rx ry ⟨_, _, e1, e2, q _ rfl⟩
  · have e1 : x = .str _ := h1
    have e2 : y = .str _ := h2
    exact op_lt_str pins s σ H x y v u Q I rx ry ⟨_, _, e1, e2, q _ rfl⟩
  · exact q.elim
end
/-! ### frozen values -/
def frzd : Sl → Prop
  | .own 0 _ => True
  | .own (_ + 1) d => mutb d = false
  | .bor d => imm d = true
  | .now d => imm d = true
  | _ => False
/-- a list whose items are frozen -/
def chf : Sl → Prop
  | .own 0 _ => True
  | .own 1 _ => True
  | .own (_ + 2) (.list xs) => immA xs = true
  | .bor (.list xs) => immA xs = true
  | .now (.list xs) => immA xs = true
  | _ => False
section
variable {M : Md} {C : Cv} {Γ : List Sl} {σ : L2.St} {Fs Fs' : Fp} {H H' H2 : Hp} {ns : List Nat} {rs : List Sl} {vs : List V} {n : Nat} {r : Sl} {F : List Addr} {v : V} {d : D} {i : Nat} {xs : List D}
theorem SlR.frz (h : SlR M C Fs H i r v) (e : dat r = some d) (z : frzd r) : Rp M (Zf C Fs) H d v := by
  cases r with
  | own k d' =>
    cases e
    cases k with
    | zero => exact (show Ow M _ H 0 d v _ from h).2
    | succ k => exact ((Ow.plain z).mp (show Ow M _ H (k + 1) d v _ from h)).2
  | bor d' => cases e; exact Rp.imm_any z h.2
  | now d' => cases e; exact Rp.imm_any z h.2
  | _ => cases e
theorem immA_rp (i : immA xs = true) {Z Z' : Addr → Prop} (h : RpA M Z H xs vs) : RpA M Z' H xs vs := ImA.rp xs vs (RpA.of_imm xs vs i h)
theorem SlR.chf (h : SlR M C Fs H i r v) (e : dat r = some (.list xs)) (z : VL.chf r) : ∃ a vs, v = .ref a ∧ SqL M.K H a vs ∧ RpA M (Zf C Fs) H xs vs := by
  cases r with
  | own k d' =>
    cases e
    have h : Ow M _ H k (.list xs) v _ := h
    match k, h, z with
    | 0, h, _ =>
      obtain ⟨a, vs, e, _, q, r⟩ := h.2
      exact ⟨a, vs, e, q, r⟩
    | 1, h, _ =>
      obtain ⟨a, vs, Fs', e, _, q, r⟩ := h
      exact ⟨a, vs, e, .inl (.inl q), r.rpA fun d v F _ p => p.2⟩
    | k + 2, h, z =>
      obtain ⟨a, vs, Fs', e, _, q, r⟩ := h
      exact ⟨a, vs, e, .inl (.inl q), immA_rp z (r.rpA (Z₁ := fun p => Zf C Fs p ∨ p ∈ Fs'.flatten) fun d v F hF p => Rp.wide (fun x hx _ => hx.imp id fun hx => List.mem_flatten.mpr ⟨F, hF, hx⟩) d v (Ow.rp p))⟩
  | bor d' =>
    cases e
    obtain ⟨a, vs, e, _, q, r⟩ := h.2
    exact ⟨a, vs, e, q, immA_rp z r⟩
  | now d' =>
    cases e
    obtain ⟨a, vs, e, _, q, r⟩ := h.2
    exact ⟨a, vs, e, q, immA_rp z r⟩
  | _ => cases e
theorem ow0 : ∀ {ds : List D} {vs : List V}, RpA M (Zf C Fs) H ds vs → OwA (fun d v F => Ow M (Zf C Fs) H 0 d v F) ds vs (ds.map fun _ => [])
  | [], _, h => by
    have e : _ = [] := h
    rw [e]; exact .nil
  | d :: ds, _, h => by
    obtain ⟨v, t, e, q, qs⟩ := h
    rw [e]; exact .cons ⟨rfl, q⟩ (ow0 qs)
theorem flat_nil {α β : Type} : ∀ l : List α, (l.map fun _ => ([] : List β)).flatten = []
  | [] => rfl
  | _ :: l => by rw [List.map_cons, List.flatten_cons, flat_nil l]; rfl
theorem same_new {p : Addr} {o : HO} (hd : Addr → Prop) (h : H p = none) : SameX hd H (upd H p o) := .of_same fun b u e => by
  rw [upd_ne (ne_of_none e h)]; exact e
/-- a new tuple -/
theorem Tm.tup (t : Tm M C Γ σ Fs Fs' H H' ns rs vs) (hn : Fs n = []) {us : List V} {p : Addr} (hp : H' p = none) (h : RpA M (Zf C Fs') H' xs us) : Res M C Fs n H (upd H' p (.tup us)) (.own 0 (.tuple xs)) [] (.ref p) := by
  have x := same_new (o := .tup us) C.hd hp
  refine t.fin x List.nodup_nil (fun p hp => absurd hp (by simp)) ⟨updF_same, p, us, rfl, .inl (.inl upd_same), ?_⟩
  exact RpA.keep (x.kp.mono fun q hq => hq.2.1) _ _ (RpA.wide (t.zf (F := []) (fun p hp => absurd hp (by simp)) hn) _ _ h)
/-- a new list, its items frozen -/
theorem Tm.lst1 (t : Tm M C Γ σ Fs Fs' H H' ns rs vs) (hn : Fs n = []) {us : List V} {p : Addr} (hp : H' p = none) (h : RpA M (Zf C Fs') H' xs us) : Res M C Fs n H (upd H' p (.lst us)) (.own 1 (.list xs)) [p] (.ref p) := by
  have x := same_new (o := .lst us) C.hd hp
  have nh := t.er.fp.nohd hp
  refine t.fin x (List.nodup_cons.mpr ⟨by simp, List.nodup_nil⟩) (fun q hq => ?_) ⟨p, us, xs.map fun _ => [], rfl, by rw [updF_same, flat_nil], upd_same, ?_⟩
  · have e : q = p := by simpa using hq
    subst e
    exact .inr ⟨hp, nh, by rw [upd_same]; exact Option.some_ne_none _⟩
  · refine ow0 (RpA.keep (x.kp.mono fun q hq => hq.2.1) _ _ (RpA.wide (t.zf (F := [p]) (fun q hq => ?_) hn) _ _ h))
    have e : q = p := by simpa using hq
    subst e
    exact .inr hp
end
/-- a + b -/
def wAdd (a b : WE) : WE := fun Γ R => a Γ fun r1 => b Γ fun r2 => match dat r1, dat r2 with
  | some (.int i), some (.int j) => R (.own 0 (.int (i + j)))
  | some (.str x), some (.str y) => x.length + y.length ≤ sizeLine ∧ R (.own 0 (.str (x ++ y)))
  | some (.tuple xs), some (.tuple ys) => xs.length + ys.length ≤ sizeLine ∧ frzd r1 ∧ frzd r2 ∧ R (.own 0 (.tuple (xs ++ ys)))
  | some (.list xs), some (.list ys) => xs.length + ys.length ≤ sizeLine ∧ chf r1 ∧ chf r2 ∧ R (.own 1 (.list (xs ++ ys)))
  | _, _ => False
section
variable {X : Cx} {C : Cv} {a b : Expr} {es : List Expr} {wa wb wc : WE} {w : WA} {pos : Pos} {pins : List (Addr × Obj)} {σ : L2.St} {H : Hp} {s : Shared}
def rCatR (K : PySem.W.Frag) : R2 := fun x y H Q => ∃ l b xs zs, x = .ref l ∧ y = .ref b ∧ SqL K H l xs ∧ SqL K H b zs ∧ xs.length + zs.length ≤ sizeLine ∧ ∀ p, H p = none → Q (.ref p) (upd H p (.lst (xs ++ zs)))
theorem op_catR : OpR X (binaryOp .Add) (rCatR X.K) := by
  intro pins s σ H x y v u Q I rx ry h
  obtain ⟨l, b, xs, zs, rfl, rfl, hH, hB, hz, q⟩ := h
  cases rx; cases ry
  obtain ⟨its, r, ⟨⟨c1, d1, t1, s1⟩, n, e, hc, hd, ht⟩, _⟩ := I.list hH
  obtain ⟨its2, r2, ⟨⟨c2, d2, t2, s2⟩, n2, e2, hc2, hd2, ht2⟩, _⟩ := I.list hB
  simp only at hc hd ht hc2 hd2 ht2
  subst hc hd ht hc2 hd2 ht2
  have h1 := r.length; have h2 := r2.length
  refine concat_meets ⟨_, e, rfl⟩ ⟨_, e2, rfl⟩ noFill_list_add seq_list_add PySem.F.slot_list_add PySem.F.entry_list_add (PySem.F.args_list_add_2 _ _) (list_addW l b its.toArray its2.toArray n n2 none none s1 s2 (by rw [List.size_toArray, List.size_toArray]; omega)) ⟨e, e2, ?_⟩
  rw [show its.toArray ++ its2.toArray = (its ++ its2).toArray by simp]
  exact ⟨.ref _, _, I.lnew (t' := s.toks) (r.append r2) (by rw [List.length_append]; omega), rfl, q _ I.fresh⟩
theorem vp_add (ha : VP X C a wa) (hb : VP X C b wb) : VP X C (.BinOp a .Add b pos) (wAdd wa wb) := by
  refine ⟨fun Γ R h Fs σ H n er hl hn => ?_⟩
  refine PE.wk (pe_op (OpR.or (OpR.or op_add op_add_str) (OpR.or op_catA op_catR)) pe_wk pe_wk) ((ve2 ha hb h er).mono fun x H1 q => q.mono fun y H2 ⟨r1, r2, ns, Fs', q, t⟩ => ?_)
  cases t.at_ with
  | cons s1 q' =>
    cases q' with
    | cons s2 q' =>
      split at q
      · rename_i i j e1 e2
        have h1 : x = .int i := s1.rp t.er.fp e1
        have h2 : y = .int j := s2.rp t.er.fp e2
        exact .inl (.inl ⟨i, j, h1, h2, _, [], q, t.imm0 (d := .int (i + j)) (Z := fun _ => False) rfl rfl⟩)
      · rename_i i j e1 e2
        have h1 : x = .str i := s1.rp t.er.fp e1
        have h2 : y = .str j := s2.rp t.er.fp e2
        exact .inl (.inr ⟨i, j, h1, h2, q.1, _, [], q.2, t.imm0 (d := .str (i ++ j)) (Z := fun _ => False) rfl rfl⟩)
      · rename_i xs ys e1 e2
        obtain ⟨hz, f1, f2, q⟩ := q
        obtain ⟨p, vs, ex, sq, rs⟩ := s1.frz e1 f1
        obtain ⟨p', vs', ey, sq', rs'⟩ := s2.frz e2 f2
        have l1 := RpA.length rs
        have l2 := RpA.length rs'
        have z0 : ∀ {d v}, Rp (md X) (Zf C Fs') H2 d v → Res (md X) C Fs n H H2 (.own 0 d) [] v := fun {d v} h =>
          t.fin (.refl _ _) List.nodup_nil (fun p hp => absurd hp (by simp)) ⟨updF_same, Rp.wide (t.zf (F := []) (fun p hp => absurd hp (by simp)) hn) _ _ h⟩
        refine .inr (.inl ⟨p, p', vs, vs', ex, ey, sq, sq', by omega, fun e => ?_, fun _ e => ?_, fun _ _ np hnp => ?_⟩)
        · subst e
          have e' : xs = [] := by simpa using l1.symm
          subst e'
          exact ⟨_, [], q, z0 ⟨p', vs', rfl, sq', rs'⟩⟩
        · subst e
          have e' : ys = [] := by simpa using l2.symm
          subst e'
          rw [List.append_nil] at q
          exact ⟨_, [], q, z0 ⟨p, vs, rfl, sq, rs⟩⟩
        · exact ⟨_, [], q, t.tup hn hnp (rs.append rs')⟩
      · rename_i xs ys e1 e2
        obtain ⟨hz, f1, f2, q⟩ := q
        obtain ⟨p, vs, ex, sq, rs⟩ := s1.chf e1 f1
        obtain ⟨p', vs', ey, sq', rs'⟩ := s2.chf e2 f2
        have l1 := RpA.length rs
        have l2 := RpA.length rs'
        exact .inr (.inr ⟨p, p', vs, vs', ex, ey, sq, sq', by omega, fun np hnp => ⟨_, [np], q, t.lst1 hn hnp (rs.append rs')⟩⟩)
      · exact q.elim

/-! ### comparisons of data -/
theorem od_eq (hu : X.A.units + 64 < cLine) : OpR X (compareOp .Eq) (rD X C dEq) := by
  intro pins s σ H x y v u Q I rx ry q
  obtain ⟨dx, dy, h1, h2, p1, p2, hd, q⟩ := q
  obtain ⟨as, ra⟩ := Rp.reads I dx x v p1 h1 rx
  obtain ⟨bs, rb⟩ := Rp.reads I dy y u p2 h2 ry
  refine PySem.SeqAt.eq_plain ra rb p1 p2 (by have := Nat.min_le_left dx.depth dy.depth; have := Nat.min_le_right dx.depth dy.depth; omega) ?_
  rw [eqB_eqv] at q
  exact ⟨.bl _, H, I, rfl, q _ rfl⟩
theorem od_ne (hu : X.A.units + 64 < cLine) : OpR X (compareOp .NotEq) (rD X C dNe) := by
  intro pins s σ H x y v u Q I rx ry q
  obtain ⟨dx, dy, h1, h2, p1, p2, hd, q⟩ := q
  obtain ⟨as, ra⟩ := Rp.reads I dx x v p1 h1 rx
  obtain ⟨bs, rb⟩ := Rp.reads I dy y u p2 h2 ry
  refine PySem.SeqAt.ne_plain ra rb p1 p2 (by have := Nat.min_le_left dx.depth dy.depth; have := Nat.min_le_right dx.depth dy.depth; omega) ?_
  rw [eqB_eqv] at q
  exact ⟨.bl _, H, I, rfl, q _ rfl⟩
theorem od_isN : OpR X (compareOp .Is) (rD X C dIsN) := by
  intro pins s σ H x y v u Q I rx ry q
  obtain ⟨dx, dy, h1, h2, q⟩ := q
  cases dy with
  | none =>
    have e2 : y = .non := h2
    refine op_isN pins s σ H x y v u Q I rx ry ⟨e2, q _ ?_⟩
    cases dx with
    | none => have e : x = .non := h1; subst e; rfl
    | bool b => have e : x = .bl b := h1; subst e; rfl
    | int b => have e : x = .int b := h1; subst e; rfl
    | str b => have e : x = .str b := h1; subst e; rfl
    | tuple ds => obtain ⟨a, vs, e, _⟩ := h1; subst e; rfl
    | list ds => obtain ⟨a, vs, e, _⟩ := h1; subst e; rfl
    | dict ds => obtain ⟨a, vs, e, _⟩ := h1; subst e; rfl
  | _ => exact q.elim
theorem od_notN : OpR X (compareOp .IsNot) (rD X C dNotN) := by
  intro pins s σ H x y v u Q I rx ry q
  obtain ⟨dx, dy, h1, h2, q⟩ := q
  cases dy with
  | none =>
    have e2 : y = .non := h2
    refine op_notN pins s σ H x y v u Q I rx ry ⟨e2, q _ ?_⟩
    cases dx with
    | none => have e : x = .non := h1; subst e; rfl
    | bool b => have e : x = .bl b := h1; subst e; rfl
    | int b => have e : x = .int b := h1; subst e; rfl
    | str b => have e : x = .str b := h1; subst e; rfl
    | tuple ds => obtain ⟨a, vs, e, _⟩ := h1; subst e; rfl
    | list ds => obtain ⟨a, vs, e, _⟩ := h1; subst e; rfl
    | dict ds => obtain ⟨a, vs, e, _⟩ := h1; subst e; rfl
  | _ => exact q.elim

/-! ### and, or, not, if-else -/
/-- by a truth value -/
abbrev cnd (c : Bool) (p q : Prop) : Prop := (c = true → p) ∧ (c = false → q)
def wAnd (a : WE) (b : WE) : WE := fun Γ R => a Γ fun r => match dat r with
  | some (.bool c) => cnd c (b Γ R) (R (.own 0 (.bool false)))
  | _ => False
def wOr (a : WE) (b : WE) : WE := fun Γ R => a Γ fun r => match dat r with
  | some (.bool c) => cnd c (R (.own 0 (.bool true))) (b Γ R)
  | _ => False
def wNot (a : WT) : WE := fun Γ R => a Γ fun c => R (.own 0 (.bool (!c)))
def wIfE (c : WT) (a b : WE) : WE := fun Γ R => c Γ fun k => cnd k (a Γ R) (b Γ R)
def wAndT (a b : WT) : WT := fun Γ R => a Γ fun c => cnd c (b Γ R) (R false)
def wOrT (a b : WT) : WT := fun Γ R => a Γ fun c => cnd c (R true) (b Γ R)
def wNotT (a : WT) : WT := fun Γ R => a Γ fun c => R (!c)
/-- a value of a later part is one of the whole -/
theorem Res.later {M : Md} {Fs : Fp} {n : Nat} {H H1 H2 : Hp} {r : Sl} {F : List Addr} {v : V} (x : SameX C.hd H H1) (q : Res M C Fs n H1 H2 r F v) : Res M C Fs n H H2 r F v :=
  ⟨x.trans q.same, q.nd, fun p hp => by
    obtain ⟨a, b, c⟩ := q.fr p hp
    refine ⟨?_, b, c⟩
    cases z : H p with
    | none => rfl
    | some o => exact absurd a (x.trk b (by rw [z]; exact Option.some_ne_none _)), q.sl⟩
variable {rest : List Expr} {wr : WE} {op : BoolOp}
theorem vp_one (ha : VP X C a wa) : VP X C (.BoolOp op [a] pos) wa := ⟨fun Γ R h Fs σ H n er hl hn => PE.wk (pe_one pe_wk) (ha.run Γ R h Fs σ H n er hl hn)⟩
theorem vp_and (ha : VP X C a wa) (hb : VP X C (.BoolOp .And (b :: rest) pos) wr) : VP X C (.BoolOp .And (a :: b :: rest) pos) (wAnd wa wr) := by
  refine ⟨fun Γ R h Fs σ H n er hl hn => PE.wk (pe_and pe_wk pe_wk) ((ha.run Γ _ h Fs σ H n er hl hn).mono fun x H1 ⟨r, F, q, res⟩ => ?_)⟩
  have er1 := res.er er hl hn
  split at q
  · rename_i c e
    have hx : x = .bl c := res.sl.rp er1.fp e
    refine ⟨c, hx, ?_⟩
    cases c with
    | true => exact (hb.run Γ R (q.1 rfl) Fs σ H1 n (er.step res.same) hl hn).mono fun v H2 ⟨r2, F2, q2, res2⟩ => ⟨r2, F2, q2, res2.later res.same⟩
    | false => exact ⟨_, [], q.2 rfl, (Res.imm (d := .bool false) (Z := fun _ => False) rfl rfl).later res.same⟩
  · exact q.elim
theorem vp_or (ha : VP X C a wa) (hb : VP X C (.BoolOp .Or (b :: rest) pos) wr) : VP X C (.BoolOp .Or (a :: b :: rest) pos) (wOr wa wr) := by
  refine ⟨fun Γ R h Fs σ H n er hl hn => PE.wk (pe_or pe_wk pe_wk) ((ha.run Γ _ h Fs σ H n er hl hn).mono fun x H1 ⟨r, F, q, res⟩ => ?_)⟩
  have er1 := res.er er hl hn
  split at q
  · rename_i c e
    have hx : x = .bl c := res.sl.rp er1.fp e
    refine ⟨c, hx, ?_⟩
    cases c with
    | true => exact ⟨_, [], q.1 rfl, (Res.imm (d := .bool true) (Z := fun _ => False) rfl rfl).later res.same⟩
    | false => exact (hb.run Γ R (q.2 rfl) Fs σ H1 n (er.step res.same) hl hn).mono fun v H2 ⟨r2, F2, q2, res2⟩ => ⟨r2, F2, q2, res2.later res.same⟩
  · exact q.elim
def wNotV (a : WE) : WE := fun Γ R => a Γ fun r => match dat r with
  | some (.bool c) => R (.own 0 (.bool (!c)))
  | _ => False
theorem vp_not (ha : VP X C a wa) : VP X C (.UnaryOp .Not a pos) (wNotV wa) := by
  refine ⟨fun Γ R h Fs σ H n er hl hn => PE.wk (pe_not pe_wk) ((ha.run Γ _ h Fs σ H n er hl hn).mono fun x H1 ⟨r, F, q, res⟩ => ?_)⟩
  have er1 := res.er er hl hn
  split at q
  · rename_i c e
    have hx : x = .bl c := res.sl.rp er1.fp e
    exact ⟨c, hx, _, [], q, (Res.imm (d := .bool (!c)) (Z := fun _ => False) rfl rfl).later res.same⟩
  · exact q.elim
variable {tc ta tb tr : WT}
theorem vp_ifE {c : Expr} (hc : VPT X C c tc) (ha : VP X C a wa) (hb : VP X C b wb) : VP X C (.IfExp c a b pos) (wIfE tc wa wb) := by
  refine ⟨fun Γ R h Fs σ H n er hl hn => PE.wk (pe_ifExp pt_wk pe_wk pe_wk) ((hc.run Γ _ h Fs σ H er).mono fun k H1 ⟨q, x⟩ => ?_)⟩
  cases k with
  | true => exact (ha.run Γ R (q.1 rfl) Fs σ H1 n (er.step x) hl hn).mono fun v H2 ⟨r2, F2, q2, res2⟩ => ⟨r2, F2, q2, res2.later x⟩
  | false => exact (hb.run Γ R (q.2 rfl) Fs σ H1 n (er.step x) hl hn).mono fun v H2 ⟨r2, F2, q2, res2⟩ => ⟨r2, F2, q2, res2.later x⟩
/-- tests whatever their whole is -/
structure VPW (X : Cx) (C : Cv) (e : Expr) (w : WT) : Prop where
  run : ∀ Γ R, w Γ R → ∀ (Fs : Fp) (σ : L2.St) (H : Hp), ER (md X) C Fs Γ σ H → ∀ (whole : Sem Value) (pins : List (Addr × Obj)) (s : Shared), Inv X pins σ H s → wpAny (model X.prog X.w) X.A (isTrue e X.env whole) (TP X pins σ fun b H' => R b ∧ SameX C.hd H H') X.xe s
theorem VPW.pt (h : VPW X C a ta) : VPT X C a ta := ⟨fun Γ R q Fs σ H er pins s I => h.run Γ R q Fs σ H er _ pins s I⟩
theorem vw_and1 (ha : VPT X C a ta) : VPW X C (.BoolOp .And [a] pos) ta := ⟨fun Γ R h Fs σ H er whole pins s I => (pw_and1 pt_wk).run whole pins s σ H _ I (ha.run Γ R h Fs σ H er)⟩
theorem vw_or1 (ha : VPT X C a ta) : VPW X C (.BoolOp .Or [a] pos) ta := ⟨fun Γ R h Fs σ H er whole pins s I => (pw_or1 pt_wk).run whole pins s σ H _ I (ha.run Γ R h Fs σ H er)⟩
/-- the weakest reading of a test whatever its whole is -/
def wkW (X : Cx) (e : Expr) : TT := fun σ H Q => ∀ (whole : Sem Value) (pins : List (Addr × Obj)) (s : Shared), Inv X pins σ H s → wpAny (model X.prog X.w) X.A (isTrue e X.env whole) (TP X pins σ Q) X.xe s
theorem pw_wk {e : Expr} : PW X e (wkW X e) := ⟨fun whole pins s _ _ _ I h => h whole pins s I⟩
theorem vw_and (ha : VPT X C a ta) (hb : VPW X C (.BoolOp .And (b :: rest) pos) tr) : VPW X C (.BoolOp .And (a :: b :: rest) pos) (wAndT ta tr) := by
  refine ⟨fun Γ R h Fs σ H er whole pins s I => (pw_and pt_wk pw_wk).run whole pins s σ H _ I ((ha.run Γ _ h Fs σ H er).mono fun k H1 ⟨q, x⟩ => ?_)⟩
  cases k with
  | true => exact fun whole pins s I => thn (hb.run Γ R (q.1 rfl) Fs σ H1 (er.step x) whole pins s I) fun b s' ⟨H2, I2, q2, x2⟩ => ⟨H2, I2, q2, x.trans x2⟩
  | false => exact ⟨q.2 rfl, x⟩
theorem vw_or (ha : VPT X C a ta) (hb : VPW X C (.BoolOp .Or (b :: rest) pos) tr) : VPW X C (.BoolOp .Or (a :: b :: rest) pos) (wOrT ta tr) := by
  refine ⟨fun Γ R h Fs σ H er whole pins s I => (pw_or pt_wk pw_wk).run whole pins s σ H _ I ((ha.run Γ _ h Fs σ H er).mono fun k H1 ⟨q, x⟩ => ?_)⟩
  cases k with
  | false => exact fun whole pins s I => thn (hb.run Γ R (q.2 rfl) Fs σ H1 (er.step x) whole pins s I) fun b s' ⟨H2, I2, q2, x2⟩ => ⟨H2, I2, q2, x.trans x2⟩
  | true => exact ⟨q.1 rfl, x⟩
theorem vt_not (ha : VPT X C a ta) : VPT X C (.UnaryOp .Not a pos) (wNotT ta) := ⟨fun Γ R h Fs σ H er => PT.wk (pt_not pt_wk) ((ha.run Γ _ h Fs σ H er).mono fun k H1 q => q)⟩
end
end VL
namespace VL
open PySem PySem.Spec PyProof.Rows L2

/-! ### what may be put into a thing whose items are owned k levels down -/
def itm : Nat → Sl → Prop
  | 0, .own _ _ => True
  | k + 1, .own j d => imm d = true ∨ k + 1 ≤ j
  | _, .bor d => imm d = true
  | _, .now d => imm d = true
  | _, _ => False
def itms (k : Nat) : List Sl → (List D → Prop) → Prop
  | [], c => c []
  | r :: rs, c => match dat r with
    | some d => itm k r ∧ itms k rs fun ds => c (d :: ds)
    | none => False
section
variable {M : Md} {C : Cv} {Γ : List Sl} {σ : L2.St} {Fs Fs' : Fp} {H H' H2 : Hp} {ns : List Nat} {rs : List Sl} {vs : List V} {n k i : Nat} {r : Sl} {F G : List Addr} {v : V} {d : D} {ds : List D}
/-- a held value, k levels down; what it does not keep is frozen -/
theorem SlR.itm (f : FpR C Fs H) (h : SlR M C Fs H i r v) (e : dat r = some d) (z : VL.itm k r) :
    ∃ G, G.Nodup ∧ (∀ p ∈ G, p ∈ Fs i) ∧ Ow M (fun p => Zf C Fs p ∨ (p ∈ Fs i ∧ p ∉ G)) H k d v G := by
  have byImm : VL.imm d = true → ∃ G, G.Nodup ∧ (∀ p ∈ G, p ∈ Fs i) ∧ Ow M (fun p => Zf C Fs p ∨ (p ∈ Fs i ∧ p ∉ G)) H k d v G := fun im =>
    ⟨[], List.nodup_nil, fun p hp => absurd hp (by simp), Ow.imm im (h.rp f e)⟩
  cases r with
  | own j d' =>
    cases e
    have h : Ow M (Zf C Fs) H j d v (Fs i) := h
    have low : k ≤ j → _ := fun hj => Ow.lower hj (f.nd i) h
    cases k with
    | zero => exact low (Nat.zero_le _)
    | succ k =>
      rcases z with z | z
      · exact byImm z
      · exact low z
  | bor d' => cases e; exact byImm (by cases k <;> exact z)
  | now d' => cases e; exact byImm (by cases k <;> exact z)
  | _ => cases e
theorem Tms.itms (f : FpR C Fs H) {ns : List Nat} {rs : List Sl} {vs : List V} (ht : Tms M C Fs H ns rs vs) : ∀ {c : List D → Prop}, ns.Nodup → VL.itms k rs c →
    ∃ ds Gs, c ds ∧ Gs.flatten.Nodup ∧ (∀ p ∈ Gs.flatten, ∃ i ∈ ns, p ∈ Fs i) ∧ OwA (fun d v F => Ow M (fun p => Zf C Fs p ∨ ((∃ i ∈ ns, p ∈ Fs i) ∧ p ∉ Gs.flatten)) H k d v F) ds vs Gs := by
  induction ht with
  | nil => exact fun {c} _ h => ⟨[], [], h, List.nodup_nil, fun p hp => absurd hp (by simp), .nil⟩
  | @cons n ns r rs v vs s t ih =>
    intro c nd h
    rw [List.nodup_cons] at nd
    unfold VL.itms at h
    split at h
    · rename_i d e
      obtain ⟨h1, h2⟩ := h
      obtain ⟨G, g1, g2, g3⟩ := s.itm f e h1
      obtain ⟨ds, Gs, q, l1, l2, l3⟩ := ih nd.2 h2
      have dis : ∀ p, p ∈ Fs n → p ∈ Gs.flatten → False := fun p hp hq => by
        obtain ⟨i, hi, hpi⟩ := l2 p hq
        have := f.dj n i p hp hpi
        exact nd.1 (this ▸ hi)
      refine ⟨d :: ds, G :: Gs, q, ?_, fun p hp => ?_, .cons (Ow.wide (fun p hp _ => ?_) g3) (l3.imp fun d v F _ o => Ow.wide (fun p hp _ => ?_) o)⟩
      · rw [List.flatten_cons, List.nodup_append]
        exact ⟨g1, l1, fun a ha b hb e => dis a (g2 a ha) (e ▸ hb)⟩
      · rw [List.flatten_cons, List.mem_append] at hp
        rcases hp with hp | hp
        · exact ⟨n, List.mem_cons_self, g2 p hp⟩
        · obtain ⟨i, hi, hpi⟩ := l2 p hp
          exact ⟨i, List.mem_cons_of_mem _ hi, hpi⟩
      · rcases hp with hp | ⟨a, b⟩
        · exact .inl hp
        · refine .inr ⟨⟨n, List.mem_cons_self, a⟩, ?_⟩
          rw [List.flatten_cons, List.mem_append]
          rintro (z | z)
          · exact b z
          · exact dis p a z
      · rcases hp with hp | ⟨⟨i, hi, hpi⟩, b⟩
        · exact .inl hp
        · refine .inr ⟨⟨i, List.mem_cons_of_mem _ hi, hpi⟩, ?_⟩
          rw [List.flatten_cons, List.mem_append]
          rintro (z | z)
          · have := f.dj n i p (g2 p z) hpi
            exact nd.1 (this ▸ hi)
          · exact b z
    · exact h.elim
/-- the region, where the held footprints that are not kept are let go -/
theorem Tm.zg (t : Tm M C Γ σ Fs Fs' H H' ns rs vs) (hG : ∀ p ∈ G, ∃ i ∈ ns, p ∈ Fs' i) (hF : ∀ p ∈ F, p ∈ G ∨ H' p = none) (hn : Fs n = []) :
    ∀ p, (Zf C Fs' p ∨ ((∃ i ∈ ns, p ∈ Fs' i) ∧ p ∉ G)) → H' p ≠ none → Zf C (updF Fs n F) p := fun p hp hh => by
  rcases hp with hp | ⟨⟨i, hi, hpi⟩, hg⟩
  · exact t.zf (fun q hq => (hF q hq).imp (hG q) id) hn p hp hh
  · obtain ⟨a, b, c⟩ := t.er.fp.fr i p hpi
    refine ⟨fun h => ?_, b, .inr a⟩
    rcases (ownd_updF p).mp h with h | ⟨j, hj, h⟩
    · rcases hF p h with h | h
      · exact hg h
      · exact hh h
    · by_cases hm : j ∈ ns
      · rw [(t.big j hm).2] at h; simp at h
      · have e := t.out j hm
        rw [← e] at h
        have := t.er.fp.dj i j p hpi h
        exact hm (this ▸ hi)
/-- a new list of held things -/
theorem Tm.lstk (t : Tm M C Γ σ Fs Fs' H H' ns rs vs) (hn : Fs n = []) {c : List D → Prop} (h : VL.itms k rs c) {p : Addr} (hp : H' p = none) :
    ∃ ds F, c ds ∧ Res M C Fs n H (upd H' p (.lst vs)) (.own (k + 1) (.list ds)) F (.ref p) := by
  obtain ⟨ds, Gs, q, g1, g2, g3⟩ := Tms.itms t.er.fp t.at_ t.nd h
  have x := same_new (o := .lst vs) C.hd hp
  have nh := t.er.fp.nohd hp
  have npG : p ∉ Gs.flatten := fun h => by
    obtain ⟨i, _, hi⟩ := g2 p h
    exact (t.er.fp.fr i p hi).2.2 hp
  refine ⟨ds, p :: Gs.flatten, q, t.fin x (List.nodup_cons.mpr ⟨npG, g1⟩) (fun q hq => ?_) ⟨p, vs, Gs, rfl, updF_same, upd_same, g3.imp fun d v F hF o => ?_⟩⟩
  · rcases List.mem_cons.mp hq with rfl | hq
    · exact .inr ⟨hp, nh, by rw [upd_same]; exact Option.some_ne_none _⟩
    · exact .inl (g2 q hq)
  · have w := Ow.wide (t.zg (F := p :: Gs.flatten) g2 (fun q hq => (List.mem_cons.mp hq).elim (fun e => .inr (e ▸ hp)) .inl) hn) o
    refine Ow.keep (x.kp.mono fun q hq => ?_) w
    rcases hq with hq | hq
    · exact hq.2.1
    · obtain ⟨i, _, hi⟩ := g2 q (List.mem_flatten.mpr ⟨F, hF, hq⟩)
      exact (t.er.fp.fr i q hi).2.1
/-- held things, frozen -/
theorem Tm.frozen (t : Tm M C Γ σ Fs Fs' H H' ns rs vs) (hn : Fs n = []) {c : List D → Prop} (h : VL.itms 0 rs c) (hF : ∀ p ∈ F, H' p = none) : ∃ ds, c ds ∧ RpA M (Zf C (updF Fs n F)) H' ds vs := by
  obtain ⟨ds, Gs, q, g1, g2, g3⟩ := Tms.itms t.er.fp t.at_ t.nd h
  refine ⟨ds, q, g3.rpA fun d v F' hF' o => Rp.wide (t.zg g2 (fun p hp => .inr (hF p hp)) hn) d v o.2⟩
end
/-- (a, b, ..) -/
def wTup (w : WA) : WE := fun Γ R => w Γ fun rs => itms 0 rs fun ds => ds.length ≤ sizeLine ∧ R (.own 0 (.tuple ds))
/-- [a, b, ..], the items owned k levels down -/
def wLst (k : Nat) (w : WA) : WE := fun Γ R => w Γ fun rs => itms k rs fun ds => ds.length ≤ sizeLine ∧ R (.own (k + 1) (.list ds))

/-! ### calls of the text's own defs -/
inductive PKd | fz | br | hn
def pass : PKd → Sl → (Sl → Prop) → Prop
  | .fz, r, c => match dat r with
    | some d => itm 0 r ∧ c (.own 0 d)
    | none => False
  | .br, r, c => match dat r with
    | some d => c (.bor d)
    | none => False
  | .hn, r, c => match r with
    | .hnd => c .hnd
    | _ => False
def passes : List PKd → List Sl → (List Sl → Prop) → Prop
  | [], [], c => c []
  | k :: ks, r :: rs, c => pass k r fun s => passes ks rs fun ss => c (s :: ss)
  | _, _, _ => False
/-- the arguments as the callee has them -/
inductive ArgsOk (M : Md) (C : Cv) : List Sl → List V → Prop
  | nil : ArgsOk M C [] []
  | fz {d v ss vs} : Rp M (fun p => C.Zb p ∧ ¬ C.hd p) C.H0 d v → ArgsOk M C ss vs → ArgsOk M C (.own 0 d :: ss) (v :: vs)
  | br {d v ss vs} : Rp M (Zo C) C.H0 d v → ArgsOk M C ss vs → ArgsOk M C (.bor d :: ss) (v :: vs)
  | hn {a ss vs} : C.hd a → HandAt C.hd C.H0 a → ArgsOk M C ss vs → ArgsOk M C (.hnd :: ss) (.ref a :: vs)
abbrev noF : Fp := fun _ => []
/-- what a def is to do: from its arguments, with what is wanted of its value -/
abbrev VSpec := List Sl → (Sl → Prop) → Prop
def spV (M : Md) (ar : Nat) (spec : VSpec) : Sp := fun vs H Q _ => ∃ C ss, C.H0 = H ∧ (∀ p, C.hd p → HandOk C.hd H p) ∧ ArgsOk M C ss vs ∧ ss.length = ar ∧ spec ss fun r => ∀ k d v H' F, r = .own k d → Res M C noF 0 H H' r F v → Q v H'
/-- a def's wants go on with what is wanted -/
def MonoS (s : VSpec) : Prop := ∀ ss R R', (∀ r, R r → R' r) → s ss R → s ss R'
def wCall (ks : List PKd) (s : VSpec) (w : WA) : WE := fun Γ R => w Γ fun rs => passes ks rs fun ss => s ss R
section
variable {M : Md} {C : Cv} {Γ : List Sl} {σ : L2.St} {Fs Fs' : Fp} {H H' H2 : Hp} {ns : List Nat} {rs : List Sl} {vs : List V} {n k i : Nat} {r : Sl} {F G : List Addr} {v : V} {d : D} {ds : List D}
theorem Tms.pass (t : Tm M C Γ σ Fs Fs' H H' ns rs vs) (hn : Fs n = []) {C' : Cv} (e0 : C'.H0 = H') (eZ : C'.Zb = Zf C Fs) (eh : C'.hd = C.hd) {ms : List Nat} {ps : List Sl} {us : List V} (ht : Tms M C Fs' H' ms ps us) : ∀ {ks : List PKd} {c : List Sl → Prop}, (∀ i ∈ ms, i ∈ ns) → passes ks ps c → ∃ ss, c ss ∧ ArgsOk M C' ss us ∧ ss.length = ks.length := by
  induction ht with
  | nil =>
    intro ks c _ h
    cases ks with
    | nil => exact ⟨[], h, .nil, rfl⟩
    | cons k ks => exact h.elim
  | @cons m ms r ps v us s q ih =>
    intro ks c hm h
    have hm' : ∀ i ∈ ms, i ∈ ns := fun i hi => hm i (List.mem_cons_of_mem _ hi)
    cases ks with
    | nil => exact h.elim
    | cons k ks =>
    cases k with
    | fz =>
      unfold passes VL.pass at h
      simp only at h
      split at h
      · rename_i d e
        obtain ⟨h1, h2⟩ := h
        obtain ⟨ss, q1, q2, q3⟩ := ih hm' h2
        refine ⟨_, q1, .fz ?_ q2, by rw [List.length_cons, List.length_cons, q3]⟩
        obtain ⟨G, g1, g2, g3⟩ := s.itm t.er.fp e h1
        rw [e0, eZ, eh]
        obtain ⟨eG, g3⟩ := (show G = [] ∧ Rp M _ H' d v from g3)
        subst eG
        have w := Rp.wide (t.zg (G := []) (F := []) (n := n) (fun p hp => absurd hp (by simp)) (fun p hp => absurd hp (by simp)) hn) d v (Rp.wide (Z' := fun p => Zf C Fs' p ∨ ((∃ i ∈ ns, p ∈ Fs' i) ∧ p ∉ ([] : List Addr))) (fun p hp _ => hp.imp id fun ⟨a, b⟩ => ⟨⟨m, hm m List.mem_cons_self, a⟩, b⟩) d v g3)
        have eF : updF Fs n [] = Fs := by rw [← hn]; exact updF_self
        rw [eF] at w
        exact Rp.wide (fun p hp _ => ⟨hp, hp.2.1⟩) d v w
      · exact h.elim
    | br =>
      unfold passes VL.pass at h
      simp only at h
      split at h
      · rename_i d e
        obtain ⟨ss, q1, q2, q3⟩ := ih hm' h
        refine ⟨_, q1, .br ?_ q2, by rw [List.length_cons, List.length_cons, q3]⟩
        rw [e0]
        exact Rp.wide (fun p hp hh => ⟨by rw [eh]; exact hp, by rw [e0]; exact hh⟩) d v (s.rp t.er.fp e)
      · exact h.elim
    | hn =>
      unfold passes VL.pass at h
      simp only at h
      split at h
      · obtain ⟨ss, q1, q2, q3⟩ := ih hm' h
        obtain ⟨_, a, ea, ha, hat⟩ := s
        subst ea
        exact ⟨_, q1, .hn (by rw [eh]; exact ha) (by rw [eh, e0]; exact hat) q2, by rw [List.length_cons, List.length_cons, q3]⟩
      · exact h.elim
/-- what a callee has made -/
theorem Tm.called (t : Tm M C Γ σ Fs Fs' H H' ns rs vs) (hn : Fs n = []) {C' : Cv} (e0 : C'.H0 = H') (eZ : C'.Zb = Zf C Fs) (eh : C'.hd = C.hd) (q : Res M C' noF 0 H' H2 (.own k d) F v) : Res M C Fs n H H2 (.own k d) F v := by
  obtain ⟨x, nd, fr, sl⟩ := q
  rw [eh] at x fr
  refine t.fin x nd (fun p hp => .inr (fr p hp)) ?_
  have sl : Ow M (Zf C' (updF noF 0 F)) H2 k d v (updF noF 0 F 0) := sl
  rw [updF_same] at sl
  show Ow M (Zf C (updF Fs n F)) H2 k d v (updF Fs n F n)
  rw [updF_same]
  refine Ow.wide (fun p hp hh => ?_) sl
  obtain ⟨h1, h2, h3⟩ := hp
  rw [eh] at h2
  have nF : p ∉ F := fun h => h1 ((ownd_updF p).mpr (.inl h))
  rw [eZ, e0] at h3
  rcases h3 with h3 | h3
  · refine ⟨fun h => ?_, h3.2⟩
    rcases (ownd_updF p).mp h with h | ⟨j, _, h⟩
    · exact nF h
    · exact h3.1 ⟨j, h⟩
  · refine ⟨fun h => ?_, h2, ?_⟩
    · rcases (ownd_updF p).mp h with h | ⟨j, hj, h⟩
      · exact nF h
      · by_cases hm : j ∈ ns
        · rw [(t.big j hm).2] at h; simp at h
        · rw [← t.out j hm] at h
          exact (t.er.fp.fr j p h).2.2 h3
    · refine .inr ?_
      cases z : C.H0 p with
      | none => rfl
      | some o => exact absurd h3 (t.er.fp.same.trk h2 (by rw [z]; exact Option.some_ne_none _))
end
end VL
namespace VL
open PySem PySem.Spec PyProof.Rows L2

/-! ### what is wanted behind a statement -/
structure VD where
  nx : List Sl → Prop
  rt : Sl → Prop
  bk : List Sl → Prop := fun _ => False
  ct : List Sl → Prop := fun _ => False
/-- frozen things stay -/
structure Fz (C : Cv) (Fs : Fp) (H : Hp) (Fs' : Fp) (H' : Hp) : Prop where
  zf : ∀ p, Zf C Fs p → H p ≠ none → Zf C Fs' p
  kp : Kp (Zf C Fs) H H'
def LN (M : Md) (C : Cv) (Fs : Fp) (H : Hp) (P : List Sl → Prop) : L2.St → Hp → Prop := fun σ' H' => ∃ Fs' Γ', P Γ' ∧ ER M C Fs' Γ' σ' H' ∧ Fz C Fs H Fs' H'
def liftD (M : Md) (C : Cv) (Fs : Fp) (H : Hp) (D : VD) : Ends where
  nx := LN M C Fs H D.nx
  rt := fun v H' => ∃ k d F, D.rt (.own k d) ∧ Res M C noF 0 C.H0 H' (.own k d) F v
  bk := LN M C Fs H D.bk
  ct := LN M C Fs H D.ct
abbrev WS := VD → List Sl → Prop
def VS (X : Cx) (C : Cv) (st : Stmt) (Γ : List Sl) (D : VD) : Prop := ∀ (Fs : Fp) (σ : L2.St) (H : Hp), ER (md X) C Fs Γ σ H → wkS X st (liftD (md X) C Fs H D) σ H
def VSs (X : Cx) (C : Cv) (st : List Stmt) (Γ : List Sl) (D : VD) : Prop := ∀ (Fs : Fp) (σ : L2.St) (H : Hp), ER (md X) C Fs Γ σ H → wkSs X st (liftD (md X) C Fs H D) σ H
structure VPS (X : Cx) (C : Cv) (st : Stmt) (w : WS) : Prop where
  run : ∀ Γ D, w D Γ → VS X C st Γ D
structure VPSs (X : Cx) (C : Cv) (st : List Stmt) (w : WS) : Prop where
  run : ∀ Γ D, w D Γ → VSs X C st Γ D
section
variable {M : Md} {C : Cv} {Γ Γ' : List Sl} {σ : L2.St} {Fs Fs' Fs2 : Fp} {H H' H2 : Hp} {ns : List Nat} {rs : List Sl} {vs : List V} {n k i L : Nat} {r s : Sl} {F G : List Addr} {v : V} {d : D} {ds : List D}
theorem Fz.refl : Fz C Fs H Fs H := ⟨fun _ h _ => h, .refl _ _⟩
theorem Kp.trk {Z : Addr → Prop} {p : Addr} (k : Kp Z H H') (z : Z p) (h : H p ≠ none) : H' p ≠ none := by
  cases q : H p with
  | none => exact absurd q h
  | some o => rw [k.z p o z q]; exact Option.some_ne_none _
theorem Kp.trans' {Z Z' : Addr → Prop} (a : Kp Z H H') (b : Kp Z' H' H2) (h : ∀ p, Z p → H p ≠ none → Z' p) : Kp Z H H2 :=
  ⟨fun c o z e => b.z c o (h c z (by rw [e]; exact Option.some_ne_none _)) (a.z c o z e), fun c o e => b.t c o (a.t c o e), fun c o u e => b.f c o u (a.f c o u e)⟩
theorem Fz.trans (a : Fz C Fs H Fs' H') (b : Fz C Fs' H' Fs2 H2) : Fz C Fs H Fs2 H2 :=
  ⟨fun p z h => b.zf p (a.zf p z h) (a.kp.trk z h), a.kp.trans' b.kp a.zf⟩
theorem Fz.step (x : SameX C.hd H H') : Fz C Fs H Fs H' := ⟨fun _ h _ => h, x.kp.mono fun p hp => hp.2.1⟩
/-- fewer footprints -/
theorem Zf.sub (h : ∀ p, ownd Fs' p → ownd Fs p) : ∀ p, Zf C Fs p → Zf C Fs' p := fun p hp => ⟨fun z => hp.1 (h p z), hp.2⟩
theorem Fz.sub (h : ∀ p, ownd Fs' p → ownd Fs p) : Fz C Fs H Fs' H := ⟨fun p z _ => Zf.sub h p z, .refl _ _⟩
theorem Fz.rp (f : Fz C Fs H Fs' H') (h : Rp M (Zf C Fs) H d v) : Rp M (Zf C Fs') H' d v :=
  Rp.wide (fun p hp _ => f.zf p hp.1 hp.2) d v (Rp.keep (Z := fun p => Zf C Fs p ∧ H p ≠ none) (f.kp.mono fun p hp => hp.1) d v (Rp.wide (fun p hp hh => ⟨hp, hh⟩) d v h))
theorem Fz.rpA (f : Fz C Fs H Fs' H') (h : RpA M (Zf C Fs) H ds vs) : RpA M (Zf C Fs') H' ds vs :=
  RpA.wide (fun p hp _ => f.zf p hp.1 hp.2) ds vs (RpA.keep (Z := fun p => Zf C Fs p ∧ H p ≠ none) (f.kp.mono fun p hp => hp.1) ds vs (RpA.wide (fun p hp hh => ⟨hp, hh⟩) ds vs h))
theorem liftD.imp {D : VD} (f : Fz C Fs H Fs' H') : Imp (liftD M C Fs' H' D) (liftD M C Fs H D) :=
  ⟨fun σ H'' ⟨F2, Γ2, a, b, c⟩ => ⟨F2, Γ2, a, b, f.trans c⟩, fun _ _ h => h, fun σ H'' ⟨F2, Γ2, a, b, c⟩ => ⟨F2, Γ2, a, b, f.trans c⟩, fun σ H'' ⟨F2, Γ2, a, b, c⟩ => ⟨F2, Γ2, a, b, f.trans c⟩⟩
/-- another thing in slot i -/
theorem ER.put (er : ER M C Fs Γ σ H) (hi : i < Γ.length) (sub : ∀ p, ownd Fs' p → ownd Fs p) (oth : ∀ j, j ≠ i → j < Γ.length → Fs' j = Fs j) (f : FpR C Fs' H) (h : SlR M C Fs' H i s v) (hg : s ≠ .gone := by intro h; cases h) : ER M C Fs' (Γ.set i s) (σ.set i (some v)) H := by
  refine ⟨f, by simp [er.len], fun j t hj hlv => ?_, fun j hj => ?_⟩
  rotate_left
  · by_cases e : j = i
    · subst e
      rw [List.getElem?_set_self hi] at hj
      cases hj
      exact absurd rfl hg
    · rw [List.getElem?_set_ne (Ne.symm e)] at hj
      rw [oth j e (List.getElem?_eq_some_iff.mp hj).1]
      exact er.gn j hj
  by_cases e : j = i
  · subst e
    rw [List.getElem?_set_self hi] at hj
    cases hj
    exact ⟨v, by rw [List.getElem?_set_self (by rw [er.len]; exact hi)], h⟩
  · rw [List.getElem?_set_ne (Ne.symm e)] at hj
    rw [List.getElem?_set_ne (Ne.symm e)]
    have hj' := (List.getElem?_eq_some_iff.mp hj).1
    obtain ⟨u, a, b⟩ := er.sl j t hj hlv
    refine ⟨u, a, ?_⟩
    have eF := oth j e hj'
    cases t with
    | gone => trivial
    | own k d =>
      show Ow M (Zf C Fs') H k d u (Fs' j)
      rw [eF]
      exact Ow.wide (fun p hp _ => Zf.sub sub p hp) b
    | bor d => exact ⟨eF.trans b.1, b.2⟩
    | now d => exact ⟨eF.trans b.1, b.2⟩
    | hnd => exact ⟨eF.trans b.1, b.2⟩
/-- footprints moved from n to i, some let go -/
theorem FpR.move (f : FpR C Fs H) (nd : G.Nodup) (h : ∀ p ∈ G, p ∈ Fs n) : FpR C (updF (updF Fs n []) i G) H := by
  have sub : ∀ j p, p ∈ updF (updF Fs n []) i G j → (j = i ∧ p ∈ Fs n) ∨ (j ≠ i ∧ j ≠ n ∧ p ∈ Fs j) := fun j p hp => by
    by_cases e : j = i
    · subst e; rw [updF_same] at hp; exact .inl ⟨rfl, h p hp⟩
    · rw [updF_ne e] at hp
      by_cases e' : j = n
      · subst e'; rw [updF_same] at hp; simp at hp
      · rw [updF_ne e'] at hp; exact .inr ⟨e, e', hp⟩
  refine ⟨fun j => ?_, fun j l p hj hl => ?_, fun j p hp => ?_, ?_, f.same, f.hok⟩
  · by_cases e : j = i
    · subst e; rw [updF_same]; exact nd
    · rw [updF_ne e]
      by_cases e' : j = n
      · subst e'; rw [updF_same]; exact List.nodup_nil
      · rw [updF_ne e']; exact f.nd j
  · rcases sub j p hj with ⟨a, b⟩ | ⟨a, b, c⟩ <;> rcases sub l p hl with ⟨a', b'⟩ | ⟨a', b', c'⟩
    · rw [a, a']
    · exact absurd (f.dj _ _ p b c').symm b'
    · exact absurd (f.dj _ _ p c b') b
    · exact f.dj j l p c c'
  · rcases sub j p hp with ⟨a, b⟩ | ⟨a, b, c⟩
    · exact f.fr n p b
    · exact f.fr j p c
  · obtain ⟨N, hN⟩ := f.fin
    refine ⟨max N (i + 1), fun j hj => ?_⟩
    have h1 := Nat.le_max_left N (i + 1)
    have h2 := Nat.le_max_right N (i + 1)
    rw [updF_ne (by omega)]
    by_cases e' : j = n
    · subst e'; rw [updF_same]
    · rw [updF_ne e']; exact hN j (by omega)
theorem ownd_move (h : ∀ p ∈ G, p ∈ Fs n) : ∀ p, ownd (updF (updF Fs n []) i G) p → ownd Fs p := fun p ⟨j, hj⟩ => by
  by_cases e : j = i
  · subst e; rw [updF_same] at hj; exact ⟨n, h p hj⟩
  · rw [updF_ne e] at hj
    by_cases e' : j = n
    · subst e'; rw [updF_same] at hj; simp at hj
    · rw [updF_ne e'] at hj; exact ⟨j, hj⟩
/-- what is held at n is stored in slot i -/
theorem ER.store (er : ER M C Fs Γ σ H) (hi : i < Γ.length) (hl : Γ.length ≤ n) (h : SlR M C Fs H n r v) (e : dat r = some d) (z : itm L r) :
    ∃ Fs', ER M C Fs' (Γ.set i (.own L d)) (σ.set i (some v)) H ∧ (∀ p, ownd Fs' p → ownd Fs p) ∧ ∀ j, j ≠ i → j ≠ n → Fs' j = Fs j := by
  obtain ⟨G, g1, g2, g3⟩ := h.itm er.fp e z
  have hin : i ≠ n := by omega
  refine ⟨updF (updF Fs n []) i G, er.put hi (ownd_move g2) (fun j hj hl' => ?_) (er.fp.move g1 g2) ?_, ownd_move g2, fun j h1 h2 => by rw [updF_ne h1, updF_ne h2]⟩
  · rw [updF_ne hj, updF_ne (by omega)]
  · show Ow M (Zf C _) H L d v (updF (updF Fs n []) i G i)
    rw [updF_same]
    refine Ow.wide (fun p hp _ => ?_) g3
    rcases hp with hp | ⟨a, b⟩
    · exact Zf.sub (ownd_move g2) p hp
    · obtain ⟨c1, c2, c3⟩ := er.fp.fr n p a
      refine ⟨fun ⟨j, hj⟩ => ?_, c2, .inr c1⟩
      by_cases e : j = i
      · subst e; rw [updF_same] at hj; exact b hj
      · rw [updF_ne e] at hj
        by_cases e' : j = n
        · subst e'; rw [updF_same] at hj; simp at hj
        · rw [updF_ne e'] at hj
          exact e' (er.fp.dj j n p hj a)
/-- a frozen thing is stored in slot i -/
theorem ER.store0 (er : ER M C Fs Γ σ H) (hi : i < Γ.length) (h : Rp M (Zf C Fs) H d v) : ER M C (updF Fs i []) (Γ.set i (.own 0 d)) (σ.set i (some v)) H := by
  have sub : ∀ p, ownd (updF Fs i []) p → ownd Fs p := fun p hp => by
    rcases (ownd_updF p).mp hp with h | ⟨j, _, h⟩
    · simp at h
    · exact ⟨j, h⟩
  exact er.put hi sub (fun j hj _ => updF_ne hj) er.fp.drop ⟨updF_same, Rp.wide (fun p hp _ => Zf.sub sub p hp) d v h⟩
theorem ownd_drop : ∀ p, ownd (updF Fs n []) p → ownd Fs p := fun p hp => by
  rcases (ownd_updF p).mp hp with h | ⟨j, _, h⟩
  · simp at h
  · exact ⟨j, h⟩
/-- frozen, forgotten -/
def frS (i : Nat) (Γ : List Sl) : List Sl := match Γ[i]? with
  | some (.own _ d) => Γ.set i (.own 0 d)
  | _ => Γ
def goS (i : Nat) (Γ : List Sl) : List Sl := Γ.set i .gone
theorem ER.freeze (er : ER M C Fs Γ σ H) (i : Nat) : ∃ Fs', ER M C Fs' (frS i Γ) σ H ∧ ∀ p, ownd Fs' p → ownd Fs p := by
  unfold frS
  split
  · rename_i k d e
    obtain ⟨v, ev, sl⟩ := er.sl_of e rfl
    have hi := (List.getElem?_eq_some_iff.mp e).1
    refine ⟨updF Fs i [], ⟨er.fp.drop, by simp [er.len], fun j t hj hlv => ?_, fun j hj => ?_⟩, ownd_drop⟩
    rotate_left
    · by_cases ej : j = i
      · rw [ej, updF_same]
      · rw [updF_ne ej]
        rw [List.getElem?_set_ne (Ne.symm ej)] at hj
        exact er.gn j hj
    by_cases ej : j = i
    · subst ej
      rw [List.getElem?_set_self hi] at hj
      cases hj
      refine ⟨v, ev, updF_same, ?_⟩
      have sl : Ow M (Zf C Fs) H k d v (Fs j) := sl
      refine Rp.wide (fun p hp _ => ?_) d v sl.rp
      rcases hp with hp | hp
      · exact Zf.sub ownd_drop p hp
      · obtain ⟨c1, c2, c3⟩ := er.fp.fr j p hp
        refine ⟨fun h => ?_, c2, .inr c1⟩
        rcases (ownd_updF p).mp h with h | ⟨l, hl, h⟩
        · simp at h
        · exact hl (er.fp.dj l j p h hp)
    · rw [List.getElem?_set_ne (Ne.symm ej)] at hj
      obtain ⟨u, a, b⟩ := er.sl j t hj hlv
      exact ⟨u, a, b.shrink (fun p hp => absurd hp (by simp)) ej⟩
  · exact ⟨Fs, er, fun _ h => h⟩
theorem ER.forget (er : ER M C Fs Γ σ H) (i : Nat) : ER M C (updF Fs i []) (goS i Γ) σ H := by
  refine ⟨er.fp.drop, by simp [goS, er.len], fun j t hj hlv => ?_, fun j hj => ?_⟩
  · unfold goS at hj
    by_cases ej : j = i
    · subst ej
      by_cases hi : j < Γ.length
      · rw [List.getElem?_set_self hi] at hj; cases hj; cases hlv
      · rw [List.getElem?_eq_none (by simpa using hi)] at hj; cases hj
    · rw [List.getElem?_set_ne (Ne.symm ej)] at hj
      obtain ⟨u, a, b⟩ := er.sl j t hj hlv
      exact ⟨u, a, b.shrink (fun p hp => absurd hp (by simp)) ej⟩
  · unfold goS at hj
    by_cases ej : j = i
    · rw [ej, updF_same]
    · rw [updF_ne ej]
      rw [List.getElem?_set_ne (Ne.symm ej)] at hj
      exact er.gn j hj
end

/-! ### small statements -/
def wNil : WS := fun D Γ => D.nx Γ
def wSeq (a b : WS) : WS := fun D Γ => a { D with nx := b D } Γ
def wDrop (a : WE) : WS := fun D Γ => a Γ fun _ => D.nx Γ
/-- a result to be handed back -/
def retR (r : Sl) (k : Sl → Prop) : Prop := match r with
  | .own j d => k (.own j d)
  | .bor d => imm d = true ∧ k (.own 0 d)
  | .now d => imm d = true ∧ k (.own 0 d)
  | _ => False
def wRet (a : WE) : WS := fun D Γ => a Γ fun r => retR r D.rt
def wRetN : WS := fun D _ => D.rt (.own 0 .none)
/-- return a local name: what it owns goes along -/
def wRetV (i : Nat) : WS := fun D Γ => match Γ[i]? with
  | some (.now _) => True ∧ False
  | some r => retR r D.rt
  | none => False
def wIf (c : WT) (a b : WS) : WS := fun D Γ => c Γ fun k => cnd k (a D Γ) (b D Γ)
def wSet (L i : Nat) (a : WE) : WS := fun D Γ => a Γ fun r => match dat r with
  | some d => i < Γ.length ∧ itm L r ∧ D.nx (Γ.set i (.own L d))
  | none => False
def wBrk : WS := fun D Γ => D.bk Γ
def wCnt : WS := fun D Γ => D.ct Γ
def wFr (i : Nat) (a : WS) : WS := fun D Γ => a D (frS i Γ)
def wGo (i : Nat) (a : WS) : WS := fun D Γ => a D (goS i Γ)
section
variable {X : Cx} {C : Cv} {e a b c : Expr} {es : List Expr} {st : Stmt} {sts sts' : List Stmt} {we wa : WE} {w : WA} {wt : WT} {ws ws' : WS} {pos pos' : Pos} {i L : Nat} {x : Str}
theorem vp_tup {k} (h : VPA X C es w) : VP X C (.Tuple es k pos) (wTup w) := by
  refine ⟨fun Γ R q Fs σ H n er hl hn => PE.wk (pe_tup pa_wk) ((h.run Γ _ q Fs σ H 0 er).mono fun vs H1 ⟨rs, ns, Fs', q1, _, t⟩ => ?_)⟩
  obtain ⟨ds, ⟨q2, q3⟩, _⟩ := t.frozen (F := []) (n := n) hn q1 (fun p hp => absurd hp (by simp))
  have hlen : ∀ {ds}, RpA (md X) (Zf C (updF Fs n [])) H1 ds vs → vs.length = ds.length := fun h => RpA.length h
  obtain ⟨ds, ⟨q2, q3⟩, q4⟩ := t.frozen (F := []) (n := n) hn q1 (fun p hp => absurd hp (by simp))
  refine ⟨by rw [hlen q4]; exact q2, fun p hp => ⟨_, [], q3, ?_⟩⟩
  have x := same_new (o := .tup vs) C.hd hp
  exact t.fin x List.nodup_nil (fun p hp => absurd hp (by simp)) ⟨updF_same, p, vs, rfl, .inl (.inl upd_same), RpA.keep (x.kp.mono fun q hq => hq.2.1) _ _ q4⟩
theorem itms_len {k : Nat} {c : List D → Prop} {M : Md} {Fs : Fp} {H : Hp} {ns : List Nat} {rs : List Sl} {vs : List V} (t : Tms M C Fs H ns rs vs) (h : itms k rs c) : ∃ ds, c ds ∧ ds.length = vs.length := by
  induction t generalizing c with
  | nil => exact ⟨[], h, rfl⟩
  | cons _ _ ih =>
    unfold itms at h
    split at h
    · obtain ⟨_, h⟩ := h
      obtain ⟨ds, a, b⟩ := ih h
      exact ⟨_, a, by rw [List.length_cons, List.length_cons, b]⟩
    · exact h.elim
theorem vp_lst {k} (h : VPA X C es w) : VP X C (.List es pos) (wLst k w) := by
  refine ⟨fun Γ R q Fs σ H n er hl hn => PE.wk (pe_lst pa_wk) ((h.run Γ _ q Fs σ H 0 er).mono fun vs H1 ⟨rs, ns, Fs', q1, _, t⟩ => ?_)⟩
  obtain ⟨ds0, ⟨z, _⟩, el⟩ := itms_len t.at_ q1
  refine ⟨by rw [← el]; exact z, fun p hp => ?_⟩
  obtain ⟨ds, F, ⟨_, q3⟩, res⟩ := t.lstk hn q1 hp
  exact ⟨_, F, q3, res⟩
theorem vp_call {f : Addr} {fd : FuncData} {ps : List Str} {k : Nat} {ks : List PKd} {s : VSpec} {p : Pos} (F : FnOk X.prog X.w X.K X.mg X.base CX0 k f fd ps (spV (md X) ps.length s)) (ms : MonoS s) (hk : ks.length = ps.length) (hr : Room k X.A) (hg : Gl X x) (hm : X.mg x = some (.ref f)) (hkp : PySem.W.keepIn X.K (.ref f) = true) (hb : Binds X.K fd ps [])
    (ha : VPA X C (e :: es) w) (hdb : (x == ("__debug__" : Str)) = false := by decide) (he : starEach (e :: es) X.env = (false, eval e X.env) :: starEach es X.env := by rfl) (hpl : (backTo pos (starEach es X.env)).any (·.1) = false := by rfl) :
    VP X C (.Call (.Name x p) (e :: es) [] pos) (wCall ks s w) := by
  refine ⟨fun Γ R q Fs σ H n er hl hn => PE.wk (pe_call (t := wkA X (e :: es)) F hr hg hm hkp hb .nil pass0 pa_wk hdb he hpl) ((ha.run Γ _ q Fs σ H 0 er).mono fun vs H1 ⟨rs, ns, Fs', q1, _, t⟩ => ?_)⟩
  have C' : Cv := ⟨H1, Zf C Fs, C.hd⟩
  obtain ⟨ss, q2, q3, q4⟩ := Tms.pass t hn (C' := ⟨H1, Zf C Fs, C.hd⟩) rfl rfl rfl t.at_ (fun i hi => hi) q1
  rw [List.append_nil]
  refine ⟨⟨H1, Zf C Fs, C.hd⟩, ss, rfl, t.er.fp.hok, q3, by rw [q4, hk], ms _ _ _ (fun r hr k d v H' F e res => ?_) q2⟩
  subst e
  exact ⟨_, F, hr, t.called hn (C' := ⟨H1, Zf C Fs, C.hd⟩) rfl rfl rfl res⟩
theorem vss_nil : VPSs X C [] wNil := ⟨fun Γ D h Fs σ H er => PSs.wk pss_nil ⟨Fs, Γ, h, er, .refl⟩⟩
theorem vss_cons (h1 : VPS X C st ws) (h2 : VPSs X C sts ws') : VPSs X C (st :: sts) (wSeq ws ws') := by
  refine ⟨fun Γ D h Fs σ H er => PSs.wk (pss_cons ps_wk pss_wk) ((h1.run Γ _ h Fs σ H er).mono ⟨fun σ' H' ⟨Fs', Γ', q, er', fz⟩ => ?_, fun _ _ h => h, fun _ _ h => h, fun _ _ h => h⟩)⟩
  exact (h2.run Γ' D q Fs' σ' H' er').mono (liftD.imp fz)
theorem vss_one (h1 : VPS X C st ws) : VPSs X C [st] ws := ⟨fun Γ D h Fs σ H er => PSs.wk (pss_one ps_wk) (h1.run Γ D h Fs σ H er)⟩
theorem vss_fr (i : Nat) (h : VPSs X C sts ws) : VPSs X C sts (wFr i ws) := ⟨fun Γ D q Fs σ H er => by
  obtain ⟨Fs', er', sub⟩ := er.freeze i
  exact (h.run _ D q Fs' σ H er').mono (liftD.imp (Fz.sub sub))⟩
theorem vss_go (i : Nat) (h : VPSs X C sts ws) : VPSs X C sts (wGo i ws) := ⟨fun Γ D q Fs σ H er => (h.run _ D q _ σ H (er.forget i)).mono (liftD.imp (Fz.sub ownd_drop))⟩
theorem vs_pass : VPS X C (.Pass pos) wNil := ⟨fun Γ D h Fs σ H er => PS.wk ps_pass ⟨Fs, Γ, h, er, .refl⟩⟩
theorem vs_brk : VPS X C (.Break pos) wBrk := ⟨fun Γ D h Fs σ H er => PS.wk ps_break ⟨Fs, Γ, h, er, .refl⟩⟩
theorem vs_cnt : VPS X C (.Continue pos) wCnt := ⟨fun Γ D h Fs σ H er => PS.wk ps_continue ⟨Fs, Γ, h, er, .refl⟩⟩
theorem vs_expr (h : VP X C e we) (hs : swapsWith e none pos.line X.env = pure false := by rfl) : VPS X C (.Expr e pos) (wDrop we) := ⟨fun Γ D q Fs σ H er => by
  obtain ⟨n, hl, hn⟩ := er.fp.free Γ.length
  exact PS.wk (ps_expr pe_wk hs) ((h.run Γ _ q Fs σ H n er hl hn).mono fun v H1 ⟨r, F, q, res⟩ => ⟨Fs, Γ, q, er.step res.same, .step res.same⟩)⟩
/-- what is handed back, told from the entry on -/
theorem Res.back {M : Md} {Γ : List Sl} {σ : L2.St} {Fs : Fp} {n : Nat} {H H' : Hp} {k : Nat} {d : D} {F : List Addr} {v : V} (er : ER M C Fs Γ σ H) (q : Res M C Fs n H H' (.own k d) F v) : Res M C noF 0 C.H0 H' (.own k d) F v := by
  refine ⟨er.fp.same.trans q.same, q.nd, fun p hp => ?_, ?_⟩
  · obtain ⟨a, b, c⟩ := q.fr p hp
    refine ⟨?_, b, c⟩
    cases z : C.H0 p with
    | none => rfl
    | some o => exact absurd a (er.fp.same.trk b (by rw [z]; exact Option.some_ne_none _))
  · have sl : Ow M (Zf C (updF Fs n F)) H' k d v (updF Fs n F n) := q.sl
    rw [updF_same] at sl
    show Ow M (Zf C (updF noF 0 F)) H' k d v (updF noF 0 F 0)
    rw [updF_same]
    refine Ow.wide (fun p hp _ => Zf.sub (fun p h => ?_) p hp) sl
    rcases (ownd_updF p).mp h with h | ⟨j, _, h⟩
    · exact (ownd_updF p).mpr (.inl h)
    · exact absurd h (by simp [noF])
theorem vs_ret (h : VP X C e we) : VPS X C (.Return (some e) pos) (wRet we) := ⟨fun Γ D q Fs σ H er => by
  obtain ⟨n, hl, hn⟩ := er.fp.free Γ.length
  refine PS.wk (ps_ret pe_wk) ((h.run Γ _ q Fs σ H n er hl hn).mono fun v H1 ⟨r, F, q, res⟩ => ?_)
  have er1 := res.er er hl hn
  have im : ∀ d, dat r = some d → imm d = true → D.rt (.own 0 d) → ∃ k d F, D.rt (.own k d) ∧ Res (md X) C noF 0 C.H0 H1 (.own k d) F v := fun d e i q =>
    ⟨0, d, [], q, (⟨res.same, List.nodup_nil, fun p hp => absurd hp (by simp), updF_same, Rp.imm_any i (res.sl.rp er1.fp e)⟩ : Res (md X) C Fs n H H1 (.own 0 d) [] v).back er⟩
  cases r with
  | own k d => exact ⟨k, d, F, q, res.back er⟩
  | bor d => exact im d rfl q.1 q.2
  | now d => exact im d rfl q.1 q.2
  | gone => exact q.elim
  | hnd => exact q.elim⟩
theorem vs_retN : VPS X C (.Return none pos) wRetN := ⟨fun Γ D q Fs σ H er => PS.wk ps_retN ⟨0, .none, [], q, (Res.imm (n := 0) (Fs := Fs) (d := .none) (Z := fun _ => False) rfl rfl : Res (md X) C Fs 0 H H _ _ _).back er⟩⟩
theorem vs_retV (i : Nat) {p : Pos} (hN : X.N[i]? = some x := by rfl) (hv : Vis X.env.scope x := by first | exact Or.inl rfl | exact Or.inr (Or.inl rfl) | exact Or.inr (Or.inr rfl)) (hd : (x == ("__debug__" : Str)) = false := by decide) (hcd : (x == ("__classdict__" : Str)) = false := by decide) :
    VPS X C (.Return (some (.Name x p)) pos) (wRetV i) := ⟨fun Γ D q Fs σ H er => by
  unfold wRetV at q
  refine PS.wk (ps_ret (pe_var hN hv hd hcd)) ?_
  cases e : Γ[i]? with
  | none => rw [e] at q; exact q.elim
  | some r =>
    rw [e] at q
    have im : ∀ d v, σ[i]? = some (some v) → SlR (md X) C Fs H i r v → dat r = some d → imm d = true → D.rt (.own 0 d) → tRet (tVar i) (liftD (md X) C Fs H D) σ H := fun d v ev sl e im q =>
      ⟨v, ev, 0, d, [], q, (Res.imm (n := 0) (Fs := Fs) im (sl.rp er.fp e) : Res (md X) C Fs 0 H H _ _ _).back er⟩
    cases r with
    | own k d =>
      obtain ⟨v, ev, sl⟩ := er.sl_of e rfl
      refine ⟨v, ev, k, d, Fs i, q, er.fp.same, er.fp.nd i, fun p hp => er.fp.fr i p hp, ?_⟩
      have sl : Ow (md X) (Zf C Fs) H k d v (Fs i) := sl
      show Ow (md X) (Zf C (updF noF 0 (Fs i))) H k d v (updF noF 0 (Fs i) 0)
      rw [updF_same]
      refine Ow.wide (fun p hp _ => Zf.sub (fun p h => ?_) p hp) sl
      rcases (ownd_updF p).mp h with h | ⟨j, _, h⟩
      · exact ⟨i, h⟩
      · exact absurd h (by simp [noF])
    | bor d =>
      obtain ⟨v, ev, sl⟩ := er.sl_of e rfl
      exact im d v ev sl rfl q.1 q.2
    | now d => exact q.2.elim
    | gone => exact q.elim
    | hnd => exact q.elim⟩
theorem vs_if {sa sb : List Stmt} {wa wb : WS} (hc : VPT X C c wt) (ha : VPSs X C sa wa) (hb : VPSs X C sb wb) : VPS X C (.If c sa sb pos) (wIf wt wa wb) := ⟨fun Γ D q Fs σ H er => by
  refine PS.wk (ps_if pt_wk pss_wk pss_wk) ((hc.run Γ _ q Fs σ H er).mono fun k H1 ⟨q, x⟩ => ?_)
  cases k with
  | true => exact (ha.run Γ D (q.1 rfl) Fs σ H1 (er.step x)).mono (liftD.imp (.step x))
  | false => exact (hb.run Γ D (q.2 rfl) Fs σ H1 (er.step x)).mono (liftD.imp (.step x))⟩
theorem vs_set (L i : Nat) {p : Pos} (hN : X.N.Nodup) (hi : X.N[i]? = some x) (hx : Loc X.env.scope x) (h : VP X C e we) (hs : swapsWith e (some (.Name x p)) pos.line X.env = pure false := by rfl) (hf : X.fn x = true ∨ X.env.scope.names.lookup x = some .local := by first | exact .inl rfl | exact .inr rfl | assumption) :
    VPS X C (.Assign [.Name x p] e pos) (wSet L i we) := ⟨fun Γ D q Fs σ H er => by
  obtain ⟨n, hl, hn⟩ := er.fp.free Γ.length
  refine PS.wk (ps_set hN hi hx pe_wk hs hf) ((h.run Γ _ q Fs σ H n er hl hn).mono fun v H1 ⟨r, F, q, res⟩ => ?_)
  split at q
  · rename_i d e
    obtain ⟨q1, q2, q3⟩ := q
    obtain ⟨Fs', er', sub, _⟩ := (res.er er hl hn).store q1 hl res.sl e q2
    refine ⟨Fs', _, q3, er', ?_⟩
    refine ⟨fun p hp hh => Zf.sub sub p (Zf.lay (fun q hq => (res.fr q hq).1) (fun q hq => by rw [hn] at hq; simp at hq) p hp hh), res.same.kp.mono fun p hp => hp.2.1⟩
  · exact q.elim⟩
end
end VL
namespace VL
open PySem PySem.Spec PyProof.Rows L2

/-! ### targets -/
def wkG (X : Cx) (tg : Expr) : TG := fun v σ H Q => ∀ (pins : List (Addr × Obj)) (s : Shared) (u : Value), Inv X pins σ H s → RelV v u → wpAny (model X.prog X.w) X.A (assign tg X.env u) (fun _ s' => ∃ σ' H', Inv X pins σ' H' s' ∧ Q σ' H') X.xe s
def wkGs (X : Cx) (ts : List Expr) : TGs := fun vs σ H Q => ∀ (pins : List (Addr × Obj)) (s : Shared) (us : List Value), Inv X pins σ H s → Vals vs us → wpAny (model X.prog X.w) X.A (assignInOrder ((assignEach ts X.env).map (·.2)) us) (fun _ s' => ∃ σ' H', Inv X pins σ' H' s' ∧ Q σ' H') X.xe s
abbrev WG := D → List Sl → (List Sl → Prop) → Prop
abbrev WGs := List D → List Sl → (List Sl → Prop) → Prop
/-- but for the slots ws all is as it was -/
structure ButS (ws : List Nat) (Fs Fs' : Fp) (Γ Γ' : List Sl) (σ σ' : L2.St) : Prop where
  len : Γ'.length = Γ.length
  fs : ∀ j, Fs' j = Fs j ∨ (j ∈ ws ∧ Fs' j = [])
  sl : ∀ j, j ∉ ws → Γ'[j]? = Γ[j]? ∧ σ'[j]? = σ[j]?
theorem ButS.sub {ws : List Nat} {Fs Fs' : Fp} {Γ Γ' : List Sl} {σ σ' : L2.St} (b : ButS ws Fs Fs' Γ Γ' σ σ') : ∀ p, ownd Fs' p → ownd Fs p := fun p ⟨j, hj⟩ => by
  rcases b.fs j with e | ⟨_, e⟩
  · rw [e] at hj; exact ⟨j, hj⟩
  · rw [e] at hj; simp at hj
theorem ButS.refl {ws : List Nat} {Fs : Fp} {Γ : List Sl} {σ : L2.St} : ButS ws Fs Fs Γ Γ σ σ := ⟨rfl, fun _ => .inl rfl, fun _ _ => ⟨rfl, rfl⟩⟩
theorem ButS.trans {ws ws' : List Nat} {Fs Fs' Fs2 : Fp} {Γ Γ' Γ2 : List Sl} {σ σ' σ2 : L2.St} (a : ButS ws Fs Fs' Γ Γ' σ σ') (b : ButS ws' Fs' Fs2 Γ' Γ2 σ' σ2) : ButS (ws ++ ws') Fs Fs2 Γ Γ2 σ σ2 :=
  ⟨b.len.trans a.len, fun j => by
    rcases b.fs j with e | ⟨h, e⟩
    · rcases a.fs j with e' | ⟨h, e'⟩
      · exact .inl (e.trans e')
      · exact .inr ⟨List.mem_append_left _ h, e.trans e'⟩
    · exact .inr ⟨List.mem_append_right _ h, e⟩, fun j hj => by
    obtain ⟨h1, h2⟩ := a.sl j fun h => hj (List.mem_append_left _ h)
    obtain ⟨h3, h4⟩ := b.sl j fun h => hj (List.mem_append_right _ h)
    exact ⟨h3.trans h1, h4.trans h2⟩⟩
def GP (M : Md) (C : Cv) (Fs : Fp) (H : Hp) (ws : List Nat) (Γ : List Sl) (σ : L2.St) (K : List Sl → Prop) : L2.St → Hp → Prop := fun σ' H' => H' = H ∧ ∃ Fs' Γ', K Γ' ∧ ER M C Fs' Γ' σ' H ∧ ButS ws Fs Fs' Γ Γ' σ σ'
structure VPG (X : Cx) (C : Cv) (tg : Expr) (ws : List Nat) (g : WG) : Prop where
  run : ∀ d Γ K, g d Γ K → ∀ (Fs : Fp) (σ : L2.St) (H : Hp) (v : V), ER (md X) C Fs Γ σ H → Rp (md X) (Zf C Fs) H d v → wkG X tg v σ H (GP (md X) C Fs H ws Γ σ K)
structure VPGs (X : Cx) (C : Cv) (ts : List Expr) (ws : List Nat) (g : WGs) : Prop where
  run : ∀ ds Γ K, g ds Γ K → ∀ (Fs : Fp) (σ : L2.St) (H : Hp) (vs : List V), ER (md X) C Fs Γ σ H → RpA (md X) (Zf C Fs) H ds vs → wkGs X ts vs σ H (GP (md X) C Fs H ws Γ σ K)
def gN (i : Nat) : WG := fun d Γ K => i < Γ.length ∧ K (Γ.set i (.own 0 d))
def gT (g : WGs) : WG := fun d Γ K => match d with
  | .tuple ds => g ds Γ K
  | _ => False
def gsN : WGs := fun ds Γ K => match ds with
  | [] => K Γ
  | _ => False
def gsC (g : WG) (gs : WGs) : WGs := fun ds Γ K => match ds with
  | d :: r => g d Γ fun Γ' => gs r Γ' K
  | _ => False
section
variable {X : Cx} {C : Cv} {tg e : Expr} {ts : List Expr} {g : WG} {gs : WGs} {pos : Pos} {i : Nat} {x : Str}
theorem pg_wk : PG X tg (wkG X tg) := ⟨fun pins s _ _ _ u _ I r h => h pins s u I r⟩
theorem pgs_wk : PGs X ts (wkGs X ts) := ⟨fun pins s _ _ _ us _ I r h => h pins s us I r⟩
theorem _root_.L2.PG.wk {t : TG} {σ : L2.St} {H : Hp} {v : V} {Q : L2.St → Hp → Prop} (p : PG X tg t) (h : t v σ H Q) : wkG X tg v σ H Q := fun pins s u I r => p.run pins s σ H v u Q I r h
theorem _root_.L2.PGs.wk {t : TGs} {σ : L2.St} {H : Hp} {v : List V} {Q : L2.St → Hp → Prop} (p : PGs X ts t) (h : t v σ H Q) : wkGs X ts v σ H Q := fun pins s u I r => p.run pins s σ H v u Q I r h
theorem wkG.mono {σ : L2.St} {H : Hp} {v : V} {Q Q' : L2.St → Hp → Prop} (h : wkG X tg v σ H Q) (f : ∀ σ H, Q σ H → Q' σ H) : wkG X tg v σ H Q' := fun pins s u I r => thn (h pins s u I r) fun _ _ ⟨σ', H', I', q⟩ => ⟨σ', H', I', f _ _ q⟩
theorem wkGs.mono {σ : L2.St} {H : Hp} {v : List V} {Q Q' : L2.St → Hp → Prop} (h : wkGs X ts v σ H Q) (f : ∀ σ H, Q σ H → Q' σ H) : wkGs X ts v σ H Q' := fun pins s u I r => thn (h pins s u I r) fun _ _ ⟨σ', H', I', q⟩ => ⟨σ', H', I', f _ _ q⟩
theorem vg_name (i : Nat) (hN : X.N.Nodup) (hi : X.N[i]? = some x) (hx : Loc X.env.scope x) (hf : X.fn x = true ∨ X.env.scope.names.lookup x = some .local := by first | exact .inl rfl | exact .inr rfl | assumption) : VPG X C (.Name x pos) [i] (gN i) :=
  ⟨fun d Γ K h Fs σ H v er hr => PG.wk (pg_name hN hi hx hf) ⟨rfl, _, _, h.2, er.store0 h.1 hr, by simp, fun j => by
    by_cases e : j = i
    · exact .inr ⟨by simp [e], by rw [e, updF_same]⟩
    · exact .inl (updF_ne e), fun j hj => by
    have e : i ≠ j := fun e => hj (by simp [e])
    exact ⟨List.getElem?_set_ne e, List.getElem?_set_ne e⟩⟩⟩
theorem vgs_nil : VPGs X C [] [] gsN := ⟨fun ds Γ K h Fs σ H vs er hr => by
  unfold gsN at h
  split at h
  · exact PGs.wk pgs_nil ⟨hr, rfl, Fs, Γ, h, er, .refl⟩
  · exact h.elim⟩
theorem vgs_cons {ws ws' : List Nat} (h1 : VPG X C e ws g) (h2 : VPGs X C ts ws' gs) (hs : (assignEach (e :: ts) X.env).map (·.2) = assign e X.env :: (assignEach ts X.env).map (·.2) := by rfl) : VPGs X C (e :: ts) (ws ++ ws') (gsC g gs) := ⟨fun ds Γ K h Fs σ H vs er hr => by
  unfold gsC at h
  split at h
  · rename_i d r
    obtain ⟨v, us, ev, q, qs⟩ := hr
    subst ev
    refine PGs.wk (pgs_cons pg_wk pgs_wk hs) ⟨v, us, rfl, (h1.run d Γ _ h Fs σ H v er q).mono fun σ1 H1 ⟨eH, Fs1, Γ1, k1, er1, sub⟩ => ?_⟩
    subst eH
    exact (h2.run r Γ1 K k1 Fs1 σ1 H1 us er1 (RpA.wide (fun p hp _ => Zf.sub sub.sub p hp) _ _ qs)).mono fun σ2 H2 ⟨eH, Fs2, Γ2, k2, er2, sub2⟩ => ⟨eH, Fs2, Γ2, k2, er2, sub.trans sub2⟩
  · exact h.elim⟩
theorem vg_tup {k : Nat} {n : Nat} {ws : List Nat} (hc : X.calm = true) (h : VPGs X C ts ws gs) (hn : (assignEach ts X.env).length = n := by rfl) (hst : (assignEach ts X.env).findIdx? (·.1) = none := by rfl)
    (hlen : ∀ ds Γ K, gs ds Γ K → ds.length = n) : VPG X C (.Tuple ts k pos) ws (gT gs) := ⟨fun d Γ K q Fs σ H v er hr => by
  cases d with
  | tuple ds =>
    obtain ⟨a, vs, e, sq, rs⟩ := hr
    have hl := hlen ds Γ K q
    exact PG.wk (pg_tup hc pgs_wk hn hst) ⟨a, vs, e, sq, by rw [RpA.length rs, hl], h.run ds Γ K q Fs σ H vs er rs⟩
  | _ => exact q.elim⟩
theorem gsN_len : ∀ ds Γ K, gsN ds Γ K → ds.length = 0 := fun ds Γ K h => by
  unfold gsN at h
  split at h
  · rfl
  · exact h.elim
theorem gsC_len {n : Nat} (h : ∀ ds Γ K, gs ds Γ K → ds.length = n) (hg : ∀ d Γ K, g d Γ K → ∃ Γ', K Γ') : ∀ ds Γ K, gsC g gs ds Γ K → ds.length = n + 1 := fun ds Γ K q => by
  unfold gsC at q
  split at q
  · obtain ⟨Γ', q⟩ := hg _ _ _ q
    rw [List.length_cons, h _ _ _ q]
  · exact q.elim
theorem gN_ex {i : Nat} : ∀ d Γ K, gN i d Γ K → ∃ Γ', K Γ' := fun _ _ _ h => ⟨_, h.2⟩
theorem gsN_ex : ∀ d Γ K, gsN d Γ K → ∃ Γ', K Γ' := fun ds Γ K h => by
  unfold gsN at h
  split at h
  · exact ⟨_, h⟩
  · exact h.elim
theorem gsC_ex (hg : ∀ d Γ K, g d Γ K → ∃ Γ', K Γ') (h : ∀ ds Γ K, gs ds Γ K → ∃ Γ', K Γ') : ∀ ds Γ K, gsC g gs ds Γ K → ∃ Γ', K Γ' := fun ds Γ K q => by
  unfold gsC at q
  split at q
  · obtain ⟨Γ', q⟩ := hg _ _ _ q
    exact h _ _ _ q
  · exact q.elim
theorem gT_ex (h : ∀ ds Γ K, gs ds Γ K → ∃ Γ', K Γ') : ∀ d Γ K, gT gs d Γ K → ∃ Γ', K Γ' := fun d Γ K q => by
  cases d with
  | tuple ds => exact h _ _ _ q
  | _ => exact q.elim
end
/-- target = e, a tuple unpacked -/
def wUnp (a : WE) (g : WG) : WS := fun D Γ => a Γ fun r => match dat r with
  | some d => itm 0 r ∧ g d Γ D.nx
  | none => False
/-- a, b = e1, e2 -/
def wPar (L i L' j : Nat) (a : WE) (b : WE) : WS := fun D Γ => a Γ fun r1 => b Γ fun r2 => match dat r1, dat r2 with
  | some d1, some d2 => i < Γ.length ∧ j < Γ.length ∧ itm L r1 ∧ itm L' r2 ∧ D.nx ((Γ.set i (.own L d1)).set j (.own L' d2))
  | _, _ => False
section
variable {X : Cx} {C : Cv} {tg e a b : Expr} {es : List Expr} {g : WG} {we wa wb : WE} {pos : Pos} {i j L L' : Nat} {x y : Str}
/-- a result's data, frozen in the slots' region -/
theorem Res.frozen {M : Md} {Γ : List Sl} {σ : L2.St} {Fs : Fp} {n : Nat} {H H' : Hp} {r : Sl} {d : D} {F : List Addr} {v : V} (er : ER M C Fs Γ σ H) (hl : Γ.length ≤ n) (hn : Fs n = []) (res : Res M C Fs n H H' r F v) (e : dat r = some d) (z : itm 0 r) : Rp M (Zf C Fs) H' d v := by
  have er1 := res.er er hl hn
  obtain ⟨G, _, _, eG, h⟩ := res.sl.itm er1.fp e z
  subst eG
  refine Rp.wide (fun p hp _ => ?_) d v h
  rcases hp with hp | ⟨hp, _⟩
  · refine Zf.sub (fun p h => ?_) p hp
    obtain ⟨j, hj⟩ := h
    by_cases e : j = n
    · subst e; rw [hn] at hj; simp at hj
    · exact ⟨j, by rw [updF_ne e]; exact hj⟩
  · obtain ⟨c1, c2, c3⟩ := er1.fp.fr n p hp
    refine ⟨fun h => ?_, c2, .inr c1⟩
    obtain ⟨j, hj⟩ := h
    rw [updF_same] at hp
    exact (er.fp.fr j p hj).2.2 (res.fr p hp).1
theorem vs_unp {ws : List Nat} (h : VP X C e we) (hg : VPG X C tg ws g) (hs : swapsWithSole [tg] e pos.line X.env = pure false := by rfl) (hw : swappedStores [tg] e X.env = pure none := by rfl)
    (h1 : (assignEach [tg] X.env).map (·.2) = [assign tg X.env] := by rfl) : VPS X C (.Assign [tg] e pos) (wUnp we g) := ⟨fun Γ D q Fs σ H er => by
  obtain ⟨n, hl, hn⟩ := er.fp.free Γ.length
  refine PS.wk (ps_asg pe_wk pg_wk hs hw h1) ((h.run Γ _ q Fs σ H n er hl hn).mono fun v H1 ⟨r, F, q, res⟩ => ?_)
  split at q
  · rename_i d e
    have fr := res.frozen er hl hn e q.1
    exact (hg.run d Γ _ q.2 Fs σ H1 v (er.step res.same) fr).mono fun σ2 H2 ⟨eH, Fs2, Γ2, k, er2, sub⟩ => by
      subst eH
      exact ⟨Fs2, Γ2, k, er2, (Fz.step res.same).trans (Fz.sub sub.sub)⟩
  · exact q.elim⟩
theorem vs_par (L i L' j : Nat) {px py pt : Pos} {kt k2 : Nat} {pt2 : Pos} (hc : X.calm = true) (hN : X.N.Nodup) (hi : X.N[i]? = some x) (hj : X.N[j]? = some y) (hij : i ≠ j)
    (hx : X.env.scope.names.lookup x = some .local) (hy : X.env.scope.names.lookup y = some .local) (ha : VP X C a wa) (hb : VP X C b wb)
    (hw : swappedStores [.Tuple [.Name x px, .Name y py] kt pt] (.Tuple [a, b] k2 pt2) X.env = pure (some [x, y]))
    (hs : swapsWithSole [.Tuple [.Name x px, .Name y py] kt pt] (.Tuple [a, b] k2 pt2) pos.line X.env = pure false := by rfl)
    (h1 : starEach [a, b] X.env = (false, eval a X.env) :: starEach [b] X.env := by rfl) (h2 : starEach [b] X.env = (false, eval b X.env) :: starEach [] X.env := by rfl) :
    VPS X C (.Assign [.Tuple [.Name x px, .Name y py] kt pt] (.Tuple [a, b] k2 pt2) pos) (wPar L i L' j wa wb) := ⟨fun Γ D q Fs σ H er => by
  refine PS.wk (ps_par hc hN hi hj hij hx hy (pa_cons pe_wk (pa_cons pe_wk pa_nil h2) h1) hw hs) ((ve2 ha hb q er).mono fun u H1 q => q.mono fun w H2 ⟨r1, r2, ns, Fs', q, t⟩ => ?_)
  have e0 : ∃ n m, ns = [n, m] ∧ SlR (md X) C Fs' H2 n r1 u ∧ SlR (md X) C Fs' H2 m r2 w := by
    cases t.at_ with
    | cons s1 q' => cases q' with
      | cons s2 q' => cases q'; exact ⟨_, _, rfl, s1, s2⟩
  obtain ⟨n, m, en, s1, s2⟩ := e0
  subst en
  split at q
  · rename_i d1 d2 e1 e2
    obtain ⟨q1, q2, q3, q4, q5⟩ := q
    have hnm : n ≠ m := by have := t.nd; simp at this; exact this
    have b1 := (t.big n (by simp)).1
    have b2 := (t.big m (by simp)).1
    obtain ⟨Fs1, er1, sub1, out1⟩ := t.er.store q1 b1 s1 e1 q3
    have s2' : SlR (md X) C Fs1 H2 m r2 w := by
      have eF : Fs1 m = Fs' m := out1 m (by omega) (Ne.symm hnm)
      cases r2 with
      | gone => trivial
      | own k d =>
        show Ow _ _ _ k d w (Fs1 m)
        rw [eF]
        exact Ow.wide (fun p hp _ => Zf.sub sub1 p hp) s2
      | bor d => exact ⟨eF.trans s2.1, s2.2⟩
      | now d => exact ⟨eF.trans s2.1, s2.2⟩
      | hnd => exact ⟨eF.trans s2.1, s2.2⟩
    obtain ⟨Fs2, er2, sub2, _⟩ := er1.store (by rw [List.length_set]; exact q2) (by rw [List.length_set]; exact b2) s2' e2 q4
    refine ⟨u, w, rfl, Fs2, _, q5, er2, fun p hp hh => ?_, t.same.kp.mono fun p hp => hp.2.1⟩
    refine ⟨fun h => ?_, hp.2⟩
    obtain ⟨l, hl⟩ := sub1 p (sub2 p h)
    by_cases hm : l ∈ [n, m]
    · exact hh (t.new l hm p hl)
    · rw [t.out l hm] at hl; exact hp.1 ⟨l, hl⟩
  · exact q.elim⟩
end

/-! ### what is walked -/
structure GoodIt (M : Md) (C : Cv) (J : It) (ds : List D) (Fs : Fp) (H : Hp) : Prop where
  go : ∀ i Fs' H', Fz C Fs H Fs' H' → FpR C Fs' H' → i < ds.length → J.go i H'
  yld : ∀ i Fs' H' x H'', Fz C Fs H Fs' H' → FpR C Fs' H' → i < ds.length → J.yld i H' x H'' → SameX C.hd H' H'' ∧ ∃ d, ds[i]? = some d ∧ Rp M (Zf C Fs') H'' d x
  stop : ∀ i Fs' H', Fz C Fs H Fs' H' → FpR C Fs' H' → ds.length ≤ i → J.stop i H'
abbrev WI := List Sl → (List D → Prop) → Prop
structure VPI (X : Cx) (C : Cv) (tg iter : Expr) (w : WI) : Prop where
  run : ∀ Γ K, w Γ K → ∀ (Fs : Fp) (σ : L2.St) (H : Hp), ER (md X) C Fs Γ σ H → ∀ (pins : List (Addr × Obj)) (s : Shared), Inv X pins σ H s →
    wpAny (model X.prog X.w) X.A (eval iter X.env) (fun v s1 => wpAny (model X.prog X.w) X.A (pyIter v) (PIE X pins σ tg fun J H1 => SameX C.hd H H1 ∧ ∃ ds, K ds ∧ GoodIt (md X) C J ds Fs H1) X.xe s1) X.xe s
def wkI (X : Cx) (tg iter : Expr) : TI := fun σ H R => ∀ (pins : List (Addr × Obj)) (s : Shared), Inv X pins σ H s → wpAny (model X.prog X.w) X.A (eval iter X.env) (fun v s1 => wpAny (model X.prog X.w) X.A (pyIter v) (PIE X pins σ tg R) X.xe s1) X.xe s
theorem pi_wk {X : Cx} {tg iter : Expr} : PI X tg iter (wkI X tg iter) := ⟨fun pins s _ _ _ I h => h pins s I⟩
/-- the items of a sequence that may be walked -/
def seqD (r : Sl) (K : List D → Prop) : Prop := match r with
  | .own _ (.list ds) => K ds
  | .own _ (.tuple ds) => K ds
  | .bor (.list ds) => immA ds = true ∧ K ds
  | .bor (.tuple ds) => immA ds = true ∧ K ds
  | .now (.tuple ds) => immA ds = true ∧ K ds
  | .own _ (.str x) => K (x.cps.toList.map fun c => .str ⟨#[c]⟩)
  | .bor (.str x) => K (x.cps.toList.map fun c => .str ⟨#[c]⟩)
  | .now (.str x) => K (x.cps.toList.map fun c => .str ⟨#[c]⟩)
  | _ => False
def iSeq (a : WE) : WI := fun Γ K => a Γ fun r => seqD r K
section
variable {X : Cx} {C : Cv} {tg e iter : Expr} {we : WE} {pins : List (Addr × Obj)} {σ : L2.St} {H : Hp} {s : Shared} {R : It → Hp → Prop} {M : Md} {Fs : Fp} {ds : List D} {vs : List V} {a : Addr}
theorem iter_list {xs : List V} (I : Inv X pins σ H s) (hq : SqL X.K H a xs) (q : R (Itl X.K a) H) : wpAny (model X.prog X.w) X.A (pyIter (.ref a)) (PIE X pins σ tg R) X.xe s := by
  obtain ⟨its, rv, p, hz⟩ := I.list hq
  refine wpAny_pyIter_list p.isList ?_
  refine ⟨s.heap.objs.size, [s.heap.objs.size], _, _, H, rfl, I.kept (t' := s.toks) fun b o e => Heap.get?_push_of_some _ e, turn_list a _, ⟨_, Heap.get?_push_size _ rfl, rfl, rfl⟩, fun b hb => ?_, q⟩
  have e : b = s.heap.objs.size := by simpa using hb
  subst e
  exact I.fpOk (Nat.le_refl _) (I.hok.fresh (Nat.le_refl _))
theorem iter_tup {xs : List V} (I : Inv X pins σ H s) (hq : SqT X.K H a xs) (q : R (Itt X.K a) H) : wpAny (model X.prog X.w) X.A (pyIter (.ref a)) (PIE X pins σ tg R) X.xe s := by
  obtain ⟨its, rv, p, hz⟩ := I.tuple hq
  refine wpAny_pyIter_tuple (show s.heap.IsTuple a its.toArray from p) ?_
  refine ⟨s.heap.objs.size, [s.heap.objs.size], _, _, H, rfl, I.kept (t' := s.toks) fun b o e => Heap.get?_push_of_some _ e, turn_tuple a _, ⟨_, Heap.get?_push_size _ rfl, rfl, rfl⟩, fun b hb => ?_, q⟩
  have e : b = s.heap.objs.size := by simpa using hb
  subst e
  exact I.fpOk (Nat.le_refl _) (I.hok.fresh (Nat.le_refl _))
/-- a frozen list -/
theorem good_list {K : PySem.W.Frag} (eK : M.K = K) (z : ZL M (Zf C Fs) a vs) (hq : SqL K H a vs) (r : RpA M (Zf C Fs) H ds vs) : GoodIt M C (Itl K a) ds Fs H := by
  subst eK
  have at_ : ∀ {Fs' H'}, Fz C Fs H Fs' H' → SqL M.K H' a vs := fun f => z.keep f.kp hq
  have hl := RpA.length r
  have fn : ∀ {H' : Hp} {xs ys : List V}, True := fun {_ _ _} => trivial
  refine ⟨fun i Fs' H' f _ hi => ⟨vs, vs[i]'(by omega), at_ f, List.getElem?_eq_getElem (by omega)⟩, fun i Fs' H' x H'' f _ hi ⟨eH, y⟩ => ?_, fun i Fs' H' f _ hi => ⟨vs, at_ f, by omega⟩⟩
  subst eH
  obtain ⟨d, hd, q⟩ := (f.rpA r).at (y vs (at_ f))
  exact ⟨.refl _ _, d, hd, q⟩
theorem good_tup {K : PySem.W.Frag} (hq : SqT K H a vs) (r : RpA M (Zf C Fs) H ds vs) : GoodIt M C (Itt K a) ds Fs H := by
  have at_ : ∀ {Fs' H'}, Fz C Fs H Fs' H' → SqT K H' a vs := fun f => f.kp.sqT hq
  have hl := RpA.length r
  refine ⟨fun i Fs' H' f _ hi => ⟨vs, vs[i]'(by omega), at_ f, List.getElem?_eq_getElem (by omega)⟩, fun i Fs' H' x H'' f _ hi ⟨eH, y⟩ => ?_, fun i Fs' H' f _ hi => ⟨vs, at_ f, by omega⟩⟩
  subst eH
  obtain ⟨d, hd, q⟩ := (f.rpA r).at (y vs (at_ f))
  exact ⟨.refl _ _, d, hd, q⟩
/-- an argument's list -/
theorem good_listB {K : PySem.W.Frag} (eK : M.K = K) (f0 : FpR C Fs H) (z : ZL M (Zo C) a vs) (hq : SqL K H a vs) (im : immA ds = true) (r : RpA M (Zo C) H ds vs) : GoodIt M C (Itl K a) ds Fs H := by
  subst eK
  have at_ : ∀ {Fs' H'}, FpR C Fs' H' → SqL M.K H' a vs := fun {Fs' H'} f => by
    rcases sqL_split hq with hq | hq
    · rcases z with ⟨z1, z2⟩ | z
      · cases e : C.H0 a with
        | none => exact absurd e z2
        | some o =>
          have h1 := f0.same.kp.z a o z1 e
          have h2 := f.same.kp.z a o z1 e
          refine .inl ?_
          rcases hq with hq | ⟨ob, hq⟩
          · rw [hq] at h1; cases h1; exact .inl h2
          · rw [hq] at h1; cases h1; exact .inr ⟨ob, h2⟩
      · exact z H'
    · exact hq H'
  have hl := RpA.length r
  refine ⟨fun i Fs' H' _ f hi => ⟨vs, vs[i]'(by omega), at_ f, List.getElem?_eq_getElem (by omega)⟩, fun i Fs' H' x H'' fz f hi ⟨eH, y⟩ => ?_, fun i Fs' H' _ f hi => ⟨vs, at_ f, by omega⟩⟩
  subst eH
  obtain ⟨d, hd, q⟩ := (fz.rpA (immA_rp im r)).at (y vs (at_ f))
  exact ⟨.refl _ _, d, hd, q⟩
theorem good_str {x : Str} : GoodIt M C (Its x) (x.cps.toList.map fun c => .str ⟨#[c]⟩) Fs H := by
  refine ⟨fun i Fs' H' f _ hi => ?_, fun i Fs' H' v H'' f _ hi ⟨eH, c, hc, ev⟩ => ?_, fun i Fs' H' f _ hi => ?_⟩
  · show i < x.cps.size
    simpa using hi
  · subst eH ev
    refine ⟨.refl _ _, .str ⟨#[c]⟩, ?_, rfl⟩
    rw [List.getElem?_map, Array.getElem?_toList, hc]; rfl
  · show x.cps.size ≤ i
    simpa using hi
theorem vi_seq (h : VP X C e we) : VPI X C tg e (iSeq we) := ⟨fun Γ K q Fs σ H er pins s I => by
  obtain ⟨n, hl, hn⟩ := er.fp.free Γ.length
  have w := h.run Γ _ q Fs σ H n er hl hn
  -- what kind of thing it is is not known ahead of its evaluation: a text is walked by its own rule
  refine thn (w pins s I) fun v s1 ⟨x, H1, I1, rx, r, F, q, res⟩ => ?_
  have er1 := res.er er hl hn
  have fz : ∀ {d}, dat r = some d → itm 0 r → Rp (md X) (Zf C Fs) H1 d x := fun e z => res.frozen er hl hn e z
  have lst : ∀ {ds}, Rp (md X) (Zf C Fs) H1 (.list ds) x → K ds → wpAny (model X.prog X.w) X.A (pyIter v) (PIE X pins σ tg fun J H1 => SameX C.hd H H1 ∧ ∃ ds, K ds ∧ GoodIt (md X) C J ds Fs H1) X.xe s1 := fun {ds} hr k => by
    obtain ⟨a, vs, e, z, sq, rs⟩ := hr
    subst e
    cases rx
    exact iter_list I1 sq ⟨res.same, ds, k, good_list rfl z sq rs⟩
  have tup : ∀ {ds}, Rp (md X) (Zf C Fs) H1 (.tuple ds) x → K ds → wpAny (model X.prog X.w) X.A (pyIter v) (PIE X pins σ tg fun J H1 => SameX C.hd H H1 ∧ ∃ ds, K ds ∧ GoodIt (md X) C J ds Fs H1) X.xe s1 := fun {ds} hr k => by
    obtain ⟨a, vs, e, sq, rs⟩ := hr
    subst e
    cases rx
    exact iter_tup I1 sq ⟨res.same, ds, k, good_tup sq rs⟩
  have st : ∀ {y : Str}, x = .str y → K (y.cps.toList.map fun c => .str ⟨#[c]⟩) → wpAny (model X.prog X.w) X.A (pyIter v) (PIE X pins σ tg fun J H1 => SameX C.hd H H1 ∧ ∃ ds, K ds ∧ GoodIt (md X) C J ds Fs H1) X.xe s1 := fun {y} e k => by
    subst e
    obtain ⟨t, rfl⟩ := rx
    cases ha : y.cps.all (· < 128)
    · exact wpAny_pyIter_wide ha (pi_one (tk := s1.toks) I1 _ (turn_str _ y t "str_iterator" (.inr rfl)) ⟨_, Heap.get?_push_size _ rfl, rfl, rfl⟩ ⟨res.same, _, k, good_str⟩)
    · exact wpAny_pyIter_ascii ha (pi_one (tk := s1.toks) I1 _ (turn_str _ y t "str_ascii_iterator" (.inl rfl)) ⟨_, Heap.get?_push_size _ rfl, rfl, rfl⟩ ⟨res.same, _, k, good_str⟩)
  unfold seqD at q
  split at q
  · exact lst (fz rfl trivial) q
  · exact tup (fz rfl trivial) q
  · obtain ⟨a, vs, e, z, sq, rs⟩ := res.sl.2
    subst e
    cases rx
    exact iter_list I1 sq ⟨res.same, _, q.2, good_listB rfl (er.step res.same).fp z sq q.1 rs⟩
  · exact tup (Rp.imm_any (by simpa [imm] using q.1) res.sl.2) q.2
  · exact tup (Rp.imm_any (by simpa [imm] using q.1) res.sl.2) q.2
  · exact st (res.sl.rp er1.fp rfl) q
  · exact st (res.sl.rp er1.fp rfl) q
  · exact st (res.sl.rp er1.fp rfl) q
  · exact q.elim⟩

/-! ### ranges -/
def rngD (lo c : Int) (n : Nat) : List D := (List.range n).map fun i => .int (lo + (i : Nat) * c)
theorem rngD_get {lo c : Int} {n i : Nat} (h : i < n) : (rngD lo c n)[i]? = some (.int (lo + (i : Nat) * c)) := by
  unfold rngD
  rw [List.getElem?_map, List.getElem?_range h]; rfl
theorem rngD_len {lo c : Int} {n : Nat} : (rngD lo c n).length = n := by simp [rngD]
theorem good_rng {lo : Int} {n : Nat} : GoodIt M C (Itr lo n) (rngD lo 1 n) Fs H := by
  refine ⟨fun i Fs' H' f _ hi => by rw [rngD_len] at hi; exact hi, fun i Fs' H' v H'' f _ hi ⟨eH, ev⟩ => ?_, fun i Fs' H' f _ hi => by rw [rngD_len] at hi; exact hi⟩
  rw [rngD_len] at hi
  subst eH ev
  exact ⟨.refl _ _, _, rngD_get hi, show _ = _ by rw [Int.mul_one]⟩
theorem good_rngC {lo c : Int} {n : Nat} : GoodIt M C (Itc lo c n) (rngD lo c n) Fs H := by
  refine ⟨fun i Fs' H' f _ hi => by rw [rngD_len] at hi; exact hi, fun i Fs' H' v H'' f _ hi ⟨eH, ev⟩ => ?_, fun i Fs' H' f _ hi => by rw [rngD_len] at hi; exact hi⟩
  rw [rngD_len] at hi
  subst eH ev
  exact ⟨.refl _ _, _, rngD_get hi, rfl⟩
def B62 (i : Int) : Prop := -(2 ^ 62) ≤ i ∧ i < 2 ^ 62
def iR1 (a : WE) : WI := fun Γ K => a Γ fun r => match dat r with
  | some (.int j) => B62 j ∧ K (rngD 0 1 j.toNat)
  | _ => False
def iR2 (a b : WE) : WI := fun Γ K => a Γ fun r1 => b Γ fun r2 => match dat r1, dat r2 with
  | some (.int i), some (.int j) => B62 i ∧ B62 j ∧ K (rngD i 1 (j - i).toNat)
  | _, _ => False
/-- range(i, j, -1) -/
def iR3 (a b : WE) : WI := fun Γ K => a Γ fun r1 => b Γ fun r2 => match dat r1, dat r2 with
  | some (.int i), some (.int j) => B62 i ∧ B62 j ∧ K (rngD i (-1) (i - j).toNat)
  | _, _ => False
variable {b c : Expr} {wa wb : WE} {p pos : Pos} {Γ : List Sl}
theorem ve1 (ha : VP X C e we) {J : Sl → Prop} (h : we Γ J) (er : ER (md X) C Fs Γ σ H) : wkE X e σ H fun x H1 => ∃ r ns Fs', J r ∧ Tm (md X) C Γ σ Fs Fs' H H1 ns [r] [x] := by
  obtain ⟨n, hl1, hn⟩ := er.fp.free Γ.length
  exact (ha.run Γ _ h Fs σ H n er hl1 hn).mono fun v H1 ⟨r, F, q, res⟩ => ⟨r, [n], _, q, Tm.one er hl1 hn res⟩
theorem tms1 {ns : List Nat} {r : Sl} {x : V} (t : Tms M C Fs H ns [r] [x]) : ∃ n, ns = [n] ∧ SlR M C Fs H n r x := by
  cases t with
  | cons s q => cases q; exact ⟨_, rfl, s⟩
theorem tms2 {ns : List Nat} {r1 r2 : Sl} {x y : V} (t : Tms M C Fs H ns [r1, r2] [x, y]) : ∃ n m, ns = [n, m] ∧ SlR M C Fs H n r1 x ∧ SlR M C Fs H m r2 y := by
  cases t with
  | cons s q => cases q with
    | cons s' q => cases q; exact ⟨_, _, rfl, s, s'⟩
theorem vi_range1 {a : Expr} (hg : Gl X "range") (hm : X.mg "range" = none) (ha : VP X C a wa) (hs : starEach [a] X.env = [(false, eval a X.env)] := by rfl) (h1 : starEach [a] X.env = (false, eval a X.env) :: starEach [] X.env := by rfl) :
    VPI X C tg (.Call (.Name "range" p) [a] [] pos) (iR1 wa) := ⟨fun Γ K q Fs σ H er pins s I => by
  refine (pi_range1 hg hm (pa_cons pe_wk pa_nil h1) hs).run pins s σ H _ I ((ve1 ha q er).mono fun x H1 ⟨r, ns, Fs', q, t⟩ => ?_)
  obtain ⟨n, en, s1⟩ := tms1 t.at_
  split at q
  · rename_i j e
    have h1 : x = .int j := s1.rp t.er.fp e
    subst h1
    exact ⟨j, rfl, q.1.1, q.1.2, t.same, _, q.2, good_rng⟩
  · exact q.elim⟩
theorem vi_range2 {a : Expr} (hg : Gl X "range") (hm : X.mg "range" = none) (ha : VP X C a wa) (hb : VP X C b wb) (hs : starEach [a, b] X.env = [(false, eval a X.env), (false, eval b X.env)] := by rfl) (hs2 : starEach [b] X.env = [(false, eval b X.env)] := by rfl)
    (h1 : starEach [a, b] X.env = (false, eval a X.env) :: starEach [b] X.env := by rfl) (h2 : starEach [b] X.env = (false, eval b X.env) :: starEach [] X.env := by rfl) :
    VPI X C tg (.Call (.Name "range" p) [a, b] [] pos) (iR2 wa wb) := ⟨fun Γ K q Fs σ H er pins s I => by
  refine (pi_range2 hg hm (pa_cons pe_wk (pa_cons pe_wk pa_nil h2) h1) hs hs2).run pins s σ H _ I ((ve2 ha hb q er).mono fun x H1 q0 => q0.mono fun y H2 ⟨r1, r2, ns, Fs', q, t⟩ => ?_)
  obtain ⟨n, m, en, s1, s2⟩ := tms2 t.at_
  split at q
  · rename_i i j e1 e2
    have h1 : x = .int i := s1.rp t.er.fp e1
    have h2 : y = .int j := s2.rp t.er.fp e2
    subst h1 h2
    obtain ⟨b1, b2, k⟩ := q
    exact ⟨i, j, rfl, ⟨b1.1, b1.2, b2.1, b2.2⟩, t.same, _, k, good_rng⟩
  · exact q.elim⟩
theorem vi_range3 {a : Expr} {k1 : Nat} {p1 p2 : Pos} (hg : Gl X "range") (hm : X.mg "range" = none) (ha : VP X C a wa) (hb : VP X C b wb)
    (hs : starEach [a, b, .UnaryOp .USub (.Constant (.int 1) k1 p1) p2] X.env = (false, eval a X.env) :: starEach [b, .UnaryOp .USub (.Constant (.int 1) k1 p1) p2] X.env := by rfl)
    (hpl : (backTo pos (starEach [b, .UnaryOp .USub (.Constant (.int 1) k1 p1) p2] X.env)).any (·.1) = false := by rfl)
    (h2 : starEach [b, .UnaryOp .USub (.Constant (.int 1) k1 p1) p2] X.env = (false, eval b X.env) :: starEach [.UnaryOp .USub (.Constant (.int 1) k1 p1) p2] X.env := by rfl)
    (h3 : starEach [.UnaryOp .USub (.Constant (.int 1) k1 p1) p2] X.env = (false, eval (.UnaryOp .USub (.Constant (.int 1) k1 p1) p2) X.env) :: starEach [] X.env := by rfl) :
    VPI X C tg (.Call (.Name "range" p) [a, b, .UnaryOp .USub (.Constant (.int 1) k1 p1) p2] [] pos) (iR3 wa wb) := ⟨fun Γ K q Fs σ H er pins s I => by
  refine (pi_range3 hg hm (pa_cons pe_wk (pa_cons pe_wk (pa_cons (pe_un un_neg pe_int) pa_nil h3) h2) hs) hs hpl).run pins s σ H _ I ((ve2 ha hb q er).mono fun x H1 q0 => q0.mono fun y H2 ⟨r1, r2, ns, Fs', q, t⟩ => ?_)
  obtain ⟨n, m, en, s1, s2⟩ := tms2 t.at_
  split at q
  · rename_i i j e1 e2
    have h1 : x = .int i := s1.rp t.er.fp e1
    have h2 : y = .int j := s2.rp t.er.fp e2
    subst h1 h2
    obtain ⟨b1, b2, k⟩ := q
    exact ⟨1, rfl, i, j, -1, _, rfl, RgC.neg b1.1 b1.2 b2.1 b2.2, t.same, _, k, good_rngC⟩
  · exact q.elim⟩
end

/-! ### for, while -/
/-- I by the turn: what holds of the slots -/
def wFor (it : WI) (g : WG) (body : WS) : WS := fun D Γ => it Γ fun ds => ∃ I : Nat → List Sl → Prop, I 0 Γ ∧
  (∀ i d Γ', ds[i]? = some d → I i Γ' → g d Γ' fun Γ2 => body { D with nx := I (i + 1), ct := I (i + 1), bk := D.nx } Γ2) ∧ ∀ Γ', I ds.length Γ' → D.nx Γ'
def wWhile (c : WT) (body : WS) : WS := fun D Γ => ∃ I : Nat → List Sl → Prop, (∃ m, I m Γ) ∧
  ∀ m Γ', I m Γ' → c Γ' fun b => cnd b (body { D with nx := fun Γ2 => ∃ m', m' < m ∧ I m' Γ2, ct := fun Γ2 => ∃ m', m' < m ∧ I m' Γ2, bk := D.nx } Γ') (D.nx Γ')
section
variable {X : Cx} {C : Cv} {tg iter c : Expr} {body : List Stmt} {it : WI} {g : WG} {wb : WS} {wc : WT} {pos : Pos}
theorem vs_for (hp : PassesOwn (model X.prog X.w) X.A X.env X.xe) (hc : X.calm = true) (hi : VPI X C tg iter it) {ws : List Nat} (hg : VPG X C tg ws g) (hb : VPSs X C body wb)
    (hs : ∀ x, foldedSetIterable iter X.env x = pure x := by intro _; rfl) : VPS X C (.For tg iter body [] pos) (wFor it g wb) := ⟨fun Γ D q Fs σ H er => by
  refine PS.wk (ps_for hp hc pi_wk pg_wk pss_wk hs) ?_
  show wkI X tg iter σ H _
  intro pins s I0
  refine thn (hi.run Γ _ q Fs σ H er pins s I0) fun v s1 h1 => thn h1 fun itv s2 ⟨it', fp, tn, J, H1, e, I2, T, st, hf, sm, ds, ⟨Iv, i0, turn, fin⟩, gd⟩ => ⟨it', fp, tn, J, H1, e, I2, T, st, hf, ?_⟩
  refine ⟨fun i m σ' H' => m = ds.length - i ∧ i ≤ ds.length ∧ LN (md X) C Fs H1 (Iv i) σ' H', ⟨_, rfl, Nat.zero_le _, Fs, Γ, i0, er.step sm, .refl⟩, ?_⟩
  rintro i m σ' H' ⟨rfl, hi', Fs', Γ', iv, er', fz⟩
  by_cases hlt : i < ds.length
  · refine .inr ⟨gd.go i Fs' H' fz er'.fp hlt, LN (md X) C Fs H1 (Iv (i + 1)), fun σ2 H2 h2 => ⟨_, ?_, rfl, hlt, h2⟩, fun x H'' y => ?_⟩
    · omega
    · obtain ⟨sx, d, hd, hr⟩ := gd.yld i Fs' H' x H'' fz er'.fp hlt y
      refine (hg.run d Γ' _ (turn i d Γ' hd iv) Fs' σ' H'' x (er'.step sx) hr).mono fun σ2 H2 ⟨eH, Fs2, Γ2, k, er2, sub⟩ => ?_
      subst eH
      have f2 : Fz C Fs H1 Fs2 H2 := (fz.trans (Fz.step sx)).trans (Fz.sub sub.sub)
      have f3 : Fz C Fs H Fs H1 := .step sm
      refine (hb.run Γ2 _ k Fs2 σ2 H2 er2).mono ⟨fun σ3 H3 ⟨F3, Γ3, a, b, c⟩ => ⟨F3, Γ3, a, b, f2.trans c⟩, fun _ _ h => h, fun σ3 H3 ⟨F3, Γ3, a, b, c⟩ => ⟨F3, Γ3, a, b, (f3.trans f2).trans c⟩, fun σ3 H3 ⟨F3, Γ3, a, b, c⟩ => ⟨F3, Γ3, a, b, f2.trans c⟩⟩
  · have e : i = ds.length := by omega
    subst e
    exact .inl ⟨gd.stop _ Fs' H' fz er'.fp (Nat.le_refl _), Fs', Γ', fin Γ' iv, er', (Fz.step sm).trans fz⟩⟩
theorem vs_while (hp : PassesOwn (model X.prog X.w) X.A X.env X.xe) (hc : VPT X C c wc) (hb : VPSs X C body wb) : VPS X C (.While c body [] pos) (wWhile wc wb) := ⟨fun Γ D ⟨Iv, ⟨m0, i0⟩, turn⟩ Fs σ H er => by
  refine PS.wk (ps_while hp pt_wk pss_wk) ⟨fun m σ' H' => LN (md X) C Fs H (Iv m) σ' H', ⟨m0, Fs, Γ, i0, er, .refl⟩, ?_⟩
  rintro m σ' H' ⟨Fs', Γ', iv, er', fz⟩
  refine (hc.run Γ' _ (turn m Γ' iv) Fs' σ' H' er').mono fun b H1 ⟨q, x⟩ => ?_
  have f1 : Fz C Fs H Fs' H1 := fz.trans (.step x)
  cases b with
  | true =>
    refine ⟨fun σ2 H2 => ∃ m', m' < m ∧ LN (md X) C Fs H (Iv m') σ2 H2, fun σ2 H2 h => h, ?_⟩
    refine (hb.run Γ' _ (q.1 rfl) Fs' σ' H1 (er'.step x)).mono ⟨fun σ3 H3 ⟨F3, Γ3, ⟨m', hm, a⟩, b, c⟩ => ⟨m', hm, F3, Γ3, a, b, f1.trans c⟩, fun _ _ h => h, fun σ3 H3 ⟨F3, Γ3, a, b, c⟩ => ⟨F3, Γ3, a, b, f1.trans c⟩, fun σ3 H3 ⟨F3, Γ3, ⟨m', hm, a⟩, b, c⟩ => ⟨m', hm, F3, Γ3, a, b, f1.trans c⟩⟩
  | false => exact ⟨Fs', Γ', q.2 rfl, er'.step x, f1⟩⟩
end
end VL
namespace VL
open PySem PySem.Spec PyProof.Rows L2

/-! ### a def by its body -/
section
variable {P : Program} {w : World} {K : PySem.W.Frag} {mg : Str → Option Value} {base : Heap}
theorem args_er {M : Md} {C : Cv} {m : Nat} (hok : ∀ p, C.hd p → HandOk C.hd C.H0 p) {ss : List Sl} {vs : List V} (a : ArgsOk M C ss vs) :
    ER M C noF (ss ++ List.replicate m .gone) (vs.map some ++ List.replicate m none) C.H0 := by
  refine ⟨⟨fun i => List.nodup_nil, fun i j p h => absurd h (by simp [noF]), fun i p h => absurd h (by simp [noF]), ⟨0, fun _ _ => rfl⟩, .refl _ _, hok⟩, ?_, ?_, fun _ _ => rfl⟩
  · have : vs.length = ss.length := by
      clear hok
      induction a with
      | nil => rfl
      | fz _ _ ih => simp [ih]
      | br _ _ ih => simp [ih]
      | hn _ _ _ ih => simp [ih]
    simp [this]
  · intro i s hs hl
    have go : ∀ {ss vs}, ArgsOk M C ss vs → ∀ i s, (ss ++ List.replicate m Sl.gone)[i]? = some s → live s = true → ∃ v, (vs.map some ++ List.replicate m none)[i]? = some (some v) ∧ SlR M C noF C.H0 i s v := fun {ss vs} a => by
      induction a with
      | nil =>
        intro i s hs hl
        rw [List.nil_append, List.getElem?_replicate] at hs
        split at hs
        · cases hs; cases hl
        · cases hs
      | @fz d v ss vs h _ ih =>
        intro i s hs hl
        cases i with
        | zero =>
          cases hs
          refine ⟨v, rfl, rfl, Rp.wide (fun p hp _ => ⟨fun ⟨j, hj⟩ => absurd hj (by simp [noF]), hp.2, .inl hp.1⟩) d v h⟩
        | succ i =>
          obtain ⟨u, a, b⟩ := ih i s (by simpa using hs) hl
          refine ⟨u, by simpa using a, ?_⟩
          cases s with
          | gone => trivial
          | own k d => exact b
          | bor d => exact b
          | now d => exact b
          | hnd => exact b
      | @br d v ss vs h _ ih =>
        intro i s hs hl
        cases i with
        | zero => cases hs; exact ⟨v, rfl, rfl, h⟩
        | succ i =>
          obtain ⟨u, a, b⟩ := ih i s (by simpa using hs) hl
          refine ⟨u, by simpa using a, ?_⟩
          cases s with
          | gone => trivial
          | own k d => exact b
          | bor d => exact b
          | now d => exact b
          | hnd => exact b
      | @hn p ss vs h hat _ ih =>
        intro i s hs hl
        cases i with
        | zero => cases hs; exact ⟨.ref p, rfl, rfl, p, rfl, h, hat⟩
        | succ i =>
          obtain ⟨u, a, b⟩ := ih i s (by simpa using hs) hl
          refine ⟨u, by simpa using a, ?_⟩
          cases s with
          | gone => trivial
          | own k d => exact b
          | bor d => exact b
          | now d => exact b
          | hnd => exact b
    exact go a i s hs hl
theorem ArgsOk.len {M : Md} {C : Cv} {ss : List Sl} {vs : List V} (a : ArgsOk M C ss vs) : vs.length = ss.length := by
  induction a with
  | nil => rfl
  | fz _ _ ih => simp [ih]
  | br _ _ ih => simp [ih]
  | hn _ _ _ ih => simp [ih]
/-- a def keeps its spec, by its body -/
theorem okV {x qual : Str} {st : Stmt} {f : Addr} {fd : FuncData} {N ps : List Str} {k : Nat} {s : VSpec} (F : Fun K x qual st f fd) (S : FnScope N ps (defScope st))
    (hbody : ∀ (cdv : Value) (A : Around) (outer : List Env) (s₀ : Shared) (H : Hp) (E : XK) (C : Cv), Room k (A.deeper (envOfC qual (defScope st) s₀.heap.objs.size f cdv)) →
      ∃ wb, VPSs (cxOf CX0 P w K mg base N qual (defScope st) f cdv A outer s₀ H E).nox C (defBody st) wb ∧
        ∀ (ss : List Sl) (R : Sl → Prop), ss.length = ps.length → s ss R → wb { nx := fun _ => R (.own 0 .none), rt := R } (ss ++ List.replicate (N.length - ps.length) .gone)) :
    FnOk P w K mg base CX0 (k + 1) f fd ps (spV ⟨P, w, K⟩ ps.length s) := by
  refine F.ok S (fun vs H Q E ⟨C, ss, e0, hok, ha, hl, _⟩ => by rw [ha.len, hl]) (fun cdv A outer s₀ H vs Q E hr ⟨C, ss, e0, hok, ha, hl, hs⟩ => ?_)
  obtain ⟨wb, hw, q⟩ := hbody cdv A outer s₀ H E C hr
  refine ⟨wkSs _ _, pss_wk, ?_⟩
  have er := args_er (m := N.length - ps.length) (by rw [e0]; exact hok) ha
  rw [e0] at er
  have hst : L2.start N vs = vs.map some ++ List.replicate (N.length - ps.length) none := by
    unfold L2.start
    rw [ha.len, hl]
  rw [hst]
  refine (hw.run _ _ (q ss _ hl hs) noF _ H er).mono ⟨fun σ' H' ⟨Fs', Γ', h, er', _⟩ => ?_, fun v H' ⟨k, d, F, h, res⟩ => ?_, fun σ' H' ⟨_, _, h, _⟩ => h, fun σ' H' ⟨_, _, h, _⟩ => h⟩
  · refine h 0 .none .non H' [] rfl ?_
    have r0 := (Res.imm (n := 0) (Fs := Fs') (d := .none) (Z := fun _ => False) rfl rfl : Res ⟨P, w, K⟩ C Fs' 0 H' H' _ _ .non).back er'
    rw [e0] at r0
    exact r0
  · rw [e0] at res
    exact h k d v H' F rfl res
end

/-! ### subscripts, slices -/
/-- an item of x, where x is read as r -/
def itemR (r : Sl) (d : D) (R : Sl → Prop) : Prop := match r with
  | .own 0 _ => R (.own 0 d)
  | .bor _ => R (.bor d)
  | _ => R (.now d)
def wIx (a b : WE) : WE := fun Γ R => a Γ fun r1 => b Γ fun r2 => match dat r1, dat r2 with
  | some (.list ds), some (.int i) => ∃ d, atI ds i = some d ∧ itemR r1 d R
  | some (.tuple ds), some (.int i) => ∃ d, atI ds i = some d ∧ itemR r1 d R
  | some (.str z), some (.int i) => z.length ≤ sizeLine ∧ ∃ c, atI z.cps.toList i = some c ∧ R (.own 0 (.str ⟨#[c]⟩))
  | _, _ => False
/-- xs[lo:hi] -/
def cutD (xs : List D) (lo hi : Option Int) : List D := (xs.drop (HT.sIx xs.length 0 lo)).take (HT.sIx xs.length xs.length hi - HT.sIx xs.length 0 lo)
abbrev WO := List Sl → (Option Int → Prop) → Prop
def wNo : WO := fun _ R => R none
def wSo (a : WE) : WO := fun Γ R => a Γ fun r => match dat r with
  | some (.int i) => R (some i)
  | _ => False
def wSlc (a : WE) (lo hi : WO) : WE := fun Γ R => a Γ fun r => lo Γ fun l => hi Γ fun h => match dat r with
  | some (.str z) => z.length ≤ sizeLine ∧ R (.own 0 (.str (cutS z l h)))
  | some (.tuple ds) => frzd r ∧ R (.own 0 (.tuple (cutD ds l h)))
  | some (.list ds) => chf r ∧ R (.own 1 (.list (cutD ds l h)))
  | _ => False
section
variable {M : Md} {C : Cv} {Fs : Fp} {H : Hp} {ds : List D} {vs : List V} {Z : Addr → Prop}
theorem atI_rp (r : RpA M Z H ds vs) {i : Int} {d : D} (h : atI ds i = some d) : ∃ v, atI vs i = some v ∧ Rp M Z H d v := by
  unfold atI at h ⊢
  rw [RpA.length r]
  cases e : ixN ds.length i with
  | none => rw [e] at h; cases h
  | some j =>
    rw [e] at h
    obtain ⟨v, a, b⟩ := r.get h
    exact ⟨v, a, b⟩
theorem cut_rp (r : RpA M Z H ds vs) (lo hi : Option Int) : RpA M Z H (cutD ds lo hi) (cutV vs lo hi) := by
  unfold cutD cutV
  rw [RpA.length r]
  exact RpA.take _ (RpA.drop _ r)
theorem cutD_all {lo hi : Option Int} (h : HT.sIx vs.length 0 lo = 0 ∧ HT.sIx vs.length vs.length hi = vs.length) (r : RpA M Z H ds vs) : cutD ds lo hi = ds := by
  unfold cutD
  rw [RpA.length r] at h
  rw [h.1, h.2]
  simp
theorem immA_at {i : Int} {d : D} (im : immA ds = true) (h : atI ds i = some d) : imm d = true := by
  unfold atI at h
  cases e : ixN ds.length i with
  | none => rw [e] at h; cases h
  | some j =>
    rw [e] at h
    replace h : ds[j]? = some d := h
    clear e
    revert im
    induction ds generalizing j with
    | nil => simp at h
    | cons x xs ih =>
      intro im
      have im' : imm x = true ∧ immA xs = true := by simpa [immA] using im
      cases j with
      | zero => cases h; exact im'.1
      | succ j => exact ih j (by simpa using h) im'.2
end
section
variable {X : Cx} {C : Cv} {a b e : Expr} {wa wb we : WE} {pos p2 : Pos} {lo hi : Option Expr} {wl wh : WO} {Γ : List Sl} {σ : L2.St} {Fs : Fp} {H : Hp}
structure VPO (X : Cx) (C : Cv) (e : Option Expr) (w : WO) : Prop where
  run : ∀ Γ R, w Γ R → ∀ (Fs : Fp) (σ : L2.St) (H : Hp), ER (md X) C Fs Γ σ H → ∀ (pins : List (Addr × Obj)) (s : Shared), Inv X pins σ H s → wpAny (model X.prog X.w) X.A (evalPart e X.env) (fun u s' => ∃ o H', Inv X pins σ H' s' ∧ IsPart u o ∧ R o ∧ SameX C.hd H H') X.xe s
def wkO (X : Cx) (e : Option Expr) : TO := fun σ H Q => ∀ (pins : List (Addr × Obj)) (s : Shared), Inv X pins σ H s → wpAny (model X.prog X.w) X.A (evalPart e X.env) (fun u s' => ∃ o H', Inv X pins σ H' s' ∧ IsPart u o ∧ Q o H') X.xe s
theorem po_wk {e : Option Expr} : PO X e (wkO X e) := ⟨fun pins s _ _ _ I h => h pins s I⟩
theorem vo_none : VPO X C none wNo := ⟨fun Γ R q Fs σ H er pins s I => po_none.run pins s σ H (fun o H' => R o ∧ SameX C.hd H H') I ⟨q, .refl _ _⟩⟩
theorem vo_some (h : VP X C e we) : VPO X C (some e) (wSo we) := ⟨fun Γ R q Fs σ H er pins s I => (po_some pe_wk).run pins s σ H (fun o H' => R o ∧ SameX C.hd H H') I ((ve1 h q er).mono fun x H1 ⟨r, ns, Fs', q, t⟩ => by
  obtain ⟨n, en, s1⟩ := tms1 t.at_
  split at q
  · rename_i i e
    exact ⟨i, s1.rp t.er.fp e, q, t.same⟩
  · exact q.elim)⟩
theorem vp_ix (hs : PlainIx b) (ha : VP X C a wa) (hb : VP X C b wb) : VP X C (.Subscript a b pos) (wIx wa wb) := ⟨fun Γ R q Fs σ H n er hl hn => by
  refine PE.wk (pe_ix (IxR.or ix_list (IxR.or ix_tup ix_str)) pe_wk pe_wk hs) ((ve2 ha hb q er).mono fun x H1 q0 => q0.mono fun y H2 ⟨r1, r2, ns, Fs', q, t⟩ => ?_)
  obtain ⟨m1, m2, en, s1, s2⟩ := tms2 t.at_
  have key : ∀ {dd : D}, dat r1 = some dd → ∃ Z, Rp (md X) Z H2 dd x ∧ ∀ d v, Rp (md X) Z H2 d v → itemR r1 d R → ∃ r F, R r ∧ Res (md X) C Fs n H H2 r F v := fun {dd} e => by
    have now : ∀ d v, Rp (md X) (nhd C) H2 d v → R (.now d) → ∃ r F, R r ∧ Res (md X) C Fs n H H2 r F v := fun d v h q => ⟨_, [], q, t.fin (.refl _ _) List.nodup_nil (fun p hp => absurd hp (by simp)) ⟨updF_same, h⟩⟩
    cases r1 with
    | own k d' =>
      cases k with
      | zero =>
        cases e
        exact ⟨Zf C Fs', s1.2, fun d v h q => ⟨_, [], q, t.fin (.refl _ _) List.nodup_nil (fun p hp => absurd hp (by simp)) ⟨updF_same, Rp.wide (t.zf (F := []) (fun p hp => absurd hp (by simp)) hn) _ _ h⟩⟩⟩
      | succ k => exact ⟨_, s1.rp t.er.fp e, now⟩
    | bor d' =>
      cases e
      exact ⟨_, s1.2, fun d v h q => ⟨_, [], q, t.fin (.refl _ _) List.nodup_nil (fun p hp => absurd hp (by simp)) ⟨updF_same, h⟩⟩⟩
    | now d' => exact ⟨_, s1.rp t.er.fp e, now⟩
    | gone => cases e
    | hnd => cases e
  split at q
  · rename_i ds i e1 e2
    obtain ⟨d, hd, q⟩ := q
    have hy : y = .int i := s2.rp t.er.fp e2
    obtain ⟨Z, ⟨p, vs, ex, z, sq, rs⟩, fin⟩ := key e1
    obtain ⟨v, hv, rv⟩ := atI_rp rs hd
    exact .inl ⟨p, vs, i, v, ex, hy, sq, hv, fin d v rv q⟩
  · rename_i ds i e1 e2
    obtain ⟨d, hd, q⟩ := q
    have hy : y = .int i := s2.rp t.er.fp e2
    obtain ⟨Z, ⟨p, vs, ex, sq, rs⟩, fin⟩ := key e1
    obtain ⟨v, hv, rv⟩ := atI_rp rs hd
    exact .inr (.inl ⟨p, vs, i, v, ex, hy, sq, hv, fin d v rv q⟩)
  · rename_i z i e1 e2
    obtain ⟨hz, c, hc, q⟩ := q
    have hy : y = .int i := s2.rp t.er.fp e2
    have hx : x = .str z := s1.rp t.er.fp e1
    exact .inr (.inr ⟨z, i, c, hx, hy, hz, hc, _, [], q, t.imm0 (d := .str ⟨#[c]⟩) (Z := fun _ => False) rfl rfl⟩)
  · exact q.elim⟩
theorem vp_slc (ha : VP X C a wa) (hl : VPO X C lo wl) (hh : VPO X C hi wh) : VP X C (.Subscript a (.Slice lo hi none p2) pos) (wSlc wa wl wh) := ⟨fun Γ R q Fs σ H n er hl' hn => by
  refine PE.wk (pe_slice (SlR.or sl_list (SlR.or sl_tupA sl_str)) pe_wk po_wk po_wk) ((ha.run Γ _ q Fs σ H n er hl' hn).mono fun x H1 ⟨r, F, q, res⟩ => ?_)
  have er1 := res.er er hl' hn
  refine fun pins s I => thn (hl.run Γ _ q (updF Fs n F) σ H1 er1 pins s I) fun u1 s1 ⟨l, H2, I2, p1, q, x1⟩ => ⟨l, H2, I2, p1, ?_⟩
  have er2 := er1.step x1
  refine fun pins s I => thn (hh.run Γ _ q (updF Fs n F) σ H2 er2 pins s I) fun u2 s2 ⟨h, H3, I3, p2, q, x2⟩ => ⟨h, H3, I3, p2, ?_⟩
  have t0 := Tm.one er hl' hn res
  have x12 := x1.trans x2
  have t : Tm (md X) C Γ σ Fs (updF Fs n F) H H3 [n] [r] [x] := ⟨er1.step x12, t0.same.trans x12, t0.out, t0.new, t0.big, t0.nd, t0.at_.step x12 er1.fp⟩
  obtain ⟨m, en, s1⟩ := tms1 t.at_
  split at q
  · rename_i z e
    have hx : x = .str z := s1.rp t.er.fp e
    exact .inr (.inr ⟨z, hx, q.1, _, [], q.2, t.imm0 (d := .str (cutS z l h)) (Z := fun _ => False) rfl rfl⟩)
  · rename_i ds e
    obtain ⟨f, q⟩ := q
    obtain ⟨p, vs, ex, sq, rs⟩ := s1.frz e f
    refine .inr (.inl ⟨p, vs, ex, sq, fun hw => ?_, fun _ np hnp => ⟨_, [], q, t.tup hn hnp (cut_rp rs l h)⟩⟩)
    rw [cutD_all hw rs] at q
    exact ⟨_, [], q, t.fin (.refl _ _) List.nodup_nil (fun p hp => absurd hp (by simp)) ⟨updF_same, p, vs, rfl, sq, RpA.wide (t.zf (F := []) (fun p hp => absurd hp (by simp)) hn) _ _ rs⟩⟩
  · rename_i ds e
    obtain ⟨f, q⟩ := q
    obtain ⟨p, vs, ex, sq, rs⟩ := s1.chf e f
    exact .inl ⟨p, vs, ex, sq, fun np hnp => ⟨_, [np], q, t.lst1 hn hnp (cut_rp rs l h)⟩⟩
  · exact q.elim⟩
end
end VL
namespace VL
open PySem PySem.Spec PyProof.Rows L2

/-! ### calls of built-ins: one value -/
/-- a built-in on data that makes nothing new: f d k -/
abbrev DFn := D → (D → Prop) → Prop
def MonoF (f : DFn) : Prop := ∀ d (k k' : D → Prop), (∀ z, k z → k' z) → f d k → f d k'
def rF (X : Cx) (C : Cv) (f : DFn) : List V → Hp → VK → Prop := fun xs H Q => ∃ x d, xs = [x] ∧ Rp (md X) (nhd C) H d x ∧ f d fun z => ∀ w, Rp (md X) (nhd C) H z w → Q w H
def wFn (f : DFn) (a : WE) : WE := fun Γ R => a Γ fun r => match dat r with
  | some d => f d fun z => imm z = true ∧ R (.own 0 z)
  | none => False
section
variable {X : Cx} {C : Cv} {e a b c : Expr} {we wa wb wc : WE} {pos p : Pos} {f : DFn} {x : Str} {idB T : String}
theorem fn_fin {M : Md} {Γ : List Sl} {σ : L2.St} {Fs Fs' : Fp} {H H' : Hp} {ns : List Nat} {r : Sl} {n : Nat} {v : V} {R : Sl → Prop} {X : Cx} (t : Tm (md X) C Γ σ Fs Fs' H H' ns [r] [v]) (hf : MonoF f)
    (q : match dat r with | some d => f d fun z => imm z = true ∧ R (.own 0 z) | none => False) : rF X C f [v] H' fun v H2 => ∃ r F, R r ∧ Res (md X) C Fs n H H2 r F v := by
  obtain ⟨m, en, s1⟩ := tms1 t.at_
  split at q
  · rename_i d e
    exact ⟨v, d, rfl, s1.rp t.er.fp e, hf _ _ _ (fun z ⟨i, q⟩ w hw => ⟨_, [], q, t.imm0 i hw⟩) q⟩
  · exact q.elim
theorem vp_fnB (hf : MonoF f) (hc : CallR X (.builtin idB) (rF X C f)) (hg : Gl X x) (hm : X.mg x = none) (hv : bootBuiltins x = some (.builtin idB)) (ha : VP X C e we) (hn : x ≠ "__name__" := by decide) (hdb : (x == ("__debug__" : Str)) = false := by decide)
    (he : starEach [e] X.env = (false, eval e X.env) :: starEach [] X.env := by rfl) (hpl : (backTo pos (starEach [] X.env)).any (·.1) = false := by rfl) : VP X C (.Call (.Name x p) [e] [] pos) (wFn f we) := ⟨fun Γ R q Fs σ H n er hl hn' =>
  PE.wk (pe_callB hc hg hm hv (pa_cons pe_wk pa_nil he) hn hdb he hpl) ((ve1 ha q er).mono fun v H1 ⟨r, ns, Fs', q, t⟩ => fn_fin (M := md X) t hf q)⟩
theorem vp_fnT (hf : MonoF f) (hc : CallR X (.type T) (rF X C f)) (hg : Gl X x) (hm : X.mg x = none) (hv : bootBuiltins x = some (.type T)) (ha : VP X C e we) (hn : x ≠ "__name__" := by decide) (hdb : (x == ("__debug__" : Str)) = false := by decide)
    (he : starEach [e] X.env = (false, eval e X.env) :: starEach [] X.env := by rfl) (hpl : (backTo pos (starEach [] X.env)).any (·.1) = false := by rfl) : VP X C (.Call (.Name x p) [e] [] pos) (wFn f we) := ⟨fun Γ R q Fs σ H n er hl hn' =>
  PE.wk (pe_callTy hc hg hm hv (pa_cons pe_wk pa_nil he) hn hdb he hpl) ((ve1 ha q er).mono fun v H1 ⟨r, ns, Fs', q, t⟩ => fn_fin (M := md X) t hf q)⟩
/-- len -/
def dLen : DFn := fun d k => match d with
  | .str x => x.length ≤ sizeLine ∧ k (.int x.length)
  | .tuple ds => k (.int ds.length)
  | .list ds => k (.int ds.length)
  | _ => False
theorem mono_len : MonoF dLen := by
  intro d k k' h q
  unfold dLen at q ⊢
  cases d with
  | str x => exact ⟨q.1, h _ q.2⟩
  | tuple ds => exact h _ q
  | list ds => exact h _ q
  | _ => exact q.elim
theorem cd_len : CallR X (.builtin "len") (rF X C dLen) := by
  intro pins s σ H xs us Q I rv q
  obtain ⟨v, d, e, h, q⟩ := q
  subst e
  cases d with
  | str y => have e : v = .str y := h; subst e; exact call_len pins s σ H _ us Q I rv ⟨_, _, rfl, ⟨q.1, rfl⟩, q.2 _ rfl⟩
  | tuple ds =>
    obtain ⟨a, vs, e, sq, rs⟩ := h
    subst e
    exact call_len pins s σ H _ us Q I rv ⟨_, vs.length, rfl, .inr ⟨vs, sq, rfl⟩, q _ (show _ = _ by rw [RpA.length rs])⟩
  | list ds =>
    obtain ⟨a, vs, e, z, sq, rs⟩ := h
    subst e
    exact call_len pins s σ H _ us Q I rv ⟨_, vs.length, rfl, .inl ⟨vs, sq, rfl⟩, q _ (show _ = _ by rw [RpA.length rs])⟩
  | _ => exact q.elim
/-- int of an int -/
def dInt : DFn := fun d k => match d with
  | .int i => k (.int i)
  | .bool b => k (.int (if b then 1 else 0))
  | _ => False
theorem mono_int : MonoF dInt := by
  intro d k k' h q
  cases d <;> first | exact h _ q | exact q.elim
theorem cd_int : CallR X (.type "int") (rF X C dInt) := by
  intro pins s σ H xs us Q I rv q
  obtain ⟨v, d, e, h, q⟩ := q
  subst e
  cases d with
  | int i => have e : v = .int i := h; subst e; exact call_int1 pins s σ H _ us Q I rv (.inl ⟨i, rfl, q _ rfl⟩)
  | bool b => have e : v = .bl b := h; subst e; exact call_int1 pins s σ H _ us Q I rv (.inr ⟨b, rfl, q _ rfl⟩)
  | _ => exact q.elim
/-- a list of truth values -/
def boolsD : List D → Option (List Bool)
  | [] => some []
  | .bool b :: r => (boolsD r).map (b :: ·)
  | _ => none
def dAll : DFn := fun d k => match d with
  | .list ds => match boolsD ds with
    | some bs => k (.bool (bs.all id))
    | none => False
  | _ => False
def dAny : DFn := fun d k => match d with
  | .list ds => match boolsD ds with
    | some bs => k (.bool (bs.any id))
    | none => False
  | _ => False
theorem bools_rp {M : Md} {Z : Addr → Prop} {H : Hp} : ∀ {ds : List D} {bs : List Bool} {vs : List V}, boolsD ds = some bs → RpA M Z H ds vs → vs = bs.map V.bl
  | [], bs, vs, e, h => by
    cases e
    exact h
  | .bool b :: r, bs, vs, e, h => by
    obtain ⟨v, t, ev, h1, h2⟩ := h
    have e' : (boolsD r).map (b :: ·) = some bs := e
    obtain ⟨bs', e1, e2⟩ := Option.map_eq_some_iff.mp e'
    subst e2 ev
    have hv : v = .bl b := h1
    rw [hv, bools_rp e1 h2]; rfl
  | .none :: _, _, _, e, _ => by cases e
  | .int _ :: _, _, _, e, _ => by cases e
  | .str _ :: _, _, _, e, _ => by cases e
  | .tuple _ :: _, _, _, e, _ => by cases e
  | .list _ :: _, _, _, e, _ => by cases e
  | .dict _ :: _, _, _, e, _ => by cases e
theorem boolsD_map (bs : List Bool) : boolsD (bs.map PyData.bool) = some bs := by
  induction bs with
  | nil => rfl
  | cons b bs ih => rw [List.map_cons]; show (boolsD (bs.map PyData.bool)).map (b :: ·) = _; rw [ih]; rfl
theorem mono_all : MonoF dAll := by
  intro d k k' h q
  cases d with
  | list ds =>
    unfold dAll at q ⊢
    simp only at q ⊢
    split at q
    · exact h _ q
    · exact q.elim
  | _ => exact q.elim
theorem mono_any : MonoF dAny := by
  intro d k k' h q
  cases d with
  | list ds =>
    unfold dAny at q ⊢
    simp only at q ⊢
    split at q
    · exact h _ q
    · exact q.elim
  | _ => exact q.elim
theorem cd_all (hc : X.calm = true) : CallR X (.builtin "all") (rF X C dAll) := by
  intro pins s σ H xs us Q I rv q
  obtain ⟨v, d, e, h, q⟩ := q
  subst e
  cases d with
  | list ds =>
    obtain ⟨a, vs, e, z, sq, rs⟩ := h
    subst e
    unfold dAll at q
    simp only at q
    split at q
    · rename_i bs eb
      have ev := bools_rp eb rs
      subst ev
      exact cr_all hc pins s σ H _ us Q I rv ⟨a, bs, rfl, sq, q _ rfl⟩
    · exact q.elim
  | _ => exact q.elim
theorem cd_any (hc : X.calm = true) : CallR X (.builtin "any") (rF X C dAny) := by
  intro pins s σ H xs us Q I rv q
  obtain ⟨v, d, e, h, q⟩ := q
  subst e
  cases d with
  | list ds =>
    obtain ⟨a, vs, e, z, sq, rs⟩ := h
    subst e
    unfold dAny at q
    simp only at q
    split at q
    · rename_i bs eb
      have ev := bools_rp eb rs
      subst ev
      exact cr_any hc pins s σ H _ us Q I rv ⟨a, bs, rfl, sq, q _ rfl⟩
    · exact q.elim
  | _ => exact q.elim
theorem DcO.ex {M : Md} {H : Hp} {a : Addr} {o : Obj} {ks : List D} {vs : List V} (h : DcO M H a o ks vs) : o.ExactDict := by
  cases h with
  | flat hx => exact hx
  | nest hx => exact hx
/-! ### isinstance -/
def tyN : D → String
  | .none => "NoneType"
  | .bool _ => "bool"
  | .int _ => "int"
  | .str _ => "str"
  | .tuple _ => "tuple"
  | .list _ => "list"
  | .dict _ => "dict"
def isTup : D → Bool | .tuple _ => true | _ => false
def isStr : D → Bool | .str _ => true | _ => false
def isInt : D → Bool | .int _ => true | .bool _ => true | _ => false
def isBool : D → Bool | .bool _ => true | _ => false
def isLst : D → Bool | .list _ => true | _ => false
theorem kt_tup (d : D) : kitB (tyN d) "tuple" = some (isTup d) := by cases d <;> (simp only [tyN, isTup]; decide +kernel)
theorem kt_str (d : D) : kitB (tyN d) "str" = some (isStr d) := by cases d <;> (simp only [tyN, isStr]; decide +kernel)
theorem kt_int (d : D) : kitB (tyN d) "int" = some (isInt d) := by cases d <;> (simp only [tyN, isInt]; decide +kernel)
theorem kt_bool (d : D) : kitB (tyN d) "bool" = some (isBool d) := by cases d <;> (simp only [tyN, isBool]; decide +kernel)
theorem kt_lst (d : D) : kitB (tyN d) "list" = some (isLst d) := by cases d <;> (simp only [tyN, isLst]; decide +kernel)
def wIsi (f : D → Bool) (a : WE) : WE := fun Γ R => a Γ fun r => match dat r with
  | some d => R (.own 0 (.bool (f d)))
  | none => False
theorem isi_data {pins : List (Addr × Obj)} {σ : L2.St} {H : Hp} {s : Shared} {Z : Addr → Prop} {d : D} {v : V} {u : Value} {b : Bool} {Q : Value → Shared → Prop} {E : Value → Shared → Prop} (I : Inv X pins σ H s) (h : Rp (md X) Z H d v) (r : RelV v u)
    (e : kitB (tyN d) T = some b) (k : ∀ tk, Q (.bool b) { s with toks := tk }) : wpAny (model X.prog X.w) X.A (call (.builtin "isinstance") [u, .type T]) Q E s := by
  have e' := kit_ty (K := X.K) e
  cases d with
  | none => have ev : v = .non := h; subst ev; cases r; exact PySem.W.kia_one PySem.W.kitx_none I.kIn True.intro e' (fun z => nomatch z) k
  | bool y => have ev : v = .bl y := h; subst ev; cases r; exact PySem.W.kia_one PySem.W.kitx_bool I.kIn True.intro e' (fun z => nomatch z) k
  | int y => have ev : v = .int y := h; subst ev; obtain ⟨t, rfl⟩ := r; exact PySem.W.kia_one PySem.W.kitx_int I.kIn True.intro e' (fun z => nomatch z) k
  | str y => have ev : v = .str y := h; subst ev; obtain ⟨t, rfl⟩ := r; exact PySem.W.kia_one PySem.W.kitx_str I.kIn True.intro e' (fun z => nomatch z) k
  | tuple ds =>
    obtain ⟨a, vs, ev, sq, _⟩ := h
    subst ev; cases r
    obtain ⟨its, _, ⟨o, h1, h2, _⟩, _⟩ := I.tuple sq
    exact PySem.W.kia_one PySem.W.kitx_tuple I.kIn ⟨o, h1, h2⟩ e' (fun z => nomatch z) k
  | list ds =>
    obtain ⟨a, vs, ev, z, sq, _⟩ := h
    subst ev; cases r
    obtain ⟨its, _, ⟨o, n, h1, h2, _⟩, _⟩ := I.list sq
    exact PySem.W.kia_one PySem.W.kitx_list I.kIn ⟨o, h1, h2⟩ e' (fun z => nomatch z) k
  | dict kvs =>
    obtain ⟨a, vs, ev, z, ⟨o, h1, h2⟩, _⟩ := h
    subst ev; cases r
    have ho : s.heap.get? a = some o := (I.hok a _ h1).1
    have hc : o.cls = .type "dict" := (DcO.ex h2).1
    exact PySem.W.kia_one PySem.W.kitx_dict I.kIn ⟨o, ho, hc⟩ e' (fun z => nomatch z) k
theorem vp_isi {f : D → Bool} {y : Str} {p2 : Pos} (hT : ∀ d, kitB (tyN d) T = some (f d)) (hg : Gl X "isinstance") (hm : X.mg "isinstance" = none) (hv : bootBuiltins "isinstance" = some (.builtin "isinstance")) (hg2 : Gl X y) (hm2 : X.mg y = none) (hv2 : bootBuiltins y = some (.type T)) (ha : VP X C e we)
    (hn2 : y ≠ "__name__" := by decide) (hdb2 : (y == ("__debug__" : Str)) = false := by decide)
    (he : starEach [e, .Name y p2] X.env = (false, eval e X.env) :: starEach [.Name y p2] X.env := by rfl) (he2 : starEach [.Name y p2] X.env = (false, eval (.Name y p2) X.env) :: starEach [] X.env := by rfl) (hpl : (backTo pos (starEach [.Name y p2] X.env)).any (·.1) = false := by rfl) :
    VP X C (.Call (.Name "isinstance" p) [e, .Name y p2] [] pos) (wIsi f we) := ⟨fun Γ R q Fs σ H n er hl hn' => by
  have cr : CallR X (.builtin "isinstance") (fun xs H Q => ∃ v d, xs = [v, .ty T] ∧ Rp (md X) (nhd C) H d v ∧ Q (.bl (f d)) H) := by
    intro pins s σ H xs us Q I rv ⟨v, d, e, h, q⟩
    subst e
    obtain ⟨u, w', rfl, r1, r2⟩ := vals2 rv
    have e2 : w' = .type T := r2
    subst e2
    exact isi_data I h r1 (hT d) fun tk => ⟨.bl (f d), H, I.tok tk, rfl, q⟩
  refine PE.wk (pe_callB cr hg hm hv (pa_cons pe_wk (pa_cons (pe_bltn (v := .ty T) hg2 hm2 hv2 rfl hn2 hdb2) pa_nil he2) he) (by decide) (by decide) he hpl) ((ve1 ha q er).mono fun v H1 ⟨r, ns, Fs', q, t⟩ => ?_)
  obtain ⟨m, en, s1⟩ := tms1 t.at_
  split at q
  · rename_i d e
    exact ⟨v, d, rfl, s1.rp t.er.fp e, _, [], q, t.imm0 (d := .bool (f d)) (Z := fun _ => False) rfl rfl⟩
  · exact q.elim⟩
/-! ### list(x), tuple(x) -/
/-- the items of a sequence, frozen -/
def frzSeq (r : Sl) (k : List D → Prop) : Prop := match dat r with
  | some (.list ds) => chf r ∧ k ds
  | some (.tuple ds) => frzd r ∧ k ds
  | _ => False
def wLstOf (a : WE) : WE := fun Γ R => a Γ fun r => frzSeq r fun ds => R (.own 1 (.list ds))
def wTupOf (a : WE) : WE := fun Γ R => a Γ fun r => frzSeq r fun ds => R (.own 0 (.tuple ds))
theorem vp_lstOf (hg : Gl X "list") (hm : X.mg "list" = none) (hv : bootBuiltins "list" = some (.type "list")) (ha : VP X C e we)
    (he : starEach [e] X.env = (false, eval e X.env) :: starEach [] X.env := by rfl) (hpl : (backTo pos (starEach [] X.env)).any (·.1) = false := by rfl) : VP X C (.Call (.Name "list" p) [e] [] pos) (wLstOf we) := ⟨fun Γ R q Fs σ H n er hl hn' => by
  refine PE.wk (pe_callTy call_list_of hg hm hv (pa_cons pe_wk pa_nil he) (by decide) (by decide) he hpl) ((ve1 ha q er).mono fun v H1 ⟨r, ns, Fs', q, t⟩ => ?_)
  obtain ⟨m, en, s1⟩ := tms1 t.at_
  unfold frzSeq at q
  split at q
  · rename_i ds e
    obtain ⟨a, vs, ev, sq, rs⟩ := s1.chf e q.1
    subst ev
    exact ⟨a, vs, rfl, .inl sq, fun np hnp => ⟨_, [np], q.2, t.lst1 hn' hnp rs⟩⟩
  · rename_i ds e
    obtain ⟨a, vs, ev, sq, rs⟩ := s1.frz e q.1
    subst ev
    exact ⟨a, vs, rfl, .inr sq, fun np hnp => ⟨_, [np], q.2, t.lst1 hn' hnp rs⟩⟩
  · exact q.elim⟩
theorem vp_tupOf (hg : Gl X "tuple") (hm : X.mg "tuple" = none) (hv : bootBuiltins "tuple" = some (.type "tuple")) (ha : VP X C e we)
    (he : starEach [e] X.env = (false, eval e X.env) :: starEach [] X.env := by rfl) (hpl : (backTo pos (starEach [] X.env)).any (·.1) = false := by rfl) : VP X C (.Call (.Name "tuple" p) [e] [] pos) (wTupOf we) := ⟨fun Γ R q Fs σ H n er hl hn' => by
  refine PE.wk (pe_callTy call_tuple_of hg hm hv (pa_cons pe_wk pa_nil he) (by decide) (by decide) he hpl) ((ve1 ha q er).mono fun v H1 ⟨r, ns, Fs', q, t⟩ => ?_)
  obtain ⟨m, en, s1⟩ := tms1 t.at_
  unfold frzSeq at q
  split at q
  · rename_i ds e
    obtain ⟨a, vs, ev, sq, rs⟩ := s1.chf e q.1
    subst ev
    exact ⟨a, vs, rfl, .inl ⟨sq, fun np hnp => ⟨_, [], q.2, t.tup hn' hnp rs⟩⟩⟩
  · rename_i ds e
    obtain ⟨a, vs, ev, sq, rs⟩ := s1.frz e q.1
    subst ev
    exact ⟨a, vs, rfl, .inr ⟨sq, _, [], q.2, t.fin (.refl _ _) List.nodup_nil (fun p hp => absurd hp (by simp)) ⟨updF_same, a, vs, rfl, sq, RpA.wide (t.zf (F := []) (fun p hp => absurd hp (by simp)) hn') _ _ rs⟩⟩⟩
  · exact q.elim⟩
end

/-! ### in, not in -/
def memD (x : D) (c : D) (k : Bool → Prop) : Prop := match c with
  | .str z => ∃ n, x = .str ⟨#[n]⟩ ∧ k (decide (n ∈ z.cps.toList))
  | .list xs => PyData.plainAll xs = true ∧ x.plain = true ∧ x.depth ≤ 40 ∧ k (xs.any fun y => PyData.eqv y x)
  | .tuple xs => PyData.plainAll xs = true ∧ x.plain = true ∧ x.depth ≤ 40 ∧ k (xs.any fun y => PyData.eqv y x)
  | .dict kvs => tupK x = true ∧ (∀ p ∈ kvs, tupK p.1 = true) ∧ k (kvs.any fun p => decide (nk p.1 = nk x))
  | _ => False
def dIn : DOp := fun x y k => memD x y fun b => k (.bool b)
def dNotIn : DOp := fun x y k => memD x y fun b => k (.bool (!b))
theorem memD_mono {x c : D} {k k' : Bool → Prop} (h : ∀ b, k b → k' b) (q : memD x c k) : memD x c k' := by
  cases c with
  | str z => obtain ⟨n, a, b⟩ := q; exact ⟨n, a, h _ b⟩
  | list xs => exact ⟨q.1, q.2.1, q.2.2.1, h _ q.2.2.2⟩
  | tuple xs => exact ⟨q.1, q.2.1, q.2.2.1, h _ q.2.2.2⟩
  | dict kvs => exact ⟨q.1, q.2.1, h _ q.2.2⟩
  | _ => exact q.elim
theorem mono_in : Mono dIn := fun x y k k' h q => memD_mono (fun b => h _) q
theorem mono_notIn : Mono dNotIn := fun x y k k' h q => memD_mono (fun b => h _) q
end VL
namespace VL
open PySem PySem.Spec PyProof.Rows L2

/-! ### dicts whose keys are tuples, in the heap -/
section
variable {X : Cx} {pins : List (Addr × Obj)} {σ : L2.St} {H : Hp} {s : Shared} {a : Addr} {ks : List D} {vs : List V}
mutual
theorem Im.nested (I : Inv X pins σ H s) : ∀ (d : D) (v : V) (u : Value), Im X.K H d v → RelV v u → NestedIs s.heap (nk d) u
  | .none, v, u, h, r => by
    have e : v = .non := h
    subst e; cases r; exact .none
  | .bool b, v, u, h, r => by
    have e : v = .bl b := h
    subst e; cases r; exact .bool rfl
  | .int i, v, u, h, r => by
    have e : v = .int i := h
    subst e; obtain ⟨t, rfl⟩ := r; exact .int i t
  | .str x, v, u, h, r => by
    have e : v = .str x := h
    subst e; obtain ⟨t, rfl⟩ := r; exact .text x t
  | .tuple ds, v, u, h, r => by
    obtain ⟨a, vs, e, q, rs⟩ := h
    subst e; cases r
    obtain ⟨its, rv, ⟨o, ho, hc, n, hd⟩, _⟩ := I.tuple q
    exact .tup ho hc hd (by simpa using ImA.nested I ds vs its rs rv)
  | .list _, _, _, h, _ => h.elim
  | .dict _, _, _, h, _ => h.elim
theorem ImA.nested (I : Inv X pins σ H s) : ∀ (ds : List D) (vs : List V) (us : List Value), ImA X.K H ds vs → Vals vs us → NestedAll s.heap (nkA ds) us
  | [], vs, us, h, r => by
    have e : vs = [] := h
    subst e; cases r; exact .nil
  | d :: ds, vs, us, h, r => by
    obtain ⟨v, t, e, q, qs⟩ := h
    subst e
    cases r with
    | cons r rr => exact .cons (Im.nested I d v _ q r) (ImA.nested I ds t _ qs rr)
end
theorem tupK_imm {d : D} (h : tupK d = true) : imm d = true := by
  cases d <;> simp_all [tupK, imm]
theorem tupK_depth {d : D} (h : tupK d = true) : (nk d).depth ≤ 8 := by
  cases d <;> simp_all [tupK, nk]
/-- a tuple as a key -/
theorem key_is (I : Inv X pins σ H s) {d : D} {v : V} {u : Value} {Z : Addr → Prop} (hk : tupK d = true) (h : Rp (md X) Z H d v) (r : RelV v u) :
    ∃ b, v = .ref b ∧ u = .ref b ∧ (nestedKind X.prog X.w).is s.heap (nk d) b ∧ Im X.K H d (.ref b) := by
  have hi := Rp.of_imm d v (tupK_imm hk) h
  cases d with
  | tuple ds =>
    obtain ⟨b, vs, e, q, rs⟩ := id hi
    subst e
    cases r
    exact ⟨b, rfl, rfl, ⟨Im.nested I _ _ _ hi rfl, tupK_depth hk⟩, hi⟩
  | _ => simp [tupK] at hk
/-- keys that are tuples: the nested form -/
theorem DcO.nested {M : Md} {o : Obj} (h : DcO M H a o ks vs) (hk : ∀ k ∈ ks, tupK k = true) : ∃ (es : Array DictEntry) (ep : Nat) (xs : List (NestedKey × Addr × Value)), o.ExactDict ∧ o.data = .dict es ep ∧ es.toList = xs.map (entryOfKey (nestedKind M.P M.w)) ∧ (xs.map (·.1)).Nodup ∧
      Paired (fun (d : D) (x : NestedKey × Addr × Value) => tupK d = true ∧ nk d = x.1 ∧ Im M.K H d (.ref x.2.1)) ks xs ∧ Vals vs (xs.map (·.2.2)) ∧ xs.length ≤ sizeLine ∧ (a == sysModules) = false := by
  cases h with
  | @flat es ep kvs vs h1 h2 h3 h4 h5 h6 h7 h8 =>
    cases kvs with
    | nil =>
      have he : es.toList = [] := by
        generalize es.toList = l at h4
        cases h4
        rfl
      cases h6
      exact ⟨es, ep, [], h1, h2, by rw [he]; rfl, List.nodup_nil, .nil, .nil, Nat.zero_le _, h8⟩
    | cons p r =>
      have := hk (keyD p.1) (by simp)
      cases hp : p.1 <;> rw [hp] at this <;> simp [keyD, tupK] at this
  | nest h1 h2 h3 h4 h5 h6 h7 h8 => exact ⟨_, _, _, h1, h2, h3, h4, h5, h6, h7, h8⟩
theorem Paired.all_of {α β : Type} {F : α → β → Prop} {P : β → Prop} : ∀ {l₁ : List α} {l₂ : List β}, Paired F l₁ l₂ → (∀ a b, F a b → P b) → ∀ b ∈ l₂, P b
  | _, _, .nil, _, b, h => absurd h (by simp)
  | _, _, .cons r t, f, b, h => by
    rcases List.mem_cons.mp h with e | h
    · subst e; exact f _ _ r
    · exact Paired.all_of t f b h
theorem dict_of (I : Inv X pins σ H s) {o : Obj} (ho : H a = some (exact a o)) {es : Array DictEntry} {ep : Nat} {xs : List (NestedKey × Addr × Value)} (h1 : o.ExactDict) (h2 : o.data = .dict es ep) (h3 : es.toList = xs.map (entryOfKey (nestedKind X.prog X.w))) (h4 : (xs.map (·.1)).Nodup)
    (h5 : Paired (fun (d : D) (x : NestedKey × Addr × Value) => tupK d = true ∧ nk d = x.1 ∧ Im X.K H d (.ref x.2.1)) ks xs) : s.heap.DictOfH (nestedKind X.prog X.w) a xs :=
  ⟨o, es, ep, (I.hok a _ ho).1, h1, h2, h3, Paired.all_of h5 fun d x ⟨p1, p2, p3⟩ => by
    rw [← p2]
    exact ⟨Im.nested I _ _ _ p3 rfl, tupK_depth p1⟩, h4⟩
theorem atKey_any {F : D → NestedKey × Addr × Value → Prop} (hF : ∀ d x, F d x → nk d = x.1) (k : NestedKey) : ∀ {ks : List D} {xs : List (NestedKey × Addr × Value)}, Paired F ks xs → (atKey xs k).isSome = ks.any fun d => decide (nk d = k)
  | _, _, .nil => rfl
  | _, _, .cons (a := d) (b := x) r t => by
    have ih := atKey_any hF k t
    unfold atKey at ih ⊢
    rw [List.find?_cons, List.any_cons, hF _ _ r]
    by_cases e : x.1 = k
    · simp [e]
    · simp only [e, decide_false, Bool.false_or]
      exact ih
theorem any_map_fst (kvs : List (D × D)) (k : NestedKey) : ((kvs.map (·.1)).any fun d => decide (nk d = k)) = kvs.any fun p => decide (nk p.1 = k) := by
  rw [List.any_map]; rfl
variable {C : Cv}
theorem mem_rule (neg : Bool) (hr : X.A.units + 64 < cLine) {x y : V} {v u : Value} {Q : VK} {d c : D} (I : Inv X pins σ H s) (rx : RelV x v) (ry : RelV y u) (hd : Rp (md X) (nhd C) H d x) (hc : Rp (md X) (nhd C) H c y)
    (q : memD d c fun b => Q (.bl (if neg then !b else b)) H) : wpAny (model X.prog X.w) X.A (compareOp (if neg then .NotIn else .In) v u) (EP X pins σ Q) X.xe s := by
  cases c with
  | str z =>
    obtain ⟨n, e, q⟩ := q
    subst e
    have ey : y = .str z := hc
    have ex : x = .str ⟨#[n]⟩ := hd
    cases neg with
    | false => exact op_in_sign pins s σ H x y v u Q I rx ry ⟨n, z, ex, ey, q⟩
    | true => exact op_notIn_sign pins s σ H x y v u Q I rx ry ⟨n, z, ex, ey, by rw [if_pos rfl] at q; exact q⟩
  | list xs =>
    obtain ⟨p1, p2, p3, q⟩ := q
    obtain ⟨as, ra⟩ := Rp.reads I d x v p2 hd rx
    obtain ⟨bs, rb⟩ := Rp.reads I (.list xs) y u (by simpa [PyData.plain] using p1) hc ry
    have hu : X.A.units + 1 + min (PyData.depthAll xs) d.depth < cLine := by have := Nat.min_le_right (PyData.depthAll xs) d.depth; omega
    cases neg with
    | false => exact PySem.SeqAt.in_list_data rb ra p1 p2 hu ⟨.bl _, H, I, rfl, q⟩
    | true => exact PySem.SeqAt.notIn_list_data rb ra p1 p2 hu ⟨.bl _, H, I, rfl, q⟩
  | tuple xs =>
    obtain ⟨p1, p2, p3, q⟩ := q
    obtain ⟨as, ra⟩ := Rp.reads I d x v p2 hd rx
    obtain ⟨bs, rb⟩ := Rp.reads I (.tuple xs) y u (by simpa [PyData.plain] using p1) hc ry
    have hu : X.A.units + 1 + min (PyData.depthAll xs) d.depth < cLine := by have := Nat.min_le_right (PyData.depthAll xs) d.depth; omega
    cases neg with
    | false => exact PySem.SeqAt.in_tuple_data rb ra p1 p2 hu ⟨.bl _, H, I, rfl, q⟩
    | true => exact PySem.SeqAt.notIn_tuple_data rb ra p1 p2 hu ⟨.bl _, H, I, rfl, q⟩
  | dict kvs =>
    obtain ⟨p1, p2, q⟩ := q
    obtain ⟨p, vs, ey, _, ⟨o, ho, dc⟩, _⟩ := hc
    subst ey
    cases ry
    obtain ⟨b, ex, ev, kb, _⟩ := key_is I p1 hd rx
    subst ex ev
    obtain ⟨es, ep, xs, h1, h2, h3, h4, h5, h6, h7, h8⟩ := dc.nested (fun k hk => by
      obtain ⟨kv, hkv, e⟩ := List.mem_map.mp hk
      subst e; exact p2 kv hkv)
    have hm := dict_of I ho h1 h2 h3 h4 h5
    have ea : (atKey xs (nk d)).isSome = kvs.any fun p => decide (nk p.1 = nk d) := by
      rw [atKey_any (fun d x h => h.2.1) (nk d) h5, any_map_fst]
    have room : (nestedKind X.prog X.w).room X.A.in1 := (show X.A.units + 1 + 8 < cLine by omega)
    cases neg with
    | false => exact wpAny_in_heap room kb h8 hm (by rw [ea]; exact ⟨.bl _, H, I.tok _, rfl, q⟩)
    | true =>
      refine notIn_keyed (kvs := pairsH xs) room kb h8 ⟨xs, hm, rfl⟩ ?_
      rw [valueAt_pairsH, Option.isSome_map, ea]
      exact ⟨.bl _, H, I.tok _, rfl, q⟩
  | _ => exact q.elim
theorem od_in (hr : X.A.units + 64 < cLine) : OpR X (compareOp .In) (rD X C dIn) := by
  intro pins s σ H x y v u Q I rx ry ⟨dx, dy, h1, h2, q⟩
  exact mem_rule (C := C) false hr I rx ry h1 h2 (memD_mono (fun b k => k _ rfl) q)
theorem od_notIn (hr : X.A.units + 64 < cLine) : OpR X (compareOp .NotIn) (rD X C dNotIn) := by
  intro pins s σ H x y v u Q I rx ry ⟨dx, dy, h1, h2, q⟩
  exact mem_rule (C := C) true hr I rx ry h1 h2 (memD_mono (fun b k => k _ rfl) q)
end

/-! ### chains of comparisons -/
def wChain (f g : DOp) (a b c : WE) : WT := fun Γ R => a Γ fun r1 => b Γ fun r2 => match dat r1, dat r2 with
  | some x, some y => f x y fun z => match z with
    | .bool k => cnd k (c Γ fun r3 => match dat r3 with
      | some w => g y w fun z => match z with
        | .bool k => R k
        | _ => False
      | none => False) (R false)
    | _ => False
  | _, _ => False
def wChainE (f g : DOp) (a b c : WE) : WE := fun Γ R => wChain f g a b c Γ fun k => R (.own 0 (.bool k))
section
variable {X : Cx} {C : Cv} {a b c : Expr} {wa wb wc : WE} {pos : Pos} {f g : DOp} {op op' : CmpOp}
theorem chain_go {Γ : List Sl} {R : Bool → Prop} {Fs : Fp} {σ : L2.St} {H : Hp} (hf : Mono f) (hg : Mono g) (ha : VP X C a wa) (hb : VP X C b wb) (hc : VP X C c wc) (q : wChain f g wa wb wc Γ R) (er : ER (md X) C Fs Γ σ H) :
    tChain (rD X C f) (rD X C g) (wkE X a) (wkE X b) (wkE X c) σ H fun v H' => ∃ k, v = .bl k ∧ R k ∧ SameX C.hd H H' := by
  refine (ve2 ha hb q er).mono fun x H1 q0 => q0.mono fun y H2 ⟨r1, r2, ns, Fs', q, t⟩ => ?_
  obtain ⟨n, m, en, s1, s2⟩ := tms2 t.at_
  split at q
  · rename_i dx dy e1 e2
    refine ⟨dx, dy, s1.rp t.er.fp e1, s2.rp t.er.fp e2, hf _ _ _ _ (fun z q w hw => ?_) q⟩
    cases z with
    | bool k =>
      have ew : w = .bl k := hw
      refine ⟨k, ew, ?_⟩
      cases k with
      | false => exact ⟨false, rfl, q.2 rfl, t.same⟩
      | true =>
        rw [if_pos rfl]
        have q : wc _ fun r3 => match dat r3 with
          | some w => g dy w fun z => match z with
            | .bool k => R k
            | _ => False
          | none => False := q.1 rfl
        refine (ve1 hc q t.er).mono fun u H3 ⟨r3, ns3, Fs3, q3, t3⟩ => ?_
        obtain ⟨m3, en3, s3⟩ := tms1 t3.at_
        split at q3
        · rename_i dw e3
          refine ⟨dy, dw, Rp.keep t3.same.kp _ _ (s2.rp t.er.fp e2), s3.rp t3.er.fp e3, hg _ _ _ _ (fun z q w hw => ?_) q3⟩
          cases z with
          | bool k => exact ⟨k, hw, q, t.same.trans t3.same⟩
          | _ => exact q.elim
        · exact q3.elim
    | _ => exact q.elim
  · exact q.elim
theorem vt_chain (hf : Mono f) (hg : Mono g) (ho : OpR X (compareOp op) (rD X C f)) (ho' : OpR X (compareOp op') (rD X C g)) (ha : VP X C a wa) (hb : VP X C b wb) (hc : VP X C c wc)
    (hm : lastMarks [op, op'] [b, c] = false := by with_unfolding_all rfl) : VPT X C (.Compare a [op, op'] [b, c] pos) (wChain f g wa wb wc) := ⟨fun Γ R q Fs σ H er =>
  PT.wk (pt_chain ho ho' pe_wk pe_wk pe_wk hm) (chain_go hf hg ha hb hc q er)⟩
theorem tChain_mono {r r' : R2} {σ : L2.St} {H : Hp} {Q Q' : VK} (h : tChain r r' (wkE X a) (wkE X b) (wkE X c) σ H Q) (hr : ∀ x y H Q Q', (∀ v H, Q v H → Q' v H) → r x y H Q → r x y H Q') (hr' : ∀ x y H Q Q', (∀ v H, Q v H → Q' v H) → r' x y H Q → r' x y H Q') (f : ∀ v H, Q v H → Q' v H) : tChain r r' (wkE X a) (wkE X b) (wkE X c) σ H Q' :=
  wkE.mono h fun x H1 h => wkE.mono h fun y H2 h => hr _ _ _ _ _ (fun z H3 ⟨k, e, h⟩ => ⟨k, e, by
    cases k with
    | true => exact wkE.mono (show wkE X c σ H3 _ from h) fun w H4 h => hr' _ _ _ _ _ f h
    | false => exact f _ _ h⟩) h
theorem rD_mono (hf : Mono f) : ∀ x y H (Q Q' : VK), (∀ v H, Q v H → Q' v H) → rD X C f x y H Q → rD X C f x y H Q' := fun x y H Q Q' h ⟨dx, dy, h1, h2, q⟩ => ⟨dx, dy, h1, h2, hf _ _ _ _ (fun z k w hw => h _ _ (k w hw)) q⟩
theorem vp_chain (hf : Mono f) (hg : Mono g) (ho : OpR X (compareOp op) (rD X C f)) (ho' : OpR X (compareOp op') (rD X C g)) (ha : VP X C a wa) (hb : VP X C b wb) (hc : VP X C c wc)
    (hm : lastMarks [op, op'] [b, c] = false := by with_unfolding_all rfl) : VP X C (.Compare a [op, op'] [b, c] pos) (wChainE f g wa wb wc) := ⟨fun Γ R q Fs σ H n er hl hn =>
  PE.wk (pe_chain ho ho' pe_wk pe_wk pe_wk hm) (tChain_mono (chain_go hf hg ha hb hc q er) (rD_mono hf) (rD_mono hg) fun v H' ⟨k, e, q, x⟩ => ⟨_, [], q, by
    subst e
    exact (Res.imm (n := n) (Fs := Fs) (d := .bool k) (Z := fun _ => False) rfl rfl : Res (md X) C Fs n H' H' _ _ _).later x⟩)⟩
end
end VL
namespace VL
open PySem PySem.Spec PyProof.Rows L2

/-! ### things changed in place -/
def notTF (o : HO) : Prop := (∀ xs, o ≠ .tup xs) ∧ ∀ ob u, o ≠ .frz ob u
section
variable {M : Md} {C : Cv} {Γ Γ' : List Sl} {σ : L2.St} {Fs Fs' Fs2 : Fp} {H H' H2 : Hp} {ns : List Nat} {rs : List Sl} {vs : List V} {n k i L : Nat} {r s s' : Sl} {F G : List Addr} {v : V} {d : D} {ds : List D} {a : Addr} {o o₀ : HO}
theorem Kp.upd {Z : Addr → Prop} (hz : ∀ p, Z p → p ≠ a) (e : H a = some o₀) (hn : notTF o₀) : Kp Z H (upd H a o) :=
  ⟨fun p u z q => by rw [upd_ne (hz p z)]; exact q, fun p xs q => by
    by_cases h : p = a
    · subst h; rw [e] at q; cases q; exact absurd rfl (hn.1 xs)
    · rw [upd_ne h]; exact q, fun p ob u q => by
    by_cases h : p = a
    · subst h; rw [e] at q; cases q; exact absurd rfl (hn.2 ob u)
    · rw [upd_ne h]; exact q⟩
theorem SameX.upd (f : FpR C Fs H) (h : a ∈ Fs i) (e : H a = some o₀) (hn : notTF o₀) : SameX C.hd C.H0 (upd H a o) := by
  obtain ⟨h0, h1, _⟩ := f.fr i a h
  have ne : ∀ p u, C.H0 p = some u → p ≠ a := fun p u q z => by rw [z, h0] at q; cases q
  have nh : ∀ c, C.hd c → c ≠ a := fun c hc z => h1 (z ▸ hc)
  refine ⟨⟨fun p u z q => by rw [upd_ne (ne p u q)]; exact f.same.kp.z p u z q, fun p xs q => by rw [upd_ne (ne p _ q)]; exact f.same.kp.t p xs q, fun p ob u q => by rw [upd_ne (ne p _ q)]; exact f.same.kp.f p ob u q⟩, fun p hp q => ?_, fun p hp q => ?_⟩
  · exact (f.same.hand p hp q).keep hp fun c u hc e => by rw [upd_ne (nh c hc)]; exact e
  · exact (f.same.cell p hp q).keep fun u e => by rw [upd_ne (nh p hp)]; exact e
theorem FpR.upd (f : FpR C Fs H) (h : a ∈ Fs i) (e : H a = some o₀) (hn : notTF o₀) : FpR C Fs (upd H a o) := by
  refine ⟨f.nd, f.dj, fun j p hp => ?_, f.fin, SameX.upd f h e hn, fun p hp => ?_⟩
  · obtain ⟨a1, b1, c1⟩ := f.fr j p hp
    refine ⟨a1, b1, ?_⟩
    by_cases z : p = a
    · rw [z, upd_same]; exact Option.some_ne_none _
    · rw [upd_ne z]; exact c1
  · have nh : ∀ c, C.hd c → c ≠ a := fun c hc z => (f.fr i a h).2.1 (z ▸ hc)
    exact (f.hok p hp).imp (fun q => q.keep hp fun c u hc e => by rw [upd_ne (nh c hc)]; exact e) fun q => q.keep fun u e => by rw [upd_ne (nh p hp)]; exact e
/-- footprints of i and n joined at i, some let go -/
theorem FpR.join (f : FpR C Fs H) (hin : n ≠ i) (nd : G.Nodup) (h : ∀ p ∈ G, p ∈ Fs i ∨ p ∈ Fs n) : FpR C (updF (updF Fs n []) i G) H := by
  have sub : ∀ j p, p ∈ updF (updF Fs n []) i G j → (j = i ∧ (p ∈ Fs i ∨ p ∈ Fs n)) ∨ (j ≠ i ∧ j ≠ n ∧ p ∈ Fs j) := fun j p hp => by
    by_cases e : j = i
    · subst e; rw [updF_same] at hp; exact .inl ⟨rfl, h p hp⟩
    · rw [updF_ne e] at hp
      by_cases e' : j = n
      · subst e'; rw [updF_same] at hp; simp at hp
      · rw [updF_ne e'] at hp; exact .inr ⟨e, e', hp⟩
  have apart : ∀ j p, j ≠ i → j ≠ n → p ∈ Fs j → p ∈ Fs i ∨ p ∈ Fs n → False := fun j p h1 h2 h3 h4 => h4.elim (fun h4 => h1 (f.dj j i p h3 h4)) fun h4 => h2 (f.dj j n p h3 h4)
  refine ⟨fun j => ?_, fun j l p hj hl => ?_, fun j p hp => ?_, ?_, f.same, f.hok⟩
  · by_cases e : j = i
    · subst e; rw [updF_same]; exact nd
    · rw [updF_ne e]
      by_cases e' : j = n
      · subst e'; rw [updF_same]; exact List.nodup_nil
      · rw [updF_ne e']; exact f.nd j
  · rcases sub j p hj with ⟨a1, b1⟩ | ⟨a1, b1, c1⟩ <;> rcases sub l p hl with ⟨a2, b2⟩ | ⟨a2, b2, c2⟩
    · rw [a1, a2]
    · exact (apart l p a2 b2 c2 b1).elim
    · exact (apart j p a1 b1 c1 b2).elim
    · exact f.dj j l p c1 c2
  · rcases sub j p hp with ⟨_, b1⟩ | ⟨_, _, c1⟩
    · exact b1.elim (f.fr i p) (f.fr n p)
    · exact f.fr j p c1
  · obtain ⟨N, hN⟩ := f.fin
    refine ⟨max N (i + 1), fun j hj => ?_⟩
    have h1 := Nat.le_max_left N (i + 1)
    have h2 := Nat.le_max_right N (i + 1)
    rw [updF_ne (by omega)]
    by_cases e' : j = n
    · subst e'; rw [updF_same]
    · rw [updF_ne e']; exact hN j (by omega)
theorem ownd_join (h : ∀ p ∈ G, p ∈ Fs i ∨ p ∈ Fs n) : ∀ p, ownd (updF (updF Fs n []) i G) p → ownd Fs p := fun p ⟨j, hj⟩ => by
  by_cases e : j = i
  · subst e; rw [updF_same] at hj; exact (h p hj).elim (fun h => ⟨_, h⟩) fun h => ⟨_, h⟩
  · rw [updF_ne e] at hj
    by_cases e' : j = n
    · subst e'; rw [updF_same] at hj; simp at hj
    · rw [updF_ne e'] at hj; exact ⟨j, hj⟩
/-- slot i's thing has changed at a -/
theorem ER.mut (er : ER M C Fs Γ σ H) (ev : σ[i]? = some (some v)) (hi : i < Γ.length) (ha : a ∈ Fs i) (e : H a = some o₀) (hn : notTF o₀) (oth : ∀ j, j ≠ i → j < Γ.length → Fs' j = Fs j) (sub : ∀ p, ownd Fs' p → ownd Fs p) (f' : FpR C Fs' (upd H a o))
    (h : SlR M C Fs' (upd H a o) i s' v) (hg : s' ≠ .gone := by intro h; cases h) : ER M C Fs' (Γ.set i s') σ (upd H a o) ∧ Fz C Fs H Fs' (upd H a o) := by
  have kz : ∀ {Z : Addr → Prop}, (∀ p, Z p → p ≠ a) → Kp Z H (upd H a o) := fun hz => Kp.upd hz e hn
  have na : ∀ p, ¬ ownd Fs p → p ≠ a := fun p hp z => hp ⟨i, z ▸ ha⟩
  refine ⟨⟨f', by simp [er.len], fun j t hj hlv => ?_, fun j hj => ?_⟩, fun p hp _ => Zf.sub sub p hp, kz fun p hp => na p hp.1⟩
  rotate_left
  · by_cases e : j = i
    · subst e
      rw [List.getElem?_set_self hi] at hj
      cases hj
      exact absurd rfl hg
    · rw [List.getElem?_set_ne (Ne.symm e)] at hj
      rw [oth j e (List.getElem?_eq_some_iff.mp hj).1]
      exact er.gn j hj
  by_cases ej : j = i
  · subst ej
    rw [List.getElem?_set_self hi] at hj
    cases hj
    exact ⟨v, ev, h⟩
  · rw [List.getElem?_set_ne (Ne.symm ej)] at hj
    have hj' := (List.getElem?_eq_some_iff.mp hj).1
    obtain ⟨u, q1, q2⟩ := er.sl j t hj hlv
    refine ⟨u, q1, ?_⟩
    have eF := oth j ej hj'
    cases t with
    | gone => trivial
    | own k d =>
      have q2 : Ow M (Zf C Fs) H k d u (Fs j) := q2
      show Ow M (Zf C Fs') (L2.upd H a o) k d u (Fs' j)
      rw [eF]
      refine Ow.wide (fun p hp _ => Zf.sub sub p hp) (Ow.keep (kz fun p hp => ?_) q2)
      rcases hp with hp | hp
      · exact na p hp.1
      · intro z; subst z; exact ej (er.fp.dj j i p hp ha)
    | bor d =>
      refine ⟨eF.trans q2.1, Rp.keep (kz fun p hp z => ?_) _ _ q2.2⟩
      subst z; exact hp.2 (er.fp.fr i p ha).1
    | now d => cases hlv
    | hnd =>
      obtain ⟨e1, b, eb, hb, hat⟩ := q2
      exact ⟨eF.trans e1, b, eb, hb, hat.keep hb fun c u hc q => by
        rw [upd_ne (fun z => (er.fp.fr i a ha).2.1 (by rw [← z]; exact hc))]; exact q⟩
theorem Res.fz (hn : Fs n = []) (q : Res M C Fs n H H' r F v) : Fz C Fs H (updF Fs n F) H' :=
  ⟨Zf.lay (fun p hp => (q.fr p hp).1) (fun p hp => by rw [hn] at hp; simp at hp), q.same.kp.mono fun p hp => hp.2.1⟩
theorem Tm.fz (t : Tm M C Γ σ Fs Fs' H H' ns rs vs) : Fz C Fs H Fs' H' :=
  ⟨fun p hp hh => ⟨fun ⟨j, hj⟩ => by
    by_cases hm : j ∈ ns
    · exact hh (t.new j hm p hj)
    · rw [t.out j hm] at hj; exact hp.1 ⟨j, hj⟩, hp.2⟩, t.same.kp.mono fun p hp => hp.2.1⟩
theorem notTF_lst {xs : List V} : notTF (.lst xs) := ⟨fun _ h => (by cases h), fun _ _ h => (by cases h)⟩
theorem notTF_ext {o : Obj} : notTF (exact a o) := ⟨fun _ h => (by cases h), fun _ _ h => (by cases h)⟩
theorem OwA.fp {P : D → V → List Addr → Prop} {Fs : List (List Addr)} (h : OwA P ds vs Fs) {j : Nat} {d : D} (e : ds[j]? = some d) : ∃ v F, vs[j]? = some v ∧ Fs[j]? = some F ∧ P d v F := by
  induction h generalizing j with
  | nil => simp at e
  | @cons d' v F ds vs Fs p _ ih =>
    cases j with
    | zero => simp at e; subst e; exact ⟨v, F, rfl, rfl, p⟩
    | succ j =>
      obtain ⟨v', F', a, b, c⟩ := ih (by simpa using e)
      exact ⟨v', F', by simpa using a, by simpa using b, c⟩
theorem OwA.set {P : D → V → List Addr → Prop} {Fs : List (List Addr)} (h : OwA P ds vs Fs) {j : Nat} {d : D} {v : V} {F : List Addr} (p : P d v F) : OwA P (ds.set j d) (vs.set j v) (Fs.set j F) := by
  induction h generalizing j with
  | nil => exact .nil
  | cons q t ih =>
    cases j with
    | zero => exact .cons p t
    | succ j => exact .cons q ih
theorem mem_flatten_set {Fs : List (List Addr)} {j : Nat} {F : List Addr} {p : Addr} (h : p ∈ (Fs.set j F).flatten) : p ∈ Fs.flatten ∨ p ∈ F := by
  obtain ⟨G, hG, hp⟩ := List.mem_flatten.mp h
  rcases List.mem_or_eq_of_mem_set hG with h | h
  · exact .inl (List.mem_flatten.mpr ⟨G, h, hp⟩)
  · exact .inr (h ▸ hp)
theorem nodup_flatten_set : ∀ {Fs : List (List Addr)} {j : Nat} {F : List Addr}, Fs.flatten.Nodup → F.Nodup → (∀ p ∈ F, p ∉ Fs.flatten) → (Fs.set j F).flatten.Nodup
  | [], _, _, h, _, _ => h
  | G :: Fs, 0, F, h, hF, hd => by
    rw [List.set_cons_zero, List.flatten_cons, List.nodup_append]
    rw [List.flatten_cons, List.nodup_append] at h
    refine ⟨hF, h.2.1, fun a ha b hb e => hd a ha ?_⟩
    rw [List.flatten_cons, List.mem_append]
    exact .inr (e ▸ hb)
  | G :: Fs, j + 1, F, h, hF, hd => by
    rw [List.set_cons_succ, List.flatten_cons, List.nodup_append]
    rw [List.flatten_cons, List.nodup_append] at h
    have hd' : ∀ p ∈ F, p ∉ Fs.flatten := fun p hp hq => hd p hp (by rw [List.flatten_cons, List.mem_append]; exact .inr hq)
    refine ⟨h.1, nodup_flatten_set h.2.1 hF hd', fun a ha b hb e => ?_⟩
    rcases mem_flatten_set hb with hb | hb
    · exact h.2.2 a ha b hb e
    · exact hd b hb (by rw [List.flatten_cons, List.mem_append]; exact .inl (e ▸ ha))
/-- owned items, where a has changed and the region has grown -/
theorem OwA.moved {Z Z' : Addr → Prop} {Fs : List (List Addr)} (e : H a = some o₀) (hn : notTF o₀) (h : OwA (fun d v F => Ow M Z H k d v F) ds vs Fs) (hz : ∀ p, Z p → p ≠ a) (hf : ∀ F ∈ Fs, ∀ p ∈ F, p ≠ a) (w : ∀ p, Z p → H p ≠ none → Z' p) :
    OwA (fun d v F => Ow M Z' (upd H a o) k d v F) ds vs Fs :=
  h.imp fun d v F hF q => Ow.wide (fun p hp hh => w p hp (by rwa [upd_ne (hz p hp)] at hh)) (Ow.keep (Kp.upd (fun p hp => hp.elim (hz p) (hf F hF p)) e hn) q)
end

/-! ### x.append(e), x.extend(e), y = x.pop(), x[i] = e -/
def wApp (i : Nat) (a : WE) : WS := fun D Γ => match Γ[i]? with
  | some (.own (k + 1) (.list ds)) => a Γ fun r => match dat r with
    | some d => itm k r ∧ ds.length < sizeLine ∧ D.nx (Γ.set i (.own (k + 1) (.list (ds ++ [d]))))
    | none => False
  | _ => False
section
variable {X : Cx} {C : Cv} {e : Expr} {we : WE} {pos p p1 p2 apos : Pos} {i j : Nat} {x y : Str} {Γ : List Sl} {σ : L2.St} {Fs : Fp} {H : Hp}
/-- slot i's list -/
theorem ER.lst (er : ER (md X) C Fs Γ σ H) {k : Nat} {ds : List D} (e : Γ[i]? = some (.own (k + 1) (.list ds))) :
    ∃ a vs Gs, σ[i]? = some (some (.ref a)) ∧ Fs i = a :: Gs.flatten ∧ H a = some (.lst vs) ∧ OwA (fun d v F => Ow (md X) (Zf C Fs) H k d v F) ds vs Gs ∧ i < Γ.length := by
  obtain ⟨v, ev, sl⟩ := er.sl_of e rfl
  obtain ⟨a, vs, Gs, e1, e2, e3, e4⟩ := (show Ow (md X) (Zf C Fs) H (k + 1) (.list ds) v (Fs i) from sl)
  subst e1
  exact ⟨a, vs, Gs, ev, e2, e3, e4, (List.getElem?_eq_some_iff.mp e).1⟩
theorem vs_app (hN : X.N[i]? = some x := by rfl) (hv : Vis X.env.scope x := by first | exact Or.inl rfl | exact Or.inr (Or.inl rfl) | exact Or.inr (Or.inr rfl)) (ha : VP X C e we) (hd : (x == ("__debug__" : Str)) = false := by decide) (hcd : (x == ("__classdict__" : Str)) = false := by decide)
    (hs : swapsWith (.Call (.Attribute (.Name x p1) "append" apos) [e] [] p) none pos.line X.env = pure false := by rfl)
    (hbase : attributeBase (.Name x p1) "append" X.env (eval (.Name x p1) X.env) = eval (.Name x p1) X.env := by rfl)
    (hfew : ((backTo p (starEach [e] X.env)).all (fun x => !x.1) && (backToKw p (keywordEach [] X.env)).all (fun x => x.1.isSome) && decide ([e].length + ([] : List Keyword).length + (if ([] : List Keyword).isEmpty then 0 else 1) < 30)) = true := by rfl)
    (hline : (apos.endLine == p.line) = true := by rfl) (he : starEach [e] X.env = (false, eval e X.env) :: starEach [] X.env := by rfl) (hpl : (backTo p (starEach [] X.env)).any (·.1) = false := by rfl) :
    VPS X C (.Expr (.Call (.Attribute (.Name x p1) "append" apos) [e] [] p) pos) (wApp i we) := ⟨fun Γ D q Fs σ H er => by
  unfold wApp at q
  split at q
  · rename_i k ds eΓ
    obtain ⟨n, hl, hn⟩ := er.fp.free Γ.length
    obtain ⟨a, vs, Gs, ev, eF, ea, ow, hi⟩ := er.lst eΓ
    refine PS.wk (ps_expr (pe_bm PySem.F.plainAttrs_list PySem.F.slot_list_append PySem.F.type_list_append mt_append (pe_var hN hv hd hcd) (pa_cons pe_wk pa_nil he) hbase hfew hline he hpl) hs) ?_
    refine ⟨.ref a, ev, .inl ⟨rfl, vs, .inl (.inl ea)⟩, (ha.run Γ _ q Fs σ H n er hl hn).mono fun y H1 ⟨r, F, q, res⟩ => ?_⟩
    have er1 := res.er er hl hn
    obtain ⟨a', vs', Gs', ev', eF', ea', ow', _⟩ := er1.lst eΓ
    rw [ev] at ev'
    cases ev'
    split at q
    · rename_i d ed
      obtain ⟨q1, q2, q3⟩ := q
      obtain ⟨G, g1, g2, g3⟩ := res.sl.itm er1.fp ed q1
      have hin : i ≠ n := by omega
      have hlen := ow'.len
      refine ⟨a, vs', y, rfl, rfl, ea', by rw [hlen.1]; exact q2, ?_⟩
      -- the footprints joined
      have nd0 := er1.fp.nd i
      rw [eF', List.nodup_cons] at nd0
      have apG : ∀ p ∈ G, p ∉ updF Fs n F i := fun p hp hq => hin (er1.fp.dj i n p hq (g2 p hp))
      have nd1 : (a :: (Gs' ++ [G]).flatten).Nodup := by
        rw [List.flatten_append, List.nodup_cons, List.nodup_append]
        have e1 : ([G] : List (List Addr)).flatten = G := by simp
        rw [e1]
        refine ⟨fun h => ?_, nd0.2, g1, fun p hp z hz e => apG z hz (by rw [eF']; exact List.mem_cons_of_mem _ (e ▸ hp))⟩
        rcases List.mem_append.mp h with h | h
        · exact nd0.1 h
        · exact apG a h (by rw [eF']; exact List.mem_cons_self)
      have sub1 : ∀ p ∈ a :: (Gs' ++ [G]).flatten, p ∈ updF Fs n F i ∨ p ∈ updF Fs n F n := fun p hp => by
        rw [eF']
        rcases List.mem_cons.mp hp with e | hp
        · subst e; exact .inl List.mem_cons_self
        · rw [List.flatten_append] at hp
          rcases List.mem_append.mp hp with hp | hp
          · exact .inl (List.mem_cons_of_mem _ hp)
          · exact .inr (g2 p (by simpa using hp))
      have haF : a ∈ updF Fs n F i := by rw [eF']; exact List.mem_cons_self
      have fj := er1.fp.join (i := i) (n := n) (Ne.symm hin) nd1 sub1
      have eI : updF (updF (updF Fs n F) n []) i (a :: (Gs' ++ [G]).flatten) i = a :: (Gs' ++ [G]).flatten := updF_same
      have fu := fj.upd (i := i) (a := a) (o := .lst (vs' ++ [y])) (by rw [eI]; exact List.mem_cons_self) ea' notTF_lst
      have own := ownd_join (Fs := updF Fs n F) (i := i) (n := n) sub1
      have nz : ∀ p, Zf C (updF Fs n F) p → p ≠ a := fun p hp z => hp.1 ⟨i, z ▸ haF⟩
      have w1 : ∀ p, Zf C (updF Fs n F) p → H1 p ≠ none → Zf C (updF (updF (updF Fs n F) n []) i (a :: (Gs' ++ [G]).flatten)) p := fun p hp _ => Zf.sub own p hp
      have w2 : ∀ p, (Zf C (updF Fs n F) p ∨ (p ∈ updF Fs n F n ∧ p ∉ G)) → H1 p ≠ none → Zf C (updF (updF (updF Fs n F) n []) i (a :: (Gs' ++ [G]).flatten)) p := fun p hp hh => by
        rcases hp with hp | ⟨hp, hg⟩
        · exact w1 p hp hh
        · obtain ⟨c1, c2, c3⟩ := er1.fp.fr n p hp
          refine ⟨fun ⟨l, hl'⟩ => ?_, c2, .inr c1⟩
          by_cases el : l = i
          · subst el
            rw [updF_same] at hl'
            rcases List.mem_cons.mp hl' with e | hl'
            · subst e; exact hin (er1.fp.dj _ _ p haF hp)
            · rw [List.flatten_append] at hl'
              rcases List.mem_append.mp hl' with h | h
              · exact hin (er1.fp.dj _ _ p (by rw [eF']; exact List.mem_cons_of_mem _ h) hp)
              · exact hg (by simpa using h)
          · rw [updF_ne el] at hl'
            by_cases el' : l = n
            · subst el'; rw [updF_same] at hl'; simp at hl'
            · rw [updF_ne el'] at hl'; exact el' (er1.fp.dj l n p hl' hp)
      have sl' : SlR (md X) C (updF (updF (updF Fs n F) n []) i (a :: (Gs' ++ [G]).flatten)) (upd H1 a (.lst (vs' ++ [y]))) i (.own (k + 1) (.list (ds ++ [d]))) (.ref a) := by
        refine ⟨a, vs' ++ [y], Gs' ++ [G], rfl, updF_same, upd_same, OwA.append (OwA.moved ea' notTF_lst ow' nz (fun F' hF' p hp z => ?_) w1) (.cons ?_ .nil)⟩
        · subst z; exact nd0.1 (List.mem_flatten.mpr ⟨F', hF', hp⟩)
        · refine Ow.wide (fun p hp hh => ?_) (Ow.keep (Kp.upd (fun p hp => ?_) ea' notTF_lst) g3)
          · have pa : p ≠ a := by
              rcases hp with hp | ⟨hp, _⟩
              · exact nz p hp
              · intro z; subst z; exact hin (er1.fp.dj i n p haF hp)
            rw [upd_ne pa] at hh
            exact w2 p hp hh
          · rcases hp with (hp | ⟨hp, _⟩) | hp
            · exact nz p hp
            · intro z; subst z; exact hin (er1.fp.dj i n p haF hp)
            · intro z; subst z; exact hin (er1.fp.dj i n p haF (g2 p hp))
      obtain ⟨er2, fz2⟩ := er1.mut ev hi haF ea' notTF_lst (fun l h1 h2 => by rw [updF_ne h1, updF_ne (by omega)]) own fu sl'
      exact ⟨_, _, q3, er2, (res.fz hn).trans fz2⟩
    · exact q.elim
  · exact q.elim⟩
end
end VL
namespace VL
open PySem PySem.Spec PyProof.Rows L2

/-! ### one more item -/
section
variable {M : Md} {C : Cv} {Γ : List Sl} {σ : L2.St} {Fs Fs' : Fp} {H H1 H' : Hp} {n k i : Nat} {r : Sl} {F G : List Addr} {v y : V} {d : D} {ds : List D} {a : Addr} {o o₀ : HO}
theorem SlR.app (f : FpR C Fs H) (q : SlR M C Fs H i (.own (k + 1) (.list ds)) (.ref a)) (h : SlR M C Fs H n r y) (e : dat r = some d) (z : VL.itm k r) (hin : i ≠ n) :
    ∃ vs Fs', H a = some (.lst vs) ∧ vs.length = ds.length ∧ a ∈ Fs i ∧ FpR C Fs' (upd H a (.lst (vs ++ [y]))) ∧ SlR M C Fs' (upd H a (.lst (vs ++ [y]))) i (.own (k + 1) (.list (ds ++ [d]))) (.ref a) ∧
      (∀ j, j ≠ i → j ≠ n → Fs' j = Fs j) ∧ Fs' n = [] ∧ (∀ p, ownd Fs' p → ownd Fs p) ∧ ∀ p ∈ Fs' i, p ∈ Fs i ∨ p ∈ Fs n := by
  obtain ⟨a', vs, Gs, e1, eF, ea, ow⟩ := (show Ow M (Zf C Fs) H (k + 1) (.list ds) (.ref a) (Fs i) from q)
  cases e1
  obtain ⟨G, g1, g2, g3⟩ := h.itm f e z
  have hlen := ow.len
  have nd0 := f.nd i
  rw [eF, List.nodup_cons] at nd0
  have apG : ∀ p ∈ G, p ∉ Fs i := fun p hp hq => hin (f.dj i n p hq (g2 p hp))
  have haF : a ∈ Fs i := by rw [eF]; exact List.mem_cons_self
  have nd1 : (a :: (Gs ++ [G]).flatten).Nodup := by
    rw [List.flatten_append, List.nodup_cons, List.nodup_append]
    have e1 : ([G] : List (List Addr)).flatten = G := by simp
    rw [e1]
    refine ⟨fun h => ?_, nd0.2, g1, fun p hp z hz e => apG z hz (by rw [eF]; exact List.mem_cons_of_mem _ (e ▸ hp))⟩
    rcases List.mem_append.mp h with h | h
    · exact nd0.1 h
    · exact apG a h haF
  have sub1 : ∀ p ∈ a :: (Gs ++ [G]).flatten, p ∈ Fs i ∨ p ∈ Fs n := fun p hp => by
    rw [eF]
    rcases List.mem_cons.mp hp with e | hp
    · subst e; exact .inl List.mem_cons_self
    · rw [List.flatten_append] at hp
      rcases List.mem_append.mp hp with hp | hp
      · exact .inl (List.mem_cons_of_mem _ hp)
      · exact .inr (g2 p (by simpa using hp))
  have fj := f.join (i := i) (n := n) (Ne.symm hin) nd1 sub1
  have eI : updF (updF Fs n []) i (a :: (Gs ++ [G]).flatten) i = a :: (Gs ++ [G]).flatten := updF_same
  have fu := fj.upd (i := i) (a := a) (o := .lst (vs ++ [y])) (by rw [eI]; exact List.mem_cons_self) ea notTF_lst
  have own := ownd_join (Fs := Fs) (i := i) (n := n) sub1
  have nz : ∀ p, Zf C Fs p → p ≠ a := fun p hp z => hp.1 ⟨i, z ▸ haF⟩
  have w1 : ∀ p, Zf C Fs p → H p ≠ none → Zf C (updF (updF Fs n []) i (a :: (Gs ++ [G]).flatten)) p := fun p hp _ => Zf.sub own p hp
  refine ⟨vs, updF (updF Fs n []) i (a :: (Gs ++ [G]).flatten), ea, hlen.1, haF, fu, ?_, fun j h1 h2 => by rw [updF_ne h1, updF_ne h2], by rw [updF_ne (Ne.symm hin), updF_same], own, fun p hp => sub1 p (by rwa [updF_same] at hp)⟩
  refine ⟨a, vs ++ [y], Gs ++ [G], rfl, updF_same, upd_same, OwA.append (OwA.moved ea notTF_lst ow nz (fun F' hF' p hp z => ?_) w1) (.cons ?_ .nil)⟩
  · subst z; exact nd0.1 (List.mem_flatten.mpr ⟨F', hF', hp⟩)
  · refine Ow.wide (fun p hp hh => ?_) (Ow.keep (Kp.upd (fun p hp => ?_) ea notTF_lst) g3)
    · rcases hp with hp | ⟨hp, hg⟩
      · have pa : p ≠ a := nz p hp
        rw [upd_ne pa] at hh
        exact w1 p hp hh
      · obtain ⟨c1, c2, c3⟩ := f.fr n p hp
        refine ⟨fun ⟨l, hl'⟩ => ?_, c2, .inr c1⟩
        by_cases el : l = i
        · subst el
          rw [updF_same] at hl'
          rcases List.mem_cons.mp hl' with e | hl'
          · subst e; exact hin (f.dj _ _ p haF hp)
          · rw [List.flatten_append] at hl'
            rcases List.mem_append.mp hl' with h | h
            · exact hin (f.dj _ _ p (by rw [eF]; exact List.mem_cons_of_mem _ h) hp)
            · exact hg (by simpa using h)
        · rw [updF_ne el] at hl'
          by_cases el' : l = n
          · subst el'; rw [updF_same] at hl'; simp at hl'
          · rw [updF_ne el'] at hl'; exact el' (f.dj l n p hl' hp)
    · rcases hp with (hp | ⟨hp, _⟩) | hp
      · exact nz p hp
      · intro z; subst z; exact hin (f.dj i n p haF hp)
      · intro z; subst z; exact hin (f.dj i n p haF (g2 p hp))
/-- a held thing, no slot's, has changed at a -/
theorem ER.mutT (er : ER M C Fs Γ σ H) (ha : a ∈ Fs i) (hi : Γ.length ≤ i) (e : H a = some o₀) (hn : notTF o₀) (oth : ∀ j, j < Γ.length → Fs' j = Fs j) (sub : ∀ p, ownd Fs' p → ownd Fs p) (f' : FpR C Fs' (upd H a o)) : ER M C Fs' Γ σ (upd H a o) := by
  have kz : ∀ {Z : Addr → Prop}, (∀ p, Z p → p ≠ a) → Kp Z H (upd H a o) := fun hz => Kp.upd hz e hn
  have na : ∀ p, ¬ ownd Fs p → p ≠ a := fun p hp z => hp ⟨i, z ▸ ha⟩
  refine ⟨f', er.len, fun j t hj hlv => ?_, fun j hj => (oth j (List.getElem?_eq_some_iff.mp hj).1).trans (er.gn j hj)⟩
  have hj' := (List.getElem?_eq_some_iff.mp hj).1
  have ej : j ≠ i := by omega
  obtain ⟨u, q1, q2⟩ := er.sl j t hj hlv
  refine ⟨u, q1, ?_⟩
  have eF := oth j hj'
  cases t with
  | gone => trivial
  | own k d =>
    have q2 : Ow M (Zf C Fs) H k d u (Fs j) := q2
    show Ow M (Zf C Fs') (L2.upd H a o) k d u (Fs' j)
    rw [eF]
    refine Ow.wide (fun p hp _ => Zf.sub sub p hp) (Ow.keep (kz fun p hp => ?_) q2)
    rcases hp with hp | hp
    · exact na p hp.1
    · intro z; subst z; exact ej (er.fp.dj j i p hp ha)
  | bor d =>
    refine ⟨eF.trans q2.1, Rp.keep (kz fun p hp z => ?_) _ _ q2.2⟩
    subst z; exact hp.2 (er.fp.fr i p ha).1
  | now d => cases hlv
  | hnd =>
    obtain ⟨e1, b, eb, hb, hat⟩ := q2
    exact ⟨eF.trans e1, b, eb, hb, hat.keep hb fun c u hc q => by
      rw [upd_ne (fun z => (er.fp.fr i a ha).2.1 (by rw [← z]; exact hc))]; exact q⟩
/-- a fresh thing changes -/
theorem SameX.mut {hd : Addr → Prop} (x : SameX hd H1 H) (h0 : H1 a = none) (h1 : ¬ hd a) : SameX hd H1 (L2.upd H a o) := by
  have ne : ∀ p u, H1 p = some u → p ≠ a := fun p u q z => by rw [z, h0] at q; cases q
  have nh : ∀ c, hd c → c ≠ a := fun c hc z => h1 (z ▸ hc)
  refine ⟨⟨fun p u z q => by rw [upd_ne (ne p u q)]; exact x.kp.z p u z q, fun p xs q => by rw [upd_ne (ne p _ q)]; exact x.kp.t p xs q, fun p ob u q => by rw [upd_ne (ne p _ q)]; exact x.kp.f p ob u q⟩, fun p hp q => ?_, fun p hp q => ?_⟩
  · exact (x.hand p hp q).keep hp fun c u hc e => by rw [upd_ne (nh c hc)]; exact e
  · exact (x.cell p hp q).keep fun u e => by rw [upd_ne (nh p hp)]; exact e
theorem wipe_in {σ : L2.St} {i : Nat} : ∀ {vs : List Nat}, i ∈ vs → i < σ.length → (wipe σ vs)[i]? = some none
  | v :: vs, h, hl => by
    unfold wipe
    by_cases e : v = i
    · subst e
      rw [List.getElem?_set_self (by rw [wipe_length]; exact hl)]
    · rw [List.getElem?_set_ne e]
      exact wipe_in (by simpa [Ne.symm e] using h) hl
theorem wipe_eq {σ τ : L2.St} {vs : List Nat} (hl : σ.length = τ.length) (h : ∀ j, j ∉ vs → σ[j]? = τ[j]?) : wipe σ vs = wipe τ vs := by
  apply List.ext_getElem?
  intro j
  by_cases hj : j ∈ vs
  · by_cases hlt : j < σ.length
    · rw [wipe_in hj hlt, wipe_in hj (hl ▸ hlt)]
    · rw [List.getElem?_eq_none (by rw [wipe_length]; omega), List.getElem?_eq_none (by rw [wipe_length]; omega)]
  · rw [wipe_out hj, wipe_out hj]; exact h j hj
theorem ER.wipe (er : ER M C Fs Γ σ H) {vs : List Nat} (h : ∀ j ∈ vs, Γ[j]? = some .gone) : ER M C Fs Γ (wipe σ vs) H :=
  ⟨er.fp, by rw [wipe_length]; exact er.len, fun j s hs hl => by
    have nj : j ∉ vs := fun hj => by
      rw [h j hj] at hs; cases hs; cases hl
    rw [wipe_out nj]
    exact er.sl j s hs hl, er.gn⟩
end

/-! ### [e for t in it if c] -/
def wkTs (X : Cx) (ifs : List Expr) : TT := fun σ H Q => ∀ (pins : List (Addr × Obj)) (s : Shared), Inv X pins σ H s →
  wpAny (model X.prog X.w) X.A (forIn ifs true fun c r => if r = true then do let ok ← isTrue c X.env (eval c X.env); pure (ForInStep.yield ok) else pure (ForInStep.yield r)) (TP X pins σ Q) X.xe s
structure VPTs (X : Cx) (C : Cv) (ifs : List Expr) (w : WT) : Prop where
  run : ∀ Γ R, w Γ R → ∀ (Fs : Fp) (σ : L2.St) (H : Hp), ER (md X) C Fs Γ σ H → wkTs X ifs σ H fun b H' => R b ∧ SameX C.hd H H'
def wYes : WT := fun _ R => R true
theorem vts_nil {X : Cx} {C : Cv} : VPTs X C [] wYes := ⟨fun Γ R h Fs σ H er pins s I => pts_nil.run pins s σ H _ I (show tYes σ H _ from ⟨h, .refl _ _⟩)⟩
theorem vts_one {X : Cx} {C : Cv} {c : Expr} {w : WT} (h : VPT X C c w) : VPTs X C [c] w := ⟨fun Γ R q Fs σ H er pins s I => (pts_one pt_wk).run pins s σ H _ I (h.run Γ R q Fs σ H er)⟩
theorem wkTs.mono {X : Cx} {ifs : List Expr} {σ : L2.St} {H : Hp} {Q Q' : Bool → Hp → Prop} (h : wkTs X ifs σ H Q) (f : ∀ v H', Q v H' → Q' v H') : wkTs X ifs σ H Q' := fun pins s I => thn (h pins s I) fun v _ ⟨H', I', q⟩ => ⟨H', I', f v H' q⟩
abbrev blkX (X : Cx) (scope : Scope) (s : Shared) (H : Hp) (a : Addr) (cl : List (Str × Addr)) (fp : List Addr) : Cx := X.blk s H scope (compEnvC scope cl a X.env) fp
def bG (X : Cx) (scope : Scope) (tg : Expr) : TG := fun v σ H Q => ∀ s H0 a cl fp, wkG (blkX X scope s H0 a cl fp) tg v σ H Q
def bT (X : Cx) (scope : Scope) (ifs : List Expr) : TT := fun σ H Q => ∀ s H0 a cl fp, wkTs (blkX X scope s H0 a cl fp) ifs σ H Q
def bE (X : Cx) (scope : Scope) (e : Expr) : TE := fun σ H Q => ∀ s H0 a cl fp, wkE (blkX X scope s H0 a cl fp) e σ H Q
theorem bG_ok {X : Cx} {scope : Scope} {tg : Expr} (s : Shared) (H : Hp) (a : Addr) (cl : List (Str × Addr)) (fp : List Addr) : PG (blkX X scope s H a cl fp) tg (bG X scope tg) := ⟨fun pins s _ _ _ u _ I r h => h _ _ _ _ _ pins s u I r⟩
theorem bT_ok {X : Cx} {scope : Scope} {ifs : List Expr} (s : Shared) (H : Hp) (a : Addr) (cl : List (Str × Addr)) (fp : List Addr) : PTs (blkX X scope s H a cl fp) ifs (bT X scope ifs) := ⟨fun pins s _ _ _ I h => h _ _ _ _ _ pins s I⟩
theorem bE_ok {X : Cx} {scope : Scope} {e : Expr} (s : Shared) (H : Hp) (a : Addr) (cl : List (Str × Addr)) (fp : List Addr) : PE (blkX X scope s H a cl fp) e (bE X scope e) := ⟨fun pins s _ _ _ I h => h _ _ _ _ _ pins s I⟩
def lcP (k : Nat) (P : D → Prop) (r : Sl) : Prop := match dat r with
  | some x => itm k r ∧ P x
  | none => False
def wLc (k : Nat) (vs : List Nat) (it : WI) (g : WG) (tt : WT) (we : WE) : WE := fun Γ R => (∀ j ∈ vs, Γ[j]? = some .gone) ∧ it Γ fun ds => ds.length ≤ sizeLine ∧ ∃ I : Nat → List D → Prop, I 0 [] ∧
  (∀ i d acc, ds[i]? = some d → I i acc → g d Γ fun Γ2 => tt Γ2 fun b => cnd b (we Γ2 (lcP k fun x => I (i + 1) (acc ++ [x]))) (I (i + 1) acc)) ∧ ∀ acc, I ds.length acc → R (.own (k + 1) (.list acc))
section
variable {X : Cx} {C : Cv} {elt tg iter : Expr} {ifs : List Expr} {scope : Scope} {own : List (Str × Nat)} {pos : Pos} {it : WI} {g : WG} {tt : WT} {we : WE} {ws : List Nat} {Γ : List Sl} {σ : L2.St} {Fs : Fp} {H : Hp} {R : Sl → Prop} {n : Nat}
theorem lc_go (k : Nat) (hi : VPI X C tg iter it) (hg : ∀ s H a cl fp, VPG (blkX X scope s H a cl fp) C tg ws g) (ht : ∀ s H a cl fp, VPTs (blkX X scope s H a cl fp) C ifs tt) (he : ∀ s H a cl fp, VP (blkX X scope s H a cl fp) C elt we) {vs : List Nat} (hws : ∀ j ∈ ws, j ∈ vs)
    (q : wLc k vs it g tt we Γ R) (er : ER (md X) C Fs Γ σ H) (hl : Γ.length ≤ n) (hn : Fs n = []) {Q : VK} (hQ : ∀ v H' r F, R r → Res (md X) C Fs n H H' r F v → Q v H') :
    tLc (wkI X tg iter) (bG X scope tg) (bT X scope ifs) (bE X scope elt) vs σ H Q := by
  obtain ⟨hgone, q⟩ := q
  show wkI X tg iter σ H _
  intro pins s I0
  refine thn (hi.run Γ _ q Fs σ H er pins s I0) fun v s1 h1 => thn h1 fun itv s2 ⟨it', fp, tn, J, H1, e, I2, T, st, hf, sm, ds, ⟨hsz, Iv, i0, turn, fin⟩, gd⟩ => ⟨it', fp, tn, J, H1, e, I2, T, st, hf, ?_⟩
  intro L hL
  have er1 := er.step sm
  have nhL := er1.fp.nohd hL
  refine ⟨fun i m H' => m = ds.length - i ∧ i ≤ ds.length ∧ ∃ acc F, Iv i acc ∧ acc.length ≤ i ∧ ER (md X) C (updF Fs n F) Γ σ H' ∧ SameX C.hd H1 H' ∧ (∀ p ∈ F, H1 p = none) ∧ SlR (md X) C (updF Fs n F) H' n (.own (k + 1) (.list acc)) (.ref L), ⟨_, rfl, Nat.zero_le _, [], [L], i0, Nat.le_refl _, ?_, same_new C.hd hL, fun p hp => ?_, ?_⟩, ?_⟩
  · exact er1.lay (same_new C.hd hL) (List.nodup_cons.mpr ⟨by simp, List.nodup_nil⟩) (fun p hp => by
      have e : p = L := by simpa using hp
      subst e
      exact ⟨hL, nhL, by rw [upd_same]; exact Option.some_ne_none _⟩) hn hl
  · have e : p = L := by simpa using hp
    subst e; exact hL
  · exact ⟨L, [], [], rfl, updF_same, upd_same, .nil⟩
  · rintro i m H' ⟨rfl, hile, acc, F, iv, hal, er', x1, hF, sl⟩
    have fz' : ∀ {H'}, SameX C.hd H1 H' → Fz C Fs H1 (updF Fs n F) H' := fun x => ⟨Zf.lay hF (fun p hp => by rw [hn] at hp; simp at hp), x.kp.mono fun p hp => hp.2.1⟩
    by_cases hlt : i < ds.length
    · refine .inr ⟨gd.go i _ H' (fz' x1) er'.fp hlt, fun H4 => ∃ acc F, Iv (i + 1) acc ∧ acc.length ≤ i + 1 ∧ ER (md X) C (updF Fs n F) Γ σ H4 ∧ SameX C.hd H1 H4 ∧ (∀ p ∈ F, H1 p = none) ∧ SlR (md X) C (updF Fs n F) H4 n (.own (k + 1) (.list acc)) (.ref L), fun H4 h4 => ⟨_, ?_, rfl, hlt, h4⟩, fun x H'' y => ?_⟩
      · omega
      · obtain ⟨sx, d, hd, hr⟩ := gd.yld i _ H' x H'' (fz' x1) er'.fp hlt y
        have er2 := er'.step sx
        have sl2 := sl.step sx er'.fp
        have x2 := x1.trans sx
        have nvs : n ∉ vs := fun h => by
          have := (List.getElem?_eq_some_iff.mp (hgone n h)).1
          omega
        intro s0 H0 a0 cl0 fp0
        refine ((hg s0 H0 a0 cl0 fp0).run d Γ _ (turn i d acc hd iv) _ _ H'' x (er2.wipe hgone) hr).mono fun σ2 H2 ⟨eH, Fs2, Γ2, k2, er3, bt⟩ => ?_
        subst eH
        have eF : Fs2 = updF Fs n F := by
          funext j
          rcases bt.fs j with e | ⟨hj, e⟩
          · exact e
          · rw [e, er2.gn j (hgone j (hws j hj))]
        subst eF
        have len2 : σ2.length = σ.length := by rw [er3.len, bt.len, er2.len]
        refine ⟨?_, fun s0 H0 a0 cl0 fp0 => ((ht s0 H0 a0 cl0 fp0).run Γ2 _ k2 _ σ2 H2 er3).mono fun b H3 ⟨k3, x3⟩ => ?_⟩
        · refine wipe_eq len2 fun j hj => ?_
          rw [(bt.sl j fun h => hj (hws j h)).2, wipe_out hj]
        · have er3' := er3.step x3
          have er4 := er2.step x3
          have sl4 := sl2.step x3 er2.fp
          have x4 := x2.trans x3
          cases b with
          | false =>
            simp only [Bool.false_eq_true, if_false]
            have k3 := k3.2 rfl
            exact ⟨acc, F, k3, by omega, er4, x4, hF, sl4⟩
          | true =>
            simp only [if_true]
            have k3 := k3.1 rfl
            intro s0 H0 a0 cl0 fp0
            obtain ⟨n2, hn2, hn2'⟩ := er4.fp.free (max Γ.length (n + 1))
            have hl2 : Γ.length ≤ n2 := Nat.le_trans (Nat.le_max_left _ _) hn2
            have hlt2 : n < n2 := Nat.le_trans (Nat.le_max_right Γ.length _) hn2
            refine ((he s0 H0 a0 cl0 fp0).run Γ2 _ k3 _ σ2 H3 n2 er3' (by rw [bt.len]; exact hl2) hn2').mono fun y H4 ⟨r, F2, k4, res⟩ => ?_
            have er5 := res.er er4 hl2 hn2'
            have sl5 := sl4.laid (F := F2) (n := n2) res.same er4.fp (fun p hp => (res.fr p hp).1) hn2' (Nat.ne_of_lt hlt2)
            have x5 := x4.trans res.same
            unfold lcP at k4
            split at k4
            · rename_i dd ed
              obtain ⟨k5, k6⟩ := k4
              obtain ⟨vs', Fs', e1, e2, e3, e4, e5, e6, e7, e8, e9⟩ := SlR.app er5.fp sl5 res.sl ed k5 (Nat.ne_of_lt hlt2)
              refine ⟨vs', e1, by omega, ?_⟩
              have eFs : Fs' = updF Fs n (Fs' n) := by
                funext j
                by_cases hj : j = n
                · subst hj; rw [updF_same]
                · rw [updF_ne hj]
                  by_cases hj2 : j = n2
                  · subst hj2
                    rw [e7]
                    rw [updF_ne hj] at hn2'
                    exact hn2'.symm
                  · rw [e6 j hj hj2, updF_ne hj2, updF_ne hj]
              rw [eFs] at e4 e5
              have er6 : ER (md X) C (updF Fs n (Fs' n)) Γ σ (upd H4 L (.lst (vs' ++ [y]))) := er5.mutT e3 hl e1 notTF_lst (fun j hj => by
                rw [updF_ne (by omega), updF_ne (by omega), updF_ne (by omega)]) (fun p hp => by rw [← eFs] at hp; exact e8 p hp) e4
              refine ⟨acc ++ [dd], Fs' n, k6, by simp; omega, er6, x5.mut hL nhL, fun p hp => ?_, e5⟩
              rcases e9 p hp with hp | hp
              · rw [updF_ne (Nat.ne_of_lt hlt2), updF_same] at hp
                exact hF p hp
              · rw [updF_same] at hp
                have h0 := (res.fr p hp).1
                have h1 := (res.fr p hp).2.1
                cases z : H1 p with
                | none => rfl
                | some o => exact absurd h0 (x4.trk h1 (by rw [z]; exact Option.some_ne_none _))
            · exact k4.elim
    · have e : i = ds.length := by omega
      subst e
      refine .inl ⟨gd.stop _ _ H' (fz' x1) er'.fp (Nat.le_refl _), hQ _ _ _ F (fin acc iv) ⟨sm.trans x1, ?_, fun p hp => ?_, sl⟩⟩
      · have := er'.fp.nd n; rwa [updF_same] at this
      · have hp' : p ∈ updF Fs n F n := by rw [updF_same]; exact hp
        obtain ⟨_, b1, c1⟩ := er'.fp.fr n p hp'
        refine ⟨?_, b1, c1⟩
        cases z : H p with
        | none => rfl
        | some o => exact absurd (hF p hp) (sm.trk b1 (by rw [z]; exact Option.some_ne_none _))
theorem vp_lc (k : Nat) (own : List (Str × Nat)) (hc : X.calm = true) (hN : X.N.Nodup) (hi : VPI X C tg iter it) (ok : blkC X.N X.env.scope scope own = true) (hg : ∀ s H a cl fp, VPG (blkX X scope s H a cl fp) C tg ws g) (ht : ∀ s H a cl fp, VPTs (blkX X scope s H a cl fp) C ifs tt)
    (he : ∀ s H a cl fp, VP (blkX X scope s H a cl fp) C elt we) (hws : (ws.all fun j => decide (j ∈ own.map (·.2))) = true := by decide) (hs : ∀ x, foldedSetIterable iter X.env x = pure x := by intro _; rfl) :
    VP X C (.ListComp elt [⟨tg, iter, ifs, 0⟩] scope pos) (wLc k (own.map (·.2)) it g tt we) := ⟨fun Γ R q Fs σ H n er hl hn =>
  PE.wk (pe_lc hc hN pi_wk (blkOk_by ok) bG_ok bT_ok bE_ok hs) (lc_go k hi hg ht he (fun j hj => by simpa using (List.all_eq_true.mp hws) j hj) q er hl hn fun v H' r F h1 h2 => ⟨r, F, h1, h2⟩)⟩
theorem vs_lc (L i k : Nat) (own : List (Str × Nat)) {x : Str} {px spos : Pos} (hc : X.calm = true) (hN : X.N.Nodup) (hx : X.N[i]? = some x) (hxl : X.env.scope.names.lookup x = some .local) (hi : VPI X C tg iter it) (ok : blkC X.N X.env.scope scope own = true) (hg : ∀ s H a cl fp, VPG (blkX X scope s H a cl fp) C tg ws g) (ht : ∀ s H a cl fp, VPTs (blkX X scope s H a cl fp) C ifs tt)
    (he : ∀ s H a cl fp, VP (blkX X scope s H a cl fp) C elt we) (hsw : swapsWith (.ListComp elt [⟨tg, iter, ifs, 0⟩] scope pos) (some (.Name x px)) spos.line X.env = pure true) (hws : (ws.all fun j => decide (j ∈ own.map (·.2))) = true := by decide) (hs : ∀ x, foldedSetIterable iter X.env x = pure x := by intro _; rfl) :
    VPS X C (.Assign [.Name x px] (.ListComp elt [⟨tg, iter, ifs, 0⟩] scope pos) spos) (wSet L i (wLc k (own.map (·.2)) it g tt we)) := ⟨fun Γ D q Fs σ H er => by
  obtain ⟨n, hl, hn⟩ := er.fp.free Γ.length
  refine PS.wk (ps_setLc hc hN hx hxl hsw pi_wk (blkOk_by ok) bG_ok bT_ok bE_ok hs) ?_
  refine lc_go k hi hg ht he (fun j hj => by simpa using (List.all_eq_true.mp hws) j hj) q er hl hn fun v H1 r F q res => ?_
  show (liftD (md X) C Fs H D).nx _ _
  split at q
  · rename_i d e
    obtain ⟨q1, q2, q3⟩ := q
    obtain ⟨Fs', er', sub, _⟩ := (res.er er hl hn).store q1 hl res.sl e q2
    refine ⟨Fs', _, q3, er', ?_⟩
    exact (res.fz hn).trans (Fz.sub sub)
  · exact q.elim⟩
end
end VL
namespace VL
open PySem PySem.Spec PyProof.Rows L2

/-! ### enumerate(a tuple) -/
section
variable {prog : Program} {w : World} {A : Around} {E : Value → Shared → Prop} {s : Shared}
theorem enumNew {v : Value} {o : Obj} {H : Heap → Prop} (B : Begins v o H) :
    Meets (Builtin.«enumerate.__new__» ⟨[.type "enumerate", v], []⟩) (fun _ R s => H s.heap ∧
      R (.ok (.ret (.ref (s.heap.push o).objs.size))) { s with heap := (s.heap.push o).push { cls := .type "enumerate", data := .fields #[.none, .bool false, .ref s.heap.objs.size, rawInt 0, .none, .none] } }) :=
  .of_wp fun prog w A R s h => by
    obtain ⟨hp, g, d, tk, os⟩ := s; obtain ⟨h1, h⟩ := h
    have hsub := sub_enumerate
    have walked : ∀ {A' : Around} {E : Value → Shared → Prop} {Q : Value → Shared → Prop}, Q (.ref hp.objs.size) ⟨hp.push o, g, d, tk, os⟩ → wpAny (model prog w) A' (pyIter v) Q E ⟨hp, g, d, tk, os⟩ := fun q => B.iter prog w _ _ ⟨hp, g, d, tk, os⟩ _ h1 q
    wp_walk using walked
    refine wpAny_stack_any fun st => wpAny_pure ?_
    split
    · rename_i c _ _ _ _ _
      cases (c == Value.type "enumerate") <;> (wp_walk using walked; exact ⟨_, rfl, h⟩)
    · wp_walk using walked
      exact ⟨_, rfl, h⟩
theorem enumBegins {v : Value} {o : Obj} {H : Heap → Prop} {Q : Value → Shared → Prop} (B : Begins v o H) (h1 : H s.heap)
    (h : ∀ h', IsEnum h' (s.heap.objs.size + 1) s.heap.objs.size 0 .none → h'.get? s.heap.objs.size = some o → h'.objs.size = s.heap.objs.size + 2 →
      (∀ b o, s.heap.get? b = some o → h'.get? b = some o) → Q (.ref (s.heap.objs.size + 1)) { s with heap := h' }) : wpAny (model prog w) A (call (.type "enumerate") [v]) Q E s := by
  refine callType_new F.called_enumerate (by decide) (F.typeCall_enumerate_1 _) (F.newCall_enumerate_1 _) (fun obj => F.args_object_init_2 obj _) F.entry_enumerate_new (enumNew B) ⟨h1, ?_⟩
  have hz : (s.heap.push o).objs.size = s.heap.objs.size + 1 := Heap.size_push ..
  show _ ∧ _
  rw [hz]
  have he : IsEnum ((s.heap.push o).push { cls := .type "enumerate", data := .fields #[.none, .bool false, .ref s.heap.objs.size, rawInt 0, .none, .none] }) (s.heap.objs.size + 1) s.heap.objs.size 0 .none := by
    have t := Heap.get?_push_size (s.heap.push o) (o := { cls := .type "enumerate", data := .fields #[.none, .bool false, .ref s.heap.objs.size, rawInt 0, .none, .none] }) rfl
    rw [hz] at t; exact t
  refine ⟨⟨_, he, rfl⟩, h _ he (Heap.get?_push_of_some _ (Heap.get?_push_size _ B.free)) (by rw [Heap.size_push, hz]) fun b o x => Heap.get?_push_of_some _ (Heap.get?_push_of_some _ x)⟩
theorem enumEnds {e it t : Addr} {i : Nat} {items : Array Value} {old : Value} {Q : Option Value → Shared → Prop} (hh : A.handled = none) (he : IsEnum s.heap e it i old) (hit : s.heap.IsTupleIter it t i) (ht : s.heap.IsTuple t items) (hx : items[i]? = none)
    (hQ : ∀ h', Heap.ExtBut it s.heap h' → Q none { s with heap := h' }) : wpAny (model prog w) A (pyNext (.ref e)) Q E s := by
  have kind : s.TypeIs (.ref e) "enumerate" := ⟨_, he, rfl⟩
  unfold pyNext
  refine wpAny_bind (wpAny_attempt (wpAny_callSpecial?_slot (name := Str.ofString "__next__") kind F.slot_enumerate_next (wpAny_call_entry F.slot_enumerate_next kind F.entry_enumerate_next ?_ (F.args_enumerate_next_1 _))))
  show wpAny _ _ (field (.ref e) 2 >>= _) _ _ _
  refine wpAny_bind (wpAny_field he rfl (x := .ref it) rfl (wpAny_bind (wpAny_nextOf_tuple_end hh hit ht hx fun h' x he' hx' => ?_)))
  obtain ⟨o, ho, hc⟩ := hx'
  exact wpAny_bind (wpAny_isInstance (T := "StopIteration") (b := true) ⟨o, ho, hc⟩ isSubtype_stop (wpAny_pure (hQ _ he')))
end
/-- each item of the tuple at a in a new pair -/
def Ien (K : PySem.W.Frag) (a : Addr) : It :=
  ⟨fun i H => ∃ (xs : List V) (x : V), SqT K H a xs ∧ xs[i]? = some x, fun i H v H' => ∃ T x, v = .ref T ∧ H T = none ∧ H' = upd H T (.tup [.int (i : Nat), x]) ∧ ∀ xs, SqT K H a xs → xs[i]? = some x, fun i H => ∃ xs : List V, SqT K H a xs ∧ xs.length ≤ i⟩
theorem turnEn {P : Program} {w : World} {K : PySem.W.Frag} {elts : List Expr} {kk : Nat} {tpos : Pos} (a e it : Addr) :
    Turn P w K (.Tuple elts kk tpos) (Ien K a) [e, it] e (fun i h => (∃ old, IsEnum h e it ((i : Nat) : Int) old) ∧ h.IsTupleIter it a i ∧ e ≠ it ∧ a ≠ it ∧ a ≠ e) where
  mem := List.mem_cons_self
  obj := fun i h st b hb => by
    obtain ⟨⟨old, he⟩, ⟨o, ho, hc, hd⟩, _⟩ := st
    rcases List.mem_cons.mp hb with z | hb
    · rw [z]; exact ⟨_, he, fun v q => nomatch q⟩
    · rw [List.mem_singleton.mp hb]; exact ⟨o, ho, fun v q => by rw [hd] at q; cases q⟩
  keep := fun i h h' st k => let ⟨⟨old, he⟩, hi, hne⟩ := st; ⟨⟨old, k e (by simp) _ he⟩, hi.at fun o q => k it (by simp) o q, hne⟩
  item := by
    intro X hP hw hK hc i pins s σ H E I hf st hg
    subst hP hw hK
    obtain ⟨⟨old, he⟩, hit, hne, ha1, ha2⟩ := st
    obtain ⟨xs, x, hq, hx⟩ := hg
    obtain ⟨its, rv, p, hz⟩ := I.tuple hq
    obtain ⟨u, hu, ru⟩ := rv.get hx
    have hel : e < s.heap.objs.size := Heap.lt_size he
    have hil : it < s.heap.objs.size := by obtain ⟨_, q, _⟩ := hit; exact Heap.lt_size q
    have hlt : i < its.toArray.size := by
      have := (List.getElem?_eq_some_iff.mp hu).1
      simpa using this
    have D := Draws.tuple (prog := X.prog) (w := X.w) (A := X.A.in1) (I.ok.hd hc) it a ha1 its.toArray
    refine wpAny_pyNext_enum_itemD D he ⟨hit, p⟩ hlt hne (by simp [hne, Ne.symm ha2]) fun y h' tk hy ho hst hT hsz hk => ?_
    have hy' : its.toArray[i]? = some y := hy
    have ey : y = u := by
      rw [← Array.getElem?_toList] at hy'
      rw [show its.toArray.toList = its from rfl, hu] at hy'
      cases hy'; rfl
    subst ey
    refine ⟨_, rfl, wpAny_letOwnedTupleGo_enum (s := { s with heap := h', toks := tk + 1 }) ho fun h'' he' sb => ?_⟩
    have hT2 : h''.get? s.heap.objs.size = some { cls := .type "tuple", data := .seq #[.int i tk, y] } := (sb.2 _ (Nat.ne_of_gt hel)).trans hT
    have new : ObjOk X.prog X.w (upd H s.heap.objs.size (.tup [.int (i : Nat), x])) h'' s.heap.objs.size (.tup [.int (i : Nat), x]) :=
      ⟨by show 2 ≤ sizeLine; decide, [.int i tk, y], .cons ⟨_, rfl⟩ (.cons ru .nil), ⟨_, hT2, rfl, _, rfl⟩⟩
    have I1 : Inv X pins σ (upd H s.heap.objs.size (.tup [.int (i : Nat), x])) { s with heap := h'', toks := tk + 1 } :=
      I.turnedNew (ch := [e, it]) (fun b ob hb q => (sb.2 b (fun z => hb (by simp [z]))).trans (hk b ob (fun z => hb (by simp [z])) (fun z => hb (by simp [z])) q)) hf (Nat.le_refl _) new
    refine ⟨.ref s.heap.objs.size, _, I1, rfl, ⟨_, x, rfl, I.hok.fresh (Nat.le_refl _), rfl, fun ys hy => by rw [I.tuple_inj hy hq]; exact hx⟩, ⟨⟨y, ?_⟩, hst.1.at fun o q => (sb.2 it (Ne.symm hne)).trans q, hne, ha1, ha2⟩, fun b hb => ?_⟩
    · have e1 : ((i + 1 : Nat) : Int) = (i : Int) + 1 := Int.natCast_succ i
      rw [e1]; exact he'
    · have hb' : b < s.heap.objs.size := by
        rcases List.mem_cons.mp hb with z | z
        · rw [z]; exact hel
        · rw [List.mem_singleton.mp z]; exact hil
      rw [upd_ne (Nat.ne_of_lt hb')]
      exact (hf b hb).1
  done := by
    intro X hP hw hK hc i pins s σ H E I hf st hg
    subst hP hw hK
    obtain ⟨⟨old, he⟩, hit, hne, ha1, ha2⟩ := st
    obtain ⟨xs, hq, hx⟩ := hg
    obtain ⟨its, rv, p, hz⟩ := I.tuple hq
    obtain ⟨f0, f1, f2, f3, f4, f5⟩ := hf it (by simp)
    have hl := rv.length
    refine enumEnds (I.ok.hd hc) he hit p (by simp; omega) fun h' eb => ⟨rfl, I.turned (t' := s.toks) (fun b o hb q => eb b o hb q) f0 f1 f3 f4 f5⟩
  self := fun A i s Q E st h => let ⟨⟨_, he⟩, _⟩ := st; wpAny_pyIter_enum he h
/-- the items with their indices -/
def numD (ds : List D) : List D := ds.zipIdx.map fun p => .tuple [.int (p.2 : Nat), p.1]
theorem numD_len {ds : List D} : (numD ds).length = ds.length := by simp [numD]
theorem numD_get {ds : List D} {i : Nat} : (numD ds)[i]? = (ds[i]?).map fun d => .tuple [.int (i : Nat), d] := by
  unfold numD
  rw [List.getElem?_map, List.getElem?_zipIdx]
  cases ds[i]? <;> simp
def tupD (r : Sl) (K : List D → Prop) : Prop := match r with
  | .own _ (.tuple ds) => K ds
  | .bor (.tuple ds) => immA ds = true ∧ K ds
  | .now (.tuple ds) => immA ds = true ∧ K ds
  | _ => False
def iNum (a : WE) : WI := fun Γ K => a Γ fun r => tupD r fun ds => K (numD ds)
section
variable {X : Cx} {C : Cv} {e : Expr} {we : WE} {M : Md} {Fs : Fp} {H : Hp} {ds : List D} {vs : List V} {a : Addr} {elts : List Expr} {kk : Nat} {tpos p pos : Pos}
theorem good_num {K : PySem.W.Frag} (eK : M.K = K) (hq : SqT K H a vs) (r : RpA M (Zf C Fs) H ds vs) : GoodIt M C (Ien K a) (numD ds) Fs H := by
  subst eK
  have at_ : ∀ {Fs' H'}, Fz C Fs H Fs' H' → SqT M.K H' a vs := fun f => f.kp.sqT hq
  have hl := RpA.length r
  refine ⟨fun i Fs' H' f _ hi => ⟨vs, vs[i]'(by rw [numD_len] at hi; omega), at_ f, List.getElem?_eq_getElem _⟩, fun i Fs' H' x H'' f fp hi ⟨T, y, ex, hT, eH, q⟩ => ?_, fun i Fs' H' f _ hi => ⟨vs, at_ f, by rw [numD_len] at hi; omega⟩⟩
  subst eH ex
  obtain ⟨d, hd, hr⟩ := (f.rpA r).at (q vs (at_ f))
  have x := same_new (o := .tup [.int (i : Nat), y]) C.hd hT
  refine ⟨x, .tuple [.int (i : Nat), d], by rw [numD_get, hd]; rfl, T, _, rfl, .inl (.inl upd_same), ⟨_, _, rfl, rfl, ⟨_, _, rfl, Rp.keep (x.kp.mono fun p hp => hp.2.1) _ _ hr, rfl⟩⟩⟩
theorem vi_num (hg : Gl X "enumerate") (hm : X.mg "enumerate" = none) (h : VP X C e we) (hs : starEach [e] X.env = [(false, eval e X.env)] := by rfl) (h1 : starEach [e] X.env = (false, eval e X.env) :: starEach [] X.env := by rfl) :
    VPI X C (.Tuple elts kk tpos) (.Call (.Name "enumerate" p) [e] [] pos) (iNum we) := ⟨fun Γ K q Fs σ H er pins s I => by
  obtain ⟨n, hl, hn⟩ := er.fp.free Γ.length
  have w : wkA X [e] σ H fun vs H1 => ∃ v, vs = [v] ∧ ∃ r F, tupD r (fun ds => K (numD ds)) ∧ Res (md X) C Fs n H H1 r F v := PA.wk (pa_cons pe_wk pa_nil h1) ((h.run Γ _ q Fs σ H n er hl hn).mono fun v H1 ⟨r, F, q, res⟩ => ⟨v, rfl, r, F, q, res⟩)
  refine Call_ (ld_blt I hg hm boot_enumerate (PyProof.Rows.callWith_type1 (thn (w pos pins s I) fun us s1 ⟨vs, H1, I1, r1, q1⟩ => ?_) hs rfl))
  · obtain ⟨v, ex, r, F, q, res⟩ := q1
    subst ex
    obtain ⟨u, rfl, rv⟩ := r1.one
    have go : ∀ {ds}, Rp (md X) (Zf C Fs) H1 (.tuple ds) v → K (numD ds) → wpAny (model X.prog X.w) X.A (call (.type "enumerate") [u]) (fun v s1 => wpAny (model X.prog X.w) X.A (pyIter v) (PIE X pins σ (.Tuple elts kk tpos) fun J H1 => SameX C.hd H H1 ∧ ∃ ds, K ds ∧ GoodIt (md X) C J ds Fs H1) X.xe s1) X.xe s1 := fun {ds} hr k => by
      obtain ⟨a, vs, e, sq, rs⟩ := hr
      subst e
      cases rv
      obtain ⟨its, rvs, p', hz⟩ := I1.tuple sq
      have ha : a < s1.heap.objs.size := by obtain ⟨o, ho, _⟩ := id p'; exact Heap.lt_size ho
      refine enumBegins (H := fun h => h.IsTuple a its.toArray) (begins_tuple a its.toArray) (show s1.heap.IsTuple a its.toArray from p') fun h' he hit hsz hk => wpAny_pyIter_enum he ?_
      have I2 : Inv X pins σ H1 { s1 with heap := h' } := I1.kept (t' := s1.toks) hk
      refine ⟨s1.heap.objs.size + 1, [s1.heap.objs.size + 1, s1.heap.objs.size], _, _, H1, rfl, I2, turnEn a (s1.heap.objs.size + 1) s1.heap.objs.size, ⟨⟨.none, he⟩, ⟨_, hit, rfl, rfl⟩, Nat.succ_ne_self _, Nat.ne_of_lt ha, Nat.ne_of_lt (Nat.lt_succ_of_lt ha)⟩, fun b hb => ?_, res.same, _, k, good_num rfl sq rs⟩
      have hle : s1.heap.objs.size ≤ b := by
        rcases List.mem_cons.mp hb with z | z
        · rw [z]; exact Nat.le_add_right _ _
        · rw [List.mem_singleton.mp z]; exact Nat.le_refl _
      exact I1.fpOk hle (I1.hok.fresh hle)
    unfold tupD at q
    split at q
    · exact go (res.frozen er hl hn rfl trivial) q
    · exact go (Rp.imm_any (by simpa [imm] using q.1) res.sl.2) q.2
    · exact go (Rp.imm_any (by simpa [imm] using q.1) res.sl.2) q.2
    · exact q.elim⟩
end
end VL
namespace VL
open PySem PySem.Spec PyProof.Rows L2

/-! ### x.extend(e), y = x.pop(), x[k] = e -/
/-- e a new list of frozen items -/
def wExt (i : Nat) (a : WE) : WS := fun D Γ => match Γ[i]? with
  | some (.own 1 (.list ds)) => a Γ fun r => match r with
    | .own 1 (.list es) => ds.length + es.length ≤ sizeLine ∧ D.nx (Γ.set i (.own 1 (.list (ds ++ es))))
    | _ => False
  | _ => False
/-- y = x.pop(), x in slot j, its items frozen -/
def wPop (i j : Nat) : WS := fun D Γ => match Γ[j]? with
  | some (.own 1 (.list ds)) => i ≠ j ∧ i < Γ.length ∧ ∃ ds' d, ds = ds' ++ [d] ∧ D.nx ((Γ.set j (.own 1 (.list ds'))).set i (.own 0 d))
  | _ => False
section
variable {M : Md} {C : Cv} {Γ : List Sl} {σ : L2.St} {Fs Fs' : Fp} {H H1 H' : Hp} {n k i : Nat} {r : Sl} {F G : List Addr} {v y : V} {d : D} {ds : List D} {vs : List V} {a : Addr} {o o₀ : HO} {Gs : List (List Addr)}
/-- items that are frozen -/
theorem OwA.rp0 (h : OwA (fun d v F => Ow M (Zf C Fs) H 0 d v F) ds vs Gs) : RpA M (Zf C Fs) H ds vs ∧ Gs.flatten = [] := by
  induction h with
  | nil => exact ⟨rfl, rfl⟩
  | cons p _ ih =>
    obtain ⟨e, q⟩ := p
    exact ⟨⟨_, _, rfl, q, ih.1⟩, by rw [List.flatten_cons, e, ih.2]; rfl⟩
theorem RpA.moved {Z Z' : Addr → Prop} (e : H a = some o₀) (hn : notTF o₀) (h : RpA M Z H ds vs) (hz : ∀ p, Z p → p ≠ a) (w : ∀ p, Z p → Z' p) : RpA M Z' (upd H a o) ds vs :=
  RpA.wide (fun p hp _ => w p hp) ds vs (RpA.keep (Kp.upd hz e hn) ds vs h)
theorem Rp.moved {Z Z' : Addr → Prop} (e : H a = some o₀) (hn : notTF o₀) (h : Rp M Z H d v) (hz : ∀ p, Z p → p ≠ a) (w : ∀ p, Z p → Z' p) : Rp M Z' (upd H a o) d v :=
  Rp.wide (fun p hp _ => w p hp) d v (Rp.keep (Kp.upd hz e hn) d v h)
end
section
variable {X : Cx} {C : Cv} {e e1 e2 : Expr} {we w1 w2 : WE} {pos p p1 p2 apos : Pos} {i j : Nat} {x y : Str} {Γ : List Sl} {σ : L2.St} {Fs : Fp} {H : Hp}
theorem vs_ext (hN : X.N[i]? = some x := by rfl) (hv : Vis X.env.scope x := by first | exact Or.inl rfl | exact Or.inr (Or.inl rfl) | exact Or.inr (Or.inr rfl)) (ha : VP X C e we) (hd : (x == ("__debug__" : Str)) = false := by decide) (hcd : (x == ("__classdict__" : Str)) = false := by decide)
    (hs : swapsWith (.Call (.Attribute (.Name x p1) "extend" apos) [e] [] p) none pos.line X.env = pure false := by rfl)
    (hbase : attributeBase (.Name x p1) "extend" X.env (eval (.Name x p1) X.env) = eval (.Name x p1) X.env := by rfl)
    (hfew : ((backTo p (starEach [e] X.env)).all (fun x => !x.1) && (backToKw p (keywordEach [] X.env)).all (fun x => x.1.isSome) && decide ([e].length + ([] : List Keyword).length + (if ([] : List Keyword).isEmpty then 0 else 1) < 30)) = true := by rfl)
    (hline : (apos.endLine == p.line) = true := by rfl) (he : starEach [e] X.env = (false, eval e X.env) :: starEach [] X.env := by rfl) (hpl : (backTo p (starEach [] X.env)).any (·.1) = false := by rfl) :
    VPS X C (.Expr (.Call (.Attribute (.Name x p1) "extend" apos) [e] [] p) pos) (wExt i we) := ⟨fun Γ D q Fs σ H er => by
  unfold wExt at q
  split at q
  · rename_i ds eΓ
    obtain ⟨n, hl, hn⟩ := er.fp.free Γ.length
    obtain ⟨a, vs, Gs, ev, eF, ea, ow, hi⟩ := er.lst eΓ
    refine PS.wk (ps_expr (pe_bm PySem.F.plainAttrs_list PySem.F.slot_list_extend PySem.F.type_list_extend mt_extend (pe_var hN hv hd hcd) (pa_cons pe_wk pa_nil he) hbase hfew hline he hpl) hs) ?_
    refine ⟨.ref a, ev, .inl ⟨rfl, vs, .inl (.inl ea)⟩, (ha.run Γ _ q Fs σ H n er hl hn).mono fun y H1 ⟨r, F, q, res⟩ => ?_⟩
    have er1 := res.er er hl hn
    obtain ⟨a', vs', Gs', ev', eF', ea', ow', _⟩ := er1.lst eΓ
    rw [ev] at ev'
    cases ev'
    split at q
    · rename_i es
      obtain ⟨q2, q3⟩ := q
      have sl : Ow (md X) (Zf C (updF Fs n F)) H1 1 (.list es) y (updF Fs n F n) := res.sl
      obtain ⟨b, zs, Gb, eb, eFb, hb, owb⟩ := sl
      have hin : i ≠ n := by omega
      have l1 := ow'.len.1
      have l2 := owb.len.1
      subst eb
      obtain ⟨r1, g1⟩ := ow'.rp0
      obtain ⟨r2, g2⟩ := owb.rp0
      refine ⟨a, b, vs', zs, rfl, rfl, ea', hb, by rw [l1, l2]; exact q2, ?_⟩
      have haF : a ∈ updF Fs n F i := by rw [eF']; exact List.mem_cons_self
      have fj := er1.fp.join (i := i) (n := n) (G := updF Fs n F i) (Ne.symm hin) (er1.fp.nd i) fun p hp => .inl hp
      have own := ownd_join (Fs := updF Fs n F) (i := i) (n := n) (G := updF Fs n F i) fun p hp => .inl hp
      have fu := fj.upd (i := i) (a := a) (o := .lst (vs' ++ zs)) (by rw [updF_same]; exact haF) ea' notTF_lst
      have nz : ∀ p, Zf C (updF Fs n F) p → p ≠ a := fun p hp z => hp.1 ⟨i, z ▸ haF⟩
      have w1 : ∀ p, Zf C (updF Fs n F) p → Zf C (updF (updF (updF Fs n F) n []) i (updF Fs n F i)) p := fun p hp => Zf.sub own p hp
      have sl' : SlR (md X) C (updF (updF (updF Fs n F) n []) i (updF Fs n F i)) (upd H1 a (.lst (vs' ++ zs))) i (.own 1 (.list (ds ++ es))) (.ref a) := by
        refine ⟨a, vs' ++ zs, (ds ++ es).map fun _ => [], rfl, ?_, upd_same, ow0 (RpA.append (RpA.moved ea' notTF_lst r1 nz w1) (RpA.moved ea' notTF_lst r2 nz w1))⟩
        rw [updF_same, flat_nil, eF', g1]
      obtain ⟨er2, fz2⟩ := er1.mut ev hi haF ea' notTF_lst (fun l h1 h2 => by rw [updF_ne h1, updF_ne (by omega)]) own fu sl'
      exact ⟨_, _, q3, er2, (res.fz hn).trans fz2⟩
    · exact q.elim
  · exact q.elim⟩
theorem vs_pop (i : Nat) (hN0 : X.N.Nodup) (hi : X.N[i]? = some y) (hy : Loc X.env.scope y) (hN : X.N[j]? = some x := by rfl) (hv : Vis X.env.scope x := by first | exact Or.inl rfl | exact Or.inr (Or.inl rfl) | exact Or.inr (Or.inr rfl)) (hd : (x == ("__debug__" : Str)) = false := by decide) (hcd : (x == ("__classdict__" : Str)) = false := by decide)
    (hs : swapsWith (.Call (.Attribute (.Name x p1) "pop" apos) [] [] p) (some (.Name y p2)) pos.line X.env = pure false := by rfl) (hbase : attributeBase (.Name x p1) "pop" X.env (eval (.Name x p1) X.env) = eval (.Name x p1) X.env := by rfl) (hline : (apos.endLine == p.line) = true := by rfl)
    (hf : X.fn y = true ∨ X.env.scope.names.lookup y = some .local := by first | exact .inl rfl | exact .inr rfl | assumption) :
    VPS X C (.Assign [.Name y p2] (.Call (.Attribute (.Name x p1) "pop" apos) [] [] p) pos) (wPop i j) := ⟨fun Γ D q Fs σ H er => by
  unfold wPop at q
  split at q
  · rename_i ds eΓ
    obtain ⟨hij, hil, ds', d, eds, q⟩ := q
    subst eds
    obtain ⟨a, vs, Gs, ev, eF, ea, ow, hj⟩ := er.lst eΓ
    obtain ⟨r1, g1⟩ := ow.rp0
    have hlen := r1.length
    rw [List.length_append, List.length_singleton] at hlen
    obtain ⟨v, hv1, hv2⟩ := r1.get (i := ds'.length) (d := d) (by simp)
    refine PS.wk (ps_set hN0 hi hy (pe_bm0 PySem.F.plainAttrs_list PySem.F.slot_list_pop PySem.F.type_list_pop mt_pop (pe_var hN hv hd hcd) hbase hline) hs hf) ?_
    refine ⟨.ref a, ev, .inl ⟨rfl, vs, .inl (.inl ea)⟩, a, vs, v, rfl, rfl, ea, by rw [hlen, Nat.add_sub_cancel]; exact hv1, ?_⟩
    have haF : a ∈ Fs j := by rw [eF]; exact List.mem_cons_self
    have nz : ∀ p, Zf C Fs p → p ≠ a := fun p hp z => hp.1 ⟨j, z ▸ haF⟩
    have fu := er.fp.upd (i := j) (a := a) (o := .lst vs.dropLast) haF ea notTF_lst
    have rd : RpA (md X) (Zf C Fs) H ds' vs.dropLast := by
      have t := r1.take ds'.length
      rw [List.take_left, show vs.take ds'.length = vs.dropLast by rw [List.dropLast_eq_take, hlen, Nat.add_sub_cancel]] at t
      exact t
    have sl' : SlR (md X) C Fs (upd H a (.lst vs.dropLast)) j (.own 1 (.list ds')) (.ref a) := by
      refine ⟨a, vs.dropLast, ds'.map fun _ => [], rfl, ?_, upd_same, ow0 (RpA.moved ea notTF_lst rd nz fun p hp => hp)⟩
      rw [flat_nil, eF, g1]
    obtain ⟨er2, fz2⟩ := er.mut ev hj haF ea notTF_lst (fun _ _ _ => rfl) (fun p hp => hp) fu sl'
    have er3 := er2.store0 (i := i) (d := d) (v := v) (by rw [List.length_set]; exact hil) (Rp.moved ea notTF_lst hv2 nz fun p hp => hp)
    exact ⟨_, _, q, er3, fz2.trans (Fz.sub ownd_drop)⟩
  · exact q.elim⟩
end
/-! ### reading one, two levels into a thing of one's own -/
/-- x[e], x owned one level down: the item is frozen -/
def wIx1 (i : Nat) (b : WE) : WE := fun Γ R => match Γ[i]? with
  | some (.own 1 (.list ds)) => b Γ fun r => match dat r with
    | some (.int k) => ∃ d, atI ds k = some d ∧ R (.own 0 d)
    | _ => False
  | _ => False
/-- x[e][f], x owned two levels down -/
def wIx2 (i : Nat) (b c : WE) : WE := fun Γ R => match Γ[i]? with
  | some (.own 2 (.list ds)) => b Γ fun r => match dat r with
    | some (.int k) => ∃ es, atI ds k = some (.list es) ∧ c Γ fun r2 => match dat r2 with
      | some (.int l) => ∃ d, atI es l = some d ∧ R (.own 0 d)
      | _ => False
    | _ => False
  | _ => False
section
variable {X : Cx} {C : Cv} {b c e : Expr} {wb wc we : WE} {pos p1 p2 : Pos} {i : Nat} {x : Str} {Γ : List Sl} {σ : L2.St} {Fs : Fp} {H : Hp}
theorem atI_ix {α : Type} {xs : List α} {k : Int} {x : α} (h : atI xs k = some x) : ∃ j, ixN xs.length k = some j ∧ xs[j]? = some x := by
  unfold atI at h
  cases e : ixN xs.length k with
  | none => rw [e] at h; cases h
  | some j => rw [e] at h; exact ⟨j, rfl, h⟩
theorem ix_atI {α : Type} {xs : List α} {k : Int} {x : α} {j : Nat} (h : ixN xs.length k = some j) (e : xs[j]? = some x) : atI xs k = some x := by
  unfold atI
  rw [h]; exact e
theorem vp_ix1 (i : Nat) (hs : PlainIx b) (hb : VP X C b wb) (hN : X.N[i]? = some x := by rfl) (hv : Vis X.env.scope x := by first | exact Or.inl rfl | exact Or.inr (Or.inl rfl) | exact Or.inr (Or.inr rfl)) (hd : (x == ("__debug__" : Str)) = false := by decide) (hcd : (x == ("__classdict__" : Str)) = false := by decide) :
    VP X C (.Subscript (.Name x p1) b pos) (wIx1 i wb) := ⟨fun Γ R q Fs σ H n er hl hn => by
  unfold wIx1 at q
  split at q
  · rename_i ds eΓ
    obtain ⟨a, vs, Gs, ev, eF, ea, ow, hi⟩ := er.lst eΓ
    refine PE.wk (pe_ix ix_list (pe_var hN hv hd hcd) pe_wk hs) ⟨.ref a, ev, (hb.run Γ _ q Fs σ H n er hl hn).mono fun y H1 ⟨r, F, q, res⟩ => ?_⟩
    have er1 := res.er er hl hn
    split at q
    · rename_i k e
      obtain ⟨d, hd, q⟩ := q
      have hy : y = .int k := res.sl.rp er1.fp e
      obtain ⟨a', vs', Gs', ev', eF', ea', ow', _⟩ := er1.lst eΓ
      rw [ev] at ev'
      cases ev'
      obtain ⟨v, hv1, hv2⟩ := atI_rp ow'.rp0.1 hd
      refine ⟨a, vs', k, v, rfl, hy, .inl (.inl ea'), hv1, _, [], q, res.same, List.nodup_nil, fun p hp => absurd hp (by simp), updF_same, Rp.wide (fun p hp _ => ⟨fun h => hp.1 ?_, hp.2⟩) _ _ hv2⟩
      rcases (ownd_updF p).mp h with h | ⟨l, hl', h⟩
      · simp at h
      · exact ⟨l, by rw [updF_ne hl']; exact h⟩
    · exact q.elim
  · exact q.elim⟩
theorem vp_ix2 (i : Nat) (hs : PlainIx b) (hs' : PlainIx c) (hb : VP X C b wb) (hc : VP X C c wc) (hN : X.N[i]? = some x := by rfl) (hv : Vis X.env.scope x := by first | exact Or.inl rfl | exact Or.inr (Or.inl rfl) | exact Or.inr (Or.inr rfl)) (hd : (x == ("__debug__" : Str)) = false := by decide) (hcd : (x == ("__classdict__" : Str)) = false := by decide) :
    VP X C (.Subscript (.Subscript (.Name x p1) b p2) c pos) (wIx2 i wb wc) := ⟨fun Γ R q Fs σ H n er hl hn => by
  unfold wIx2 at q
  split at q
  · rename_i ds eΓ
    obtain ⟨a, vs, Gs, ev, eF, ea, ow, hi⟩ := er.lst eΓ
    refine PE.wk (pe_ix ix_list (pe_ix ix_list (pe_var hN hv hd hcd) pe_wk hs) pe_wk hs') ⟨.ref a, ev, (hb.run Γ _ q Fs σ H n er hl hn).mono fun y H1 ⟨r, F, q, res⟩ => ?_⟩
    have er1 := er.step res.same
    have er1' := res.er er hl hn
    split at q
    · rename_i k e
      obtain ⟨es, hes, q⟩ := q
      have hy : y = .int k := res.sl.rp er1'.fp e
      obtain ⟨a', vs', Gs', ev', eF', ea', ow', _⟩ := er1.lst eΓ
      rw [ev] at ev'
      cases ev'
      obtain ⟨jj, hj1, hj2⟩ := atI_ix hes
      obtain ⟨v, F', hv1, hv2, hv3⟩ := ow'.fp hj2
      have hlen := ow'.len.1
      obtain ⟨b', us, Gb, eb, eFb, hb', owb⟩ := (show Ow (md X) (Zf C Fs) H1 1 (.list es) v F' from hv3)
      subst eb
      refine ⟨a, vs', k, .ref b', rfl, hy, .inl (.inl ea'), ix_atI (by rw [hlen]; exact hj1) hv1, (hc.run Γ _ q Fs σ H1 n er1 hl hn).mono fun z H2 ⟨r2, F2, q, res2⟩ => ?_⟩
      have er2 := res2.er er1 hl hn
      split at q
      · rename_i l e2
        obtain ⟨d, hd, q⟩ := q
        have hz : z = .int l := res2.sl.rp er2.fp e2
        -- what stands there now
        have nb : ¬ C.hd b' := by
          have hm : b' ∈ Fs i := by
            rw [eF']
            refine List.mem_cons_of_mem _ (List.mem_flatten.mpr ⟨F', List.mem_of_getElem? hv2, ?_⟩)
            rw [eFb]; exact List.mem_cons_self
          exact (er1.fp.fr i b' hm).2.1
        obtain ⟨w, hw1, hw2⟩ := atI_rp owb.rp0.1 hd
        refine ⟨b', us, l, w, rfl, hz, .inl (.inl (res2.same.kp.z b' _ nb hb')), hw1, _, [], q, res.same.trans res2.same, List.nodup_nil, fun p hp => absurd hp (by simp), updF_same, ?_⟩
        refine Rp.wide (fun p hp _ => ⟨fun h => hp.1 ?_, hp.2⟩) _ _ (Rp.keep (res2.same.kp.mono fun p hp => hp.2.1) _ _ hw2)
        rcases (ownd_updF p).mp h with h | ⟨l, hl', h⟩
        · simp at h
        · exact ⟨l, h⟩
      · exact q.elim
    · exact q.elim
  · exact q.elim⟩
end
end VL
namespace VL
open PySem PySem.Spec PyProof.Rows L2

/-! ### set(a list of ints) -/
section
variable {P : Program} {w : World} {A : Around} {E : Value → Shared → Prop} {s : Shared}
abbrev emptySet (w : World) : Obj := { cls := .type "set", dict := none, data := .set #[] 0 (.fresh 0 0 (!w.params.followText "set-order")) }
theorem setOfList {l : Addr} {items : Array Value} (ns : List Int) {Q : Value → Shared → Prop} (hh : A.handled = none) (hl : s.heap.IsList l items) (hit : IntsAre items.toList ns) (hb : ns.length + 1 < scanBound)
    (h : ∀ (h' : Heap) (tk c : Nat), SetR w h' s.heap.objs.size (fun j => decide (j ∈ ns)) c → c ≤ ns.length → (∀ b o, s.heap.get? b = some o → h'.get? b = some o) → Q (.ref s.heap.objs.size) { s with heap := h', toks := tk }) :
    wpAny (model P w) A (call (.type "set") [.ref l]) Q E s := by
  have hisz : items.size = ns.length := by rw [← IntsAre.length hit, Array.length_toList]
  obtain ⟨c, tl, hmro⟩ := F.called_set.mro; have hmade := F.called_set.made; have hsub := F.called_set.sub
  refine wpAny_call (codeAny_of_tree (show wpAny _ _ (callAny (.type "set") _) _ _ _ from wpAny_pure ⟨Code.quiet_builtin _ (by decide +kernel), codeAny_builtin F.entry_type_call ?_⟩))
  rw [Around.under_plain (weight_type_call_type "set" [.ref l] []) rfl]
  have h1 := F.called_set.notType; have h2 := F.called_set.canCreate; have hct := F.typeCall_set_1 (.ref l)
  repeat (any_goals (first | assumption | wp_step))
  refine codeAny_mono (code_set_led1 (.ref l) (E := E) (Q₁ := fun obj s₁ => obj = .ref s.heap.objs.size ∧ s₁ = { s with heap := s.heap.push (emptySet w) }) ⟨rfl, rfl⟩) fun r s₁ hr => ?_
  match r, hr with
  | .error e, hr => exact hr
  | .ok (.ret obj), hr =>
    obtain ⟨rfl, rfl⟩ := hr
    have hS : (s.heap.push (emptySet w)).get? s.heap.objs.size = some (emptySet w) := Heap.get?_push_size _ rfl
    have hT : Shared.TypeIs { s with heap := s.heap.push (emptySet w) } (.ref s.heap.objs.size) "set" := ⟨_, hS, rfl⟩
    have hli := F.called_set.init.lookup; have hbi := F.called_set.init.bind (.ref s.heap.objs.size)
    repeat (any_goals (first | assumption | wp_step))
    refine codeAny_mono (codeAny_call_builtin (R := wants (fun r s₂ => r = .none ∧ ∃ h' tk c, s₂ = { s with heap := h', toks := tk } ∧ SetR w h' s.heap.objs.size (fun j => decide (j ∈ ns)) c ∧ c ≤ ns.length ∧ (∀ b o, s.heap.get? b = some o → h'.get? b = some o)) E) F.called_set.init.plain F.entry_set_init (check_set_init_1 hT ?_)) fun r₂ s₂ hr₂ => ?_
    · obtain ⟨⟨ocls, odict, odata, oslots⟩, hol, hcl, nl, hdl⟩ := hl
      simp only at hcl hdl; subst hcl hdl
      have hol' : (s.heap.push (emptySet w)).get? l = some { cls := .type "list", dict := odict, data := .seq items nl, slots := oslots } := Heap.get?_push_of_some _ hol
      have hsls := F.sub_list_set; have hslf := F.sub_list_frozenset; have hne : (Value.type "list" == Value.type "dict") = false := by decide
      have hl1 : (s.heap.push (emptySet w)).IsList l items := ⟨_, hol', rfl, nl, rfl⟩
      unfold Builtin.«set.__init__» noKeywords Builtin.Frozenset.updateFrom; generalize hPI : pyIter = PI
      wp_walk
      subst hPI
      refine wpAny_pyIter_list hl1 (wpAny_bind (wpAny_runValue ?_))
      have hlS : l < s.heap.objs.size := Heap.lt_size hol
      have hh3 : A.in1.in1.in1.handled = none := hh
      have hneI : l ≠ (s.heap.push (emptySet w)).objs.size := by rw [Heap.size_push]; exact Nat.ne_of_lt (Nat.lt_succ_of_lt hlS)
      have hSf : s.heap.objs.size ∉ [(s.heap.push (emptySet w)).objs.size, l] := by
        rw [Heap.size_push]
        intro hm; rcases List.mem_cons.mp hm with z | z
        · exact Nat.ne_of_lt (Nat.lt_succ_self _) z
        · exact Nat.ne_of_gt hlS (List.mem_singleton.mp z)
      have hval : ∀ (i : Nat) (v : Value), items[i]? = some v → ∃ k t, ns[i]? = some k ∧ v = .int k t := fun i v hv => by
        have hi : i < ns.length := hisz ▸ (Array.getElem?_eq_some_iff.mp hv).1
        obtain ⟨t, e⟩ := PyProof.Rows.IntsAre.int_at hit i v (by rw [Array.getElem?_toList]; exact hv)
        exact ⟨ns[i], t, List.getElem?_eq_getElem hi, by rw [e, List.getD_eq_getElem?_getD, List.getElem?_eq_getElem hi] <;> rfl⟩
      refine set_update_ints ((Walks.list hh3 _ l hneI items).toS) s.heap.objs.size hSf ns hisz hb hval (items.size - 0) 0 _ (by omega) (Nat.zero_le _) ⟨⟨_, Heap.get?_push_size _ rfl, rfl, rfl⟩, (hl1.push _)⟩ ⟨0, Nat.le_refl 0, setR_new_at (Heap.get?_push_of_some _ hS)⟩ ?_
      intro s' c' hm hc' hS'; obtain ⟨h', g2, d', tk', os'⟩ := s'
      have eg : g2 = s.gens := hm.gens; have ed : d' = s.drawn := hm.drawn; have eo : os' = s.os := hm.os
      subst eg ed eo
      show wpAny _ _ _ _ _ _
      refine wpAny_pure (show wpAny _ _ (ret Value.none) _ _ _ from wpAny_pure ⟨rfl, h', tk', c', rfl, hS', hisz ▸ hc', fun b o e => ?_⟩)
      have hb0 : b < s.heap.objs.size := Heap.lt_size e
      refine hm.heap b o (fun hm => ?_) (Heap.get?_push_of_some _ (Heap.get?_push_of_some _ e))
      rcases List.mem_cons.mp hm with z | z
      · exact Nat.ne_of_lt hb0 z
      · rw [List.mem_singleton.mp z, Heap.size_push] at hb0
        exact absurd (Nat.lt_of_succ_lt hb0) (Nat.lt_irrefl _)
    · match r₂, hr₂ with
      | .error e, hr₂ => exact hr₂
      | .ok (.ret r), hr₂ =>
        obtain ⟨rfl, h', tk, c', rfl, hS', hc', hk'⟩ := hr₂
        repeat (any_goals (first | assumption | wp_step))
        exact h _ _ _ hS' hc' hk'
      | .ok .next, hr₂ => exact hr₂.elim
      | .ok .brk, hr₂ => exact hr₂.elim
      | .ok .cont, hr₂ => exact hr₂.elim
  | .ok .next, hr => exact hr.elim
  | .ok .brk, hr => exact hr.elim
  | .ok .cont, hr => exact hr.elim
end
def rSetOf (X : Cx) : List V → Hp → VK → Prop := fun xs H Q => ∃ (l : Addr) (ks : List Int), xs = [.ref l] ∧ SqL X.K H l (ks.map V.int) ∧ ks.length + 1 < scanBound ∧ ∀ (a : Addr) (c : Nat), H a = none → c ≤ ks.length → Q (.ref a) (upd H a (SetO X.w a (fun j => decide (j ∈ ks)) c))
theorem cd_setOf {X : Cx} (hc : X.calm = true) : CallR X (.type "set") (rSetOf X) := by
  intro pins s σ H xs us Q I rv q
  obtain ⟨l, ks, e, hq, hz, q⟩ := q
  subst e
  obtain rfl := Vals.ref1 rv
  obtain ⟨its, rvs, pl, hzz⟩ := I.list hq
  refine setOfList ks (I.ok.hd hc) pl.isList (ints_of_vals rvs) hz fun h' tk c R hcz hk => ?_
  have ho : ∃ o, h'.get? s.heap.objs.size = some o := by
    obtain ⟨o, es, ep, t, ho, _⟩ := R
    exact ⟨o, ho⟩
  exact ⟨.ref s.heap.objs.size, _, I.laid (t' := tk) (o := SetO X.w s.heap.objs.size (fun j => decide (j ∈ ks)) c) hk (Nat.le_refl _) ⟨R, ho, fun h1 h2 r k => r.at k⟩, rfl, q _ c (I.hok.fresh (Nat.le_refl _)) hcz⟩
/-- sorted(set(e)), e a list of few ints -/
def wSSet (a : WE) : WE := fun Γ R => a Γ fun r => match dat r with
  | some (.list ds) => ∃ ks : List Int, ds = ks.map PyData.int ∧ ks.length < 63 ∧ ∀ ns : List Int, ns.Pairwise (· < ·) → (∀ k, k ∈ ns ↔ k ∈ ks) → R (.own 1 (.list (ns.map PyData.int)))
  | _ => False
theorem rpA_ints {M : Md} {Z : Addr → Prop} {H : Hp} : ∀ {ks : List Int} {vs : List V}, RpA M Z H (ks.map PyData.int) vs → vs = ks.map V.int
  | [], _, h => h
  | k :: ks, _, h => by
    obtain ⟨v, r, e, q, t⟩ := h
    have ev : v = .int k := q
    rw [e, ev, rpA_ints t]; rfl
theorem ints_rpA {M : Md} {Z : Addr → Prop} {H : Hp} : ∀ ks : List Int, RpA M Z H (ks.map PyData.int) (ks.map V.int)
  | [] => rfl
  | k :: ks => ⟨_, _, rfl, rfl, ints_rpA ks⟩
section
variable {X : Cx} {C : Cv} {e : Expr} {we : WE} {pos p pos' p' : Pos}
theorem vp_sset (hc : X.calm = true) (hg : Gl X "sorted") (hm : X.mg "sorted" = none) (hv : bootBuiltins "sorted" = some (.builtin "sorted")) (hg2 : Gl X "set") (hm2 : X.mg "set" = none) (hv2 : bootBuiltins "set" = some (.type "set")) (ha : VP X C e we)
    (he : starEach [e] X.env = (false, eval e X.env) :: starEach [] X.env := by rfl) (hpl : (backTo pos' (starEach [] X.env)).any (·.1) = false := by rfl)
    (he2 : starEach [.Call (.Name "set" p') [e] [] pos'] X.env = (false, eval (.Call (.Name "set" p') [e] [] pos') X.env) :: starEach [] X.env := by rfl) (hpl2 : (backTo pos (starEach [] X.env)).any (·.1) = false := by rfl) :
    VP X C (.Call (.Name "sorted" p) [.Call (.Name "set" p') [e] [] pos'] [] pos) (wSSet we) := ⟨fun Γ R q Fs σ H n er hl hn => by
  refine PE.wk (pe_callB (cr_sortedSet hc) hg hm hv (pa_cons (pe_callTy (cd_setOf hc) hg2 hm2 hv2 (pa_cons pe_wk pa_nil he) (by decide) (by decide) he hpl) pa_nil he2) (by decide) (by decide) he2 hpl2) ?_
  refine (ve1 ha q er).mono fun x H1 ⟨r, ns, Fs', q, t⟩ => ?_
  obtain ⟨m, en, s1⟩ := tms1 t.at_
  split at q
  · rename_i ds ed
    obtain ⟨ks, e1, hlt, q⟩ := q
    subst e1
    obtain ⟨a, vs, ex, z, sq, rs⟩ := s1.rp t.er.fp ed
    have evs := rpA_ints rs
    subst ex evs
    refine ⟨a, ks, rfl, sq, by unfold scanBound; omega, fun b c hb hcz => ?_⟩
    refine ⟨b, _, c, rfl, upd_same, by omega, fun out p hs hm hlen hp => ?_⟩
    have x1 := same_new (o := SetO X.w b (fun j => decide (j ∈ ks)) c) C.hd hb
    have er1 := t.er.step x1
    have t1 : Tm (md X) C Γ σ Fs Fs' H _ ns [r] [.ref a] := ⟨er1, t.same.trans x1, t.out, t.new, t.big, t.nd, t.at_.step x1 t.er.fp⟩
    exact ⟨_, [p], q out hs fun k => by rw [hm]; simp, t1.lst1 hn hp (ints_rpA out)⟩
  · exact q.elim⟩
/-! ### sorted(a list) -/
/-- sorted(e) -/
def wSrt (a : WE) : WE := fun Γ R => a Γ fun r => match dat r with
  | some (.list ds) => chf r ∧ PySem.W.AllAlike ds ∧ PySem.W.Sortable ds ∧ PyData.plainAll ds = true ∧ ds.length ≤ sizeLine ∧ (∀ d ∈ ds, d.depth ≤ 40) ∧ R (.own 1 (.list (ds.mergeSort (PySem.W.dataLe false id))))
  | _ => False
theorem each_zip {Pv : V → Value → Prop} : ∀ {ds : List D} {vs : List V} {us : List Value}, vs.length = ds.length → Vals vs us → PySem.W.EachIs (fun u (b : D × V) => RelV b.2 u) us (ds.zip vs)
  | [], [], _, _, .nil => .nil
  | d :: ds, v :: vs, _, h, .cons r t => .cons r (each_zip (Pv := Pv) (by simpa using h) t)
theorem each_reads {h : Heap} : ∀ {ds : List D} {vs : List V} {us : List Value} {as : List Addr}, vs.length = ds.length → Vals vs us → ReadsAll h us ds as → PySem.W.EachIs (fun u (b : D × V) => ∃ as, Reads h u b.1 as) us (ds.zip vs)
  | [], [], _, _, _, .nil, .nil => .nil
  | d :: ds, v :: vs, _, _, hl, .cons r t, .cons h1 h2 => .cons ⟨_, h1⟩ (each_reads (by simpa using hl) t h2)
theorem vals_snd : ∀ {us : List Value} {bs : List (D × V)}, PySem.W.EachIs (fun u (b : D × V) => RelV b.2 u) us bs → Vals (bs.map (·.2)) us
  | _, _, .nil => .nil
  | _, _, .cons r t => .cons r (vals_snd t)
theorem rpA_zip {M : Md} {Z : Addr → Prop} {H : Hp} : ∀ {ds : List D} {vs : List V}, RpA M Z H ds vs → ∀ b ∈ ds.zip vs, Rp M Z H b.1 b.2
  | [], _, h, b, hb => by simp at hb
  | d :: ds, _, h, b, hb => by
    obtain ⟨v, r, e, q, t⟩ := h
    subst e
    rcases List.mem_cons.mp hb with e | hb
    · subst e; exact q
    · exact rpA_zip t b hb
theorem zip_rpA {M : Md} {Z : Addr → Prop} {H : Hp} : ∀ {bs : List (D × V)}, (∀ b ∈ bs, Rp M Z H b.1 b.2) → RpA M Z H (bs.map (·.1)) (bs.map (·.2))
  | [], _ => rfl
  | b :: bs, h => ⟨_, _, rfl, h b List.mem_cons_self, zip_rpA fun c hc => h c (List.mem_cons_of_mem _ hc)⟩
def rSrt (X : Cx) : List V → Hp → VK → Prop := fun xs H Q => ∃ (l : Addr) (vs : List V) (Z : Addr → Prop) (ds : List D), xs = [.ref l] ∧ SqL X.K H l vs ∧ RpA (md X) Z H ds vs ∧ PySem.W.AllAlike ds ∧ PySem.W.Sortable ds ∧ PyData.plainAll ds = true ∧ ds.length ≤ sizeLine ∧ (∀ d ∈ ds, d.depth ≤ 40) ∧
  ∀ (p : Addr) (ws : List V), H p = none → RpA (md X) Z H (ds.mergeSort (PySem.W.dataLe false id)) ws → Q (.ref p) (upd H p (.lst ws))
theorem cd_srt (hr : X.A.units + 64 < cLine) : CallR X (.builtin "sorted") (rSrt X) := by
  intro pins s σ H xs us Q I rv q
  obtain ⟨l, vs, Z, ds, e, hq, hrp, h1, h2, h3, h4, h5, q⟩ := q
  subst e
  obtain rfl := Vals.ref1 rv
  obtain ⟨its, rvs, pl, hzz⟩ := I.list hq
  obtain ⟨as, ra⟩ := RpA.reads I ds vs its h3 hrp rvs
  have hl := RpA.length hrp
  have em : (ds.zip vs).map (fun b : D × V => b.1) = ds := List.map_fst_zip (by omega)
  refine PySem.W.sorted_data (bs := ds.zip vs) (enc := fun b => b.1) (R := fun u b => RelV b.2 u) pl.isList (each_zip (Pv := fun _ _ => True) hl rvs) (each_reads hl rvs ra) (by rw [em]; exact h1) (by rw [em]; exact h2) (by simp [hl]; exact h4) (fun b hb => ?_) fun out hlen ho => ?_
  · have := h5 b.1 (by rw [← em]; exact List.mem_map.mpr ⟨b, hb, rfl⟩)
    omega
  · have hvz := vals_snd ho
    obtain ⟨ee, hat⟩ := sortedAll_at s.heap its out.toArray
    have hmem := fun b (hb : b ∈ (ds.zip vs).mergeSort (PySem.W.dataLe false fun b : D × V => b.1)) => rpA_zip hrp b ((List.mergeSort_perm _ _).mem_iff.mp hb)
    have hres := zip_rpA hmem
    have emap : ((ds.zip vs).mergeSort (PySem.W.dataLe false fun b : D × V => b.1)).map (·.1) = ds.mergeSort (PySem.W.dataLe false id) := by
      have t := List.map_mergeSort (r := PySem.W.dataLe false fun b : D × V => b.1) (s := PySem.W.dataLe false id) (f := fun b : D × V => b.1) (l := ds.zip vs) (fun a _ b _ => rfl)
      rw [em] at t
      exact t
    rw [emap] at hres
    have hlen2 : (((ds.zip vs).mergeSort (PySem.W.dataLe false fun b : D × V => b.1)).map (·.2)).length ≤ sizeLine := by simp [hl]; exact h4
    exact ⟨.ref (s.heap.objs.size + 1), _, I.laid (t' := s.toks) (o := .lst (((ds.zip vs).mergeSort (PySem.W.dataLe false fun b : D × V => b.1)).map (·.2))) (fun b u e => sortedAll_old e) (Nat.le_succ _) ⟨hlen2, out, ee, hvz, hat⟩, rfl, q _ _ (I.hok.fresh (Nat.le_succ _)) hres⟩
theorem vp_srt (hr : X.A.units + 64 < cLine) (hg : Gl X "sorted") (hm : X.mg "sorted" = none) (hv : bootBuiltins "sorted" = some (.builtin "sorted")) (ha : VP X C e we)
    (he : starEach [e] X.env = (false, eval e X.env) :: starEach [] X.env := by rfl) (hpl : (backTo pos (starEach [] X.env)).any (·.1) = false := by rfl) : VP X C (.Call (.Name "sorted" p) [e] [] pos) (wSrt we) := ⟨fun Γ R q Fs σ H n er hl hn => by
  refine PE.wk (pe_callB (cd_srt hr) hg hm hv (pa_cons pe_wk pa_nil he) (by decide) (by decide) he hpl) ?_
  refine (ve1 ha q er).mono fun x H1 ⟨r, ns, Fs', q, t⟩ => ?_
  obtain ⟨m, en, s1⟩ := tms1 t.at_
  split at q
  · rename_i ds ed
    obtain ⟨hf, k1, k2, k3, k4, k5, q⟩ := q
    obtain ⟨a, vs, ex, sq, rs⟩ := s1.chf ed hf
    subst ex
    exact ⟨a, vs, _, ds, rfl, sq, rs, k1, k2, k3, k4, k5, fun p ws hp hw => ⟨_, [p], q, t.lst1 hn hp hw⟩⟩
  · exact q.elim⟩
end
end VL
namespace VL
open PySem PySem.Spec PyProof.Rows L2

/-! ### row = x[i]; row[j] = e -/
def wRow (i r : Nat) (b : WE) (e c : WE) : WS := fun D Γ => match Γ[i]? with
  | some (.own 2 (.list ds)) => i ≠ r ∧ r < Γ.length ∧ b Γ fun rb => match dat rb with
    | some (.int k) => ∃ a es, ixN ds.length k = some a ∧ ds[a]? = some (.list es) ∧ e (Γ.set r .gone) fun re => match dat re with
      | some d => itm 0 re ∧ c (Γ.set r .gone) fun rc => match dat rc with
        | some (.int l) => ∃ j, ixN es.length l = some j ∧ D.nx ((Γ.set r .gone).set i (.own 2 (.list (ds.set a (.list (es.set j d))))))
        | _ => False
      | none => False
    | _ => False
  | _ => False
section
variable {M : Md} {C : Cv} {Γ : List Sl} {σ : L2.St} {Fs Fs' : Fp} {H H1 H' : Hp} {n k i r : Nat} {F G : List Addr} {v y : V} {d : D} {ds : List D} {vs : List V} {a : Addr} {o o₀ : HO}
/-- a value that is not followed in slot i -/
theorem ER.lose (er : ER M C Fs Γ σ H) (hi : i < Γ.length) : ER M C (updF Fs i []) (Γ.set i .gone) (σ.set i (some v)) H := by
  refine ⟨er.fp.drop, by simp [er.len], fun j t hj hlv => ?_, fun j hj => ?_⟩
  · by_cases ej : j = i
    · subst ej
      rw [List.getElem?_set_self hi] at hj; cases hj; cases hlv
    · rw [List.getElem?_set_ne (Ne.symm ej)] at hj
      rw [List.getElem?_set_ne (Ne.symm ej)]
      obtain ⟨u, a, b⟩ := er.sl j t hj hlv
      exact ⟨u, a, b.shrink (fun p hp => absurd hp (by simp)) ej⟩
  · by_cases ej : j = i
    · rw [ej, updF_same]
    · rw [updF_ne ej]
      rw [List.getElem?_set_ne (Ne.symm ej)] at hj
      exact er.gn j hj
theorem OwA.flatten_set {P : D → V → List Addr → Prop} {Gs : List (List Addr)} {j : Nat} {F : List Addr} (e : Gs[j]? = some F) : Gs.set j F = Gs := by
  apply List.ext_getElem?
  intro l
  by_cases h : j = l
  · subst h
    rw [List.getElem?_set_self (List.getElem?_eq_some_iff.mp e).1, e]
  · rw [List.getElem?_set_ne h]
theorem list_set_same {α : Type} {xs : List α} {j : Nat} {x : α} (e : xs[j]? = some x) : xs.set j x = xs := by
  apply List.ext_getElem?
  intro l
  by_cases h : j = l
  · subst h
    rw [List.getElem?_set_self (List.getElem?_eq_some_iff.mp e).1, e]
  · rw [List.getElem?_set_ne h]
theorem nodup_apart {Gs : List (List Addr)} {i j : Nat} {F G : List Addr} {p : Addr} (nd : Gs.flatten.Nodup) (hi : Gs[i]? = some F) (hj : Gs[j]? = some G) (h1 : p ∈ F) (h2 : p ∈ G) : i = j := by
  induction Gs generalizing i j with
  | nil => simp at hi
  | cons K Gs ih =>
    rw [List.flatten_cons, List.nodup_append] at nd
    cases i with
    | zero =>
      cases j with
      | zero => rfl
      | succ j =>
        simp at hi hj; subst hi
        exact absurd rfl (nd.2.2 p h1 p (List.mem_flatten.mpr ⟨G, List.mem_of_getElem? hj, h2⟩))
    | succ i =>
      cases j with
      | zero =>
        simp at hi hj; subst hj
        exact absurd rfl (nd.2.2 p h2 p (List.mem_flatten.mpr ⟨F, List.mem_of_getElem? hi, h1⟩))
      | succ j => exact congrArg (· + 1) (ih nd.2.1 (by simpa using hi) (by simpa using hj))
/-- one of several owned things has changed at b, all in it -/
theorem OwA.setAt {Z Z' : Addr → Prop} {Gs : List (List Addr)} {b : Addr} {j : Nat} {v : V} {F : List Addr} {d : D} (e : H b = some o₀) (hn : notTF o₀) (h : OwA (fun d v F => Ow M Z H k d v F) ds vs Gs) (nd : Gs.flatten.Nodup) (hz : ∀ p, Z p → p ≠ b) (hF : Gs[j]? = some F) (hv : vs[j]? = some v) (hb : b ∈ F) (w : ∀ p, Z p → Z' p)
    (new : Ow M Z' (upd H b o) k d v F) : OwA (fun d v F => Ow M Z' (upd H b o) k d v F) (ds.set j d) vs Gs := by
  induction h generalizing j with
  | nil => simp at hF
  | @cons d0 v0 F0 ds vs Gs p t ih =>
    cases j with
    | zero =>
      simp at hF hv
      subst hF hv
      rw [List.flatten_cons, List.nodup_append] at nd
      refine .cons new (t.moved e hn hz (fun G hG p hp z => ?_) fun p hp _ => w p hp)
      subst z
      exact nd.2.2 p hb p (List.mem_flatten.mpr ⟨G, hG, hp⟩) rfl
    | succ j =>
      have hF' : Gs[j]? = some F := by simpa using hF
      have nd' := nd
      rw [List.flatten_cons, List.nodup_append] at nd
      refine .cons (Ow.wide (fun p hp _ => w p hp) (Ow.keep (Kp.upd (fun p hp z => ?_) e hn) p)) (ih nd.2.1 hF' (by simpa using hv))
      rcases hp with hp | hp
      · exact hz p hp z
      · subst z
        exact nd.2.2 p hp p (List.mem_flatten.mpr ⟨F, List.mem_of_getElem? hF', hb⟩) rfl
end
section
variable {X : Cx} {C : Cv} {b c e : Expr} {wb wc we : WE} {ws : WS} {rest : List Stmt} {pos1 pos2 p1 p2 p3 p4 p5 : Pos} {i r : Nat} {x y : Str} {Γ : List Sl} {σ : L2.St} {Fs : Fp} {H : Hp}
theorem vss_row (i r : Nat) (hN0 : X.N.Nodup) (hr : X.N[r]? = some y) (hy : Loc X.env.scope y) (hs : PlainIx b) (hb : VP X C b wb) (he : VP X C e we) (hc : VP X C c wc) (hrest : VPSs X C rest ws) (hN : X.N[i]? = some x := by rfl) (hv : Vis X.env.scope x := by first | exact Or.inl rfl | exact Or.inr (Or.inl rfl) | exact Or.inr (Or.inr rfl)) (hd : (x == ("__debug__" : Str)) = false := by decide) (hcd : (x == ("__classdict__" : Str)) = false := by decide)
    (hvy : Vis X.env.scope y := by first | exact Or.inl rfl | exact Or.inr (Or.inl rfl) | exact Or.inr (Or.inr rfl)) (hdy : (y == ("__debug__" : Str)) = false := by decide) (hcdy : (y == ("__classdict__" : Str)) = false := by decide)
    (hf : X.fn y = true ∨ X.env.scope.names.lookup y = some .local := by first | exact .inl rfl | exact .inr rfl | assumption)
    (hsw : swapsWith (.Subscript (.Name x p1) b p2) (some (.Name y p3)) pos1.line X.env = pure false := by rfl) (ha : ∀ v, assign (.Subscript (.Name y p4) c p5) X.env v = (do
      let ov ← holding [v] (eval (.Name y p4) X.env)
      let iv ← holding [v, ov] (eval c X.env)
      standAt p5
      holding [v, ov, iv] (setItem ov iv v)
      release [v, ov, iv] []) := by intro _; rfl)
    (hsw2 : swapsWithSole [.Subscript (.Name y p4) c p5] e pos2.line X.env = pure false := by rfl) (hsw3 : swappedStores [.Subscript (.Name y p4) c p5] e X.env = pure none := by rfl) (h1 : (assignEach [.Subscript (.Name y p4) c p5] X.env).map (·.2) = [assign (.Subscript (.Name y p4) c p5) X.env] := by rfl) :
    VPSs X C (.Assign [.Name y p3] (.Subscript (.Name x p1) b p2) pos1 :: .Assign [.Subscript (.Name y p4) c p5] e pos2 :: rest) (wSeq (wRow i r wb we wc) ws) := ⟨fun Γ D q Fs σ H er => by
  unfold wSeq wRow at q
  split at q
  · rename_i ds eΓ
    obtain ⟨hir, hrl, q⟩ := q
    obtain ⟨n, hl, hn⟩ := er.fp.free Γ.length
    obtain ⟨a, vs, Gs, ev, eF, ea, ow, hi⟩ := er.lst eΓ
    refine PSs.wk (pss_cons (ps_set hN0 hr hy (pe_ix ix_list (pe_var hN hv hd hcd) pe_wk hs) hsw hf) (pss_cons (ps_asg pe_wk (pg_sub (pe_var hr hvy hdy hcdy) pe_wk set_list ha) hsw2 hsw3 h1) pss_wk)) ?_
    refine ⟨.ref a, ev, (hb.run Γ _ q Fs σ H n er hl hn).mono fun u H1 ⟨rb, F, q, res⟩ => ?_⟩
    have er1 := er.step res.same
    have er1' := res.er er hl hn
    split at q
    · rename_i k ek
      obtain ⟨ai, es, hai, hes, q⟩ := q
      have hu : u = .int k := res.sl.rp er1'.fp ek
      obtain ⟨a', vs', Gs', ev', eF', ea', ow', _⟩ := er1.lst eΓ
      rw [ev] at ev'
      cases ev'
      obtain ⟨v, F', hv1, hv2, hv3⟩ := ow'.fp hes
      have hlen := ow'.len.1
      obtain ⟨b', us, Gb, eb, eFb, hb', owb⟩ := (show Ow (md X) (Zf C Fs) H1 1 (.list es) v F' from hv3)
      subst eb
      refine ⟨a, vs', k, .ref b', rfl, hu, .inl (.inl ea'), ix_atI (by rw [hlen]; exact hai) hv1, ?_⟩
      -- the row's name
      have er2 := er1.lose (v := .ref b') hrl
      show tAsg (wkE X e) (gSub (tVar r) (wkE X c) rSetL) _ _ _
      have hl2 : (Γ.set r Sl.gone).length ≤ n := by rw [List.length_set]; exact hl
      have hn2 : updF Fs r [] n = [] := by
        by_cases z : n = r
        · rw [z, updF_same]
        · rw [updF_ne z]; exact hn
      refine (he.run _ _ q _ _ H1 n er2 hl2 hn2).mono fun y H2 ⟨re, F2, q, res2⟩ => ?_
      have er3 := er2.step res2.same
      split at q
      · rename_i d ed
        obtain ⟨q1, q⟩ := q
        have fr := res2.frozen er2 hl2 hn2 ed q1
        refine ⟨.ref b', List.getElem?_set_self (by rw [er1.len]; exact hrl), (hc.run _ _ q _ _ H2 n er3 hl2 hn2).mono fun z H3 ⟨rc, F3, q, res3⟩ => ?_⟩
        have er4 := er3.step res3.same
        have er4' := res3.er er3 hl2 hn2
        split at q
        · rename_i l el
          obtain ⟨j, hj, q⟩ := q
          have hz : z = .int l := res3.sl.rp er4'.fp el
          have eΓ' : (Γ.set r Sl.gone)[i]? = some (.own 2 (.list ds)) := by rw [List.getElem?_set_ne (Ne.symm hir)]; exact eΓ
          obtain ⟨a4, vs4, Gs4, ev4, eF4, ea4, ow4, hi4⟩ := er4.lst eΓ'
          rw [List.getElem?_set_ne (Ne.symm hir), ev] at ev4
          cases ev4
          have x23 := res2.same.trans res3.same
          have na : ¬ C.hd a := (er1.fp.fr i a (by rw [eF']; exact List.mem_cons_self)).2.1
          have hvs : vs4 = vs' := by
            have t := x23.kp.z a _ na ea'
            rw [ea4] at t; cases t; rfl
          subst hvs
          obtain ⟨v4, F4, hv4, hF4, hv5⟩ := ow4.fp hes
          rw [hv1] at hv4
          cases hv4
          obtain ⟨b4, us4, Gb4, eb4, eFb4, hb4, owb4⟩ := (show Ow (md X) (Zf C (updF Fs r [])) H3 1 (.list es) (.ref b') F4 from hv5)
          cases eb4
          obtain ⟨rb0, gb0⟩ := owb4.rp0
          have hlen4 := rb0.length
          have fr3 : Rp (md X) (Zf C (updF Fs r [])) H3 d y := Rp.keep (res3.same.kp.mono fun p hp => hp.2.1) _ _ fr
          refine ⟨b', us4, l, j, rfl, hz, hb4, by rw [hlen4]; exact hj, ?_⟩
          have hbF : b' ∈ F4 := by rw [eFb4]; exact List.mem_cons_self
          have hbFs : b' ∈ updF Fs r [] i := by rw [eF4]; exact List.mem_cons_of_mem _ (List.mem_flatten.mpr ⟨F4, List.mem_of_getElem? hF4, hbF⟩)
          have nz : ∀ p, Zf C (updF Fs r []) p → p ≠ b' := fun p hp z => hp.1 ⟨i, z ▸ hbFs⟩
          have nd := er4.fp.nd i
          rw [eF4, List.nodup_cons] at nd
          have hab : a ≠ b' := fun z => nd.1 (z ▸ List.mem_flatten.mpr ⟨F4, List.mem_of_getElem? hF4, hbF⟩)
          have fu := er4.fp.upd (i := i) (a := b') (o := .lst (us4.set j y)) hbFs hb4 notTF_lst
          have new : Ow (md X) (Zf C (updF Fs r [])) (upd H3 b' (.lst (us4.set j y))) 1 (.list (es.set j d)) (.ref b') F4 := by
            refine ⟨b', us4.set j y, (es.set j d).map fun _ => [], rfl, by rw [flat_nil, eFb4, gb0], upd_same, ow0 (RpA.moved hb4 notTF_lst (rb0.set j fr3) nz fun p hp => hp)⟩
          have sl' : SlR (md X) C (updF Fs r []) (upd H3 b' (.lst (us4.set j y))) i (.own 2 (.list (ds.set ai (.list (es.set j d))))) (.ref a) :=
            ⟨a, vs4, Gs4, rfl, eF4, by rw [upd_ne hab]; exact ea4, OwA.setAt hb4 notTF_lst ow4 nd.2 nz hF4 hv1 hbF (fun p hp => hp) new⟩
          obtain ⟨er5, fz5⟩ := er4.mut (by rw [List.getElem?_set_ne (Ne.symm hir)]; exact ev) (by rw [List.length_set]; exact hi) hbFs hb4 notTF_lst (fun _ _ _ => rfl) (fun p hp => hp) fu sl'
          refine (hrest.run _ D q _ _ _ er5).mono (liftD.imp ?_)
          exact ((Fz.step res.same).trans (Fz.sub ownd_drop)).trans ((Fz.step x23).trans fz5)
        · exact q.elim
      · exact q.elim
    · exact q.elim
  · exact q.elim⟩
end
end VL
namespace VL
open PySem PySem.Spec PyProof.Rows L2

/-! ### dicts whose keys are tuples: a new key stored; {k: v} -/
def wDst (i : Nat) (kx e : WE) : WS := fun D Γ => match Γ[i]? with
  | some (.own 1 (.dict kvs)) => e Γ fun re => match dat re with
    | some d => itm 0 re ∧ kx Γ fun rk => match dat rk with
      | some kd => tupK kd = true ∧ (kvs.all fun p => tupK p.1) = true ∧ (kvs.any fun p => decide (nk p.1 = nk kd)) = false ∧ kvs.length < sizeLine ∧ D.nx (Γ.set i (.own 1 (.dict (kvs ++ [(kd, d)]))))
      | none => False
    | none => False
  | _ => False
def wDc1 (kx e : WE) : WE := fun Γ R => kx Γ fun rk => e Γ fun re => match dat rk, dat re with
  | some kd, some d => tupK kd = true ∧ frzd re ∧ R (.own 1 (.dict [(kd, d)]))
  | _, _ => False
section
variable {M : Md} {H : Hp} {a : Addr} {ks : List D} {vs : List V} {o : Obj} {pins : List (Addr × Obj)} {σ : L2.St} {s : Shared}
theorem paired_snoc {α β : Type} {F : α → β → Prop} : ∀ {l₁ : List α} {l₂ : List β} {a : α} {b : β}, Paired F l₁ l₂ → F a b → Paired F (l₁ ++ [a]) (l₂ ++ [b])
  | _, _, _, _, .nil, h => .cons h .nil
  | _, _, _, _, .cons r t, h => .cons r (paired_snoc t h)
/-- o[i] = v, a key that is not there -/
def rSetN (M : Md) : V → V → V → Hp → (Hp → Prop) → Prop := fun o i v H Q => ∃ (a : Addr) (ks : List D) (vs : List V) (kd : D) (Z : Addr → Prop), o = .ref a ∧ DcR M H a ks vs ∧ (∀ k ∈ ks, tupK k = true) ∧ tupK kd = true ∧ Rp M Z H kd i ∧ (ks.any fun d => decide (nk d = nk kd)) = false ∧ ks.length < sizeLine ∧
  ∀ o', DcO M H a o' (ks ++ [kd]) (vs ++ [v]) → Q (upd H a (exact a o'))
theorem paired_len {α β : Type} {F : α → β → Prop} : ∀ {l₁ : List α} {l₂ : List β}, Paired F l₁ l₂ → l₁.length = l₂.length
  | _, _, .nil => rfl
  | _, _, .cons _ t => by rw [List.length_cons, List.length_cons, paired_len t]
theorem set_nest {X : Cx} (hr : X.A.units + 64 < cLine) : PSet X (rSetN (md X)) := by
  intro pins s σ H o i v ov iv u Q I ro ri rv h
  obtain ⟨a, ks, vs, kd, Z, e, ⟨ob, ho, hob⟩, hk, hkd, hi, hnew, hlen, q⟩ := h
  subst e
  cases ro
  obtain ⟨b, e1, e2, hb, him⟩ := key_is I hkd hi ri
  subst e1 e2
  obtain ⟨es, ep, xs, h1, h2, h3, h4, h5, h6, h7, h8⟩ := hob.nested hk
  have hd := dict_of I ho h1 h2 h3 h4 h5
  have hn : atKey xs (nk kd) = none := by
    have t := atKey_any (F := fun (d : D) (x : NestedKey × Addr × Value) => tupK d = true ∧ nk d = x.1 ∧ Im X.K H d (.ref x.2.1)) (fun d x h => h.2.1) (nk kd) h5
    rw [hnew] at t
    exact Option.not_isSome_iff_eq_none.mp (by rw [t]; simp)
  have hxl : xs.length < sizeLine := by rw [← paired_len h5]; exact hlen
  refine wpAny_setItem_heap (knd := nestedKind X.prog X.w) (hsz := h7) (show X.A.units + 1 + 8 < cLine by omega) hb hd fun h' hm hs => ?_
  · rw [storedH_new hn] at hm
    obtain ⟨o', es', ep', ho', hc', hd', he', his', hn'⟩ := hm
    refine ⟨_, I.write (t' := _) (x := a) (e := a) (o := exact a o') (by rw [ho]; trivial) (.inl rfl) (fun b u hb hu => (hs.2 b hb).trans hu) ⟨_, ho'⟩ ⟨ho', ⟨_, ho'⟩, fun h1 h2 e k => k _ e⟩, q o' ?_⟩
    exact .nest hc' hd' he' hn' (paired_snoc h5 ⟨hkd, rfl, him⟩) (by rw [List.map_append]; exact h6.append (.cons rv .nil)) (by rw [List.length_append]; exact hxl) h8
/-- {k: v}, the key a tuple -/
abbrev dict0 : Obj := { cls := .type "dict", data := .dict #[] }
def tDc1 (M : Md) (tk tv : TE) : TE := fun σ H Q => ∀ d, H d = none → tk σ (upd H d (exact d dict0)) fun x H1 => tv σ H1 fun y H2 => H2 d = some (exact d dict0) ∧ ∃ kd Z, tupK kd = true ∧ Rp M Z H2 kd x ∧ ∀ o', DcO M H2 d o' [kd] [y] → Q (.ref d) (upd H2 d (exact d o'))
theorem pe_dc1 {X : Cx} {k v : Expr} {tk tv : TE} {pos : Pos} (hr : X.A.units + 64 < cLine) (hk : PE X k tk) (hv : PE X v tv)
    (hshape : (evalEachOpt [some k] X.env).zip ((evalEach [v] X.env).map fun v => do let x ← v; standAt pos; pure x) = [(some (eval k X.env), do let x ← eval v X.env; standAt pos; pure x)] := by rfl) : PE X (.Dict [some k] [v] pos) (tDc1 (md X) tk tv) := by
  refine ⟨fun pins s σ H Q I h => ?_⟩
  have e : (evalEachOpt [some k] X.env).zip ((evalEach [v] X.env).map fun v => do let x ← v; standAt pos; pure x) = [(eval k X.env, do let x ← eval v X.env; standAt pos; pure x)].map fun p => (some p.1, p.2) := hshape
  rw [arm_eval_Dict, e, dictDisplay_pairs [(eval k X.env, do let x ← eval v X.env; standAt pos; pure x)] (by simp) (show 1 < 17 by decide)]
  refine wpAny_bind (wpAny_standAt (wpAny_bind (wpAny_subDictH (knd := nestedKind X.prog X.w) (Q := fun d s' => wpAny (model X.prog X.w) X.A (pure (Value.ref d)) (EP X pins σ Q) X.xe s') (show X.A.units + 8 < cLine by omega) (show 1 ≤ 15 by decide) ?_)))
  have big := I.big
  have hm : (s.heap.objs.size == sysModules) = false := beq_eq_false_iff_ne.mpr (Nat.ne_of_gt big)
  have new : (s.heap.push dict0).get? s.heap.objs.size = some dict0 := Heap.get?_push_size _ rfl
  have I1 : Inv X pins σ (upd H s.heap.objs.size (exact s.heap.objs.size dict0)) { s with heap := s.heap.push dict0 } := I.laid (t' := s.toks) (fun b o q => Heap.get?_push_of_some _ q) (Nat.le_refl _) ⟨new, ⟨_, new⟩, fun h1 h2 e k => k _ e⟩
  refine evalPairs_cons (thn (hk.run pins _ σ _ _ I1 (h _ I.fresh)) fun kv s1 ⟨x, H1, I2, r1, q1⟩ => wpAny_bind (thn (hv.run pins s1 σ H1 _ I2 q1) fun vv s2 ⟨y, H2, I3, r2, hd, kd, Z, hkd, hrk, q⟩ => wpAny_bind (wpAny_standAt (wpAny_pure (evalPairs_nil ?_)))))
  obtain ⟨b, e1, e2, hb, him⟩ := key_is I3 hkd hrk r1
  subst e1 e2
  refine ⟨[(nk kd, b, vv)], ⟨rfl, rfl, hb, trivial⟩, ⟨dict0, #[], 0, (I3.hok _ _ hd).1, by exact ⟨rfl, rfl, rfl⟩, rfl, rfl, by simp, List.nodup_nil⟩, fun h' tk hm' hs => wpAny_pure ?_⟩
  obtain ⟨o', es', ep', ho', hc', hd', he', his', hn'⟩ := hm'
  refine ⟨.ref s.heap.objs.size, _, I3.write (t' := tk) (x := s.heap.objs.size) (e := s.heap.objs.size) (o := exact s.heap.objs.size o') (by rw [hd]; trivial) (.inl rfl) (fun b u hb hu => (hs.2 b hb).trans hu) ⟨_, ho'⟩ ⟨ho', ⟨_, ho'⟩, fun h1 h2 e k => k _ e⟩, rfl, q o' ?_⟩
  exact .nest (xs := [(nk kd, b, vv)]) hc' hd' he' hn' (.cons ⟨hkd, rfl, him⟩ .nil) (.cons r2 .nil) (by show 1 ≤ sizeLine; decide) hm
end
section
variable {X : Cx} {C : Cv} {k e : Expr} {wk we : WE} {pos p1 p2 : Pos} {i : Nat} {x : Str} {Γ : List Sl} {σ : L2.St} {Fs : Fp} {H : Hp}
theorem vp_dc1 (hr : X.A.units + 64 < cLine) (hk : VP X C k wk) (he : VP X C e we)
    (hshape : (evalEachOpt [some k] X.env).zip ((evalEach [e] X.env).map fun v => do let x ← v; standAt pos; pure x) = [(some (eval k X.env), do let x ← eval e X.env; standAt pos; pure x)] := by rfl) : VP X C (.Dict [some k] [e] pos) (wDc1 wk we) := ⟨fun Γ R q Fs σ H n er hl hn => by
  refine PE.wk (pe_dc1 hr pe_wk pe_wk hshape) fun d hd => ?_
  have x0 := same_new (o := exact d dict0) C.hd hd
  have nh := er.fp.nohd hd
  have er0 := er.lay (F := [d]) x0 (List.nodup_cons.mpr ⟨by simp, List.nodup_nil⟩) (fun p hp => by
    have e : p = d := by simpa using hp
    subst e
    exact ⟨hd, nh, by rw [upd_same]; exact Option.some_ne_none _⟩) hn hl
  refine (ve2 hk he q er0).mono fun x H1 q0 => q0.mono fun y H2 ⟨r1, r2, ns, Fs', q, t⟩ => ?_
  obtain ⟨m1, m2, en, s1, s2⟩ := tms2 t.at_
  subst en
  have hd2 : H2 d = some (exact d dict0) := t.same.kp.z d _ nh upd_same
  refine ⟨hd2, ?_⟩
  split at q
  · rename_i kd dd e1 e2
    obtain ⟨hkd, hf, q⟩ := q
    refine ⟨kd, _, hkd, s1.rp t.er.fp e1, fun o' ho' => ⟨_, [d], q, (x0.trans t.same).mut hd nh, List.nodup_cons.mpr ⟨by simp, List.nodup_nil⟩, fun p hp => ?_, ?_⟩⟩
    · have e : p = d := by simpa using hp
      subst e
      exact ⟨hd, nh, by rw [upd_same]; exact Option.some_ne_none _⟩
    · have hn1 : n ≠ m1 ∧ n ≠ m2 := by
        refine ⟨fun z => ?_, fun z => ?_⟩
        · have b := (t.big m1 (by simp)).2
          rw [← z, updF_same] at b; simp at b
        · have b := (t.big m2 (by simp)).2
          rw [← z, updF_same] at b; simp at b
      have hdn : d ∈ Fs' n := by rw [t.out n (by simp [hn1]), updF_same]; exact List.mem_cons_self
      have zsub : ∀ p, Zf C Fs' p → Zf C (updF Fs n [d]) p := fun p hp => ⟨fun ⟨j, hj⟩ => by
        by_cases hm : j ∈ [m1, m2]
        · rw [(t.big j hm).2] at hj; simp at hj
        · exact hp.1 ⟨j, by rw [t.out j hm]; exact hj⟩, hp.2⟩
      refine ⟨d, [y], [[]], rfl, by rw [updF_same]; rfl, ⟨o', upd_same, ?_⟩, .cons ⟨rfl, Rp.moved hd2 notTF_ext (s2.frz e2 hf) (fun p hp z => hp.1 ⟨n, z ▸ hdn⟩) zsub⟩ .nil⟩
      exact ho'.keep (Z := fun _ => False) (Kp.upd (fun _ h => h.elim) hd2 notTF_ext)
  · exact q.elim⟩
theorem ER.dct (er : ER (md X) C Fs Γ σ H) {kvs : List (D × D)} (e : Γ[i]? = some (.own 1 (.dict kvs))) :
    ∃ a vs Gs, σ[i]? = some (some (.ref a)) ∧ Fs i = a :: Gs.flatten ∧ DcR (md X) H a (kvs.map (·.1)) vs ∧ OwA (fun d v F => Ow (md X) (Zf C Fs) H 0 d v F) (kvs.map (·.2)) vs Gs ∧ i < Γ.length := by
  obtain ⟨v, ev, sl⟩ := er.sl_of e rfl
  obtain ⟨a, vs, Gs, e1, e2, e3, e4⟩ := (show Ow (md X) (Zf C Fs) H 1 (.dict kvs) v (Fs i) from sl)
  subst e1
  exact ⟨a, vs, Gs, ev, e2, e3, e4, (List.getElem?_eq_some_iff.mp e).1⟩
theorem vs_dst (i : Nat) (hr : X.A.units + 64 < cLine) (hk : VP X C k wk) (he : VP X C e we) (hN : X.N[i]? = some x := by rfl) (hv : Vis X.env.scope x := by first | exact Or.inl rfl | exact Or.inr (Or.inl rfl) | exact Or.inr (Or.inr rfl)) (hd : (x == ("__debug__" : Str)) = false := by decide) (hcd : (x == ("__classdict__" : Str)) = false := by decide)
    (ha : ∀ v, assign (.Subscript (.Name x p1) k p2) X.env v = (do
      let ov ← holding [v] (eval (.Name x p1) X.env)
      let iv ← holding [v, ov] (eval k X.env)
      standAt p2
      holding [v, ov, iv] (setItem ov iv v)
      release [v, ov, iv] []) := by intro _; rfl)
    (hsw2 : swapsWithSole [.Subscript (.Name x p1) k p2] e pos.line X.env = pure false := by rfl) (hsw3 : swappedStores [.Subscript (.Name x p1) k p2] e X.env = pure none := by rfl) (h1 : (assignEach [.Subscript (.Name x p1) k p2] X.env).map (·.2) = [assign (.Subscript (.Name x p1) k p2) X.env] := by rfl) :
    VPS X C (.Assign [.Subscript (.Name x p1) k p2] e pos) (wDst i wk we) := ⟨fun Γ D q Fs σ H er => by
  unfold wDst at q
  split at q
  · rename_i kvs eΓ
    obtain ⟨n, hl, hn⟩ := er.fp.free Γ.length
    refine PS.wk (ps_asg pe_wk (pg_sub (pe_var hN hv hd hcd) pe_wk (set_nest hr) ha) hsw2 hsw3 h1) ?_
    refine (he.run Γ _ q Fs σ H n er hl hn).mono fun y H1 ⟨re, F, q, res⟩ => ?_
    have er1 := er.step res.same
    split at q
    · rename_i d ed
      obtain ⟨q1, q⟩ := q
      have fr := res.frozen er hl hn ed q1
      obtain ⟨a, vs, Gs, ev, eF, ea, ow, hi⟩ := er1.dct eΓ
      refine ⟨.ref a, ev, (hk.run Γ _ q Fs σ H1 n er1 hl hn).mono fun z H2 ⟨rk, F2, q, res2⟩ => ?_⟩
      have er2 := er1.step res2.same
      have er2' := res2.er er1 hl hn
      split at q
      · rename_i kd ek
        obtain ⟨k1, k2, k3, k4, q⟩ := q
        obtain ⟨a2, vs2, Gs2, ev2, eF2, ea2, ow2, _⟩ := er2.dct eΓ
        rw [ev] at ev2
        cases ev2
        have fr2 : Rp (md X) (Zf C Fs) H2 d y := Rp.keep (res2.same.kp.mono fun p hp => hp.2.1) _ _ fr
        obtain ⟨rb, gb⟩ := ow2.rp0
        refine ⟨a, kvs.map (·.1), vs2, kd, _, rfl, ea2, fun k hk => ?_, k1, res2.sl.rp er2'.fp ek, by rw [any_map_fst]; exact k3, by rw [List.length_map]; exact k4, fun o' ho' => ?_⟩
        · obtain ⟨p, hp, rfl⟩ := List.mem_map.mp hk
          exact (List.all_eq_true.mp k2) p hp
        · obtain ⟨ob, hob, _⟩ := id ea2
          have haF : a ∈ Fs i := by rw [eF2]; exact List.mem_cons_self
          have nz : ∀ p, Zf C Fs p → p ≠ a := fun p hp z => hp.1 ⟨i, z ▸ haF⟩
          have fu := er2.fp.upd (i := i) (a := a) (o := exact a o') haF hob notTF_ext
          have sl' : SlR (md X) C Fs (upd H2 a (exact a o')) i (.own 1 (.dict (kvs ++ [(kd, d)]))) (.ref a) := by
            refine ⟨a, vs2 ++ [y], ((kvs ++ [(kd, d)]).map (·.2)).map fun _ => [], rfl, by rw [flat_nil, eF2, gb], ⟨o', upd_same, ?_⟩, ?_⟩
            · rw [List.map_append]
              exact ho'.keep (Z := fun _ => False) (Kp.upd (fun _ h => h.elim) hob notTF_ext)
            · refine ow0 ?_
              rw [List.map_append]
              exact RpA.append (RpA.moved hob notTF_ext rb nz fun p hp => hp) (RpA.one (Rp.moved hob notTF_ext fr2 nz fun p hp => hp))
          obtain ⟨er3, fz3⟩ := er2.mut ev hi haF hob notTF_ext (fun _ _ _ => rfl) (fun p hp => hp) fu sl'
          exact ⟨_, _, q, er3, (Fz.step (res.same.trans res2.same)).trans fz3⟩
      · exact q.elim
    · exact q.elim
  · exact q.elim⟩
end
end VL
namespace VL
open PySem PySem.Spec PyProof.Rows L2

def wNever : WS := fun _ _ => False
theorem vs_never {X : Cx} {C : Cv} {st : Stmt} : VPS X C st wNever := ⟨fun _ _ h => h.elim⟩
/-- a tuple repeated -/
def wMulT (a b : WE) : WE := fun Γ R => a Γ fun r1 => b Γ fun r2 => match dat r1, dat r2 with
  | some (.tuple ds), some (.int k) => frzd r1 ∧ ds ≠ [] ∧ 2 ≤ k ∧ k ≤ 1000 ∧ ds.length ≤ 1000 ∧ R (.own 0 (.tuple (List.replicate k.toNat ds).flatten))
  | _, _ => False
theorem RpA.rep {M : Md} {Z : Addr → Prop} {H : Hp} {ds : List D} {vs : List V} (h : RpA M Z H ds vs) : ∀ k : Nat, RpA M Z H (List.replicate k ds).flatten (List.replicate k vs).flatten
  | 0 => rfl
  | k + 1 => by
    rw [List.replicate_succ, List.replicate_succ, List.flatten_cons, List.flatten_cons]
    exact h.append (RpA.rep h k)
section
variable {X : Cx} {C : Cv} {a b e : Expr} {wa wb : WE} {pos : Pos}
theorem vp_mulT (ha : VP X C a wa) (hb : VP X C b wb) : VP X C (.BinOp a .Mult b pos) (wMulT wa wb) := ⟨fun Γ R q Fs σ H n er hl hn => by
  refine PE.wk (pe_op op_repT pe_wk pe_wk) ((ve2 ha hb q er).mono fun x H1 q0 => q0.mono fun y H2 ⟨r1, r2, ns, Fs', q, t⟩ => ?_)
  obtain ⟨m1, m2, en, s1, s2⟩ := tms2 t.at_
  split at q
  · rename_i ds k e1 e2
    obtain ⟨f, h0, h1, h2, h3, q⟩ := q
    obtain ⟨p, vs, ex, sq, rs⟩ := s1.frz e1 f
    have hy : y = .int k := s2.rp t.er.fp e2
    have hl := RpA.length rs
    refine ⟨p, k, vs, ex, hy, sq, ?_, h1, h2, by omega, fun np hnp => ⟨_, [], q, t.tup hn hnp (rs.rep _)⟩⟩
    intro z
    subst z
    exact h0 (List.length_eq_zero_iff.mp hl.symm)
  · exact q.elim⟩
end

/-! ### exceptions -/
/-- what a def is to do that may raise -/
abbrev XSpec := List Sl → (Sl → Prop) → (Value → Prop) → Prop
def spX (M : Md) (ar : Nat) (spec : XSpec) : Sp := fun vs H Q E => ∃ C ss, C.H0 = H ∧ (∀ p, C.hd p → HandOk C.hd H p) ∧ ArgsOk M C ss vs ∧ ss.length = ar ∧ spec ss (fun r => ∀ k d v H' F, r = .own k d → Res M C noF 0 H H' r F v → Q v H') fun cls => ∀ d H', SameX C.hd H H' → E cls d H'
def MonoX (s : XSpec) : Prop := ∀ ss R R' Ex Ex', (∀ r, R r → R' r) → (∀ c, Ex c → Ex' c) → s ss R Ex → s ss R' Ex'
/-- from the def's entry on -/
def exF (C : Cv) (Ex : Value → Prop) : WX := fun cls _ _ H' => SameX C.hd C.H0 H' ∧ Ex cls
abbrev WXE := List Sl → (Sl → Prop) → (Value → Prop) → Prop
structure VPX (X : Cx) (C : Cv) (e : Expr) (w : WXE) : Prop where
  run : ∀ Γ R Ex, w Γ R Ex → ∀ (Fs : Fp) (σ : L2.St) (H : Hp) (n : Nat), ER (md X) C Fs Γ σ H → Γ.length ≤ n → Fs n = [] → Takes X (fun cls _ σ' H' => σ' = σ ∧ SameX C.hd H H' ∧ Ex cls) → wkE X e σ H fun v H' => ∃ r F, R r ∧ Res (md X) C Fs n H H' r F v
def wCallX (ks : List PKd) (s : XSpec) (w : WA) : WXE := fun Γ R Ex => w Γ fun rs => passes ks rs fun ss => s ss R Ex
section
variable {X : Cx} {C : Cv} {e : Expr} {es : List Expr} {w : WA} {wx : WXE} {x : Str} {pos pos' p : Pos}
theorem vp_callX {f : Addr} {fd : FuncData} {ps : List Str} {k : Nat} {ks : List PKd} {s : XSpec} (F : FnOk X.prog X.w X.K X.mg X.base (L2.CX X.prog X.w) k f fd ps (spX (md X) ps.length s)) (ms : MonoX s) (hk : ks.length = ps.length) (hr : Room k X.A) (hg : Gl X x) (hm : X.mg x = some (.ref f)) (hkp : PySem.W.keepIn X.K (.ref f) = true) (hb : Binds X.K fd ps [])
    (ha : VPA X C (e :: es) w) (hdb : (x == ("__debug__" : Str)) = false := by decide) (he : starEach (e :: es) X.env = (false, eval e X.env) :: starEach es X.env := by rfl) (hpl : (backTo pos (starEach es X.env)).any (·.1) = false := by rfl) :
    VPX X C (.Call (.Name x p) (e :: es) [] pos) (wCallX ks s w) := by
  refine ⟨fun Γ R Ex q Fs σ H n er hl hn tk => PE.wk (pe_callS (t := wkA X (e :: es)) F hr hg hm hkp hb (fun σ => passAt tk σ) pa_wk hdb he hpl) ((ha.run Γ _ q Fs σ H 0 er).mono fun vs H1 ⟨rs, ns, Fs', q1, _, t⟩ => ?_)⟩
  obtain ⟨ss, q2, q3, q4⟩ := Tms.pass t hn (C' := ⟨H1, Zf C Fs, C.hd⟩) rfl rfl rfl t.at_ (fun i hi => hi) q1
  refine ⟨⟨H1, Zf C Fs, C.hd⟩, ss, rfl, t.er.fp.hok, q3, by rw [q4, hk], ms _ _ _ _ _ (fun r hr k d v H' F e res => ?_) (fun cls hc d H' x => ⟨rfl, t.same.trans x, hc⟩) q2⟩
  subst e
  exact ⟨_, F, hr, t.called hn (C' := ⟨H1, Zf C Fs, C.hd⟩) rfl rfl rfl res⟩
/-- a call that may raise, as a statement of a def that lets it out -/
def wExX (Ex : Value → Prop) (a : WXE) : WS := fun D Γ => a Γ (fun _ => D.nx Γ) Ex
theorem vs_exprX {Ex : Value → Prop} (tk : Takes X (exF C Ex)) (h : VPX X C e wx) (hs : swapsWith e none pos.line X.env = pure false := by rfl) : VPS X C (.Expr e pos) (wExX Ex wx) := ⟨fun Γ D q Fs σ H er => by
  obtain ⟨n, hl, hn⟩ := er.fp.free Γ.length
  exact PS.wk (ps_expr pe_wk hs) ((h.run Γ _ _ q Fs σ H n er hl hn (tk.imp fun c d σ' H' ⟨_, x, q⟩ => ⟨er.fp.same.trans x, q⟩)).mono fun v H1 ⟨r, F, q, res⟩ => ⟨Fs, Γ, q, er.step res.same, .step res.same⟩)⟩
/-- return of a call that may raise -/
def wRetX (Ex : Value → Prop) (a : WXE) : WS := fun D Γ => a Γ (fun r => match r with
  | .own k d => D.rt (.own k d)
  | _ => False) Ex
theorem vs_retX {Ex : Value → Prop} (tk : Takes X (exF C Ex)) (h : VPX X C e wx) : VPS X C (.Return (some e) pos) (wRetX Ex wx) := ⟨fun Γ D q Fs σ H er => by
  obtain ⟨n, hl, hn⟩ := er.fp.free Γ.length
  refine PS.wk (ps_ret pe_wk) ((h.run Γ _ _ q Fs σ H n er hl hn (tk.imp fun c d σ' H' ⟨_, x, q⟩ => ⟨er.fp.same.trans x, q⟩)).mono fun v H1 ⟨r, F, q, res⟩ => ?_)
  cases r with
  | own k d => exact ⟨k, d, F, q, res.back er⟩
  | _ => exact q.elim⟩
/-- X() made -/
theorem pmk0 {E : Addr} {bmB : List Value} {B newId initId : String} (F : ExcBaseFacts B newId initId bmB) (q : PySem.W.excIn X.K E bmB newId = true) (gC : X.mg x = some (.ref E)) (kC : PySem.W.keepIn X.K (.ref E) = true) (r : Raises X (.ref E)) (hg : Gl X x) (hdb : (x == ("__debug__" : Str)) = false := by decide) :
    PMk X (.Call (.Name x p) [] [] pos) (fun _ H Q => Q (.ref E) none H) := by
  intro pins s σ H Q I h
  refine wpAny_Call_Name_kw (ld_glob I hg gC (PySem.W.callWith_K0 I.kIn kC ?_) hdb)
  obtain ⟨bm, N, nm, qn, bs, hdct, sn, sub, ab, col, dd, k0, k1, k2, k3, k5, mN, hC, hN, hni, T⟩ := exc_obj I.kIn q
  exact wpAny_call_exc_subT F T hC hN hni (fun h' e hm => mk_of I hm r h (I.hok.gone hm.new)) (Nat.zero_le _)
def wRais (Ex : Value → Prop) (c : Value) : WS := fun _ _ => Ex c
theorem vs_rais {Ex : Value → Prop} {E : Addr} {bmB : List Value} {B newId initId : String} (hc : X.calm = true) (tk : Takes X (exF C Ex)) (F : ExcBaseFacts B newId initId bmB) (q : PySem.W.excIn X.K E bmB newId = true) (gC : X.mg x = some (.ref E)) (kC : PySem.W.keepIn X.K (.ref E) = true) (r : Raises X (.ref E)) (hg : Gl X x) (hdb : (x == ("__debug__" : Str)) = false := by decide) :
    VPS X C (.Raise (some (.Call (.Name x p) [] [] pos)) none pos') (wRais Ex (.ref E)) := ⟨fun Γ D h Fs σ H er => PS.wk (ps_raise hc tk (pmk0 F q gC kC r hg hdb)) ⟨er.fp.same, h⟩⟩
/-- try: a call / except x: .. -/
def wTry (K : PySem.W.Frag) (c : Value) (a : WXE) (b : WS) : WS := fun D Γ => a Γ (fun _ => D.nx Γ) fun cls => PySem.W.exmOne K cls c = some true ∧ b D Γ
theorem vs_try {y : Str} {c : Value} {b₀ : Stmt} {suite : List Stmt} {ws : WS} {np pos1 pos2 pos3 : Pos} (hs : X.stack = X.env :: X.outer) (hf : X.env.frame = some X.env.locals) (hc : Names X y c) (h : ∀ pn xe, VPX (X.tr pn xe) C e wx) (hsu : ∀ a pn, VPSs (X.suite a pn) C (b₀ :: suite) ws) (hsw : swapsWith e none pos1.line X.env = pure false := by rfl) :
    VPS X C (.Try [.Expr e pos1] [.ExceptHandler (some (.Name y np)) none (b₀ :: suite) pos2] [] [] pos3) (wTry X.K c wx ws) := ⟨fun Γ D q Fs σ H er => by
  refine PS.wk (ps_try_only (tb := fun W D σ H => ∀ pn xe, Takes (X.tr pn xe) W → wkSs (X.tr pn xe) [.Expr e pos1] D σ H) (ts := fun a cls d D σ H => ∀ oe pn, wkSs (X.suite a ((a, oe) :: pn)) (b₀ :: suite) D σ H) hs hf hc takes0 (fun W pn xe tk _ => ⟨fun pins s σ H D I k => k pn xe tk pins s I⟩) fun a oe cls d pn _ _ => ⟨fun pins s σ H D I k => k oe pn pins s I⟩) ?_
  intro pn xe tk
  obtain ⟨n, hl, hn⟩ := er.fp.free Γ.length
  refine PSs.wk (pss_one (ps_expr pe_wk hsw)) (((h pn xe).run Γ _ _ q Fs σ H n er hl hn (tk.imp fun cls d σ' H' ⟨e1, x, q1, q2⟩ => ?_)).mono fun v H1 ⟨r, F, q, res⟩ => ⟨Fs, Γ, q, er.step res.same, .step res.same⟩)
  subst e1
  exact ⟨true, q1, fun _ a na oe pn => ((hsu a ((a, oe) :: pn)).run Γ D q2 Fs σ' H' (er.step x)).mono (liftD.imp (.step x)), fun z => by cases z⟩⟩
end
section
variable {P : Program} {w : World} {K : PySem.W.Frag} {mg : Str → Option Value} {base : Heap}
/-- a def that may raise keeps its spec, by its body -/
theorem okX {x qual : Str} {st : Stmt} {f : Addr} {fd : FuncData} {N ps : List Str} {k : Nat} {s : XSpec} (F : Fun K x qual st f fd) (S : FnScope N ps (defScope st))
    (hbody : ∀ (cdv : Value) (A : Around) (outer : List Env) (s₀ : Shared) (H : Hp) (E : XK) (C : Cv) (Ex : Value → Prop), Room k (A.deeper (envOfC qual (defScope st) s₀.heap.objs.size f cdv)) → Takes (cxOf (L2.CX P w) P w K mg base N qual (defScope st) f cdv A outer s₀ H E) (exF C Ex) →
      PassesOwn (model P w) (cxOf (L2.CX P w) P w K mg base N qual (defScope st) f cdv A outer s₀ H E).A (cxOf (L2.CX P w) P w K mg base N qual (defScope st) f cdv A outer s₀ H E).env (cxOf (L2.CX P w) P w K mg base N qual (defScope st) f cdv A outer s₀ H E).xe →
      ∃ wb, VPSs (cxOf (L2.CX P w) P w K mg base N qual (defScope st) f cdv A outer s₀ H E) C (defBody st) wb ∧
        ∀ (ss : List Sl) (R : Sl → Prop), ss.length = ps.length → s ss R Ex → wb { nx := fun _ => R (.own 0 .none), rt := R } (ss ++ List.replicate (N.length - ps.length) .gone)) :
    FnOk P w K mg base (L2.CX P w) (k + 1) f fd ps (spX ⟨P, w, K⟩ ps.length s) := by
  refine F.okX S (fun vs H Q E ⟨C, ss, e0, hok, ha, hl, _⟩ => by rw [ha.len, hl]) (fun cdv A outer s₀ H vs Q E hr ⟨C, ss, e0, hok, ha, hl, hs⟩ => ?_)
  have tk : Takes (cxOf (L2.CX P w) P w K mg base N qual (defScope st) f cdv A outer s₀ H E) (fun cls d _ H => E cls d H) := takes_of rfl rfl rfl rfl
  obtain ⟨wb, hw, q⟩ := hbody cdv A outer s₀ H E C (fun cls => ∀ d H', SameX C.hd H H' → E cls d H') hr (tk.imp fun cls d σ' H' ⟨x, h⟩ => h d H' (by rw [← e0]; exact x)) (passes_of rfl)
  refine ⟨wkSs _ _, pss_wk, ?_⟩
  have er := args_er (m := N.length - ps.length) (by rw [e0]; exact hok) ha
  rw [e0] at er
  have hst : L2.start N vs = vs.map some ++ List.replicate (N.length - ps.length) none := by
    unfold L2.start
    rw [ha.len, hl]
  rw [hst]
  refine (hw.run _ _ (q ss _ hl hs) noF _ H er).mono ⟨fun σ' H' ⟨Fs', Γ', h, er', _⟩ => ?_, fun v H' ⟨k, d, F, h, res⟩ => ?_, fun σ' H' ⟨_, _, h, _⟩ => h, fun σ' H' ⟨_, _, h, _⟩ => h⟩
  · refine h 0 .none .non H' [] rfl ?_
    have r0 := (Res.imm (n := 0) (Fs := Fs') (d := .none) (Z := fun _ => False) rfl rfl : Res ⟨P, w, K⟩ C Fs' 0 H' H' _ _ .non).back er'
    rw [e0] at r0
    exact r0
  · rw [e0] at res
    exact h k d v H' F rfl res
end
end VL
namespace VL
open PySem PySem.Spec PyProof.Rows L2

/-! ### y = x, x not used any more -/
def wMv (i j : Nat) : WS := fun D Γ => match Γ[j]? with
  | some (.own k d) => i ≠ j ∧ i < Γ.length ∧ D.nx ((Γ.set j .gone).set i (.own k d))
  | _ => False
section
variable {X : Cx} {C : Cv} {pos p1 p2 : Pos} {i j : Nat} {x y : Str}
theorem vs_mv (i j : Nat) (hN0 : X.N.Nodup) (hi : X.N[i]? = some y) (hy : Loc X.env.scope y) (hN : X.N[j]? = some x := by rfl) (hv : Vis X.env.scope x := by first | exact Or.inl rfl | exact Or.inr (Or.inl rfl) | exact Or.inr (Or.inr rfl)) (hd : (x == ("__debug__" : Str)) = false := by decide) (hcd : (x == ("__classdict__" : Str)) = false := by decide)
    (hs : swapsWith (.Name x p1) (some (.Name y p2)) pos.line X.env = pure false := by rfl) (hf : X.fn y = true ∨ X.env.scope.names.lookup y = some .local := by first | exact .inl rfl | exact .inr rfl | assumption) :
    VPS X C (.Assign [.Name y p2] (.Name x p1) pos) (wMv i j) := ⟨fun Γ D q Fs σ H er => by
  unfold wMv at q
  split at q
  · rename_i k d eΓ
    obtain ⟨hij, hil, q⟩ := q
    obtain ⟨v, ev, sl⟩ := er.sl_of eΓ rfl
    have sl : Ow (md X) (Zf C Fs) H k d v (Fs j) := sl
    have hjl := (List.getElem?_eq_some_iff.mp eΓ).1
    refine PS.wk (ps_set hN0 hi hy (pe_var hN hv hd hcd) hs hf) ⟨v, ev, ?_⟩
    have mv := er.fp.move (n := j) (i := i) (G := Fs j) (er.fp.nd j) fun p hp => hp
    have own := ownd_move (Fs := Fs) (n := j) (i := i) (G := Fs j) fun p hp => hp
    -- the old name lost
    have er1 : ER (md X) C (updF (updF Fs j []) i (Fs j)) ((Γ.set j .gone).set i (.own k d)) (σ.set i (some v)) H := by
      refine ⟨mv, by simp [er.len], fun l t hl hlv => ?_, fun l hl => ?_⟩
      · by_cases el : l = i
        · subst el
          rw [List.getElem?_set_self (by rw [List.length_set]; exact hil)] at hl
          cases hl
          refine ⟨v, List.getElem?_set_self (by rw [er.len]; exact hil), ?_⟩
          show Ow _ _ H k d v (updF (updF Fs j []) l (Fs j) l)
          rw [updF_same]
          exact Ow.wide (fun p hp _ => Zf.sub own p hp) sl
        · rw [List.getElem?_set_ne (Ne.symm el)] at hl
          by_cases ej : l = j
          · subst ej
            rw [List.getElem?_set_self hjl] at hl; cases hl; cases hlv
          · rw [List.getElem?_set_ne (Ne.symm ej)] at hl
            obtain ⟨u, a, b⟩ := er.sl l t hl hlv
            refine ⟨u, by rw [List.getElem?_set_ne (Ne.symm el)]; exact a, ?_⟩
            have eF : updF (updF Fs j []) i (Fs j) l = Fs l := by rw [updF_ne el, updF_ne ej]
            cases t with
            | gone => trivial
            | own k d =>
              show Ow _ _ H k d u (updF (updF Fs j []) i (Fs j) l)
              rw [eF]
              exact Ow.wide (fun p hp _ => Zf.sub own p hp) b
            | bor d => exact ⟨eF.trans b.1, b.2⟩
            | now d => cases hlv
            | hnd => exact ⟨eF.trans b.1, b.2⟩
      · by_cases el : l = i
        · subst el
          rw [List.getElem?_set_self (by rw [List.length_set]; exact hil)] at hl
          cases hl
        · rw [List.getElem?_set_ne (Ne.symm el)] at hl
          rw [updF_ne el]
          by_cases ej : l = j
          · rw [ej, updF_same]
          · rw [updF_ne ej]
            rw [List.getElem?_set_ne (Ne.symm ej)] at hl
            exact er.gn l hl
    exact ⟨_, _, q, er1, Fz.sub own⟩
  · exact q.elim⟩
end
/-! ### specs by what is handed back -/
def spR (rel : List Sl → Sl → Prop) : VSpec := fun ss R => ∃ r, rel ss r ∧ R r
theorem mono_spR {rel : List Sl → Sl → Prop} : MonoS (spR rel) := fun ss R R' h ⟨r, a, b⟩ => ⟨r, a, h r b⟩
def spE (rel : List Sl → Sl → Prop) (ex : List Sl → Value → Prop) : XSpec := fun ss R Ex => (∃ r, rel ss r ∧ R r) ∨ ∃ c, ex ss c ∧ Ex c
theorem mono_spE {rel : List Sl → Sl → Prop} {ex : List Sl → Value → Prop} : MonoX (spE rel ex) := fun ss R R' Ex Ex' h h' q => by
  rcases q with ⟨r, a, b⟩ | ⟨c, a, b⟩
  · exact .inl ⟨r, a, h r b⟩
  · exact .inr ⟨c, a, h' c b⟩
end VL
namespace VL
open PySem PySem.Spec PyProof.Rows L2
/-- a comprehension by what each item gives -/
theorem lc_fm {k : Nat} {g : WG} {tt : WT} {we : WE} {Γ : List Sl} {R : List D → Prop} {ds : List D} (f : D → Option D) 
    (h : ∀ (i : Nat) (d : D) (Kk : Option D → Prop), ds[i]? = some d → Kk (f d) → g d Γ fun Γ2 => tt Γ2 fun b => cnd b (we Γ2 (lcP k fun x => Kk (some x))) (Kk none)) (q : R (ds.filterMap f)) :
    ∃ I : Nat → List D → Prop, I 0 [] ∧ (∀ i d acc, ds[i]? = some d → I i acc → g d Γ fun Γ2 => tt Γ2 fun b => cnd b (we Γ2 (lcP k fun x => I (i + 1) (acc ++ [x]))) (I (i + 1) acc)) ∧ ∀ acc, I ds.length acc → R acc := by
  refine ⟨fun i acc => acc = (ds.take i).filterMap f, by simp, fun i d acc hd e => ?_, fun acc e => ?_⟩
  · subst e
    have t : (ds.take (i + 1)).filterMap f = (ds.take i).filterMap f ++ (f d).toList := by
      rw [List.take_add_one, hd, List.filterMap_append]
      cases hf : f d <;> simp [hf]
    refine h i d (fun o => (match o with | some x => (ds.take i).filterMap f ++ [x] | none => (ds.take i).filterMap f) = (ds.take (i + 1)).filterMap f) hd ?_
    rw [t]
    cases f d <;> simp
  · subst e
    rw [List.take_length]; exact q
theorem lc_mp {k : Nat} {g : WG} {we : WE} {Γ : List Sl} {R : List D → Prop} {ds : List D} (f : D → D) 
    (h : ∀ (i : Nat) (d : D) (Kk : Option D → Prop), ds[i]? = some d → Kk (some (f d)) → g d Γ fun Γ2 => wYes Γ2 fun b => cnd b (we Γ2 (lcP k fun x => Kk (some x))) (Kk none)) (q : R (ds.map f)) :
    ∃ I : Nat → List D → Prop, I 0 [] ∧ (∀ i d acc, ds[i]? = some d → I i acc → g d Γ fun Γ2 => wYes Γ2 fun b => cnd b (we Γ2 (lcP k fun x => I (i + 1) (acc ++ [x]))) (I (i + 1) acc)) ∧ ∀ acc, I ds.length acc → R acc :=
  lc_fm (tt := wYes) (fun d => some (f d)) h (by rw [List.filterMap_eq_map']; exact q)
/-- a text by its signs -/
abbrev wd (l : List Nat) : D := .str ⟨l.toArray⟩
theorem cut_nat (l : List Nat) (a b : Nat) : cutS ⟨l.toArray⟩ (some (a : Int)) (some (b : Int)) = ⟨((l.drop a).take (b - a)).toArray⟩ := by
  unfold cutS
  have hn : (⟨l.toArray⟩ : Str).length = l.length := by show l.toArray.size = _; simp
  rw [HT.sIx_nat, HT.sIx_nat, hn]
  congr 2
  show List.take _ (List.drop _ l.toArray.toList) = _
  rw [List.toList_toArray]
  by_cases h : a ≤ l.length
  · rw [Nat.min_eq_left h, List.take_eq_take_iff, List.length_drop]
    omega
  · have e : min a l.length = l.length := by omega
    rw [e, List.drop_of_length_le (Nat.le_refl _), List.drop_of_length_le (show l.length ≤ a by omega)]
    simp
theorem bb_len : bootBuiltins "len" = some (.builtin "len") := by decide +kernel
theorem bb_int : bootBuiltins "int" = some (.type "int") := by decide +kernel
theorem bb_all : bootBuiltins "all" = some (.builtin "all") := by decide +kernel
theorem bb_any : bootBuiltins "any" = some (.builtin "any") := by decide +kernel
theorem bb_isinstance : bootBuiltins "isinstance" = some (.builtin "isinstance") := by decide +kernel
theorem bb_tuple : bootBuiltins "tuple" = some (.type "tuple") := by decide +kernel
theorem bb_list : bootBuiltins "list" = some (.type "list") := by decide +kernel
theorem bb_str : bootBuiltins "str" = some (.type "str") := by decide +kernel
theorem bb_bool : bootBuiltins "bool" = some (.type "bool") := by decide +kernel
theorem bb_sorted : bootBuiltins "sorted" = some (.builtin "sorted") := by decide +kernel
theorem bb_set : bootBuiltins "set" = some (.type "set") := by decide +kernel
theorem mono_le : Mono dLe := mono_I0
theorem mono_gt : Mono dGt := mono_I0
theorem mono_ge : Mono dGe := mono_I0
theorem mono_sub : Mono dSub := mono_I0
theorem mono_mul : Mono dMul := mono_I
theorem mono_div : Mono dDiv := mono_I
theorem mono_mod : Mono dMod := mono_I
theorem mono_pow : Mono dPow := mono_I
theorem iteT {c : Bool} {p q : Prop} (h : c = true) (hp : p) : if c = true then p else q := by rw [if_pos h]; exact hp
theorem iteF {c : Bool} {p q : Prop} (h : c = false) (hq : q) : if c = true then p else q := by subst h; exact hq
theorem iteB {c : Bool} {p q : Prop} (h1 : c = true → p) (h2 : c = false → q) : if c = true then p else q := by
  cases c with
  | true => exact h1 rfl
  | false => exact h2 rfl
theorem all_map_bool {ds : List D} {f : D → Bool} {k : D → Prop} (h : k (.bool (ds.all f))) : dAll (.list (ds.map fun d => .bool (f d))) k := by
  have e : ds.map (fun d => PyData.bool (f d)) = (ds.map f).map PyData.bool := by rw [List.map_map]; rfl
  rw [e]
  unfold dAll
  simp only [boolsD_map]
  rw [List.all_map]
  exact h
theorem noTF {p : Prop} (h : true = false) : p := nomatch h
theorem noFT {p : Prop} (h : false = true) : p := nomatch h
/-- with what holds between -/
def wSeqJ (a b : WS) : WS := fun D Γ => ∃ J : List Sl → Prop, a { D with nx := J } Γ ∧ ∀ Γ', J Γ' → b D Γ'
theorem vss_consJ {X : Cx} {C : Cv} {st : Stmt} {sts : List Stmt} {ws ws' : WS} (h1 : VPS X C st ws) (h2 : VPSs X C sts ws') : VPSs X C (st :: sts) (wSeqJ ws ws') := by
  refine ⟨fun Γ D ⟨J, h, hJ⟩ Fs σ H er => PSs.wk (pss_cons ps_wk pss_wk) ((h1.run Γ _ h Fs σ H er).mono ⟨fun σ' H' ⟨Fs', Γ', q, er', fz⟩ => ?_, fun _ _ h => h, fun _ _ h => h, fun _ _ h => h⟩)⟩
  exact (h2.run Γ' D (hJ Γ' q) Fs' σ' H' er').mono (liftD.imp fz)
theorem plS {s : Str} : (PyData.str s).plain = true := by simp [PyData.plain]
theorem plI {i : Int} : (PyData.int i).plain = true := by simp [PyData.plain]
theorem plB {b : Bool} : (PyData.bool b).plain = true := by simp [PyData.plain]
theorem dpS {s : Str} : (PyData.str s).depth ≤ 40 := by simp [PyData.depth]
theorem dpI {i : Int} : (PyData.int i).depth ≤ 40 := by simp [PyData.depth]
theorem dpB {b : Bool} : (PyData.bool b).depth ≤ 40 := by simp [PyData.depth]
theorem wd_len {l : List Nat} : (⟨l.toArray⟩ : Str).length = l.length := by show l.toArray.size = _; simp
theorem wd_sz {l : List Nat} (h : l.length ≤ 1000) : (⟨l.toArray⟩ : Str).length ≤ sizeLine := by
  rw [wd_len]; exact Nat.le_trans h (by decide)
theorem atI_of {α : Type} {xs : List α} {i : Nat} {x : α} (h : xs[i]? = some x) : atI xs (i : Int) = some x := by
  exact atI_nat h
theorem immA_all : ∀ {ds : List D}, (∀ d ∈ ds, imm d = true) → immA ds = true
  | [], _ => by simp [immA]
  | d :: ds, h => by
    simp only [immA, Bool.and_eq_true]
    exact ⟨h d List.mem_cons_self, immA_all fun e he => h e (List.mem_cons_of_mem _ he)⟩
theorem immA_mem : ∀ {ds : List D}, immA ds = true → ∀ d ∈ ds, imm d = true
  | [], _, d, h => by simp at h
  | e :: ds, h, d, hd => by
    simp only [immA, Bool.and_eq_true] at h
    rcases List.mem_cons.mp hd with rfl | hd
    · exact h.1
    · exact immA_mem h.2 d hd
theorem immA_iff {ds : List D} : immA ds = true ↔ ∀ d ∈ ds, imm d = true := ⟨immA_mem, immA_all⟩
/-- specs that leave the value open -/
def spA (pre : List Sl → Prop) (post : List Sl → Sl → Prop) : VSpec := fun ss R => pre ss ∧ ∀ r, post ss r → R r
theorem mono_spA {pre : List Sl → Prop} {post : List Sl → Sl → Prop} : MonoS (spA pre post) := fun ss R R' h ⟨a, b⟩ => ⟨a, fun r q => h r (b r q)⟩
theorem mbd (a m : Int) (h : 0 < m) : 0 ≤ a % m ∧ a % m < m := ⟨Int.emod_nonneg a (by omega), Int.emod_lt_of_pos a h⟩
theorem wd_app (a b : List Nat) : (⟨a.toArray⟩ : Str) ++ ⟨b.toArray⟩ = ⟨(a ++ b).toArray⟩ := by
  show (⟨a.toArray ++ b.toArray⟩ : Str) = _
  rw [List.append_toArray]
/-- a call of a def that may raise, where it does not -/
theorem vp_callN {X : Cx} {C : Cv} {e : Expr} {es : List Expr} {w : WA} {x : Str} {pos p : Pos} {f : Addr} {fd : FuncData} {ps : List Str} {k : Nat} {ks : List PKd} {s : XSpec} (F : FnOk X.prog X.w X.K X.mg X.base (L2.CX X.prog X.w) k f fd ps (spX (md X) ps.length s)) (ms : MonoX s) (hk : ks.length = ps.length) (hr : Room k X.A) (hg : Gl X x) (hm : X.mg x = some (.ref f)) (hkp : PySem.W.keepIn X.K (.ref f) = true) (hb : Binds X.K fd ps [])
    (ha : VPA X C (e :: es) w) (hdb : (x == ("__debug__" : Str)) = false := by decide) (he : starEach (e :: es) X.env = (false, eval e X.env) :: starEach es X.env := by rfl) (hpl : (backTo pos (starEach es X.env)).any (·.1) = false := by rfl) :
    VP X C (.Call (.Name x p) (e :: es) [] pos) (wCall ks (fun ss R => s ss R fun _ => False) w) := by
  refine ⟨fun Γ R q Fs σ H n er hl hn => PE.wk (pe_call (t := wkA X (e :: es)) F hr hg hm hkp hb .nil passL pa_wk hdb he hpl) ((ha.run Γ _ q Fs σ H 0 er).mono fun vs H1 ⟨rs, ns, Fs', q1, _, t⟩ => ?_)⟩
  obtain ⟨ss, q2, q3, q4⟩ := Tms.pass t hn (C' := ⟨H1, Zf C Fs, C.hd⟩) rfl rfl rfl t.at_ (fun i hi => hi) q1
  rw [List.append_nil]
  refine ⟨⟨H1, Zf C Fs, C.hd⟩, ss, rfl, t.er.fp.hok, q3, by rw [q4, hk], ms _ _ _ _ _ (fun r hr k d v H' F e res => ?_) (fun cls hc => hc.elim) q2⟩
  subst e
  exact ⟨_, F, hr, t.called hn (C' := ⟨H1, Zf C Fs, C.hd⟩) rfl rfl rfl res⟩
theorem cutD_take (xs : List D) (n : Nat) : cutD xs none (some (n : Int)) = xs.take n := by
  unfold cutD
  rw [HT.sIx_none, HT.sIx_nat, List.drop_zero, Nat.sub_zero, List.take_eq_take_iff]
  omega
end VL
namespace K84
open PySem PySem.Spec PyProof.Rows L2 VL
def topS (i : Nat) : Stmt := PySem.Challenge.pw_fourthword_k84_pairs_that_are_to_each_ot.main.body.getD i (.Pass ⟨0, 0, 0, 0⟩)
abbrev s_is_tuple : Stmt := topS 6
theorem sc_is_tuple : FnScope ["thing", "least", "most"] ["thing", "least", "most"] (defScope s_is_tuple) := ⟨rfl, rfl, rfl, by decide +kernel, rfl, by decide +kernel, by decide +kernel⟩
abbrev s_is_word : Stmt := topS 7
theorem sc_is_word : FnScope ["thing", "sign"] ["thing"] (defScope s_is_word) := ⟨rfl, rfl, rfl, by decide +kernel, rfl, by decide +kernel, by decide +kernel⟩
abbrev s_check_words : Stmt := topS 8
theorem sc_check_words : FnScope ["words", "word"] ["words"] (defScope s_check_words) := ⟨rfl, rfl, rfl, by decide +kernel, rfl, by decide +kernel, by decide +kernel⟩
abbrev s_letter_at : Stmt := topS 10
theorem sc_letter_at : FnScope ["word", "at"] ["word", "at"] (defScope s_letter_at) := ⟨rfl, rfl, rfl, by decide +kernel, rfl, by decide +kernel, by decide +kernel⟩
abbrev s_raw_moves : Stmt := topS 11
theorem sc_raw_moves : FnScope ["x", "y", "z", "t", "stand", "i", "j", "k", "mine", "its", "found"] ["x", "y", "z", "t", "stand"] (defScope s_raw_moves) := ⟨rfl, rfl, rfl, by decide +kernel, rfl, by decide +kernel, by decide +kernel⟩
abbrev s_raw_is_fourth : Stmt := topS 12
theorem sc_raw_is_fourth : FnScope ["x", "y", "z", "t", "known", "line", "here", "move", "behind"] ["x", "y", "z", "t"] (defScope s_raw_is_fourth) := ⟨rfl, rfl, rfl, by decide +kernel, rfl, by decide +kernel, by decide +kernel⟩
abbrev s_is_fourth : Stmt := topS 14
theorem sc_is_fourth : FnScope ["x", "y", "z", "t"] ["x", "y", "z", "t"] (defScope s_is_fourth) := ⟨rfl, rfl, rfl, by decide +kernel, rfl, by decide +kernel, by decide +kernel⟩
abbrev s_is_pair : Stmt := topS 17
theorem sc_is_pair : FnScope ["thing", "word"] ["thing"] (defScope s_is_pair) := ⟨rfl, rfl, rfl, by decide +kernel, rfl, by decide +kernel, by decide +kernel⟩
abbrev s_check_pairs : Stmt := topS 18
theorem sc_check_pairs : FnScope ["pairs", "one"] ["pairs"] (defScope s_check_pairs) := ⟨rfl, rfl, rfl, by decide +kernel, rfl, by decide +kernel, by decide +kernel⟩
abbrev s_like_pairs : Stmt := topS 19
theorem sc_like_pairs : FnScope ["pairs", "found", "i", "x", "y", "j"] ["pairs"] (defScope s_like_pairs) := ⟨rfl, rfl, rfl, by decide +kernel, rfl, by decide +kernel, by decide +kernel⟩
abbrev s__law_numbers : Stmt := topS 21
theorem sc__law_numbers : FnScope ["script", "thing", "cell", "rest", "found", "k", "number"] ["script", "thing"] (defScope s__law_numbers) := ⟨rfl, rfl, rfl, by decide +kernel, rfl, by decide +kernel, by decide +kernel⟩
abbrev s__law_letters : Stmt := topS 22
theorem sc__law_letters : FnScope ["number", "found", "rest", "k", "left", "letter"] ["number"] (defScope s__law_letters) := ⟨rfl, rfl, rfl, by decide +kernel, rfl, by decide +kernel, by decide +kernel⟩
abbrev s__law_word : Stmt := topS 23
theorem sc__law_word : FnScope ["xs", "start", "size", "letters", "word", "k"] ["xs", "start", "size", "letters"] (defScope s__law_word) := ⟨rfl, rfl, rfl, by decide +kernel, rfl, by decide +kernel, by decide +kernel⟩
abbrev s__law_pairs : Stmt := topS 24
theorem sc__law_pairs : FnScope ["script", "base", "xs", "ys", "letters", "ending", "pairs", "k", "word", "other"] ["script", "base"] (defScope s__law_pairs) := ⟨rfl, rfl, rfl, by decide +kernel, rfl, by decide +kernel, by decide +kernel⟩
abbrev s__law_is_fourth : Stmt := topS 25
theorem sc__law_is_fourth : FnScope ["x", "y", "z", "t", "kept", "i", "j", "found", "ahead", "letter", "row", "k"] ["x", "y", "z", "t"] (defScope s__law_is_fourth) := ⟨rfl, rfl, rfl, by decide +kernel, rfl, by decide +kernel, by decide +kernel⟩
abbrev s__law_same : Stmt := topS 26
theorem sc__law_same : FnScope ["found", "due", "pairs", "depth", "below", "one", "other", "k"] ["found", "due"] (defScope s__law_same) := ⟨rfl, rfl, rfl, by decide +kernel, rfl, by decide +kernel, by decide +kernel⟩
abbrev s__law_refused : Stmt := topS 27
theorem sc__law_refused : FnScope ["thing", "refused"] ["thing"] (defScope s__law_refused) := ⟨rfl, rfl, rfl, by decide +kernel, rfl, by decide +kernel, by decide +kernel⟩
abbrev s_law : Stmt := topS 28
theorem sc_law : FnScope ["script", "k", "pairs", "due", "i", "j", "x", "y", "z", "t", "woven", "xs", "some", "odd"] ["script"] (defScope s_law) := ⟨rfl, rfl, rfl, by decide +kernel, rfl, by decide +kernel, by decide +kernel⟩
/-- what the text is in the heap -/
structure Mo (K : PySem.W.Frag) (mg : Str → Option Value) where
  m_all : mg "all" = none
  m_bool : mg "bool" = none
  m_enumerate : mg "enumerate" = none
  m_int : mg "int" = none
  m_isinstance : mg "isinstance" = none
  m_len : mg "len" = none
  m_range : mg "range" = none
  m_set : mg "set" = none
  m_sorted : mg "sorted" = none
  m_str : mg "str" = none
  m_tuple : mg "tuple" = none
  v_LETTERS : Tok
  c_LETTERS : mg "LETTERS" = some (.str (Str.ofString "abcdefghijklmnopqrstuvwxyz") v_LETTERS)
  v_MOST_PAIRS : Tok
  c_MOST_PAIRS : mg "MOST_PAIRS" = some (.int 8 v_MOST_PAIRS)
  f_NoPairs : Addr
  g_NoPairs : mg "NoPairs" = some (.ref f_NoPairs)
  k_NoPairs : PySem.W.keepIn K (.ref f_NoPairs) = true
  x_NoPairs : PySem.W.excIn K f_NoPairs [.type "ValueError", .type "Exception", .type "BaseException", .type "object"] "ValueError.__new__" = true
  s_NoPairs : PySem.W.subIn K (.ref f_NoPairs) (.type "BaseException") = some true
  t_NoPairs : PySem.W.typeIn K (.ref f_NoPairs) = some (.type "type")
  e_NoPairs : PySem.W.exmOne K (.ref f_NoPairs) (.ref f_NoPairs) = some true
  f_is_tuple : Addr
  d_is_tuple : FuncData
  F_is_tuple : Fun K "is_tuple" "is_tuple" s_is_tuple f_is_tuple d_is_tuple
  b_is_tuple : Binds K d_is_tuple ["thing", "least", "most"] []
  g_is_tuple : mg "is_tuple" = some (.ref f_is_tuple)
  f_is_word : Addr
  d_is_word : FuncData
  F_is_word : Fun K "is_word" "is_word" s_is_word f_is_word d_is_word
  b_is_word : Binds K d_is_word ["thing"] []
  g_is_word : mg "is_word" = some (.ref f_is_word)
  f_check_words : Addr
  d_check_words : FuncData
  F_check_words : Fun K "check_words" "check_words" s_check_words f_check_words d_check_words
  b_check_words : Binds K d_check_words ["words"] []
  g_check_words : mg "check_words" = some (.ref f_check_words)
  f_letter_at : Addr
  d_letter_at : FuncData
  F_letter_at : Fun K "letter_at" "letter_at" s_letter_at f_letter_at d_letter_at
  b_letter_at : Binds K d_letter_at ["word", "at"] []
  g_letter_at : mg "letter_at" = some (.ref f_letter_at)
  f_raw_moves : Addr
  d_raw_moves : FuncData
  F_raw_moves : Fun K "raw_moves" "raw_moves" s_raw_moves f_raw_moves d_raw_moves
  b_raw_moves : Binds K d_raw_moves ["x", "y", "z", "t", "stand"] []
  g_raw_moves : mg "raw_moves" = some (.ref f_raw_moves)
  f_raw_is_fourth : Addr
  d_raw_is_fourth : FuncData
  F_raw_is_fourth : Fun K "raw_is_fourth" "raw_is_fourth" s_raw_is_fourth f_raw_is_fourth d_raw_is_fourth
  b_raw_is_fourth : Binds K d_raw_is_fourth ["x", "y", "z", "t"] []
  g_raw_is_fourth : mg "raw_is_fourth" = some (.ref f_raw_is_fourth)
  f_is_fourth : Addr
  d_is_fourth : FuncData
  F_is_fourth : Fun K "is_fourth" "is_fourth" s_is_fourth f_is_fourth d_is_fourth
  b_is_fourth : Binds K d_is_fourth ["x", "y", "z", "t"] []
  g_is_fourth : mg "is_fourth" = some (.ref f_is_fourth)
  f_is_pair : Addr
  d_is_pair : FuncData
  F_is_pair : Fun K "is_pair" "is_pair" s_is_pair f_is_pair d_is_pair
  b_is_pair : Binds K d_is_pair ["thing"] []
  g_is_pair : mg "is_pair" = some (.ref f_is_pair)
  f_check_pairs : Addr
  d_check_pairs : FuncData
  F_check_pairs : Fun K "check_pairs" "check_pairs" s_check_pairs f_check_pairs d_check_pairs
  b_check_pairs : Binds K d_check_pairs ["pairs"] []
  g_check_pairs : mg "check_pairs" = some (.ref f_check_pairs)
  f_like_pairs : Addr
  d_like_pairs : FuncData
  F_like_pairs : Fun K "like_pairs" "like_pairs" s_like_pairs f_like_pairs d_like_pairs
  b_like_pairs : Binds K d_like_pairs ["pairs"] []
  g_like_pairs : mg "like_pairs" = some (.ref f_like_pairs)
  f__law_numbers : Addr
  d__law_numbers : FuncData
  F__law_numbers : Fun K "_law_numbers" "_law_numbers" s__law_numbers f__law_numbers d__law_numbers
  b__law_numbers : Binds K d__law_numbers ["script", "thing"] []
  g__law_numbers : mg "_law_numbers" = some (.ref f__law_numbers)
  f__law_letters : Addr
  d__law_letters : FuncData
  F__law_letters : Fun K "_law_letters" "_law_letters" s__law_letters f__law_letters d__law_letters
  b__law_letters : Binds K d__law_letters ["number"] []
  g__law_letters : mg "_law_letters" = some (.ref f__law_letters)
  f__law_word : Addr
  d__law_word : FuncData
  F__law_word : Fun K "_law_word" "_law_word" s__law_word f__law_word d__law_word
  b__law_word : Binds K d__law_word ["xs", "start", "size", "letters"] []
  g__law_word : mg "_law_word" = some (.ref f__law_word)
  f__law_pairs : Addr
  d__law_pairs : FuncData
  F__law_pairs : Fun K "_law_pairs" "_law_pairs" s__law_pairs f__law_pairs d__law_pairs
  b__law_pairs : Binds K d__law_pairs ["script", "base"] []
  g__law_pairs : mg "_law_pairs" = some (.ref f__law_pairs)
  f__law_is_fourth : Addr
  d__law_is_fourth : FuncData
  F__law_is_fourth : Fun K "_law_is_fourth" "_law_is_fourth" s__law_is_fourth f__law_is_fourth d__law_is_fourth
  b__law_is_fourth : Binds K d__law_is_fourth ["x", "y", "z", "t"] []
  g__law_is_fourth : mg "_law_is_fourth" = some (.ref f__law_is_fourth)
  f__law_same : Addr
  d__law_same : FuncData
  F__law_same : Fun K "_law_same" "_law_same" s__law_same f__law_same d__law_same
  b__law_same : Binds K d__law_same ["found", "due"] []
  g__law_same : mg "_law_same" = some (.ref f__law_same)
  f__law_refused : Addr
  d__law_refused : FuncData
  F__law_refused : Fun K "_law_refused" "_law_refused" s__law_refused f__law_refused d__law_refused
  b__law_refused : Binds K d__law_refused ["thing"] []
  g__law_refused : mg "_law_refused" = some (.ref f__law_refused)
  f_law : Addr
  d_law : FuncData
  F_law : Fun K "law" "law" s_law f_law d_law
  b_law : Binds K d_law ["script"] []
  g_law : mg "law" = some (.ref f_law)
end K84
namespace K84
open PySem PySem.Spec PyProof.Rows L2 VL
def letters : List Nat := (Str.ofString "abcdefghijklmnopqrstuvwxyz").cps.toList
def isTupleB (d : D) (a b : Int) : Bool := match d with
  | .tuple ds => decide (a ≤ (ds.length : Int)) && decide ((ds.length : Int) ≤ b)
  | _ => false
def isWordB (d : D) : Bool := match d with
  | .str s => s.cps.toList.all fun c => decide (c ∈ letters)
  | _ => false
def itemsD : D → List D
  | .tuple ds => ds
  | _ => []
def isPairB (d : D) : Bool := isTupleB d 2 2 && (itemsD d).all isWordB
def okPairsB (d : D) : Bool := isTupleB d 1 8 && (itemsD d).all isPairB
/-- small things -/
def smS (d : D) : Bool := match d with
  | .str s => decide (s.cps.size ≤ 1000)
  | _ => true
def smP (d : D) : Bool := match d with
  | .tuple ds => immA ds && decide (ds.length ≤ 1000) && ds.all smS
  | d => smS d
def smQ (d : D) : Bool := match d with
  | .tuple ds => immA ds && decide (ds.length ≤ 1000) && ds.all smP
  | d => smS d
def r_is_tuple (ss : List Sl) (r : Sl) : Prop := ∃ d a b, ss = [.bor d, .bor (.int a), .bor (.int b)] ∧ r = .own 0 (.bool (isTupleB d a b))
def r_is_word (ss : List Sl) (r : Sl) : Prop := ∃ d, ss = [.bor d] ∧ smS d = true ∧ r = .own 0 (.bool (isWordB d))
def r_check_words (ss : List Sl) (r : Sl) : Prop := ∃ ds, ss = [.bor (.list ds)] ∧ immA ds = true ∧ (∀ d ∈ ds, smS d = true ∧ isWordB d = true) ∧ r = .own 0 .none
def r_letter_at (ss : List Sl) (r : Sl) : Prop := ∃ (l : List Nat) (i : Nat), ss = [.bor (wd l), .bor (.int i)] ∧ l.length ≤ 1000 ∧ r = .own 0 (wd ((l.drop i).take 1))
/-! ### moves -/
def st (i j k : Nat) : D := .tuple [.int i, .int j, .int k]
def mv (n : Str) (i j k : Nat) : D := .tuple [.str n, st i j k]
def hit (w : List Nat) (a c : Nat) : Bool := decide ((⟨((w.drop a).take 1).toArray⟩ : Str) = ⟨#[c]⟩)
theorem hit_iff {w : List Nat} {a c : Nat} : hit w a c = true ↔ w[a]? = some c := by
  unfold hit
  rw [decide_eq_true_eq]
  constructor
  · intro h
    have h2 : ((w.drop a).take 1) = [c] := by
      have t := congrArg (fun s : Str => s.cps.toList) h
      simpa using t
    have h3 : ((w.drop a).take 1)[0]? = some c := by rw [h2]; rfl
    rw [List.getElem?_take, if_pos (by decide), List.getElem?_drop] at h3
    simpa using h3
  · intro h
    have h2 : (w.drop a).take 1 = [c] := by
      obtain ⟨hl, e⟩ := List.getElem?_eq_some_iff.mp h
      rw [List.drop_eq_getElem_cons hl, e]
      rfl
    rw [h2]
def ifL (b : Bool) (d : D) : List D := cond b [d] []
def movesY (x y t : List Nat) (i j k : Nat) : List D := match y[i]? with
  | some c => ifL (hit t (i + j - k) c) (mv "ty" (i + 1) j k) ++ ifL (hit x k c) (mv "xy" (i + 1) j (k + 1))
  | none => []
def movesZ (x z t : List Nat) (i j k : Nat) : List D := match z[j]? with
  | some c => ifL (hit t (i + j - k) c) (mv "tz" i (j + 1) k) ++ ifL (hit x k c) (mv "xz" i (j + 1) (k + 1))
  | none => []
def moves (x y z t : List Nat) (i j k : Nat) : List D := movesY x y t i j k ++ movesZ x z t i j k
def srt (ds : List D) : List D := ds.mergeSort (PySem.W.dataLe false id)
def r_raw_moves (ss : List Sl) (r : Sl) : Prop := ∃ (x y z t : List Nat) (i j k : Nat), ss = [.bor (wd x), .bor (wd y), .bor (wd z), .bor (wd t), .bor (st i j k)] ∧ (x.length ≤ 1000 ∧ y.length ≤ 1000 ∧ z.length ≤ 1000 ∧ t.length ≤ 1000) ∧ k ≤ i + j ∧ r = .own 1 (.list (srt (moves x y z t i j k)))
def isMv (d : D) : Prop := ∃ (n : Str) (i j k : Nat), d = mv n i j k
theorem mvs_is {x y z t : List Nat} {i j k : Nat} : ∀ d ∈ moves x y z t i j k, isMv d := by
  intro d hd
  have key : ∀ (b : Bool) (n : Str) (i j k : Nat), d ∈ ifL b (mv n i j k) → isMv d := fun b n i j k h => by
    cases b with
    | true => exact ⟨n, i, j, k, by simpa [ifL] using h⟩
    | false => simp [ifL] at h
  unfold moves at hd
  rcases List.mem_append.mp hd with h | h
  · unfold movesY at h
    split at h
    · rcases List.mem_append.mp h with h | h <;> exact key _ _ _ _ _ h
    · simp at h
  · unfold movesZ at h
    split at h
    · rcases List.mem_append.mp h with h | h <;> exact key _ _ _ _ _ h
    · simp at h
theorem moves_len {x y z t : List Nat} {i j k : Nat} : (moves x y z t i j k).length ≤ 4 := by
  have l : ∀ (b : Bool) (d : D), (ifL b d).length ≤ 1 := fun b d => by cases b <;> simp [ifL]
  unfold moves movesY movesZ
  rw [List.length_append]
  have a : ∀ (o : Option Nat) (f g : Nat → List D), (∀ c, (f c).length ≤ 1) → (∀ c, (g c).length ≤ 1) → (match o with | some c => f c ++ g c | none => []).length ≤ 2 := fun o f g hf hg => by
    cases o with
    | none => simp
    | some c => simp only [List.length_append]; have := hf c; have := hg c; omega
  have h1 := a y[i]? (fun c => ifL (hit t (i + j - k) c) (mv "ty" (i + 1) j k)) (fun c => ifL (hit x k c) (mv "xy" (i + 1) j (k + 1))) (fun c => l _ _) (fun c => l _ _)
  have h2 := a z[j]? (fun c => ifL (hit t (i + j - k) c) (mv "tz" i (j + 1) k)) (fun c => ifL (hit x k c) (mv "xz" i (j + 1) (k + 1))) (fun c => l _ _) (fun c => l _ _)
  omega
theorem mv_alike {d e : D} (h1 : isMv d) (h2 : isMv e) : PySem.W.alike d e = true := by
  obtain ⟨n, i, j, k, rfl⟩ := h1
  obtain ⟨n', i', j', k', rfl⟩ := h2
  simp [mv, st, PySem.W.alike, PySem.W.alikeAll]
theorem mv_plain {ds : List D} (h : ∀ d ∈ ds, isMv d) : PyData.plainAll ds = true := by
  induction ds with
  | nil => simp [PyData.plainAll]
  | cons d ds ih =>
    obtain ⟨n, i, j, k, rfl⟩ := h d List.mem_cons_self
    simp [PyData.plainAll, PyData.plain, mv, st, ih fun e he => h e (List.mem_cons_of_mem _ he)]
theorem mv_depth {d : D} (h : isMv d) : d.depth ≤ 40 := by
  obtain ⟨n, i, j, k, rfl⟩ := h
  simp [mv, st, PyData.depth, PyData.depthAll]
theorem mvs_imm {ds : List D} (h : ∀ d ∈ ds, isMv d) : immA ds = true := immA_all fun d hd => by
  obtain ⟨n, i, j, k, rfl⟩ := h d hd
  simp [imm, immA, mv, st]
end K84
namespace K84
open PySem PySem.Spec PyProof.Rows L2 VL
/-! ### states reached -/
abbrev S3 := Nat × Nat × Nat
def stp (s : S3) : D := st s.1 s.2.1 s.2.2
def Step (x y z t : List Nat) (s u : S3) : Prop :=
  (u.1 = s.1 + 1 ∧ u.2.1 = s.2.1 ∧ ∃ c, y[s.1]? = some c ∧ ((t[s.1 + s.2.1 - s.2.2]? = some c ∧ u.2.2 = s.2.2) ∨ (x[s.2.2]? = some c ∧ u.2.2 = s.2.2 + 1))) ∨
  (u.1 = s.1 ∧ u.2.1 = s.2.1 + 1 ∧ ∃ c, z[s.2.1]? = some c ∧ ((t[s.1 + s.2.1 - s.2.2]? = some c ∧ u.2.2 = s.2.2) ∨ (x[s.2.2]? = some c ∧ u.2.2 = s.2.2 + 1)))
inductive Reach (x y z t : List Nat) : S3 → Prop
  | zero : Reach x y z t (0, 0, 0)
  | step {s u} : Reach x y z t s → Step x y z t s u → Reach x y z t u
theorem ix_lt {l : List Nat} {i c : Nat} (h : l[i]? = some c) : i < l.length := (List.getElem?_eq_some_iff.mp h).1
theorem Reach.bd {x y z t : List Nat} {s : S3} (h : Reach x y z t s) : s.1 ≤ y.length ∧ s.2.1 ≤ z.length ∧ s.2.2 ≤ s.1 + s.2.1 ∧ s.2.2 ≤ x.length := by
  induction h with
  | zero => exact ⟨Nat.zero_le _, Nat.zero_le _, Nat.le_refl _, Nat.zero_le _⟩
  | @step s u _ q ih =>
    obtain ⟨a, b, c, d⟩ := ih
    rcases q with ⟨e1, e2, w, hw, ⟨h1, h2⟩ | ⟨h1, h2⟩⟩ | ⟨e1, e2, w, hw, ⟨h1, h2⟩ | ⟨h1, h2⟩⟩
    all_goals (have l1 := ix_lt hw; have l2 := ix_lt h1; refine ⟨?_, ?_, ?_, ?_⟩ <;> omega)
theorem mem_ifL {b : Bool} {d e : D} : e ∈ ifL b d ↔ b = true ∧ e = d := by cases b <;> simp [ifL]
theorem mem_moves {x y z t : List Nat} {s : S3} {d : D} : d ∈ moves x y z t s.1 s.2.1 s.2.2 ↔ ∃ (n : Str) (u : S3), d = mv n u.1 u.2.1 u.2.2 ∧ Step x y z t s u ∧
    n = (if u.1 = s.1 + 1 then (if u.2.2 = s.2.2 then "ty" else "xy") else (if u.2.2 = s.2.2 then "tz" else "xz")) := by
  obtain ⟨i, j, k⟩ := s
  unfold moves movesY movesZ
  rw [List.mem_append]
  constructor
  · rintro (h | h)
    · split at h
      · rename_i c hc
        rcases List.mem_append.mp h with h | h
        · obtain ⟨h1, h2⟩ := mem_ifL.mp h
          exact ⟨_, (i + 1, j, k), h2, .inl ⟨rfl, rfl, c, hc, .inl ⟨hit_iff.mp h1, rfl⟩⟩, by simp⟩
        · obtain ⟨h1, h2⟩ := mem_ifL.mp h
          exact ⟨_, (i + 1, j, k + 1), h2, .inl ⟨rfl, rfl, c, hc, .inr ⟨hit_iff.mp h1, rfl⟩⟩, by simp⟩
      · simp at h
    · split at h
      · rename_i c hc
        rcases List.mem_append.mp h with h | h
        · obtain ⟨h1, h2⟩ := mem_ifL.mp h
          exact ⟨_, (i, j + 1, k), h2, .inr ⟨rfl, rfl, c, hc, .inl ⟨hit_iff.mp h1, rfl⟩⟩, by simp⟩
        · obtain ⟨h1, h2⟩ := mem_ifL.mp h
          exact ⟨_, (i, j + 1, k + 1), h2, .inr ⟨rfl, rfl, c, hc, .inr ⟨hit_iff.mp h1, rfl⟩⟩, by simp⟩
      · simp at h
  · rintro ⟨n, ⟨i', j', k'⟩, rfl, hs, rfl⟩
    rcases hs with ⟨e1, e2, c, hc, ⟨h1, h2⟩ | ⟨h1, h2⟩⟩ | ⟨e1, e2, c, hc, ⟨h1, h2⟩ | ⟨h1, h2⟩⟩ <;> (simp only at e1 e2 h1 h2 hc; subst e1 e2 h2)
    · left; rw [hc]; exact List.mem_append_left _ (mem_ifL.mpr ⟨hit_iff.mpr h1, by simp⟩)
    · left; rw [hc]; exact List.mem_append_right _ (mem_ifL.mpr ⟨hit_iff.mpr h1, by simp⟩)
    · right; rw [hc]; exact List.mem_append_left _ (mem_ifL.mpr ⟨hit_iff.mpr h1, by simp⟩)
    · right; rw [hc]; exact List.mem_append_right _ (mem_ifL.mpr ⟨hit_iff.mpr h1, by simp⟩)
theorem nodup_le : ∀ (B : Nat) (l : List Nat), l.Nodup → (∀ a ∈ l, a < B) → l.length ≤ B
  | 0, l, _, h => by
    cases l with
    | nil => simp
    | cons a l => exact absurd (h a List.mem_cons_self) (Nat.not_lt_zero _)
  | B + 1, l, nd, h => by
    have ih := nodup_le B (l.erase B) (nd.erase B) fun a ha => by
      have h1 := h a (List.mem_of_mem_erase ha)
      have h2 : a ≠ B := fun e => by
        subst e
        exact (List.Nodup.not_mem_erase nd) ha
      omega
    have hl : l.length ≤ (l.erase B).length + 1 := by
      by_cases hm : B ∈ l
      · rw [List.length_erase_of_mem hm]; omega
      · rw [List.erase_of_not_mem hm]; omega
    omega
def code (a b : Nat) (s : S3) : Nat := (s.1 * a + s.2.1) * b + s.2.2
theorem code_inj {a b : Nat} {s u : S3} (h1 : s.2.1 < a) (h2 : u.2.1 < a) (h3 : s.2.2 < b) (h4 : u.2.2 < b) (h : code a b s = code a b u) : s = u := by
  obtain ⟨i, j, k⟩ := s
  obtain ⟨i', j', k'⟩ := u
  simp only [code] at *
  have hb : 0 < b := by omega
  have ha : 0 < a := by omega
  have e1 : i * a + j = i' * a + j' := by
    have t1 := Nat.add_mul_div_right k (i * a + j) hb
    have t2 := Nat.add_mul_div_right k' (i' * a + j') hb
    rw [Nat.div_eq_of_lt h3, Nat.zero_add, Nat.add_comm] at t1
    rw [Nat.div_eq_of_lt h4, Nat.zero_add, Nat.add_comm] at t2
    rw [← t1, ← t2, h]
  have e2 : k = k' := by rw [e1] at h; omega
  have e3 : i = i' := by
    have t1 := Nat.add_mul_div_right j i ha
    have t2 := Nat.add_mul_div_right j' i' ha
    rw [Nat.div_eq_of_lt h1, Nat.zero_add, Nat.add_comm] at t1
    rw [Nat.div_eq_of_lt h2, Nat.zero_add, Nat.add_comm] at t2
    rw [← t1, ← t2, e1]
  have e4 : j = j' := by rw [e3] at e1; omega
  rw [e2, e3, e4]
def Bd (y z : List Nat) : Nat := ((y.length + 1) * (z.length + 1)) * (y.length + z.length + 1)
theorem reach_len {x y z t : List Nat} {S : List S3} (nd : S.Nodup) (h : ∀ s ∈ S, Reach x y z t s) : S.length ≤ Bd y z := by
  have nd' : (S.map (code (z.length + 1) (y.length + z.length + 1))).Nodup := by
    rw [List.nodup_iff_pairwise_ne, List.pairwise_map]
    refine List.Pairwise.imp_of_mem (fun {a b} ha hb hab e => hab ?_) nd
    obtain ⟨a1, a2, a3, a4⟩ := (h a ha).bd
    obtain ⟨b1, b2, b3, b4⟩ := (h b hb).bd
    exact code_inj (by omega) (by omega) (by omega) (by omega) e
  have t := nodup_le (Bd y z) _ nd' fun c hc => by
    obtain ⟨s, hs, rfl⟩ := List.mem_map.mp hc
    obtain ⟨b1, b2, b3, b4⟩ := (h s hs).bd
    unfold code Bd
    have h1 : s.1 * (z.length + 1) + s.2.1 < (y.length + 1) * (z.length + 1) := by
      have : s.1 * (z.length + 1) ≤ y.length * (z.length + 1) := Nat.mul_le_mul_right _ b1
      rw [Nat.add_mul]; omega
    have h2 : (s.1 * (z.length + 1) + s.2.1 + 1) * (y.length + z.length + 1) ≤ ((y.length + 1) * (z.length + 1)) * (y.length + z.length + 1) := Nat.mul_le_mul_right _ h1
    rw [Nat.add_mul] at h2
    omega
  rw [List.length_map] at t
  exact t
theorem Bd_le {y z : List Nat} (hy : y.length ≤ 100) (hz : z.length ≤ 100) : Bd y z ≤ 3000000 := by
  unfold Bd
  have h1 : (y.length + 1) * (z.length + 1) ≤ 101 * 101 := Nat.mul_le_mul (by omega) (by omega)
  have h2 : ((y.length + 1) * (z.length + 1)) * (y.length + z.length + 1) ≤ (101 * 101) * 201 := Nat.mul_le_mul h1 (by omega)
  omega
theorem st_tupK {i j k : Nat} : tupK (st i j k) = true := by simp [tupK, st, immA, imm, nkA, nk, NestedKey.depth, NestedKey.depthAll]
theorem st_nk {s u : S3} : nk (stp s) = nk (stp u) ↔ s = u := by
  obtain ⟨i, j, k⟩ := s
  obtain ⟨i', j', k'⟩ := u
  simp [nk, nkA, stp, st]
  omega
noncomputable def fourthB (x y z t : List Nat) : Bool := @decide (x.length + t.length = y.length + z.length ∧ Reach x y z t (y.length, z.length, x.length)) (Classical.propDecidable _)
theorem fourthB_iff {x y z t : List Nat} : fourthB x y z t = true ↔ x.length + t.length = y.length + z.length ∧ Reach x y z t (y.length, z.length, x.length) := by
  unfold fourthB
  exact @decide_eq_true_iff _ (Classical.propDecidable _)
def r_raw_is_fourth (ss : List Sl) (r : Sl) : Prop := ∃ x y z t : List Nat, ss = [.bor (wd x), .bor (wd y), .bor (wd z), .bor (wd t)] ∧ (x.length ≤ 100 ∧ y.length ≤ 100 ∧ z.length ≤ 100 ∧ t.length ≤ 100) ∧ r = .own 0 (.bool (fourthB x y z t))
/-- the walk's invariant -/
structure Wk (x y z t : List Nat) (S L : List S3) (E : S3 → Prop) : Prop where
  nd : S.Nodup
  z0 : (0, 0, 0) ∈ S
  re : ∀ s ∈ S, Reach x y z t s
  sub : ∀ s ∈ L, s ∈ S
  cl : ∀ s ∈ S, s ∈ L ∨ E s ∨ ∀ u, Step x y z t s u → u ∈ S
theorem Wk.all {x y z t : List Nat} {S : List S3} (w : Wk x y z t S [] fun _ => False) (s : S3) : s ∈ S ↔ Reach x y z t s := by
  refine ⟨w.re s, fun h => ?_⟩
  induction h with
  | zero => exact w.z0
  | step _ q ih =>
    rcases w.cl _ ih with h | h | h
    · simp at h
    · exact h.elim
    · exact h _ q
theorem Wk.add {x y z t : List Nat} {S L : List S3} {E : S3 → Prop} {s : S3} (w : Wk x y z t S L E) (hs : s ∉ S) (hr : Reach x y z t s) : Wk x y z t (S ++ [s]) (L ++ [s]) E where
  nd := by
    rw [List.nodup_append]
    refine ⟨w.nd, by simp, fun a ha b hb e => hs ?_⟩
    have eb : b = s := by simpa using hb
    rw [← eb, ← e]; exact ha
  z0 := List.mem_append_left _ w.z0
  re := fun u hu => (List.mem_append.mp hu).elim (w.re u) fun h => by
    have : u = s := by simpa using h
    rw [this]; exact hr
  sub := fun u hu => (List.mem_append.mp hu).elim (fun h => List.mem_append_left _ (w.sub u h)) fun h => List.mem_append_right _ h
  cl := fun u hu => (List.mem_append.mp hu).elim (fun h => (w.cl u h).imp (fun h => List.mem_append_left _ h) (Or.imp id fun h v q => List.mem_append_left _ (h v q))) fun h => .inl (List.mem_append_right _ h)
end K84
namespace K84
open PySem PySem.Spec PyProof.Rows L2 VL
def isL (l : List Nat) : Bool := l.all fun c => decide (c ∈ letters)
theorem isWord_wd {l : List Nat} : isWordB (wd l) = isL l := rfl
theorem smS_wd {l : List Nat} (h : l.length ≤ 1000) : smS (wd l) = true := by simp [smS, h]
def r_is_fourth (ss : List Sl) (r : Sl) : Prop := ∃ x y z t : List Nat, ss = [.bor (wd x), .bor (wd y), .bor (wd z), .bor (wd t)] ∧ (x.length ≤ 100 ∧ y.length ≤ 100 ∧ z.length ≤ 100 ∧ t.length ≤ 100) ∧ (isL x = true ∧ isL y = true ∧ isL z = true ∧ isL t = true) ∧ r = .own 0 (.bool (fourthB x y z t))
def r_is_pair (ss : List Sl) (r : Sl) : Prop := ∃ d, ss = [.bor d] ∧ smP d = true ∧ r = .own 0 (.bool (isPairB d))
def r_check_pairs (ss : List Sl) (r : Sl) : Prop := ∃ d, ss = [.bor d] ∧ smQ d = true ∧ okPairsB d = true ∧ r = .own 0 .none
def e_check_pairs {K : PySem.W.Frag} {mg : Str → Option Value} (Y : Mo K mg) (ss : List Sl) (c : Value) : Prop := ∃ d, ss = [.bor d] ∧ smQ d = true ∧ okPairsB d = false ∧ c = .ref Y.f_NoPairs
abbrev WP := List Nat × List Nat
def pr (p : WP) : D := .tuple [wd p.1, wd p.2]
noncomputable def tst (ps : List WP) (i j : Nat) : Bool := match ps[i]?, ps[j]? with
  | some a, some b => fourthB a.1 a.2 b.1 b.2
  | _, _ => false
noncomputable def likeRow (ps : List WP) (i m : Nat) : List D := (List.range m).filterMap fun o => if tst ps i (i + 1 + o) = true then some (.tuple [.int (i : Nat), .int ((i + 1 + o : Nat) : Int)]) else none
noncomputable def likeD (ps : List WP) (m : Nat) : List D := (List.range m).flatMap fun i => likeRow ps i (ps.length - (i + 1))
theorem likeRow_succ {ps : List WP} {i m : Nat} : likeRow ps i (m + 1) = likeRow ps i m ++ (if tst ps i (i + 1 + m) = true then [.tuple [.int (i : Nat), .int ((i + 1 + m : Nat) : Int)]] else []) := by
  unfold likeRow
  rw [List.range_succ, List.filterMap_append]
  congr 1
  cases e : tst ps i (i + 1 + m) <;> simp [List.filterMap_cons, e]
theorem likeD_succ {ps : List WP} {m : Nat} : likeD ps (m + 1) = likeD ps m ++ likeRow ps m (ps.length - (m + 1)) := by
  unfold likeD
  rw [List.range_succ, List.flatMap_append]
  simp
theorem likeRow_len {ps : List WP} {i m : Nat} : (likeRow ps i m).length ≤ m := by
  unfold likeRow
  exact Nat.le_trans (List.length_filterMap_le _ _) (by simp)
theorem likeD_len {ps : List WP} : ∀ {m : Nat}, (likeD ps m).length ≤ m * ps.length
  | 0 => by simp [likeD]
  | m + 1 => by
    rw [likeD_succ, List.length_append, Nat.add_mul]
    have a := likeD_len (ps := ps) (m := m)
    have b := likeRow_len (ps := ps) (i := m) (m := ps.length - (m + 1))
    omega
theorem likeD_imm {ps : List WP} {m : Nat} : immA (likeD ps m) = true := immA_all fun d hd => by
  unfold likeD at hd
  obtain ⟨i, _, h⟩ := List.mem_flatMap.mp hd
  unfold likeRow at h
  obtain ⟨o, _, h⟩ := List.mem_filterMap.mp h
  split at h
  · cases h; simp [imm, immA]
  · cases h
def okW (p : WP) : Prop := p.1.length ≤ 100 ∧ p.2.length ≤ 100 ∧ isL p.1 = true ∧ isL p.2 = true
def r_like_pairs (ss : List Sl) (r : Sl) : Prop := ∃ ps : List WP, ss = [.bor (.tuple (ps.map pr))] ∧ (1 ≤ ps.length ∧ ps.length ≤ 8) ∧ (∀ p ∈ ps, okW p) ∧ r = .own 0 (.tuple (likeD ps ps.length))
def e_like_pairs {K : PySem.W.Frag} {mg : Str → Option Value} (Y : Mo K mg) (ss : List Sl) (c : Value) : Prop := ∃ d, ss = [.bor d] ∧ smQ d = true ∧ okPairsB d = false ∧ c = .ref Y.f_NoPairs
theorem pr_imm {p : WP} : imm (pr p) = true := by simp [pr, imm, immA]
theorem prs_imm {ps : List WP} : immA (ps.map pr) = true := immA_all fun d hd => by
  obtain ⟨p, _, rfl⟩ := List.mem_map.mp hd
  exact pr_imm
theorem pr_smP {p : WP} (h : okW p) : smP (pr p) = true := by
  obtain ⟨h1, h2, _, _⟩ := h
  simp [pr, smP, smS, immA, imm]
  omega
theorem pr_isPair {p : WP} (h : okW p) : isPairB (pr p) = true := by
  obtain ⟨_, _, h3, h4⟩ := h
  simp only [pr, isPairB, isTupleB, itemsD, List.all_cons, List.all_nil, isWord_wd, h3, h4]
  rfl
theorem prs_smQ {ps : List WP} (h : ∀ p ∈ ps, okW p) (hl : ps.length ≤ 8) : smQ (.tuple (ps.map pr)) = true := by
  simp only [smQ, prs_imm, Bool.true_and, Bool.and_eq_true, decide_eq_true_eq, List.length_map]
  refine ⟨by omega, List.all_eq_true.mpr fun d hd => ?_⟩
  obtain ⟨p, hp, rfl⟩ := List.mem_map.mp hd
  exact pr_smP (h p hp)
theorem prs_ok {ps : List WP} (h : ∀ p ∈ ps, okW p) (h1 : 1 ≤ ps.length) (hl : ps.length ≤ 8) : okPairsB (.tuple (ps.map pr)) = true := by
  simp only [okPairsB, isTupleB, itemsD, Bool.and_eq_true, decide_eq_true_eq, List.length_map]
  refine ⟨by omega, List.all_eq_true.mpr fun d hd => ?_⟩
  obtain ⟨p, hp, rfl⟩ := List.mem_map.mp hd
  exact pr_isPair (h p hp)
end K84
namespace K84
open PySem PySem.Spec PyProof.Rows L2 VL
def num (n : Int) : Prop := 0 ≤ n ∧ n < 2147483648
def p__law_numbers (ss : List Sl) : Prop := ∃ (ks : List Int) (th : Nat), ss = [.bor (.list (ks.map PyData.int)), .bor (.int (th : Nat))]
def r__law_numbers (ss : List Sl) (r : Sl) : Prop := ∃ ns : List Int, r = .own 1 (.list (ns.map PyData.int)) ∧ ns.length = 40 ∧ ∀ n ∈ ns, num n
def p__law_letters (ss : List Sl) : Prop := ∃ n : Int, ss = [.bor (.int n)] ∧ num n
def r__law_letters (ss : List Sl) (r : Sl) : Prop := ∃ l : List Nat, r = .own 0 (wd l) ∧ isL l = true ∧ 1 ≤ l.length ∧ l.length ≤ 3
def p__law_word (ss : List Sl) : Prop := ∃ (ns : List Int) (a b : Nat) (l : List Nat), ss = [.bor (.list (ns.map PyData.int)), .bor (.int (a : Nat)), .bor (.int (b : Nat)), .bor (wd l)] ∧ ns.length = 40 ∧ (∀ n ∈ ns, num n) ∧ a ≤ 1000 ∧ b ≤ 3 ∧ isL l = true ∧ 1 ≤ l.length ∧ l.length ≤ 3
def r__law_word (ss : List Sl) (r : Sl) : Prop := ∃ l : List Nat, r = .own 0 (wd l) ∧ isL l = true ∧ l.length ≤ 3
def okV5 (p : WP) : Prop := p.1.length ≤ 6 ∧ p.2.length ≤ 6 ∧ isL p.1 = true ∧ isL p.2 = true
def p__law_pairs (ss : List Sl) : Prop := ∃ (ks : List Int) (th : Nat), ss = [.bor (.list (ks.map PyData.int)), .bor (.int (th : Nat))]
def r__law_pairs (ss : List Sl) (r : Sl) : Prop := ∃ ps : List WP, r = .own 1 (.list (ps.map pr)) ∧ 1 ≤ ps.length ∧ ps.length ≤ 6 ∧ ∀ p ∈ ps, okV5 p
theorem isL_app {a b : List Nat} : isL (a ++ b) = (isL a && isL b) := by simp [isL]
theorem int_at {ns : List Int} {i : Nat} {n : Int} (h : ns[i]? = some n) : (ns.map PyData.int)[i]? = some (.int n) := by rw [List.getElem?_map, h]; rfl
theorem ints_imm (ns : List Int) : immA (ns.map PyData.int) = true := immA_all fun d hd => by
  obtain ⟨n, _, rfl⟩ := List.mem_map.mp hd
  rfl
end K84
namespace K84
open PySem PySem.Spec PyProof.Rows L2 VL
def r__law_refused (ss : List Sl) (r : Sl) : Prop := ∃ d, ss = [.bor d] ∧ smQ d = true ∧ okPairsB d = false ∧ r = .own 0 (.bool true)
/-! ### the same -/
def kids : D → List D
  | .tuple ds => ds
  | _ => []
def lev (d : D) : Nat → List D
  | 0 => [d]
  | n + 1 => (lev d n).flatMap kids
def r__law_same (ss : List Sl) (r : Sl) : Prop := ∃ d, ss = [.bor d, .bor d] ∧ imm d = true ∧ lev d 30 = [] ∧ (∀ n, n ≤ 30 → (lev d n).length ≤ 100000) ∧ (∀ n, n ≤ 30 → ∀ e ∈ lev d n, e.plain = true ∧ e.depth ≤ 40) ∧ r = .own 0 (.bool true)
end K84
namespace K84
open PySem PySem.Spec PyProof.Rows L2 VL
def r__law_is_fourth (ss : List Sl) (r : Sl) : Prop := ∃ x y z t : List Nat, ss = [.bor (wd x), .bor (wd y), .bor (wd z), .bor (wd t)] ∧ (x.length ≤ 8 ∧ y.length ≤ 8 ∧ z.length ≤ 8 ∧ t.length ≤ 8) ∧ r = .own 0 (.bool (fourthB x y z t))
/-- what a table's place is to hold -/
structure Good (x y z t : List Nat) (a b : Nat) (L : List Int) : Prop where
  up : L.Pairwise (· < ·)
  mem : ∀ k : Int, k ∈ L ↔ ∃ m : Nat, k = (m : Int) ∧ Reach x y z t (a, b, m)
theorem Good.nat {x y z t : List Nat} {a b : Nat} {L : List Int} (g : Good x y z t a b L) {k : Int} (h : k ∈ L) : ∃ m : Nat, k = (m : Int) ∧ m ≤ x.length ∧ m ≤ a + b := by
  obtain ⟨m, e, r⟩ := (g.mem k).mp h
  exact ⟨m, e, r.bd.2.2.2, r.bd.2.2.1⟩
theorem up_len {L : List Int} {n : Nat} (h : L.Pairwise (· < ·)) (hb : ∀ k ∈ L, ∃ m : Nat, k = (m : Int) ∧ m ≤ n) : L.length ≤ n + 1 := by
  have nd : (L.map Int.toNat).Nodup := by
    rw [List.nodup_iff_pairwise_ne, List.pairwise_map]
    refine List.Pairwise.imp_of_mem (fun {a b} ha hb' hab e => ?_) h
    obtain ⟨m, rfl, _⟩ := hb a ha
    obtain ⟨m', rfl, _⟩ := hb b hb'
    simp at e
    omega
  have t := nodup_le (n + 1) _ nd fun c hc => by
    obtain ⟨k, hk, rfl⟩ := List.mem_map.mp hc
    obtain ⟨m, rfl, hm⟩ := hb k hk
    simp; omega
  simpa using t
theorem Good.len {x y z t : List Nat} {a b : Nat} {L : List Int} (g : Good x y z t a b L) : L.length ≤ x.length + 1 := up_len g.up fun k hk => by
  obtain ⟨m, e, h, _⟩ := g.nat hk
  exact ⟨m, e, h⟩
/-- what comes to a place from one before, by the letter c -/
def fx (x : List Nat) (c : Nat) (k : Int) : Option Int := if hit x k.toNat c = true then some (k + 1) else none
def ft (t : List Nat) (n : Nat) (c : Nat) (k : Int) : Option Int := if hit t (n - k.toNat) c = true then some k else none
def come (x t : List Nat) (n : Nat) (L : List Int) (o : Option Nat) : List Int := match o with
  | some c => L.filterMap (fx x c) ++ L.filterMap (ft t n c)
  | none => []
theorem come_len {x t : List Nat} {n : Nat} {L : List Int} {o : Option Nat} : (come x t n L o).length ≤ 2 * L.length := by
  cases o with
  | none => simp [come]
  | some c =>
    simp only [come, List.length_append]
    have a := List.length_filterMap_le (fx x c) L
    have b := List.length_filterMap_le (ft t n c) L
    omega
theorem mem_come {x t : List Nat} {n c : Nat} {L : List Int} {k : Int} : k ∈ come x t n L (some c) ↔ (∃ q ∈ L, x[q.toNat]? = some c ∧ k = q + 1) ∨ (∃ q ∈ L, t[n - q.toNat]? = some c ∧ k = q) := by
  simp only [come, List.mem_append, List.mem_filterMap, fx, ft]
  constructor
  · rintro (⟨q, hq, h⟩ | ⟨q, hq, h⟩)
    · split at h
      · rename_i e; exact .inl ⟨q, hq, hit_iff.mp e, (Option.some.inj h).symm⟩
      · cases h
    · split at h
      · rename_i e; exact .inr ⟨q, hq, hit_iff.mp e, (Option.some.inj h).symm⟩
      · cases h
  · rintro (⟨q, hq, h, rfl⟩ | ⟨q, hq, h, rfl⟩)
    · exact .inl ⟨q, hq, by rw [hit_iff.mpr h]; rfl⟩
    · exact .inr ⟨k, hq, by rw [hit_iff.mpr h]; rfl⟩
def lt1 (y : List Nat) (a : Nat) : Option Nat := if a = 0 then none else y[a - 1]?
def base0 (a b : Nat) : List Int := if a + b = 0 then [0] else []
/-- all that comes to (a, b) -/
theorem good_step {x y z t : List Nat} {a b : Nat} {LA LB F : List Int} (ha : a ≤ y.length) (hb : b ≤ z.length) (gA : a ≠ 0 → Good x y z t (a - 1) b LA) (gB : b ≠ 0 → Good x y z t a (b - 1) LB)
    {ns : List Int} (up : ns.Pairwise (· < ·)) (hm : ∀ k, k ∈ ns ↔ k ∈ base0 a b ++ come x t (a + b - 1) LA (lt1 y a) ++ come x t (a + b - 1) LB (lt1 z b)) : Good x y z t a b ns := by
  refine ⟨up, fun k => ?_⟩
  rw [hm, List.mem_append, List.mem_append]
  constructor
  · rintro ((h | h) | h)
    · unfold base0 at h
      split at h
      · have e : k = 0 := by simpa using h
        have ea : a = 0 := by omega
        have eb : b = 0 := by omega
        subst ea eb
        exact ⟨0, e, .zero⟩
      · simp at h
    · unfold lt1 at h
      split at h
      · simp [come] at h
      · rename_i h0
        obtain ⟨a', rfl⟩ : ∃ a', a = a' + 1 := ⟨a - 1, by omega⟩
        have gA := gA h0
        obtain ⟨c, hc⟩ : ∃ c, y[a']? = some c := ⟨_, List.getElem?_eq_getElem (by omega)⟩
        rw [Nat.add_sub_cancel] at gA
        rw [show (a' + 1 : Nat) - 1 = a' from rfl, hc] at h
        rcases mem_come.mp h with ⟨q, hq, h1, rfl⟩ | ⟨q, hq, h1, rfl⟩
        · obtain ⟨m, rfl, r⟩ := (gA.mem q).mp hq
          exact ⟨m + 1, by omega, .step r (.inl ⟨rfl, rfl, c, hc, .inr ⟨by simpa using h1, rfl⟩⟩)⟩
        · obtain ⟨m, rfl, r⟩ := (gA.mem k).mp hq
          refine ⟨m, rfl, .step r (.inl ⟨rfl, rfl, c, hc, .inl ⟨?_, rfl⟩⟩)⟩
          have e : a' + 1 + b - 1 = a' + b := by omega
          rw [e] at h1
          simpa using h1
    · unfold lt1 at h
      split at h
      · simp [come] at h
      · rename_i h0
        obtain ⟨b', rfl⟩ : ∃ b', b = b' + 1 := ⟨b - 1, by omega⟩
        have gB := gB h0
        obtain ⟨c, hc⟩ : ∃ c, z[b']? = some c := ⟨_, List.getElem?_eq_getElem (by omega)⟩
        rw [Nat.add_sub_cancel] at gB
        rw [show (b' + 1 : Nat) - 1 = b' from rfl, hc] at h
        rcases mem_come.mp h with ⟨q, hq, h1, rfl⟩ | ⟨q, hq, h1, rfl⟩
        · obtain ⟨m, rfl, r⟩ := (gB.mem q).mp hq
          exact ⟨m + 1, by omega, .step r (.inr ⟨rfl, rfl, c, hc, .inr ⟨by simpa using h1, rfl⟩⟩)⟩
        · obtain ⟨m, rfl, r⟩ := (gB.mem k).mp hq
          refine ⟨m, rfl, .step r (.inr ⟨rfl, rfl, c, hc, .inl ⟨?_, rfl⟩⟩)⟩
          have e : a + (b' + 1) - 1 = a + b' := by omega
          rw [e] at h1
          simpa using h1
  · rintro ⟨m, rfl, r⟩
    generalize hs : ((a, b, m) : S3) = s at r
    cases r with
    | zero =>
      cases hs
      exact .inl (.inl (by simp [base0]))
    | @step s' u r q =>
      subst hs
      obtain ⟨i, j, k⟩ := s'
      rcases q with ⟨e1, e2, c, hc, q⟩ | ⟨e1, e2, c, hc, q⟩
      · simp only at e1 e2 hc q
        subst e1 e2
        have gA := gA (Nat.succ_ne_zero _)
        rw [Nat.add_sub_cancel] at gA
        have hk := (gA.mem k).mpr ⟨k, rfl, r⟩
        refine .inl (.inr ?_)
        have el : lt1 y (i + 1) = some c := by unfold lt1; rw [if_neg (Nat.succ_ne_zero _)]; exact hc
        rw [el]
        refine mem_come.mpr ?_
        rcases q with ⟨h1, h2⟩ | ⟨h1, h2⟩
        · refine .inr ⟨_, hk, ?_, by rw [h2]⟩
          rw [show i + 1 + b - 1 = i + b by omega]; simpa using h1
        · exact .inl ⟨_, hk, by simpa using h1, by rw [h2]; omega⟩
      · simp only at e1 e2 hc q
        subst e1 e2
        have gB := gB (Nat.succ_ne_zero _)
        rw [Nat.add_sub_cancel] at gB
        have hk := (gB.mem k).mpr ⟨k, rfl, r⟩
        refine .inr ?_
        have el : lt1 z (j + 1) = some c := by unfold lt1; rw [if_neg (Nat.succ_ne_zero _)]; exact hc
        rw [el]
        refine mem_come.mpr ?_
        rcases q with ⟨h1, h2⟩ | ⟨h1, h2⟩
        · refine .inr ⟨_, hk, ?_, by rw [h2]⟩
          rw [show a + (j + 1) - 1 = a + j by omega]; simpa using h1
        · exact .inl ⟨_, hk, by simpa using h1, by rw [h2]; omega⟩
/-- the table -/
def intsD (L : List Int) : D := .list (L.map PyData.int)
def rowD (nz : Nat) (f : Nat → List Int) : D := .list ((List.range (nz + 1)).map fun b => intsD (f b))
def tabD (ny nz : Nat) (T : Nat → Nat → List Int) : List D := (List.range (ny + 1)).map fun a => rowD nz (T a)
theorem tab_get {ny nz a : Nat} {T : Nat → Nat → List Int} (h : a ≤ ny) : (tabD ny nz T)[a]? = some (rowD nz (T a)) := by
  unfold tabD
  rw [List.getElem?_map, List.getElem?_range (by omega)]; rfl
theorem row_get {nz b : Nat} {f : Nat → List Int} (h : b ≤ nz) : ((List.range (nz + 1)).map fun b => intsD (f b))[b]? = some (intsD (f b)) := by
  rw [List.getElem?_map, List.getElem?_range (by omega)]; rfl
def setT (T : Nat → Nat → List Int) (a b : Nat) (L : List Int) : Nat → Nat → List Int := fun i j => if i = a ∧ j = b then L else T i j
theorem tab_set {ny nz a b : Nat} {T : Nat → Nat → List Int} {L : List Int} (ha : a ≤ ny) (hb : b ≤ nz) : (tabD ny nz T).set a (.list (((List.range (nz + 1)).map fun b => intsD (T a b)).set b (intsD L))) = tabD ny nz (setT T a b L) := by
  apply List.ext_getElem?
  intro i
  by_cases h : a = i
  · subst h
    rw [List.getElem?_set_self (by simp [tabD]; omega), tab_get ha]
    congr 1
    unfold rowD
    congr 1
    apply List.ext_getElem?
    intro j
    by_cases hj : b = j
    · subst hj
      rw [List.getElem?_set_self (by simp; omega), row_get hb]
      simp [setT]
    · rw [List.getElem?_set_ne hj]
      rw [List.getElem?_map, List.getElem?_map]
      by_cases hjl : j < nz + 1
      · rw [List.getElem?_range hjl]
        show some (intsD (T a j)) = some (intsD (setT T a b L a j))
        simp [setT, Ne.symm hj]
      · rw [List.getElem?_eq_none (by simp; omega)]; rfl
  · rw [List.getElem?_set_ne h]
    unfold tabD
    rw [List.getElem?_map, List.getElem?_map]
    by_cases hi : i < ny + 1
    · rw [List.getElem?_range hi]
      show some (rowD nz (T i)) = some (rowD nz (setT T a b L i))
      congr 2
      funext j
      simp [setT, Ne.symm h]
    · rw [List.getElem?_eq_none (by simp; omega)]; rfl
def r_law (ss : List Sl) (r : Sl) : Prop := ∃ ks : List Int, ss = [.own 0 (.list (ks.map PyData.int))] ∧ ks.length ≤ 63 ∧ r = .own 0 (.bool true)
end K84
namespace K84
open PySem PySem.Spec PyProof.Rows L2 VL
section
variable {P : Program} {w : World} {K : PySem.W.Frag} {mg : Str → Option Value} {base : Heap}
theorem ok_is_tuple (Y : Mo K mg) {k : Nat} : FnOk P w K mg base CX0 (k + 1) Y.f_is_tuple Y.d_is_tuple ["thing", "least", "most"] (spV ⟨P, w, K⟩ 3 (spR r_is_tuple)) := by
  refine okV Y.F_is_tuple sc_is_tuple fun cdv A outer s₀ H E C hr => ⟨_, (vss_one (vs_ret (vp_and (vp_isi kt_tup (by rfl) Y.m_isinstance bb_isinstance (by rfl) Y.m_tuple bb_tuple (vp_name 0)) (vp_one (vp_chain mono_le mono_le od_le od_le (vp_name 1) (vp_fnB mono_len cd_len (by rfl) Y.m_len bb_len (vp_name 0)) (vp_name 2)))))), fun ss R hl h => ?_⟩
  obtain ⟨_, ⟨d, a, b, rfl, rfl⟩, h⟩ := h
  cases d with
  | tuple ds =>
    have h : R (.own 0 (.bool (decide (a ≤ (ds.length : Int)) && decide ((ds.length : Int) ≤ b)))) := h
    refine ⟨fun _ => ⟨rfl, fun e => ?_, fun e => ?_⟩, fun e => noTF e⟩
    · show R _
      rw [e] at h
      exact h
    · show R _
      rw [e] at h
      exact h
  | _ => exact ⟨fun e => noFT e, fun _ => h⟩
end
end K84
namespace K84
open PySem PySem.Spec PyProof.Rows L2 VL
section
variable {P : Program} {w : World} {K : PySem.W.Frag} {mg : Str → Option Value} {base : Heap}
theorem ok_is_word (Y : Mo K mg) {k : Nat} : FnOk P w K mg base CX0 (k + 1) Y.f_is_word Y.d_is_word ["thing"] (spV ⟨P, w, K⟩ 1 (spR r_is_word)) := by
  refine okV Y.F_is_word sc_is_word fun cdv A outer s₀ H E C hr => ⟨_, (vss_one (vs_ret (vp_and (vp_isi kt_str (by rfl) Y.m_isinstance bb_isinstance (by rfl) Y.m_str bb_str (vp_name 0)) (vp_one (vp_fnB mono_all (cd_all rfl) (by rfl) Y.m_all bb_all (vp_lc 0 [("sign", 1)] rfl sc_is_word.nd (vi_seq (vp_name 0)) (by kernel_rfl) (fun _ _ _ _ _ => (vg_name 1 sc_is_word.nd rfl (by first | exact .inl rfl | exact .inr rfl | exact .inr (.inl rfl) | exact .inr (.inr rfl)))) (fun _ _ _ _ _ => vts_nil) (fun _ _ _ _ _ => (vp_cmp mono_in (od_in hr.units) (by rfl) (vp_name 1) (vp_gstr (by rfl) Y.c_LETTERS))))))))), fun ss R hl h => ?_⟩
  obtain ⟨_, ⟨d, rfl, hs, rfl⟩, h⟩ := h
  cases d with
  | str s =>
    refine ⟨fun _ => ?_, fun e => noTF e⟩
    have hsz : s.cps.size ≤ 1000 := by simpa [smS] using hs
    refine ⟨fun j hj => ?_, ?_, lc_mp (fun x => .bool (match x with | .str ⟨⟨c :: _⟩⟩ => decide (c ∈ letters) | _ => false)) (fun i d Kk hd hk => ?_) ?_⟩
    · have e : j = 1 := by simpa using hj
      subst e; rfl
    · simp
      exact Nat.le_trans hsz (by decide)
    · rw [List.getElem?_map] at hd
      obtain ⟨c, hc, e⟩ := Option.map_eq_some_iff.mp hd
      subst e
      refine ⟨by show 1 < 2; decide, fun _ => ⟨c, rfl, rfl, trivial, hk⟩, fun e => noTF e⟩
    · refine all_map_bool ⟨rfl, ?_⟩
      show R _
      rw [List.all_map]
      exact h
  | _ => exact ⟨fun e => noFT e, fun _ => h⟩
end
end K84
namespace K84
open PySem PySem.Spec PyProof.Rows L2 VL
section
variable {P : Program} {w : World} {K : PySem.W.Frag} {mg : Str → Option Value} {base : Heap}
theorem ok_letter_at (Y : Mo K mg) {k : Nat} : FnOk P w K mg base CX0 (k + 1) Y.f_letter_at Y.d_letter_at ["word", "at"] (spV ⟨P, w, K⟩ 2 (spR r_letter_at)) := by
  refine okV Y.F_letter_at sc_letter_at fun cdv A outer s₀ H E C hr => ⟨_, (vss_one (vs_ret (vp_slc (vp_name 0) (vo_some (vp_name 1)) (vo_some (vp_add (vp_name 1) vp_int))))), fun ss R hl h => ?_⟩
  obtain ⟨_, ⟨l, i, rfl, hl, rfl⟩, h⟩ := h
  refine ⟨?_, ?_⟩
  · show l.toArray.size ≤ sizeLine
    rw [List.size_toArray]; exact Nat.le_trans hl (by decide)
  · show R _
    have e : cutS ⟨l.toArray⟩ (some (i : Int)) (some ((i : Int) + 1)) = ⟨((l.drop i).take 1).toArray⟩ := by
      have t := cut_nat l i (i + 1)
      rw [Nat.add_sub_cancel_left] at t
      exact t
    rw [e]
    exact h
end
end K84
namespace K84
open PySem PySem.Spec PyProof.Rows L2 VL
section
variable {P : Program} {w : World} {K : PySem.W.Frag} {mg : Str → Option Value} {base : Heap}
theorem ok__law_numbers (Y : Mo K mg) {k : Nat} : FnOk P w K mg base CX0 (k + 1) Y.f__law_numbers Y.d__law_numbers ["script", "thing"] (spV ⟨P, w, K⟩ 2 (spA p__law_numbers r__law_numbers)) := by
  refine okV Y.F__law_numbers sc__law_numbers fun cdv A outer s₀ H E C hr => ⟨_, (vss_cons (vs_set 0 2 sc__law_numbers.nd rfl (by first | exact .inl rfl | exact .inr rfl | exact .inr (.inl rfl) | exact .inr (.inr rfl)) vp_int)
      (vss_consJ (vs_if (vt_cmp mono_gt od_gt (by rfl) (vp_fnB mono_len cd_len (by rfl) Y.m_len bb_len (vp_name 0)) vp_int) (vss_one (vs_set 0 2 sc__law_numbers.nd rfl (by first | exact .inl rfl | exact .inr rfl | exact .inr (.inl rfl) | exact .inr (.inr rfl)) (vp_fnT mono_int cd_int (by rfl) Y.m_int bb_int (vp_ix (fun _ _ => rfl) (vp_name 0) (vp_bin mono_mod od_mod (vp_name 1) (vp_fnB mono_len cd_len (by rfl) Y.m_len bb_len (vp_name 0))))))) vss_nil)
      (vss_cons (vs_set 0 3 sc__law_numbers.nd rfl (by first | exact .inl rfl | exact .inr rfl | exact .inr (.inl rfl) | exact .inr (.inr rfl)) vp_int)
      (vss_consJ (vs_if (VPW.pt (vw_and (vt_cmp mono_lt od_lt (by rfl) (vp_name 1) (vp_fnB mono_len cd_len (by rfl) Y.m_len bb_len (vp_name 0))) (vw_and1 (vt_cmp mono_ge od_ge (by rfl) (vp_name 2) (vp_bin mono_pow od_pow vp_int vp_int))))) (vss_one (vs_set 0 3 sc__law_numbers.nd rfl (by first | exact .inl rfl | exact .inr rfl | exact .inr (.inl rfl) | exact .inr (.inr rfl)) (vp_name 2))) vss_nil)
      (vss_cons (vs_set 1 4 sc__law_numbers.nd rfl (by first | exact .inl rfl | exact .inr rfl | exact .inr (.inl rfl) | exact .inr (.inr rfl)) (vp_lst (k := 0) va_nil))
      (vss_cons (vs_for PassesOwn.never rfl (vi_range1 (by rfl) Y.m_range vp_int) (vg_name 5 sc__law_numbers.nd rfl (by first | exact .inl rfl | exact .inr rfl | exact .inr (.inl rfl) | exact .inr (.inr rfl)))
      (vss_cons (vs_set 0 6 sc__law_numbers.nd rfl (by first | exact .inl rfl | exact .inr rfl | exact .inr (.inl rfl) | exact .inr (.inr rfl)) (vp_bin mono_mod od_mod (vp_bin mono_mul od_mul (vp_add (vp_add (vp_add (vp_bin mono_mod od_mod (vp_name 2) vp_int) (vp_bin mono_mul od_mul vp_int (vp_name 5))) (vp_bin mono_mul od_mul vp_int (vp_name 1))) vp_int) vp_int) vp_int))
      (vss_cons (vs_set 0 6 sc__law_numbers.nd rfl (by first | exact .inl rfl | exact .inr rfl | exact .inr (.inl rfl) | exact .inr (.inr rfl)) (vp_bin mono_mod od_mod (vp_bin mono_mul od_mul (vp_name 6) (vp_add (vp_bin mono_div od_div (vp_name 6) vp_int) vp_int)) vp_int))
      (vss_cons (vs_set 0 6 sc__law_numbers.nd rfl (by first | exact .inl rfl | exact .inr rfl | exact .inr (.inl rfl) | exact .inr (.inr rfl)) (vp_bin mono_mod od_mod (vp_bin mono_mul od_mul (vp_name 6) (vp_add (vp_bin mono_div od_div (vp_name 6) vp_int) vp_int)) vp_int))
      (vss_consJ (vs_if (vt_cmp mono_gt od_gt (by rfl) (vp_name 3) vp_int) (vss_cons (vs_set 0 6 sc__law_numbers.nd rfl (by first | exact .inl rfl | exact .inr rfl | exact .inr (.inl rfl) | exact .inr (.inr rfl)) (vp_bin mono_mod od_mod (vp_name 3) vp_int))
      (vss_one (vs_set 0 3 sc__law_numbers.nd rfl (by first | exact .inl rfl | exact .inr rfl | exact .inr (.inl rfl) | exact .inr (.inr rfl)) (vp_bin mono_div od_div (vp_name 3) vp_int)))) vss_nil)
      (vss_one (vs_app (i := 4) (ha := (vp_name 6)))))))))
      (vss_one (vs_retV 4)))))))), fun ss R hl h => ?_⟩
  obtain ⟨⟨ks, th, rfl⟩, h⟩ := h
  have p1 : (0 : Int) < 2147483629 := by decide
  have p2 : (0 : Int) < 2147483647 := by decide
  have p3 : (0 : Int) < 2147483399 := by decide
  have p4 : (0 : Int) < 1000000007 := by decide
  let G : D → D → List D → Sl → Sl → List Sl := fun c r acc a b => [.bor (.list (ks.map PyData.int)), .bor (.int (th : Nat)), .own 0 c, .own 0 r, .own 1 (.list acc), a, b]
  refine ⟨by show 2 < 7; decide, trivial, ?_⟩
  refine ⟨fun Γ => ∃ c : Int, Γ = [.bor (.list (ks.map PyData.int)), .bor (.int (th : Nat)), .own 0 (.int c), .gone, .gone, .gone, .gone], ?_, fun Γ' hJ => ?_⟩
  · refine ⟨rfl, fun e => ?_, fun e => ⟨0, rfl⟩⟩
    have e := of_decide_eq_true e
    have hl : 0 < ks.length := by rw [List.length_map] at e; omega
    have hm := mbd (th : Int) (ks.length : Int) (by omega)
    obtain ⟨n, hn⟩ : ∃ n, ks[((th : Int) % (ks.length : Int)).toNat]? = some n := ⟨_, List.getElem?_eq_getElem (by omega)⟩
    refine ⟨rfl, ?_⟩
    rw [List.length_map]
    refine ⟨by omega, rfl, .int n, ?_, rfl, by show 2 < 7; decide, trivial, n, rfl⟩
    have t := atI_of (int_at hn)
    rw [Int.toNat_of_nonneg hm.1] at t
    exact t
  · obtain ⟨c, rfl⟩ := hJ
    refine ⟨by show 3 < 7; decide, trivial, ?_⟩
    refine ⟨fun Γ => ∃ r : Int, 0 ≤ r ∧ Γ = [.bor (.list (ks.map PyData.int)), .bor (.int (th : Nat)), .own 0 (.int c), .own 0 (.int r), .gone, .gone, .gone], ?_, fun Γ' hJ => ?_⟩
    · refine ⟨rfl, fun e => ⟨⟨by decide, by decide, by decide⟩, rfl, fun e => ?_, fun e => ⟨0, Int.le_refl _, rfl⟩⟩, fun e => ⟨fun e => noFT e, fun e => ⟨0, Int.le_refl _, rfl⟩⟩⟩
      have e := of_decide_eq_true e
      refine ⟨by show 3 < 7; decide, trivial, c, ?_, rfl⟩
      exact Int.le_trans (by decide) e
    · obtain ⟨r, hr, rfl⟩ := hJ
      refine ⟨Nat.zero_le _, by show 4 < 7; decide, .inr (Nat.le_refl _), ?_⟩
      refine ⟨⟨by decide, by decide⟩, fun i Γ => ∃ (ns : List Int) (r : Int) (a b : Sl), 0 ≤ r ∧ Γ = G (.int c) (.int r) (ns.map PyData.int) a b ∧ ns.length = i ∧ ∀ n ∈ ns, num n, ⟨[], r, .gone, .gone, hr, rfl, rfl, by simp⟩, fun i d Γ' hd hI => ?_, fun Γ' hI => ?_⟩
      · obtain ⟨ns, r, a, b, hr, rfl, hl, hn⟩ := hI
        have hi := (List.getElem?_eq_some_iff.mp hd).1
        rw [rngD_len] at hi
        rw [rngD_get hi] at hd
        have ed := (Option.some.inj hd).symm
        subst ed
        refine ⟨by show 5 < 7; decide, p1, rfl, .inl ⟨by decide, by decide⟩, rfl, .inl ⟨by decide, by decide⟩, rfl, .inr ⟨by decide, by decide⟩, rfl, p2, rfl, by show 6 < 7; decide, trivial, ?_⟩
        refine ⟨⟨by decide, by decide⟩, rfl, .inl ⟨by omega, by omega⟩, rfl, p2, rfl, by show 6 < 7; decide, trivial, ?_⟩
        refine ⟨⟨by decide, by decide⟩, rfl, .inl ⟨by omega, by omega⟩, rfl, p3, rfl, by show 6 < 7; decide, trivial, ?_⟩
        refine ⟨fun Γ => ∃ (r n : Int) (a : Sl), 0 ≤ r ∧ num n ∧ Γ = G (.int c) (.int r) (ns.map PyData.int) a (.own 0 (.int n)), ?_, fun Γ' hJ => ?_⟩
        · refine ⟨fun e => ?_, fun e => ⟨r, _, _, hr, ?_, rfl⟩⟩
          · have m4 := mbd r 1000000007 (by decide)
            refine ⟨p4, rfl, by show 6 < 7; decide, trivial, ⟨by decide, by decide⟩, rfl, by show 3 < 7; decide, trivial, r / 1000000007, r % 1000000007, _, Int.ediv_nonneg hr (by decide), ⟨by omega, by omega⟩, rfl⟩
          · have m3 := fun a => mbd a 2147483399 (by decide)
            exact ⟨(m3 _).1, Int.lt_trans (m3 _).2 (by decide)⟩
        · obtain ⟨r', n, a, hr', hnn, rfl⟩ := hJ
          refine ⟨trivial, ?_, ns ++ [n], r', a, .own 0 (.int n), hr', ?_, by simp [hl], fun m hm => ?_⟩
          · rw [List.length_map]
            exact Nat.lt_of_le_of_lt (show ns.length ≤ 100 by omega) (by decide)
          · show _ = G _ _ _ _ _
            rw [List.map_append]; rfl
          · rcases List.mem_append.mp hm with hm | hm
            · exact hn m hm
            · rw [List.mem_singleton.mp hm]; exact hnn
      · obtain ⟨ns, r, a, b, hr, rfl, hl, hn⟩ := hI
        rw [rngD_len] at hl
        exact h _ ⟨ns, rfl, hl, hn⟩
end
end K84
namespace K84
open PySem PySem.Spec PyProof.Rows L2 VL
def notIn (v : List Nat) (d : D) : Option D := match d with
  | .str ⟨⟨c :: _⟩⟩ => if decide (c ∈ v) = true then none else some d
  | _ => none
theorem some_left (v : List Nat) (h : v.length ≤ 2) : ∃ c, c ∈ letters ∧ c ∉ v := by
  by_cases h1 : 97 ∈ v
  · by_cases h2 : 98 ∈ v
    · by_cases h3 : 99 ∈ v
      · exfalso
        match v, h, h1, h2, h3 with
        | [], _, h1, _, _ => simp at h1
        | [a], _, h1, h2, _ => simp at h1 h2; omega
        | [a, b], _, h1, h2, h3 => simp at h1 h2 h3; omega
      · exact ⟨99, by decide, h3⟩
    · exact ⟨98, by decide, h2⟩
  · exact ⟨97, by decide, h1⟩
section
variable {P : Program} {w : World} {K : PySem.W.Frag} {mg : Str → Option Value} {base : Heap}
theorem ok__law_letters (Y : Mo K mg) {k : Nat} : FnOk P w K mg base CX0 (k + 1) Y.f__law_letters Y.d__law_letters ["number"] (spV ⟨P, w, K⟩ 1 (spA p__law_letters r__law_letters)) := by
  refine okV Y.F__law_letters sc__law_letters fun cdv A outer s₀ H E C hr => ⟨_, (vss_cons (vs_set 0 1 sc__law_letters.nd rfl (by first | exact .inl rfl | exact .inr rfl | exact .inr (.inl rfl) | exact .inr (.inr rfl)) vp_str)
      (vss_cons (vs_set 0 2 sc__law_letters.nd rfl (by first | exact .inl rfl | exact .inr rfl | exact .inr (.inl rfl) | exact .inr (.inr rfl)) (vp_bin mono_div od_div (vp_name 0) vp_int))
      (vss_cons (vs_for PassesOwn.never rfl (vi_range1 (by rfl) Y.m_range (vp_add vp_int (vp_bin mono_mod od_mod (vp_name 0) vp_int))) (vg_name 3 sc__law_letters.nd rfl (by first | exact .inl rfl | exact .inr rfl | exact .inr (.inl rfl) | exact .inr (.inr rfl)))
      (vss_cons (vs_lc 1 4 0 [("letter", 5)] rfl sc__law_letters.nd rfl rfl (vi_seq vp_str) (by kernel_rfl) (fun _ _ _ _ _ => (vg_name 5 sc__law_letters.nd rfl (by first | exact .inl rfl | exact .inr rfl | exact .inr (.inl rfl) | exact .inr (.inr rfl)))) (fun _ _ _ _ _ => (vts_one (vt_cmp mono_notIn (od_notIn hr.units) (by rfl) (vp_name 5) (vp_name 1)))) (fun _ _ _ _ _ => (vp_name 5)) (sw_true rfl rfl rfl (by decide +kernel)))
      (vss_cons (vs_set 0 1 sc__law_letters.nd rfl (by first | exact .inl rfl | exact .inr rfl | exact .inr (.inl rfl) | exact .inr (.inr rfl)) (vp_add (vp_name 1) (vp_ix (fun _ _ => rfl) (vp_name 4) (vp_bin mono_mod od_mod (vp_name 2) (vp_fnB mono_len cd_len (by rfl) Y.m_len bb_len (vp_name 4))))))
      (vss_one (vs_set 0 2 sc__law_letters.nd rfl (by first | exact .inl rfl | exact .inr rfl | exact .inr (.inl rfl) | exact .inr (.inr rfl)) (vp_bin mono_div od_div (vp_name 2) vp_int))))))
      (vss_one (vs_retV 1))))), fun ss R hl h => ?_⟩
  obtain ⟨⟨n, rfl, hn⟩, h⟩ := h
  let G : D → D → Sl → Sl → List Sl := fun f r k l => [.bor (.int n), .own 0 f, .own 0 r, k, l, .gone]
  have q3 : (0 : Int) < 2 := by decide
  have m0 := mbd n 2 (by decide)
  refine ⟨by show 1 < 6; decide, trivial, ⟨by decide, by decide⟩, rfl, by show 2 < 6; decide, trivial, q3, rfl, ⟨by show -(2 ^ 62) ≤ 2 + n % 2; omega, by show 2 + n % 2 < 2 ^ 62; omega⟩, fun i Γ => ∃ (v : List Nat) (r : Int) (k l : Sl), Γ = G (wd v) (.int r) k l ∧ v.length = i ∧ isL v = true, ⟨[], n / 3, .gone, .gone, rfl, rfl, rfl⟩, fun i d0 Γ' hd0 hI => ?_, fun Γ' hI => ?_⟩
  · obtain ⟨v, r, k, l, rfl, hv, hvl⟩ := hI
    have hi := (List.getElem?_eq_some_iff.mp hd0).1
    rw [rngD_len] at hi
    have hv2 : v.length ≤ 2 := by omega
    refine ⟨by show 3 < 6; decide, ?_⟩
    refine ⟨fun j hj => ?_, by decide, lc_fm (notIn v) (fun i d Kk hd hk => ?_) ?_⟩
    · have e : j = 5 := by simpa using hj
      subst e; rfl
    · rw [List.getElem?_map] at hd
      obtain ⟨c, hc, e⟩ := Option.map_eq_some_iff.mp hd
      subst e
      refine ⟨by show 5 < 6; decide, c, rfl, fun e => ?_, fun e => ?_⟩
      · have e : (!decide (c ∈ v)) = true := e
        have e2 : decide (c ∈ v) = false := by simpa using e
        refine ⟨trivial, ?_⟩
        have t : notIn v (.str ⟨#[c]⟩) = some (.str ⟨#[c]⟩) := by
          show (if decide (c ∈ v) = true then none else some _) = _
          rw [e2]; rfl
        rw [t] at hk; exact hk
      · have e : (!decide (c ∈ v)) = false := e
        have e2 : decide (c ∈ v) = true := by simpa using e
        have t : notIn v (.str ⟨#[c]⟩) = none := by
          show (if decide (c ∈ v) = true then none else some _) = _
          rw [e2]; rfl
        rw [t] at hk; exact hk
    · -- what is left
      obtain ⟨ds, hds⟩ : ∃ ds, ((letters.map fun c => PyData.str ⟨#[c]⟩).filterMap (notIn v)) = ds := ⟨_, rfl⟩
      have hds' : (((Str.ofString "abcdefghijklmnopqrstuvwxyz").cps.toList.map fun c => PyData.str ⟨#[c]⟩).filterMap (notIn v)) = ds := hds
      rw [hds']
      have mem : ∀ d ∈ ds, ∃ c, d = .str ⟨#[c]⟩ ∧ c ∈ letters := fun d hd => by
        rw [← hds] at hd
        obtain ⟨e, he, q⟩ := List.mem_filterMap.mp hd
        obtain ⟨c, hc, rfl⟩ := List.mem_map.mp he
        have q : (if decide (c ∈ v) = true then none else some (PyData.str ⟨#[c]⟩)) = some d := q
        split at q
        · cases q
        · exact ⟨c, (Option.some.inj q).symm, hc⟩
      have pos : 0 < ds.length := by
        obtain ⟨c, h1, h2⟩ := some_left v hv2
        refine List.length_pos_of_mem (a := PyData.str ⟨#[c]⟩) ?_
        rw [← hds]
        refine List.mem_filterMap.mpr ⟨_, List.mem_map.mpr ⟨c, h1, rfl⟩, ?_⟩
        show (if decide (c ∈ v) = true then none else some _) = _
        rw [decide_eq_false h2]; rfl
      have m1 := mbd r (ds.length : Int) (by omega)
      obtain ⟨d, hd⟩ : ∃ d, ds[(r % (ds.length : Int)).toNat]? = some d := ⟨_, List.getElem?_eq_getElem (by omega)⟩
      obtain ⟨c, rfl, hc⟩ := mem d (List.mem_of_getElem? hd)
      have t1 := atI_of hd
      rw [Int.toNat_of_nonneg m1.1] at t1
      refine ⟨by show 4 < 6; decide, .inr (Nat.le_refl _), rfl, by omega, rfl, _, t1, ?_, by show 1 < 6; decide, trivial, ⟨by decide, by decide⟩, rfl, by show 2 < 6; decide, trivial, v ++ [c], r / 26, .own 0 d0, .own 1 (.list ds), ?_, by simp [hv], ?_⟩
      · rw [wd_len]
        show v.length + 1 ≤ sizeLine
        exact Nat.le_trans (show v.length + 1 ≤ 1000 by omega) (by decide)
      · show _ = G _ _ _ _
        rw [show wd (v ++ [c]) = .str ((⟨v.toArray⟩ : Str) ++ ⟨#[c]⟩) from congrArg PyData.str (wd_app v [c]).symm]
        rfl
      · rw [isL_app, hvl]
        simp only [isL, List.all_cons, List.all_nil, decide_eq_true hc]; rfl
  · obtain ⟨v, r, k, l, rfl, hv, hvl⟩ := hI
    rw [rngD_len] at hv
    exact h _ ⟨v, rfl, hvl, by omega, by omega⟩
end
end K84
namespace K84
open PySem PySem.Spec PyProof.Rows L2 VL
section
variable {P : Program} {w : World} {K : PySem.W.Frag} {mg : Str → Option Value} {base : Heap}
theorem ok__law_word (Y : Mo K mg) {k : Nat} : FnOk P w K mg base CX0 (k + 1) Y.f__law_word Y.d__law_word ["xs", "start", "size", "letters"] (spV ⟨P, w, K⟩ 4 (spA p__law_word r__law_word)) := by
  refine okV Y.F__law_word sc__law_word fun cdv A outer s₀ H E C hr => ⟨_, (vss_cons (vs_set 0 4 sc__law_word.nd rfl (by first | exact .inl rfl | exact .inr rfl | exact .inr (.inl rfl) | exact .inr (.inr rfl)) vp_str)
      (vss_cons (vs_for PassesOwn.never rfl (vi_range2 (by rfl) Y.m_range (vp_name 1) (vp_add (vp_name 1) (vp_name 2))) (vg_name 5 sc__law_word.nd rfl (by first | exact .inl rfl | exact .inr rfl | exact .inr (.inl rfl) | exact .inr (.inr rfl)))
      (vss_one (vs_set 0 4 sc__law_word.nd rfl (by first | exact .inl rfl | exact .inr rfl | exact .inr (.inl rfl) | exact .inr (.inr rfl)) (vp_add (vp_name 4) (vp_ix (fun _ _ => rfl) (vp_name 3) (vp_bin mono_mod od_mod (vp_bin mono_div od_div (vp_ix (fun _ _ => rfl) (vp_name 0) (vp_bin mono_mod od_mod (vp_name 5) vp_int)) (vp_ix (fun _ _ => rfl) (vp_lst (k := 0) (va_cons vp_int (va_cons vp_int (va_cons vp_int va_nil)))) (vp_bin mono_mod od_mod (vp_bin mono_div od_div (vp_name 5) vp_int) vp_int))) (vp_fnB mono_len cd_len (by rfl) Y.m_len bb_len (vp_name 3))))))))
      (vss_one (vs_retV 4)))), fun ss R hl h => ?_⟩
  obtain ⟨⟨ns, a, b, l, rfl, h40, hns, ha, hb, hl, hl1, hl3⟩, h⟩ := h
  let G : D → Sl → List Sl := fun w c => [.bor (.list (ns.map PyData.int)), .bor (.int (a : Nat)), .bor (.int (b : Nat)), .bor (wd l), .own 0 w, c]
  refine ⟨by show 4 < 6; decide, trivial, ?_⟩
  refine ⟨⟨by show -(2 ^ 62) ≤ (a : Int); omega, by show (a : Int) < 2 ^ 62; omega⟩, ⟨by show -(2 ^ 62) ≤ (a : Int) + (b : Int); omega, by show (a : Int) + (b : Int) < 2 ^ 62; omega⟩, fun i Γ => ∃ (v : List Nat) (c : Sl), Γ = G (wd v) c ∧ v.length = i ∧ isL v = true, ⟨[], .gone, rfl, rfl, rfl⟩, fun i d Γ' hd hI => ?_, fun Γ' hI => ?_⟩
  · obtain ⟨v, c, rfl, hv, hvl⟩ := hI
    have hi := (List.getElem?_eq_some_iff.mp hd).1
    rw [rngD_len] at hi
    rw [rngD_get hi] at hd
    have ed := (Option.some.inj hd).symm
    subst ed
    have m1 := mbd ((a : Int) + (i : Nat) * 1) 40 (by decide)
    obtain ⟨n, hn⟩ : ∃ n, ns[(((a : Int) + (i : Nat) * 1) % 40).toNat]? = some n := ⟨_, List.getElem?_eq_getElem (by omega)⟩
    have hnn := hns n (List.mem_of_getElem? hn)
    have t1 := atI_of (int_at hn)
    rw [Int.toNat_of_nonneg m1.1] at t1
    have m2 := mbd (((a : Int) + (i : Nat) * 1) / 40) 3 (by decide)
    obtain ⟨dv, hdv, t2⟩ : ∃ dv : Int, (0 < dv ∧ dv < 1073741824) ∧ atI [PyData.int 1, PyData.int 101, PyData.int 10007] ((((a : Int) + (i : Nat) * 1) / 40) % 3) = some (.int dv) := by
      have key : ∀ q : Int, 0 ≤ q → q < 3 → ∃ dv : Int, (0 < dv ∧ dv < 1073741824) ∧ atI [PyData.int 1, PyData.int 101, PyData.int 10007] q = some (.int dv) := fun q h0 h3 => by
        have e : q = 0 ∨ q = 1 ∨ q = 2 := by omega
        rcases e with rfl | rfl | rfl
        · exact ⟨1, ⟨by decide, by decide⟩, rfl⟩
        · exact ⟨101, ⟨by decide, by decide⟩, rfl⟩
        · exact ⟨10007, ⟨by decide, by decide⟩, rfl⟩
      exact key _ m2.1 m2.2
    have q40 : (0 : Int) < 40 := by decide
    have q3 : (0 : Int) < 3 := by decide
    refine ⟨by show 5 < 6; decide, q40, rfl, .int n, t1, trivial, trivial, trivial, by show 3 ≤ sizeLine; decide, ⟨q40, by decide⟩, rfl, q3, rfl, .int dv, t2, hdv, rfl, wd_sz (by omega), rfl, ?_⟩
    have m4 := mbd (n / dv) (l.length : Int) (by omega)
    obtain ⟨ch, hch⟩ : ∃ ch, l[((n / dv) % (l.length : Int)).toNat]? = some ch := ⟨_, List.getElem?_eq_getElem (by omega)⟩
    have t3 : atI l ((n / dv) % (l.length : Int)) = some ch := by
      have t := atI_of hch
      rwa [Int.toNat_of_nonneg m4.1] at t
    rw [wd_len]
    refine ⟨by omega, rfl, wd_sz (by omega), ch, t3, ?_, by show 4 < 6; decide, trivial, v ++ [ch], .own 0 (.int ((a : Int) + (i : Nat) * 1)), ?_, by simp [hv], ?_⟩
    · rw [wd_len]
      show v.length + 1 ≤ sizeLine
      exact Nat.le_trans (show v.length + 1 ≤ 1000 by omega) (by decide)
    · show _ = G _ _
      rw [show wd (v ++ [ch]) = .str ((⟨v.toArray⟩ : Str) ++ ⟨#[ch]⟩) from congrArg PyData.str (wd_app v [ch]).symm]
      rfl
    · rw [isL_app, hvl]
      have : ch ∈ l := List.mem_of_getElem? hch
      have := (List.all_eq_true.mp hl) ch this
      simp only [isL, List.all_cons, List.all_nil, this]; rfl
  · obtain ⟨v, c, rfl, hv, hvl⟩ := hI
    rw [rngD_len] at hv
    exact h _ ⟨v, rfl, hvl, by omega⟩
end
end K84
namespace K84
open PySem PySem.Spec PyProof.Rows L2 VL
theorem rng_const {lo : Int} {n : Nat} {d : D} : (rngD lo 1 n).map (fun _ => d) = (List.range n).map fun _ => d := by
  unfold rngD
  rw [List.map_map]; rfl
theorem ixN_nat {n k : Nat} (h : k < n) : ixN n (k : Int) = some k := by
  unfold ixN
  rw [if_pos (by omega), if_pos (by omega)]; simp
theorem atI_neg {α : Type} {xs : List α} {v : α} {j : Nat} (hj : xs.length = j + 1) (h : xs[j]? = some v) : atI xs (-1) = some v := by
  unfold atI
  have e : ixN xs.length (-1) = some j := by
    unfold ixN
    rw [hj, if_neg (by decide), if_pos (by omega)]
    congr 1; omega
  rw [e]; exact h
def o2l (o : Option Nat) : List Nat := match o with
  | some c => [c]
  | none => []
theorem cut_lt {y : List Nat} {n : Nat} (h : n ≤ y.length) : cutS ⟨y.toArray⟩ (some ((n : Int) - 1)) (some (n : Int)) = ⟨(o2l (lt1 y n)).toArray⟩ := by
  cases n with
  | zero =>
    have e : lt1 y 0 = none := rfl
    rw [e]
    unfold cutS
    have e2 : HT.sIx (⟨y.toArray⟩ : Str).length (⟨y.toArray⟩ : Str).length (some ((0 : Nat) : Int)) = 0 := by rw [HT.sIx_nat]; simp
    rw [e2]
    simp [o2l]
  | succ n =>
    have e1 : ((n + 1 : Nat) : Int) - 1 = (n : Int) := by omega
    rw [e1, cut_nat]
    congr 2
    have e2 : lt1 y (n + 1) = y[n]? := rfl
    rw [e2, List.getElem?_eq_getElem (by omega), show n + 1 - n = 1 by omega, List.drop_eq_getElem_cons (by omega)]
    rfl
def liftF (f : Int → Option Int) (d : D) : Option D := match d with
  | .int k => (f k).map PyData.int
  | _ => none
theorem lift_map {f : Int → Option Int} {L : List Int} : (L.map PyData.int).filterMap (liftF f) = (L.filterMap f).map PyData.int := by
  rw [List.filterMap_map, List.map_filterMap]
  rfl
theorem plain_ints : ∀ L : List Int, PyData.plainAll (L.map PyData.int) = true
  | [] => by simp [PyData.plainAll]
  | k :: L => by simp [PyData.plainAll, PyData.plain, plain_ints L]
theorem any_ints {L : List Int} {k : Int} : ((L.map PyData.int).any fun y => PyData.eqv y (.int k)) = decide (k ∈ L) := by
  rw [Bool.eq_iff_iff, List.any_eq_true, decide_eq_true_eq]
  constructor
  · rintro ⟨d, hd, e⟩
    obtain ⟨q, hq, rfl⟩ := List.mem_map.mp hd
    have e : q = k := by simpa [PyData.eqv] using e
    rw [← e]; exact hq
  · intro h
    exact ⟨_, List.mem_map.mpr ⟨k, h, rfl⟩, by simp [PyData.eqv]⟩
section
variable {P : Program} {w : World} {K : PySem.W.Frag} {mg : Str → Option Value} {base : Heap}
theorem ok__law_is_fourth (Y : Mo K mg) {k : Nat} : FnOk P w K mg base CX0 (k + 1) Y.f__law_is_fourth Y.d__law_is_fourth ["x", "y", "z", "t"] (spV ⟨P, w, K⟩ 4 (spR r__law_is_fourth)) := by
  refine okV Y.F__law_is_fourth sc__law_is_fourth fun cdv A outer s₀ H E C hr => ⟨_, (vss_cons (vs_if (vt_cmp mono_ne (od_ne hr.units) (by rfl) (vp_add (vp_fnB mono_len cd_len (by rfl) Y.m_len bb_len (vp_name 0)) (vp_fnB mono_len cd_len (by rfl) Y.m_len bb_len (vp_name 3))) (vp_add (vp_fnB mono_len cd_len (by rfl) Y.m_len bb_len (vp_name 1)) (vp_fnB mono_len cd_len (by rfl) Y.m_len bb_len (vp_name 2)))) (vss_one (vs_ret vp_bl)) vss_nil)
      (vss_cons (vs_lc 2 4 1 [("i", 5)] rfl sc__law_is_fourth.nd rfl rfl (vi_range1 (by rfl) Y.m_range (vp_add (vp_fnB mono_len cd_len (by rfl) Y.m_len bb_len (vp_name 1)) vp_int)) (by kernel_rfl) (fun _ _ _ _ _ => (vg_name 5 sc__law_is_fourth.nd rfl (by first | exact .inl rfl | exact .inr rfl | exact .inr (.inl rfl) | exact .inr (.inr rfl)))) (fun _ _ _ _ _ => vts_nil) (fun _ _ _ _ _ => (vp_lc 0 [("j", 6)] rfl sc__law_is_fourth.nd (vi_range1 (by rfl) Y.m_range (vp_add (vp_fnB mono_len cd_len (by rfl) Y.m_len bb_len (vp_name 2)) vp_int)) (by kernel_rfl) (fun _ _ _ _ _ => (vg_name 6 sc__law_is_fourth.nd rfl (by first | exact .inl rfl | exact .inr rfl | exact .inr (.inl rfl) | exact .inr (.inr rfl)))) (fun _ _ _ _ _ => vts_nil) (fun _ _ _ _ _ => (vp_lst (k := 0) va_nil)))) (sw_true rfl rfl rfl (by decide +kernel)))
      (vss_cons (vs_for PassesOwn.never rfl (vi_range1 (by rfl) Y.m_range (vp_add (vp_fnB mono_len cd_len (by rfl) Y.m_len bb_len (vp_name 1)) vp_int)) (vg_name 5 sc__law_is_fourth.nd rfl (by first | exact .inl rfl | exact .inr rfl | exact .inr (.inl rfl) | exact .inr (.inr rfl)))
      (vss_one (vs_for PassesOwn.never rfl (vi_range1 (by rfl) Y.m_range (vp_add (vp_fnB mono_len cd_len (by rfl) Y.m_len bb_len (vp_name 2)) vp_int)) (vg_name 6 sc__law_is_fourth.nd rfl (by first | exact .inl rfl | exact .inr rfl | exact .inr (.inl rfl) | exact .inr (.inr rfl)))
      (vss_consJ (vs_set 1 7 sc__law_is_fourth.nd rfl (by first | exact .inl rfl | exact .inr rfl | exact .inr (.inl rfl) | exact .inr (.inr rfl)) (vp_ifE (vt_cmp mono_eq (od_eq hr.units) (by rfl) (vp_add (vp_name 5) (vp_name 6)) vp_int) (vp_lst (k := 0) (va_cons vp_int va_nil)) (vp_lst (k := 0) va_nil)))
      (vss_cons (vs_for PassesOwn.never rfl (vi_seq (vp_lst (k := 0) (va_cons (vp_tup (va_cons (vp_ix2 4 (fun _ _ => rfl) (fun _ _ => rfl) (vp_bin mono_sub od_sub (vp_name 5) vp_int) (vp_name 6)) (va_cons (vp_slc (vp_name 1) (vo_some (vp_bin mono_sub od_sub (vp_name 5) vp_int)) (vo_some (vp_name 5))) va_nil))) (va_cons (vp_tup (va_cons (vp_ix2 4 (fun _ _ => rfl) (fun _ _ => rfl) (vp_name 5) (vp_bin mono_sub od_sub (vp_name 6) vp_int)) (va_cons (vp_slc (vp_name 2) (vo_some (vp_bin mono_sub od_sub (vp_name 6) vp_int)) (vo_some (vp_name 6))) va_nil))) va_nil)))) (vg_tup rfl (vgs_cons (vg_name 8 sc__law_is_fourth.nd rfl (by first | exact .inl rfl | exact .inr rfl | exact .inr (.inl rfl) | exact .inr (.inr rfl))) (vgs_cons (vg_name 9 sc__law_is_fourth.nd rfl (by first | exact .inl rfl | exact .inr rfl | exact .inr (.inl rfl) | exact .inr (.inr rfl))) vgs_nil)) rfl rfl (gsC_len (gsC_len gsN_len gN_ex) gN_ex))
      (vss_one (vs_if (vt_cmp mono_ne (od_ne hr.units) (by rfl) (vp_name 9) vp_str) (vss_cons (vs_ext (i := 7) (ha := (vp_lc 0 [("k", 11)] rfl sc__law_is_fourth.nd (vi_seq (vp_name 8)) (by kernel_rfl) (fun _ _ _ _ _ => (vg_name 11 sc__law_is_fourth.nd rfl (by first | exact .inl rfl | exact .inr rfl | exact .inr (.inl rfl) | exact .inr (.inr rfl)))) (fun _ _ _ _ _ => (vts_one (vt_cmp mono_eq (od_eq hr.units) (by rfl) (vp_slc (vp_name 0) (vo_some (vp_name 11)) (vo_some (vp_add (vp_name 11) vp_int))) (vp_name 9)))) (fun _ _ _ _ _ => (vp_add (vp_name 11) vp_int)))))
      (vss_one (vs_ext (i := 7) (ha := (vp_lc 0 [("k", 11)] rfl sc__law_is_fourth.nd (vi_seq (vp_name 8)) (by kernel_rfl) (fun _ _ _ _ _ => (vg_name 11 sc__law_is_fourth.nd rfl (by first | exact .inl rfl | exact .inr rfl | exact .inr (.inl rfl) | exact .inr (.inr rfl)))) (fun _ _ _ _ _ => (vts_one (vt_cmp mono_eq (od_eq hr.units) (by rfl) (vp_slc (vp_name 3) (vo_some (vp_bin mono_sub od_sub (vp_bin mono_sub od_sub (vp_add (vp_name 5) (vp_name 6)) vp_int) (vp_name 11))) (vo_some (vp_bin mono_sub od_sub (vp_add (vp_name 5) (vp_name 6)) (vp_name 11)))) (vp_name 9)))) (fun _ _ _ _ _ => (vp_name 11))))))) vss_nil)))
      (vss_row 4 10 sc__law_is_fourth.nd rfl (by first | exact .inl rfl | exact .inr rfl | exact .inr (.inl rfl) | exact .inr (.inr rfl)) (fun _ _ => rfl) (vp_name 5) (vp_sset rfl (by rfl) Y.m_sorted bb_sorted (by rfl) Y.m_set bb_set (vp_name 7)) (vp_name 6) vss_nil))))))
      (vss_one (vs_ret (vp_cmp mono_in (od_in hr.units) (by rfl) (vp_fnB mono_len cd_len (by rfl) Y.m_len bb_len (vp_name 0)) (vp_ix2 4 (fun _ _ => rfl) (fun _ _ => rfl) (vp_fnB mono_len cd_len (by rfl) Y.m_len bb_len (vp_name 1)) (vp_fnB mono_len cd_len (by rfl) Y.m_len bb_len (vp_name 2))))))))), fun ss R hl h => ?_⟩
  obtain ⟨_, ⟨x, y, z, t, rfl, ⟨hx, hy, hz, ht⟩, rfl⟩, h⟩ := h
  have sx := wd_sz (l := x) (by omega)
  have sy := wd_sz (l := y) (by omega)
  have sz := wd_sz (l := z) (by omega)
  have s4 := wd_sz (l := t) (by omega)
  have big : ∀ n : Nat, n ≤ 1000 → n ≤ sizeLine := fun n h => Nat.le_trans h (by decide)
  have hne : ∀ b, (!eqB (PyData.int (((⟨x.toArray⟩ : Str).length : Int) + ((⟨t.toArray⟩ : Str).length : Int))) (PyData.int (((⟨y.toArray⟩ : Str).length : Int) + ((⟨z.toArray⟩ : Str).length : Int)))) = b → b = decide (x.length + t.length ≠ y.length + z.length) := fun b e => by
    subst e
    show (!decide _) = _
    rw [wd_len, wd_len, wd_len, wd_len, Bool.eq_iff_iff]
    simp
    omega
  refine ⟨sx, rfl, s4, rfl, sy, rfl, sz, rfl, plI, plI, .inl dpI, fun e => ?_, fun e => ?_⟩
  · show R _
    have e := (hne _ e).symm
    have e2 : fourthB x y z t = false := by
      cases q : fourthB x y z t with
      | false => rfl
      | true => exact absurd (fourthB_iff.mp q).1 (of_decide_eq_true e)
    rw [e2] at h; exact h
  · have el : x.length + t.length = y.length + z.length := by
      have e := (hne _ e).symm
      exact Decidable.not_not.mp (of_decide_eq_false e)
    have ry : (((⟨y.toArray⟩ : Str).length : Int) + 1).toNat = y.length + 1 := by rw [wd_len]; omega
    have rz : (((⟨z.toArray⟩ : Str).length : Int) + 1).toNat = z.length + 1 := by rw [wd_len]; omega
    have b62y : B62 (((⟨y.toArray⟩ : Str).length : Int) + 1) := by rw [wd_len]; exact ⟨by omega, by omega⟩
    have b62z : B62 (((⟨z.toArray⟩ : Str).length : Int) + 1) := by rw [wd_len]; exact ⟨by omega, by omega⟩
    refine ⟨fun j hj => ?_, sy, rfl, b62y, ?_, lc_mp (fun _ => rowD z.length fun _ => []) (fun i d Kk hd hk => ?_) ?_⟩
    · have e : j = 5 := by simpa using hj
      subst e; rfl
    · rw [rngD_len, ry]; exact big _ (by omega)
    · refine ⟨by show 5 < 12; decide, fun _ => ⟨fun j hj => ?_, sz, rfl, b62z, ?_, lc_mp (fun _ => .list []) (fun i d Kk hd hk => ⟨by show 6 < 12; decide, fun _ => ⟨Nat.zero_le _, trivial, hk⟩, fun e => noTF e⟩) ⟨.inr (Nat.le_refl _), ?_⟩⟩, fun e => noTF e⟩
      · have e : j = 6 := by simpa using hj
        subst e; rfl
      · rw [rngD_len, rz]; exact big _ (by omega)
      · rw [rng_const, rz]; exact hk
    · refine ⟨by show 4 < 12; decide, .inr (Nat.le_refl _), ?_⟩
      rw [rng_const, ry]
      let G : (Nat → Nat → List Int) → Sl → Sl → Sl → Sl → Sl → Sl → List Sl := fun T a b c d e f => [.bor (wd x), .bor (wd y), .bor (wd z), .bor (wd t), .own 2 (.list (tabD y.length z.length T)), a, b, c, d, e, f, .gone]
      refine ⟨sy, rfl, b62y, fun n Γ => ∃ (T : Nat → Nat → List Int) (a b c d e f : Sl), Γ = G T a b c d e f ∧ (∀ i j, i < n → j ≤ z.length → Good x y z t i j (T i j)) ∧ ∀ i j, n ≤ i → T i j = [], ⟨fun _ _ => [], .gone, .gone, .gone, .gone, .gone, .gone, rfl, fun i j hi => absurd hi (Nat.not_lt_zero _), fun _ _ _ => rfl⟩, fun n d0 Γ' hd0 hI => ?_, fun Γ' hI => ?_⟩
      · obtain ⟨T, a, b, c, d, e, f, rfl, gd, em⟩ := hI
        have hn := (List.getElem?_eq_some_iff.mp hd0).1
        rw [rngD_len, ry] at hn
        rw [rngD_get (by rw [ry]; exact hn)] at hd0
        have ed := (Option.some.inj hd0).symm
        subst ed
        have e0 : (0 : Int) + (n : Nat) * 1 = (n : Int) := by omega
        rw [e0]
        refine ⟨by show 5 < 12; decide, sz, rfl, b62z, fun m Γ => ∃ (T : Nat → Nat → List Int) (b c d e f : Sl), Γ = G T (.own 0 (.int (n : Nat))) b c d e f ∧ (∀ i j, (i < n ∨ (i = n ∧ j < m)) → j ≤ z.length → Good x y z t i j (T i j)) ∧ ∀ i j, (n < i ∨ (i = n ∧ m ≤ j)) → T i j = [], ⟨T, b, c, d, e, f, rfl, fun i j hi hj => gd i j (by omega) hj, fun i j hi => em i j (by omega)⟩, fun m d1 Γ' hd1 hI => ?_, fun Γ' hI => ?_⟩
        · obtain ⟨T, b, c, d, e, f, rfl, gd, em⟩ := hI
          have hm := (List.getElem?_eq_some_iff.mp hd1).1
          rw [rngD_len, rz] at hm
          rw [rngD_get (by rw [rz]; exact hm)] at hd1
          have ed := (Option.some.inj hd1).symm
          subst ed
          have e1 : (0 : Int) + (m : Nat) * 1 = (m : Int) := by omega
          rw [e1]
          refine ⟨by show 6 < 12; decide, ?_⟩
          refine ⟨fun Γ => Γ = G T (.own 0 (.int (n : Nat))) (.own 0 (.int (m : Nat))) (.own 1 (intsD (base0 n m))) d e f, ?_, fun Γ' hJ => ?_⟩
          · refine ⟨plI, plI, .inl dpI, fun e => ⟨trivial, by show 1 ≤ sizeLine; decide, by show 7 < 12; decide, .inr (Nat.le_refl _), ?_⟩, fun e => ⟨Nat.zero_le _, by show 7 < 12; decide, .inr (Nat.le_refl _), ?_⟩⟩
            · have e := of_decide_eq_true e
              show _ = G _ _ _ _ _ _ _
              unfold base0
              rw [if_pos (by omega)]; rfl
            · have e := of_decide_eq_false e
              show _ = G _ _ _ _ _ _ _
              unfold base0
              rw [if_neg (by omega)]; rfl
          · subst hJ
            have hny : n ≤ y.length := by omega
            have hmz : m ≤ z.length := by omega
            -- the two places before
            obtain ⟨es1, LA, hA1, hA2, hA3⟩ : ∃ es LA, atI (tabD y.length z.length T) ((n : Int) - 1) = some (.list es) ∧ atI es (m : Int) = some (intsD LA) ∧ (n ≠ 0 → LA = T (n - 1) m) := by
              cases n with
              | zero => exact ⟨_, T y.length m, atI_neg (j := y.length) (by simp [tabD]) (tab_get (Nat.le_refl _)), atI_of (row_get hmz), fun h => absurd rfl h⟩
              | succ n =>
                have e1 : ((n + 1 : Nat) : Int) - 1 = (n : Int) := by omega
                rw [e1]
                exact ⟨_, T n m, atI_of (tab_get (by omega)), atI_of (row_get hmz), fun _ => rfl⟩
            obtain ⟨LB, hB2, hB3⟩ : ∃ LB, atI ((List.range (z.length + 1)).map fun b => intsD (T n b)) ((m : Int) - 1) = some (intsD LB) ∧ (m ≠ 0 → LB = T n (m - 1)) := by
              cases m with
              | zero => exact ⟨T n z.length, atI_neg (j := z.length) (by simp) (row_get (Nat.le_refl _)), fun h => absurd rfl h⟩
              | succ m =>
                have e1 : ((m + 1 : Nat) : Int) - 1 = (m : Int) := by omega
                rw [e1]
                exact ⟨T n m, atI_of (row_get (by omega)), fun _ => rfl⟩
            have gA : n ≠ 0 → Good x y z t (n - 1) m LA := fun h0 => by
              rw [hA3 h0]; exact gd (n - 1) m (.inl (by omega)) hmz
            have gB : m ≠ 0 → Good x y z t n (m - 1) LB := fun h0 => by
              rw [hB3 h0]; exact gd n (m - 1) (.inr ⟨rfl, by omega⟩) (by omega)
            have lA : lt1 y n ≠ none → n ≠ 0 := fun h e => h (by subst e; rfl)
            have lB : lt1 z m ≠ none → m ≠ 0 := fun h e => h (by subst e; rfl)
            refine ⟨rfl, es1, hA1, intsD LA, hA2, rfl, sy, trivial, trivial, by show 2 ≤ sizeLine; decide, _, atI_of (tab_get hny), rfl, intsD LB, hB2, rfl, sz, trivial, trivial, by show 2 ≤ sizeLine; decide, trivial, trivial, by show 2 ≤ sizeLine; decide, ?_⟩
            rw [cut_lt hny, cut_lt hmz]
            let FF : Nat → List Int := fun q => base0 n m ++ (if 1 ≤ q then come x t (n + m - 1) LA (lt1 y n) else []) ++ (if 2 ≤ q then come x t (n + m - 1) LB (lt1 z m) else [])
            have b1 : (base0 n m).length ≤ 1 := by unfold base0; split <;> simp
            have bA : lt1 y n ≠ none → LA.length ≤ 9 := fun h => Nat.le_trans (gA (lA h)).len (by omega)
            have bB : lt1 z m ≠ none → LB.length ≤ 9 := fun h => Nat.le_trans (gB (lB h)).len (by omega)
            have cA : (come x t (n + m - 1) LA (lt1 y n)).length ≤ 18 := by
              cases e : lt1 y n with
              | none => simp [come]
              | some c =>
                have := bA (by rw [e]; simp)
                have := come_len (x := x) (t := t) (n := n + m - 1) (L := LA) (o := some c)
                omega
            have cB : (come x t (n + m - 1) LB (lt1 z m)).length ≤ 18 := by
              cases e : lt1 z m with
              | none => simp [come]
              | some c =>
                have := bB (by rw [e]; simp)
                have := come_len (x := x) (t := t) (n := n + m - 1) (L := LB) (o := some c)
                omega
            have lF : ∀ q, (FF q).length ≤ 40 := fun q => by
              simp only [FF, List.length_append]
              have z0 : ([] : List Int).length = 0 := rfl
              split <;> split <;> (try rw [z0]) <;> omega
            refine ⟨fun q Γ => ∃ d e, Γ = G T (.own 0 (.int (n : Nat))) (.own 0 (.int (m : Nat))) (.own 1 (intsD (FF q))) d e f, ⟨d, e, ?_⟩, fun q dd Γ' hdd hI => ?_, fun Γ' hI => ?_⟩
            · show _ = G _ _ _ _ _ _ _
              simp [FF]
            · obtain ⟨d, e, rfl⟩ := hI
              obtain ⟨LX, o, rfl, hn, hX⟩ : ∃ (LX : List Int) (o : Option Nat), dd = .tuple [intsD LX, wd (o2l o)] ∧ FF (q + 1) = FF q ++ come x t (n + m - 1) LX o ∧ (o ≠ none → LX.length ≤ 9 ∧ 1 ≤ n + m ∧ ∀ k ∈ LX, ∃ p : Nat, k = (p : Int) ∧ p + 1 ≤ n + m) := by
                match q, hdd with
                | 0, hdd =>
                  refine ⟨LA, lt1 y n, (Option.some.inj hdd).symm, by simp [FF], fun h => ⟨bA h, by have := lA h; omega, fun k hk => ?_⟩⟩
                  obtain ⟨p, e, _, hp⟩ := (gA (lA h)).nat hk
                  exact ⟨p, e, by have := lA h; omega⟩
                | 1, hdd =>
                  refine ⟨LB, lt1 z m, (Option.some.inj hdd).symm, by simp [FF], fun h => ⟨bB h, by have := lB h; omega, fun k hk => ?_⟩⟩
                  obtain ⟨p, e, _, hp⟩ := (gB (lB h)).nat hk
                  exact ⟨p, e, by have := lB h; omega⟩
                | q + 2, hdd => simp at hdd
              have lq := lF (q + 1)
              rw [hn, List.length_append] at lq
              refine ⟨by show 8 < 12; decide, by show 9 < 12; decide, plS, plS, .inl dpS, fun e1 => ?_, fun e1 => ?_⟩
              · cases o with
                | none => exact noFT (show false = true from e1)
                | some c =>
                  obtain ⟨h9, hnm, hk⟩ := hX (by simp)
                  have nat : ∀ (i : Nat) (d1 : D), (LX.map PyData.int)[i]? = some d1 → ∃ p : Nat, d1 = .int (p : Int) ∧ p + 1 ≤ n + m := fun i d1 h => by
                    rw [List.getElem?_map] at h
                    obtain ⟨k, hk1, rfl⟩ := Option.map_eq_some_iff.mp h
                    obtain ⟨p, rfl, hp⟩ := hk k (List.mem_of_getElem? hk1)
                    exact ⟨p, rfl, hp⟩
                  have cl : (come x t (n + m - 1) LX (some c)) = LX.filterMap (fx x c) ++ LX.filterMap (ft t (n + m - 1) c) := rfl
                  have l3 : (come x t (n + m - 1) LX (some c)).length = (LX.filterMap (fx x c)).length + (LX.filterMap (ft t (n + m - 1) c)).length := List.length_append
                  have eL : intsD (FF (q + 1)) = .list (((FF q).map PyData.int ++ (LX.filterMap (fx x c)).map PyData.int) ++ (LX.filterMap (ft t (n + m - 1) c)).map PyData.int) := by
                    rw [hn, cl]; unfold intsD; simp only [List.map_append, List.append_assoc]
                  refine ⟨fun j hj => ?_, ?_, lc_fm (liftF (fx x c)) (fun i d1 Kk hd1 hk => ?_) ?_⟩
                  · have e : j = 11 := by simpa using hj
                    subst e; rfl
                  · rw [List.length_map]; exact big _ (by omega)
                  · obtain ⟨p, rfl, hp⟩ := nat i d1 hd1
                    have ec : cutS ⟨x.toArray⟩ (some (p : Int)) (some ((p : Int) + 1)) = ⟨((x.drop p).take 1).toArray⟩ := by
                      have t := cut_nat x p (p + 1)
                      rw [Nat.add_sub_cancel_left] at t
                      exact t
                    have ef : liftF (fx x c) (.int (p : Int)) = if hit x p c = true then some (.int ((p : Int) + 1)) else none := by
                      show (fx x c (p : Int)).map PyData.int = _
                      unfold fx
                      rw [Int.toNat_natCast]
                      split <;> rfl
                    rw [ef] at hk
                    refine ⟨by show 11 < 12; decide, sx, plS, plS, .inl dpS, fun e2 => ?_, fun e2 => ?_⟩
                    · have e2 : eqB (.str (cutS ⟨x.toArray⟩ (some (p : Int)) (some ((p : Int) + 1)))) (wd [c]) = true := e2
                      rw [ec] at e2
                      have e2 : hit x p c = true := e2
                      rw [e2] at hk
                      exact ⟨trivial, hk⟩
                    · have e2 : eqB (.str (cutS ⟨x.toArray⟩ (some (p : Int)) (some ((p : Int) + 1)))) (wd [c]) = false := e2
                      rw [ec] at e2
                      have e2 : hit x p c = false := e2
                      rw [e2] at hk
                      exact hk
                  · rw [lift_map]
                    refine ⟨by rw [List.length_map, List.length_map]; exact big _ (by omega), fun j hj => ?_, ?_, lc_fm (liftF (ft t (n + m - 1) c)) (fun i d1 Kk hd1 hk => ?_) ?_⟩
                    · have e : j = 11 := by simpa using hj
                      subst e; rfl
                    · rw [List.length_map]; exact big _ (by omega)
                    · obtain ⟨p, rfl, hp⟩ := nat i d1 hd1
                      have i1 : (n : Int) + (m : Int) - 1 - (p : Int) = ((n + m - 1 - p : Nat) : Int) := by omega
                      have i2 : (n : Int) + (m : Int) - (p : Int) = ((n + m - p : Nat) : Int) := by omega
                      have ec : cutS ⟨t.toArray⟩ (some ((n : Int) + (m : Int) - 1 - (p : Int))) (some ((n : Int) + (m : Int) - (p : Int))) = ⟨((t.drop (n + m - 1 - p)).take 1).toArray⟩ := by
                        rw [i1, i2, cut_nat, show n + m - p - (n + m - 1 - p) = 1 by omega]
                      have ef : liftF (ft t (n + m - 1) c) (.int (p : Int)) = if hit t (n + m - 1 - p) c = true then some (.int (p : Int)) else none := by
                        show (ft t (n + m - 1) c (p : Int)).map PyData.int = _
                        unfold ft
                        rw [Int.toNat_natCast]
                        split <;> rfl
                      rw [ef] at hk
                      refine ⟨by show 11 < 12; decide, rfl, rfl, rfl, s4, plS, plS, .inl dpS, fun e2 => ?_, fun e2 => ?_⟩
                      · have e2 : eqB (.str (cutS ⟨t.toArray⟩ (some ((n : Int) + (m : Int) - 1 - (p : Int))) (some ((n : Int) + (m : Int) - (p : Int))))) (wd [c]) = true := e2
                        rw [ec] at e2
                        have e2 : hit t (n + m - 1 - p) c = true := e2
                        rw [e2] at hk
                        exact ⟨trivial, hk⟩
                      · have e2 : eqB (.str (cutS ⟨t.toArray⟩ (some ((n : Int) + (m : Int) - 1 - (p : Int))) (some ((n : Int) + (m : Int) - (p : Int))))) (wd [c]) = false := e2
                        rw [ec] at e2
                        have e2 : hit t (n + m - 1 - p) c = false := e2
                        rw [e2] at hk
                        exact hk
                    · rw [lift_map]
                      refine ⟨by rw [List.length_append, List.length_map, List.length_map, List.length_map]; exact big _ (by omega), .own 0 (intsD LX), .own 0 (wd [c]), ?_⟩
                      show _ = G _ _ _ _ _ _ _
                      rw [eL]
                      rfl
              · refine ⟨.own 0 (intsD LX), .own 0 (wd (o2l o)), ?_⟩
                cases o with
                | none =>
                  rw [hn, show come x t (n + m - 1) LX none = [] from rfl, List.append_nil]; rfl
                | some c =>
                  exfalso
                  have e1 : (!decide ((⟨[c].toArray⟩ : Str) = Str.ofString "")) = false := e1
                  rw [decide_eq_false (fun h => by have := congrArg (fun s : Str => s.cps.size) h; simp at this; exact absurd this (by decide))] at e1
                  exact noTF e1
            · obtain ⟨d, e, rfl⟩ := hI
              have e2 : FF 2 = base0 n m ++ come x t (n + m - 1) LA (lt1 y n) ++ come x t (n + m - 1) LB (lt1 z m) := by simp [FF]
              refine ⟨by decide, by show 10 < 12; decide, n, _, ixN_nat (by simp [tabD]; omega), tab_get hny, FF 2, rfl, Nat.lt_of_le_of_lt (lF 2) (by decide), fun ns up hm => ⟨trivial, m, ixN_nat (by simp; omega), ?_⟩⟩
              refine ⟨setT T n m ns, .own 0 (.int (m : Nat)), .own 1 (intsD (FF 2)), d, e, .gone, ?_, fun i j hij hj => ?_, fun i j hij => ?_⟩
              · show _ = G _ _ _ _ _ _ _
                simp only [G]
                rw [← tab_set hny hmz]
                rfl
              · unfold setT
                split
                · rename_i h
                  obtain ⟨rfl, rfl⟩ := h
                  exact good_step (F := []) hny hmz gA gB up fun k => by rw [hm, e2]
                · rename_i h
                  exact gd i j (by omega) hj
              · unfold setT
                rw [if_neg (by omega)]
                exact em i j (by omega)
        · obtain ⟨T, b, c, d, e, f, rfl, gd, em⟩ := hI
          rw [rngD_len, rz] at gd em
          exact ⟨T, _, b, c, d, e, f, rfl, fun i j hi hj => gd i j (by omega) hj, fun i j hi => em i j (by omega)⟩
      · obtain ⟨T, a, b, c, d, e, f, rfl, gd, em⟩ := hI
        rw [rngD_len, ry] at gd
        have g := gd y.length z.length (by omega) (Nat.le_refl _)
        refine ⟨sx, rfl, sy, rfl, (List.range (z.length + 1)).map (fun b => intsD (T y.length b)), ?_, sz, rfl, intsD (T y.length z.length), ?_, ?_⟩
        · rw [wd_len]; exact atI_of (tab_get (Nat.le_refl _))
        · rw [wd_len]; exact atI_of (row_get (Nat.le_refl _))
        · refine ⟨plain_ints _, plI, dpI, rfl, ?_⟩
          show R (.own 0 (.bool (((T y.length z.length).map PyData.int).any fun y => PyData.eqv y (.int ((⟨x.toArray⟩ : Str).length : Nat)))))
          rw [any_ints, wd_len]
          have e1 : decide ((x.length : Int) ∈ T y.length z.length) = fourthB x y z t := by
            rw [Bool.eq_iff_iff, decide_eq_true_eq, fourthB_iff, g.mem]
            constructor
            · rintro ⟨m, e, r⟩
              have e : m = x.length := by omega
              subst e
              exact ⟨el, r⟩
            · rintro ⟨_, r⟩
              exact ⟨x.length, rfl, r⟩
          rw [e1]; exact h
end
end K84
namespace K84
open PySem PySem.Spec PyProof.Rows L2 VL
def dup (x : D) : D := .tuple [x, x]
theorem kids_take {L : List D} {m : Nat} {x : D} (h : L[m]? = some x) : (L.take (m + 1)).flatMap kids = (L.take m).flatMap kids ++ kids x := by
  rw [List.take_add_one, h, List.flatMap_append]
  simp
theorem kids_len {L : List D} {m : Nat} : ((L.take m).flatMap kids).length ≤ (L.flatMap kids).length := by
  have e : L.flatMap kids = (L.take m).flatMap kids ++ (L.drop m).flatMap kids := by rw [← List.flatMap_append, List.take_append_drop]
  rw [e, List.length_append]; omega
theorem lev_imm {d : D} (h : imm d = true) : ∀ n, ∀ e ∈ lev d n, imm e = true
  | 0, e, he => by
    have : e = d := by simpa [lev] using he
    rw [this]; exact h
  | n + 1, e, he => by
    obtain ⟨x, hx, hk⟩ := List.mem_flatMap.mp he
    have ix := lev_imm h n x hx
    cases x with
    | tuple ds =>
      have ix' : immA ds = true := by simpa [imm] using ix
      exact immA_mem ix' e hk
    | _ => simp [kids] at hk
def pickF (ds : List D) (d : D) : D := match d with
  | .int j => match ds[j.toNat]? with
    | some y => dup y
    | none => .none
  | _ => .none
theorem pick_map (ds : List D) : (rngD 0 1 ds.length).map (pickF ds) = ds.map dup := by
  apply List.ext_getElem?
  intro i
  rw [List.getElem?_map, List.getElem?_map]
  by_cases h : i < ds.length
  · rw [rngD_get h, List.getElem?_eq_getElem h]
    show some (pickF ds (.int (0 + (i : Nat) * 1))) = some _
    unfold pickF
    have e : ((0 : Int) + (i : Nat) * 1).toNat = i := by omega
    simp only [e, List.getElem?_eq_getElem h]
  · rw [List.getElem?_eq_none (by rw [rngD_len]; omega), List.getElem?_eq_none (by omega)]; rfl
theorem eqB_refl {d : D} (h : imm d = true) (ht : isTup d = false) : eqB d d = true := by
  cases d with
  | none => simp [eqB, PyData.eqv]
  | bool b => simp [eqB]
  | int i => simp [eqB]
  | str s => simp [eqB]
  | tuple _ => simp [isTup] at ht
  | list _ => simp [imm] at h
  | dict _ => simp [imm] at h
section
variable {P : Program} {w : World} {K : PySem.W.Frag} {mg : Str → Option Value} {base : Heap}
theorem ok__law_same (Y : Mo K mg) {k : Nat} : FnOk P w K mg base CX0 (k + 1) Y.f__law_same Y.d__law_same ["found", "due"] (spV ⟨P, w, K⟩ 2 (spR r__law_same)) := by
  refine okV Y.F__law_same sc__law_same fun cdv A outer s₀ H E C hr => ⟨_, (vss_cons (vs_set 1 2 sc__law_same.nd rfl (by first | exact .inl rfl | exact .inr rfl | exact .inr (.inl rfl) | exact .inr (.inr rfl)) (vp_lst (k := 0) (va_cons (vp_tup (va_cons (vp_name 0) (va_cons (vp_name 1) va_nil))) va_nil)))
      (vss_cons (vs_for PassesOwn.never rfl (vi_range1 (by rfl) Y.m_range vp_int) (vg_name 3 sc__law_same.nd rfl (by first | exact .inl rfl | exact .inr rfl | exact .inr (.inl rfl) | exact .inr (.inr rfl)))
      (vss_cons (vs_set 1 4 sc__law_same.nd rfl (by first | exact .inl rfl | exact .inr rfl | exact .inr (.inl rfl) | exact .inr (.inr rfl)) (vp_lst (k := 0) va_nil))
      (vss_fr 2 (vss_cons (vs_for PassesOwn.never rfl (vi_seq (vp_name 2)) (vg_tup rfl (vgs_cons (vg_name 5 sc__law_same.nd rfl (by first | exact .inl rfl | exact .inr rfl | exact .inr (.inl rfl) | exact .inr (.inr rfl))) (vgs_cons (vg_name 6 sc__law_same.nd rfl (by first | exact .inl rfl | exact .inr rfl | exact .inr (.inl rfl) | exact .inr (.inr rfl))) vgs_nil)) rfl rfl (gsC_len (gsC_len gsN_len gN_ex) gN_ex))
      (vss_one (vs_if (vt_tru (vp_isi kt_tup (by rfl) Y.m_isinstance bb_isinstance (by rfl) Y.m_tuple bb_tuple (vp_name 6)) (fun _ => rfl)) (vss_cons (vs_if (VPW.pt (vw_or (vt_not (vt_tru (vp_isi kt_tup (by rfl) Y.m_isinstance bb_isinstance (by rfl) Y.m_tuple bb_tuple (vp_name 5)) (fun _ => rfl))) (vw_or1 (vt_cmp mono_ne (od_ne hr.units) (by rfl) (vp_fnB mono_len cd_len (by rfl) Y.m_len bb_len (vp_name 5)) (vp_fnB mono_len cd_len (by rfl) Y.m_len bb_len (vp_name 6)))))) (vss_one (vs_ret vp_bl)) vss_nil)
      (vss_one (vs_ext (i := 4) (ha := (vp_lc 0 [("k", 7)] rfl sc__law_same.nd (vi_range1 (by rfl) Y.m_range (vp_fnB mono_len cd_len (by rfl) Y.m_len bb_len (vp_name 6))) (by kernel_rfl) (fun _ _ _ _ _ => (vg_name 7 sc__law_same.nd rfl (by first | exact .inl rfl | exact .inr rfl | exact .inr (.inl rfl) | exact .inr (.inr rfl)))) (fun _ _ _ _ _ => vts_nil) (fun _ _ _ _ _ => (vp_tup (va_cons (vp_ix (fun _ _ => rfl) (vp_name 5) (vp_name 7)) (va_cons (vp_ix (fun _ _ => rfl) (vp_name 6) (vp_name 7)) va_nil))))))))) (vss_one (vs_if (vt_cmp mono_isN od_isN (by rfl) (vp_name 6) vp_non) (vss_one (vs_if (vt_cmp mono_notN od_notN (by rfl) (vp_name 5) vp_non) (vss_one (vs_ret vp_bl)) vss_nil)) (vss_one (vs_if (vt_cmp mono_ne (od_ne hr.units) (by rfl) (vp_isi kt_bool (by rfl) Y.m_isinstance bb_isinstance (by rfl) Y.m_bool bb_bool (vp_name 5)) (vp_isi kt_bool (by rfl) Y.m_isinstance bb_isinstance (by rfl) Y.m_bool bb_bool (vp_name 6))) (vss_one (vs_ret vp_bl)) (vss_one (vs_if (vt_cmp mono_ne (od_ne hr.units) (by rfl) (vp_isi kt_str (by rfl) Y.m_isinstance bb_isinstance (by rfl) Y.m_str bb_str (vp_name 5)) (vp_isi kt_str (by rfl) Y.m_isinstance bb_isinstance (by rfl) Y.m_str bb_str (vp_name 6))) (vss_one (vs_ret vp_bl)) (vss_one (vs_if (VPW.pt (vw_or (vt_cmp mono_ne (od_ne hr.units) (by rfl) (vp_isi kt_int (by rfl) Y.m_isinstance bb_isinstance (by rfl) Y.m_int bb_int (vp_name 5)) (vp_isi kt_int (by rfl) Y.m_isinstance bb_isinstance (by rfl) Y.m_int bb_int (vp_name 6))) (vw_or1 (vt_cmp mono_ne (od_ne hr.units) (by rfl) (vp_name 5) (vp_name 6))))) (vss_one (vs_ret vp_bl)) vss_nil)))))))))))
      (vss_one (vs_mv 2 4 sc__law_same.nd rfl (by first | exact .inl rfl | exact .inr rfl | exact .inr (.inl rfl) | exact .inr (.inr rfl))))))))
      (vss_one (vs_ret (vp_cmp mono_eq (od_eq hr.units) (by rfl) (vp_name 2) (vp_lst (k := 0) va_nil)))))), fun ss R hl h => ?_⟩
  obtain ⟨_, ⟨d, rfl, im, l30, hsz, hpl, rfl⟩, h⟩ := h
  have big : ∀ n : Nat, n ≤ 1000000 → n ≤ sizeLine := fun n h => Nat.le_trans h (by decide)
  refine ⟨im, im, by show 2 ≤ sizeLine; decide, trivial, by show 1 ≤ sizeLine; decide, by show 2 < 8; decide, .inr (Nat.le_refl _), ?_⟩
  refine ⟨⟨by decide, by decide⟩, fun n Γ => ∃ a b c e, Γ = [.bor d, .bor d, .own 1 (.list ((lev d n).map dup)), a, b, c, e, .gone], ⟨_, _, _, _, rfl⟩, fun n d0 Γ' hd0 hI => ?_, fun Γ' hI => ?_⟩
  · obtain ⟨a, b, c, e, rfl⟩ := hI
    have hn := (List.getElem?_eq_some_iff.mp hd0).1
    rw [rngD_len] at hn
    have hn : n < 30 := hn
    refine ⟨by show 3 < 8; decide, Nat.zero_le _, by show 4 < 8; decide, .inr (Nat.le_refl _), ?_⟩
    refine ⟨fun m Γ => ∃ c e, Γ = [.bor d, .bor d, .own 0 (.list ((lev d n).map dup)), .own 0 d0, .own 1 (.list ((((lev d n).take m).flatMap kids).map dup)), c, e, .gone], ⟨_, _, rfl⟩, fun m dd Γ' hdd hI => ?_, fun Γ' hI => ?_⟩
    · obtain ⟨c, e, rfl⟩ := hI
      rw [List.getElem?_map] at hdd
      obtain ⟨x, hx, rfl⟩ := Option.map_eq_some_iff.mp hdd
      have hxm := List.mem_of_getElem? hx
      have xi := lev_imm im n x hxm
      obtain ⟨xp, xd⟩ := hpl n (by omega) x hxm
      have nx : kids x = [] → ∃ c e, ([.bor d, .bor d, .own 0 (.list ((lev d n).map dup)), .own 0 d0, .own 1 (.list ((((lev d n).take m).flatMap kids).map dup)), .own 0 x, .own 0 x, .gone] : List Sl) = [.bor d, .bor d, .own 0 (.list ((lev d n).map dup)), .own 0 d0, .own 1 (.list ((((lev d n).take (m + 1)).flatMap kids).map dup)), c, e, .gone] := fun hk => by
        rw [kids_take hx, hk, List.append_nil]
        exact ⟨_, _, rfl⟩
      have bb : ∀ b : Bool, (!eqB (PyData.bool b) (PyData.bool b)) = true → False := fun b e => by
        rw [eqB_refl rfl rfl] at e; exact noFT e
      refine ⟨by show 5 < 8; decide, by show 6 < 8; decide, fun e1 => ?_, fun e1 => ?_⟩
      · cases x with
        | tuple ds =>
          have hlen : ds.length ≤ 100000 := by
            have t := hsz (n + 1) (by omega)
            have t2 := kids_len (L := lev d n) (m := m + 1)
            rw [kids_take hx] at t2
            have : (lev d (n + 1)).length = ((lev d n).flatMap kids).length := rfl
            have : (kids (.tuple ds)).length = ds.length := rfl
            rw [List.length_append] at t2
            omega
          have room : ∀ m', (((lev d n).take m').flatMap kids).length ≤ 100000 := fun m' => Nat.le_trans (kids_len (L := lev d n) (m := m')) (hsz (n + 1) (by omega))
          refine ⟨fun e => noFT e, fun _ => ⟨rfl, rfl, plI, plI, .inl dpI, fun e => ?_, fun _ => ?_⟩⟩
          · rw [eqB_refl rfl rfl] at e; exact noFT e
          · refine ⟨fun j hj => ?_, rfl, ⟨by show -(2 ^ 62) ≤ ((ds.length : Nat) : Int); omega, by show ((ds.length : Nat) : Int) < 2 ^ 62; omega⟩, ?_, lc_mp (pickF ds) (fun i d1 Kk hd1 hk => ?_) ?_⟩
            · have e : j = 7 := by simpa using hj
              subst e; rfl
            · rw [rngD_len]; exact big _ (by omega)
            · have hi := (List.getElem?_eq_some_iff.mp hd1).1
              rw [rngD_len] at hi
              have hi : i < ds.length := by omega
              rw [rngD_get (by omega)] at hd1
              have ed := (Option.some.inj hd1).symm
              subst ed
              have t := atI_of (List.getElem?_eq_getElem hi)
              have e0 : (0 : Int) + (i : Nat) * 1 = (i : Int) := by omega
              rw [e0] at hk ⊢
              have ek : pickF ds (.int (i : Nat)) = dup ds[i] := by
                unfold pickF
                simp only [Int.toNat_natCast, List.getElem?_eq_getElem hi]
              rw [ek] at hk
              exact ⟨by show 7 < 8; decide, fun _ => ⟨_, t, _, t, trivial, trivial, by show 2 ≤ sizeLine; decide, trivial, hk⟩, fun e => noTF e⟩
            · show _ ∧ _
              rw [show (((ds.length : Nat) : Int)).toNat = ds.length from Int.toNat_natCast _, pick_map]
              refine ⟨?_, ?_⟩
              · rw [List.length_map, List.length_map]
                have := room m
                exact big _ (by omega)
              · refine ⟨.own 0 (.tuple ds), .own 0 (.tuple ds), ?_⟩
                rw [kids_take hx, List.map_append]
                rfl
        | _ => exact noFT e1
      · cases x with
        | tuple _ => exact noTF e1
        | list _ => simp [imm] at xi
        | dict _ => simp [imm] at xi
        | none => exact ⟨fun _ => ⟨fun e => noFT e, fun _ => nx rfl⟩, fun e => noTF e⟩
        | bool b =>
          refine ⟨fun e => noFT e, fun _ => ⟨plB, plB, .inl dpB, fun e => (bb _ e).elim, fun _ => ⟨plB, plB, .inl dpB, fun e => (bb _ e).elim, fun _ => ⟨plB, plB, .inl dpB, fun e => (bb _ e).elim, fun _ => ⟨plB, plB, .inl dpB, fun e => (bb _ e).elim, fun _ => nx rfl⟩⟩⟩⟩⟩
        | int i =>
          refine ⟨fun e => noFT e, fun _ => ⟨plB, plB, .inl dpB, fun e => (bb _ e).elim, fun _ => ⟨plB, plB, .inl dpB, fun e => (bb _ e).elim, fun _ => ⟨plB, plB, .inl dpB, fun e => (bb _ e).elim, fun _ => ⟨plI, plI, .inl dpI, fun e => ?_, fun _ => nx rfl⟩⟩⟩⟩⟩
          rw [eqB_refl rfl rfl] at e; exact noFT e
        | str s =>
          refine ⟨fun e => noFT e, fun _ => ⟨plB, plB, .inl dpB, fun e => (bb _ e).elim, fun _ => ⟨plB, plB, .inl dpB, fun e => (bb _ e).elim, fun _ => ⟨plB, plB, .inl dpB, fun e => (bb _ e).elim, fun _ => ⟨plS, plS, .inl dpS, fun e => ?_, fun _ => nx rfl⟩⟩⟩⟩⟩
          rw [eqB_refl rfl rfl] at e; exact noFT e
    · obtain ⟨c, e, rfl⟩ := hI
      rw [List.length_map, List.take_length]
      exact ⟨by decide, by show 2 < 8; decide, _, _, _, _, rfl⟩
  · obtain ⟨a, b, c, e, rfl⟩ := hI
    rw [rngD_len, show Int.toNat 30 = 30 from rfl, l30]
    have pl0 : (PyData.list []).plain = true := by simp [PyData.plain, PyData.plainAll]
    have dp0 : (PyData.list []).depth ≤ 40 := by simp [PyData.depth, PyData.depthAll]
    refine ⟨Nat.zero_le _, pl0, pl0, .inl dp0, rfl, ?_⟩
    have e0 : eqB (.list []) (.list []) = true := by simp [eqB, PyData.eqv, PyData.eqvAll]
    show R (.own 0 (.bool (eqB (.list []) (.list []))))
    rw [e0]; exact h
end
end K84
namespace K84
open PySem PySem.Spec PyProof.Rows L2 VL
section
variable {P : Program} {w : World} {K : PySem.W.Frag} {mg : Str → Option Value} {base : Heap}
theorem ok_check_words (Y : Mo K mg) {k : Nat} (G_is_word : FnOk P w K mg base CX0 k Y.f_is_word Y.d_is_word ["thing"] (spV ⟨P, w, K⟩ 1 (spR r_is_word))) : FnOk P w K mg base CX0 (k + 1) Y.f_check_words Y.d_check_words ["words"] (spV ⟨P, w, K⟩ 1 (spR r_check_words)) := by
  refine okV Y.F_check_words sc_check_words fun cdv A outer s₀ H E C hr => ⟨_, (vss_one (vs_for PassesOwn.never rfl (vi_seq (vp_name 0)) (vg_name 1 sc_check_words.nd rfl (by first | exact .inl rfl | exact .inr rfl | exact .inr (.inl rfl) | exact .inr (.inr rfl)))
      (vss_one (vs_if (vt_not (vt_tru (vp_call (ks := [.br]) G_is_word mono_spR rfl hr (by rfl) Y.g_is_word Y.F_is_word.kp Y.b_is_word (va_cons (vp_name 1) va_nil)) (fun _ => rfl))) (vss_one vs_never) vss_nil)))), fun ss R hl h => ?_⟩
  obtain ⟨_, ⟨ds, rfl, hi, hw, rfl⟩, h⟩ := h
  refine ⟨hi, fun i Γ => ∃ s, Γ = [.bor (.list ds), s], ⟨_, rfl⟩, fun i d Γ' hd ⟨s, e⟩ => ?_, fun Γ' ⟨s, e⟩ => h⟩
  subst e
  obtain ⟨w1, w2⟩ := hw d (List.mem_of_getElem? hd)
  refine ⟨by show 1 < 2; decide, _, ⟨d, rfl, w1, rfl⟩, fun e => ?_, fun _ => ⟨_, rfl⟩⟩
  have e : (!isWordB d) = true := e
  rw [w2] at e; exact noFT e
end
end K84
namespace K84
open PySem PySem.Spec PyProof.Rows L2 VL
section
variable {P : Program} {w : World} {K : PySem.W.Frag} {mg : Str → Option Value} {base : Heap}
theorem ok_raw_moves (Y : Mo K mg) {k : Nat} (G_letter_at : FnOk P w K mg base CX0 k Y.f_letter_at Y.d_letter_at ["word", "at"] (spV ⟨P, w, K⟩ 2 (spR r_letter_at))) : FnOk P w K mg base CX0 (k + 1) Y.f_raw_moves Y.d_raw_moves ["x", "y", "z", "t", "stand"] (spV ⟨P, w, K⟩ 5 (spR r_raw_moves)) := by
  refine okV Y.F_raw_moves sc_raw_moves fun cdv A outer s₀ H E C hr => ⟨_, (vss_cons (vs_unp (vp_name 4) (vg_tup rfl (vgs_cons (vg_name 5 sc_raw_moves.nd rfl (by first | exact .inl rfl | exact .inr rfl | exact .inr (.inl rfl) | exact .inr (.inr rfl))) (vgs_cons (vg_name 6 sc_raw_moves.nd rfl (by first | exact .inl rfl | exact .inr rfl | exact .inr (.inl rfl) | exact .inr (.inr rfl))) (vgs_cons (vg_name 7 sc_raw_moves.nd rfl (by first | exact .inl rfl | exact .inr rfl | exact .inr (.inl rfl) | exact .inr (.inr rfl))) vgs_nil))) rfl rfl (gsC_len (gsC_len (gsC_len gsN_len gN_ex) gN_ex) gN_ex)))
      (vss_cons (vs_par 0 8 0 9 rfl sc_raw_moves.nd rfl rfl (by decide) rfl rfl (vp_call (ks := [.br, .br]) G_letter_at mono_spR rfl hr (by rfl) Y.g_letter_at Y.F_letter_at.kp Y.b_letter_at (va_cons (vp_name 0) (va_cons (vp_name 7) va_nil))) (vp_call (ks := [.br, .br]) G_letter_at mono_spR rfl hr (by rfl) Y.g_letter_at Y.F_letter_at.kp Y.b_letter_at (va_cons (vp_name 3) (va_cons (vp_bin mono_sub od_sub (vp_add (vp_name 5) (vp_name 6)) (vp_name 7)) va_nil))) rfl)
      (vss_cons (vs_set 1 10 sc_raw_moves.nd rfl (by first | exact .inl rfl | exact .inr rfl | exact .inr (.inl rfl) | exact .inr (.inr rfl)) (vp_lst (k := 0) va_nil))
      (vss_consJ (vs_if (vt_cmp mono_lt od_lt (by rfl) (vp_name 5) (vp_fnB mono_len cd_len (by rfl) Y.m_len bb_len (vp_name 1))) (vss_consJ (vs_if (vt_cmp mono_eq (od_eq hr.units) (by rfl) (vp_name 9) (vp_ix (fun _ _ => rfl) (vp_name 1) (vp_name 5))) (vss_one (vs_app (i := 10) (ha := (vp_tup (va_cons vp_str (va_cons (vp_tup (va_cons (vp_add (vp_name 5) vp_int) (va_cons (vp_name 6) (va_cons (vp_name 7) va_nil)))) va_nil)))))) vss_nil)
      (vss_one (vs_if (vt_cmp mono_eq (od_eq hr.units) (by rfl) (vp_name 8) (vp_ix (fun _ _ => rfl) (vp_name 1) (vp_name 5))) (vss_one (vs_app (i := 10) (ha := (vp_tup (va_cons vp_str (va_cons (vp_tup (va_cons (vp_add (vp_name 5) vp_int) (va_cons (vp_name 6) (va_cons (vp_add (vp_name 7) vp_int) va_nil)))) va_nil)))))) vss_nil))) vss_nil)
      (vss_consJ (vs_if (vt_cmp mono_lt od_lt (by rfl) (vp_name 6) (vp_fnB mono_len cd_len (by rfl) Y.m_len bb_len (vp_name 2))) (vss_consJ (vs_if (vt_cmp mono_eq (od_eq hr.units) (by rfl) (vp_name 9) (vp_ix (fun _ _ => rfl) (vp_name 2) (vp_name 6))) (vss_one (vs_app (i := 10) (ha := (vp_tup (va_cons vp_str (va_cons (vp_tup (va_cons (vp_name 5) (va_cons (vp_add (vp_name 6) vp_int) (va_cons (vp_name 7) va_nil)))) va_nil)))))) vss_nil)
      (vss_one (vs_if (vt_cmp mono_eq (od_eq hr.units) (by rfl) (vp_name 8) (vp_ix (fun _ _ => rfl) (vp_name 2) (vp_name 6))) (vss_one (vs_app (i := 10) (ha := (vp_tup (va_cons vp_str (va_cons (vp_tup (va_cons (vp_name 5) (va_cons (vp_add (vp_name 6) vp_int) (va_cons (vp_add (vp_name 7) vp_int) va_nil)))) va_nil)))))) vss_nil))) vss_nil)
      (vss_one (vs_ret (vp_srt hr.units (by rfl) Y.m_sorted bb_sorted (vp_name 10))))))))), fun ss R hl h => ?_⟩
  obtain ⟨_, ⟨x, y, z, t, i, j, kk, rfl, ⟨hx, hy, hz, ht⟩, hk, rfl⟩, h⟩ := h
  have e : (i : Int) + (j : Int) - (kk : Int) = ((i + j - kk : Nat) : Int) := by omega
  refine ⟨rfl, by show 5 < 11; decide, by show 6 < 11; decide, by show 7 < 11; decide, ?_⟩
  refine ⟨_, ⟨x, kk, rfl, hx, rfl⟩, ?_⟩
  refine ⟨rfl, _, ⟨t, i + j - kk, by rw [← e], ht, rfl⟩, ?_⟩
  refine ⟨by show 8 < 11; decide, by show 9 < 11; decide, trivial, trivial, ?_⟩
  refine ⟨Nat.zero_le _, by show 10 < 11; decide, .inr (Nat.le_refl _), ?_⟩
  let G : List D → List Sl := fun acc => [.bor (wd x), .bor (wd y), .bor (wd z), .bor (wd t), .bor (st i j kk), .own 0 (.int i), .own 0 (.int j), .own 0 (.int kk), .own 0 (wd ((x.drop kk).take 1)), .own 0 (wd ((t.drop (i + j - kk)).take 1)), .own 1 (.list acc)]
  have sl : ∀ n : Nat, n ≤ 10 → n ≤ sizeLine := fun n h => Nat.le_trans h (by decide)
  have lt : ∀ n : Nat, n ≤ 10 → n < sizeLine := fun n h => Nat.lt_of_le_of_lt h (by decide)
  have lf : ∀ (b : Bool) (d : D), (ifL b d).length ≤ 1 := fun b d => by cases b <;> simp [ifL]
  -- moves by y
  refine ⟨fun Γ => Γ = G (movesY x y t i j kk), ?_, fun Γ' eΓ => ?_⟩
  · refine ⟨wd_sz hy, rfl, fun e1 => ?_, fun e1 => ?_⟩
    · have e1 : i < y.length := by
        have t := of_decide_eq_true e1
        rw [wd_len] at t; omega
      obtain ⟨c, hc⟩ : ∃ c, y[i]? = some c := ⟨y[i], List.getElem?_eq_getElem e1⟩
      refine ⟨fun Γ => Γ = G (ifL (hit t (i + j - kk) c) (mv "ty" (i + 1) j kk)), ?_, fun Γ' eΓ => ?_⟩
      · refine ⟨wd_sz hy, c, atI_of (by simpa using hc), plS, plS, .inl dpS, fun e2 => ?_, fun e2 => ?_⟩
        · have e2 : hit t (i + j - kk) c = true := e2
          refine ⟨trivial, trivial, trivial, sl _ (by show 3 ≤ 10; decide), trivial, trivial, sl _ (by show 2 ≤ 10; decide), trivial, lt _ (Nat.zero_le _), ?_⟩
          show _ = G _
          rw [e2]; rfl
        · have e2 : hit t (i + j - kk) c = false := e2
          show _ = G _
          rw [e2]; rfl
      · subst eΓ
        refine ⟨wd_sz hy, c, atI_of (by simpa using hc), plS, plS, .inl dpS, fun e2 => ?_, fun e2 => ?_⟩
        · have e2 : hit x kk c = true := e2
          refine ⟨trivial, trivial, trivial, sl _ (by show 3 ≤ 10; decide), trivial, trivial, sl _ (by show 2 ≤ 10; decide), trivial, lt _ (by have := lf (hit t (i + j - kk) c) (mv "ty" (i + 1) j kk); omega), ?_⟩
          show _ = G _
          unfold movesY
          rw [hc]
          simp only [e2]; rfl
        · have e2 : hit x kk c = false := e2
          show _ = G _
          unfold movesY
          rw [hc]
          simp only [e2, ifL, cond_false, List.append_nil]
    · have e1 : ¬ i < y.length := by
        have t := of_decide_eq_false e1
        rw [wd_len] at t; omega
      show _ = G _
      unfold movesY
      rw [List.getElem?_eq_none (by omega)]; rfl
  · subst eΓ
    have ly : (movesY x y t i j kk).length ≤ 2 := by
      unfold movesY
      split
      · rw [List.length_append]
        have a := lf (hit t (i + j - kk) ‹_›) (mv "ty" (i + 1) j kk)
        have b := lf (hit x kk ‹_›) (mv "xy" (i + 1) j (kk + 1))
        omega
      · simp
    refine ⟨fun Γ => Γ = G (moves x y z t i j kk), ?_, fun Γ' eΓ => ?_⟩
    · refine ⟨wd_sz hz, rfl, fun e1 => ?_, fun e1 => ?_⟩
      · have e1 : j < z.length := by
          have t := of_decide_eq_true e1
          rw [wd_len] at t; omega
        obtain ⟨c, hc⟩ : ∃ c, z[j]? = some c := ⟨z[j], List.getElem?_eq_getElem e1⟩
        refine ⟨fun Γ => Γ = G (movesY x y t i j kk ++ ifL (hit t (i + j - kk) c) (mv "tz" i (j + 1) kk)), ?_, fun Γ' eΓ => ?_⟩
        · refine ⟨wd_sz hz, c, atI_of (by simpa using hc), plS, plS, .inl dpS, fun e2 => ?_, fun e2 => ?_⟩
          · have e2 : hit t (i + j - kk) c = true := e2
            refine ⟨trivial, trivial, trivial, sl _ (by show 3 ≤ 10; decide), trivial, trivial, sl _ (by show 2 ≤ 10; decide), trivial, lt _ (by omega), ?_⟩
            show _ = G _
            rw [e2]; rfl
          · have e2 : hit t (i + j - kk) c = false := e2
            show _ = G _
            simp only [e2, ifL, cond_false, List.append_nil]
        · subst eΓ
          refine ⟨wd_sz hz, c, atI_of (by simpa using hc), plS, plS, .inl dpS, fun e2 => ?_, fun e2 => ?_⟩
          · have e2 : hit x kk c = true := e2
            refine ⟨trivial, trivial, trivial, sl _ (by show 3 ≤ 10; decide), trivial, trivial, sl _ (by show 2 ≤ 10; decide), trivial, lt _ (by rw [List.length_append]; have := lf (hit t (i + j - kk) c) (mv "tz" i (j + 1) kk); omega), ?_⟩
            show _ = G _
            unfold moves movesZ
            rw [hc]
            simp only [e2, ← List.append_assoc]; rfl
          · have e2 : hit x kk c = false := e2
            show _ = G _
            unfold moves movesZ
            rw [hc]
            simp only [e2, ifL, cond_false, List.append_nil]
      · have e1 : ¬ j < z.length := by
          have t := of_decide_eq_false e1
          rw [wd_len] at t; omega
        show _ = G _
        unfold moves movesZ
        rw [List.getElem?_eq_none (by omega), List.append_nil]
    · subst eΓ
      refine ⟨mvs_imm mvs_is, fun d hd d' hd' => mv_alike (mvs_is d hd) (mvs_is d' hd'), .inl fun d hd => ?_, mv_plain mvs_is, sl _ (by have := moves_len (x := x) (y := y) (z := z) (t := t) (i := i) (j := j) (k := kk); omega), fun d hd => mv_depth (mvs_is d hd), h⟩
      obtain ⟨n, i, j, k, rfl⟩ := mvs_is d hd
      exact ⟨_, _, rfl⟩
end
end K84
namespace K84
open PySem PySem.Spec PyProof.Rows L2 VL
section
variable {P : Program} {w : World} {K : PySem.W.Frag} {mg : Str → Option Value} {base : Heap}
theorem ok_is_pair (Y : Mo K mg) {k : Nat} (G_is_tuple : FnOk P w K mg base CX0 k Y.f_is_tuple Y.d_is_tuple ["thing", "least", "most"] (spV ⟨P, w, K⟩ 3 (spR r_is_tuple))) (G_is_word : FnOk P w K mg base CX0 k Y.f_is_word Y.d_is_word ["thing"] (spV ⟨P, w, K⟩ 1 (spR r_is_word))) : FnOk P w K mg base CX0 (k + 1) Y.f_is_pair Y.d_is_pair ["thing"] (spV ⟨P, w, K⟩ 1 (spR r_is_pair)) := by
  refine okV Y.F_is_pair sc_is_pair fun cdv A outer s₀ H E C hr => ⟨_, (vss_one (vs_ret (vp_and (vp_call (ks := [.br, .br, .br]) G_is_tuple mono_spR rfl hr (by rfl) Y.g_is_tuple Y.F_is_tuple.kp Y.b_is_tuple (va_cons (vp_name 0) (va_cons vp_int (va_cons vp_int va_nil)))) (vp_one (vp_fnB mono_all (cd_all rfl) (by rfl) Y.m_all bb_all (vp_lc 0 [("word", 1)] rfl sc_is_pair.nd (vi_seq (vp_name 0)) (by kernel_rfl) (fun _ _ _ _ _ => (vg_name 1 sc_is_pair.nd rfl (by first | exact .inl rfl | exact .inr rfl | exact .inr (.inl rfl) | exact .inr (.inr rfl)))) (fun _ _ _ _ _ => vts_nil) (fun _ _ _ _ _ => (vp_call (ks := [.br]) G_is_word mono_spR rfl hr (by rfl) Y.g_is_word Y.F_is_word.kp Y.b_is_word (va_cons (vp_name 1) va_nil))))))))), fun ss R hl h => ?_⟩
  obtain ⟨_, ⟨d, rfl, hs, rfl⟩, h⟩ := h
  unfold isPairB at h
  refine ⟨_, ⟨d, 2, 2, rfl, rfl⟩, fun e => ?_, fun e => ?_⟩
  · rw [e] at h
    cases d with
    | tuple ds =>
      simp only [smP, Bool.and_eq_true, decide_eq_true_eq] at hs
      obtain ⟨⟨h1, h2⟩, h3⟩ := hs
      refine ⟨fun j hj => ?_, h1, Nat.le_trans h2 (by decide), lc_mp (fun x => .bool (isWordB x)) (fun i d Kk hd hk => ?_) ?_⟩
      · have e : j = 1 := by simpa using hj
        subst e; rfl
      · exact ⟨by show 1 < 2; decide, fun _ => ⟨_, ⟨d, rfl, List.all_eq_true.mp h3 d (List.mem_of_getElem? hd), rfl⟩, trivial, hk⟩, fun e => noTF e⟩
      · refine all_map_bool ⟨rfl, ?_⟩
        exact h
    | _ => exact noFT e
  · rw [e] at h
    exact h
end
end K84
namespace K84
open PySem PySem.Spec PyProof.Rows L2 VL
section
variable {P : Program} {w : World} {K : PySem.W.Frag} {mg : Str → Option Value} {base : Heap}
theorem ok__law_pairs (Y : Mo K mg) {k : Nat} (G__law_letters : FnOk P w K mg base CX0 k Y.f__law_letters Y.d__law_letters ["number"] (spV ⟨P, w, K⟩ 1 (spA p__law_letters r__law_letters))) (G__law_numbers : FnOk P w K mg base CX0 k Y.f__law_numbers Y.d__law_numbers ["script", "thing"] (spV ⟨P, w, K⟩ 2 (spA p__law_numbers r__law_numbers))) (G__law_word : FnOk P w K mg base CX0 k Y.f__law_word Y.d__law_word ["xs", "start", "size", "letters"] (spV ⟨P, w, K⟩ 4 (spA p__law_word r__law_word))) : FnOk P w K mg base CX0 (k + 1) Y.f__law_pairs Y.d__law_pairs ["script", "base"] (spV ⟨P, w, K⟩ 2 (spA p__law_pairs r__law_pairs)) := by
  refine okV Y.F__law_pairs sc__law_pairs fun cdv A outer s₀ H E C hr => ⟨_, (vss_cons (vs_set 1 2 sc__law_pairs.nd rfl (by first | exact .inl rfl | exact .inr rfl | exact .inr (.inl rfl) | exact .inr (.inr rfl)) (vp_call (ks := [.br, .br]) G__law_numbers mono_spA rfl hr (by rfl) Y.g__law_numbers Y.F__law_numbers.kp Y.b__law_numbers (va_cons (vp_name 0) (va_cons (vp_name 1) va_nil))))
      (vss_cons (vs_set 1 3 sc__law_pairs.nd rfl (by first | exact .inl rfl | exact .inr rfl | exact .inr (.inl rfl) | exact .inr (.inr rfl)) (vp_call (ks := [.br, .br]) G__law_numbers mono_spA rfl hr (by rfl) Y.g__law_numbers Y.F__law_numbers.kp Y.b__law_numbers (va_cons (vp_name 0) (va_cons (vp_add (vp_name 1) vp_int) va_nil))))
      (vss_cons (vs_set 0 4 sc__law_pairs.nd rfl (by first | exact .inl rfl | exact .inr rfl | exact .inr (.inl rfl) | exact .inr (.inr rfl)) (vp_call (ks := [.br]) G__law_letters mono_spA rfl hr (by rfl) Y.g__law_letters Y.F__law_letters.kp Y.b__law_letters (va_cons (vp_ix (fun _ _ => rfl) (vp_name 3) vp_int) va_nil)))
      (vss_cons (vs_set 0 5 sc__law_pairs.nd rfl (by first | exact .inl rfl | exact .inr rfl | exact .inr (.inl rfl) | exact .inr (.inr rfl)) (vp_call (ks := [.br, .br, .br, .br]) G__law_word mono_spA rfl hr (by rfl) Y.g__law_word Y.F__law_word.kp Y.b__law_word (va_cons (vp_name 3) (va_cons vp_int (va_cons (vp_add vp_int (vp_bin mono_mod od_mod (vp_ix (fun _ _ => rfl) (vp_name 3) vp_int) vp_int)) (va_cons (vp_name 4) va_nil))))))
      (vss_cons (vs_set 1 6 sc__law_pairs.nd rfl (by first | exact .inl rfl | exact .inr rfl | exact .inr (.inl rfl) | exact .inr (.inr rfl)) (vp_lst (k := 0) va_nil))
      (vss_cons (vs_for PassesOwn.never rfl (vi_range1 (by rfl) Y.m_range (vp_add vp_int (vp_bin mono_mod od_mod (vp_ix (fun _ _ => rfl) (vp_name 3) vp_int) vp_int))) (vg_name 7 sc__law_pairs.nd rfl (by first | exact .inl rfl | exact .inr rfl | exact .inr (.inl rfl) | exact .inr (.inr rfl)))
      (vss_cons (vs_set 0 8 sc__law_pairs.nd rfl (by first | exact .inl rfl | exact .inr rfl | exact .inr (.inl rfl) | exact .inr (.inr rfl)) (vp_call (ks := [.br, .br, .br, .br]) G__law_word mono_spA rfl hr (by rfl) Y.g__law_word Y.F__law_word.kp Y.b__law_word (va_cons (vp_name 2) (va_cons (vp_bin mono_mul od_mul vp_int (vp_name 7)) (va_cons (vp_bin mono_mod od_mod (vp_ix (fun _ _ => rfl) (vp_name 3) (vp_add vp_int (vp_name 7))) vp_int) (va_cons (vp_name 4) va_nil))))))
      (vss_cons (vs_set 0 9 sc__law_pairs.nd rfl (by first | exact .inl rfl | exact .inr rfl | exact .inr (.inl rfl) | exact .inr (.inr rfl)) (vp_call (ks := [.br, .br, .br, .br]) G__law_word mono_spA rfl hr (by rfl) Y.g__law_word Y.F__law_word.kp Y.b__law_word (va_cons (vp_name 2) (va_cons (vp_add vp_int (vp_bin mono_mul od_mul vp_int (vp_name 7))) (va_cons (vp_bin mono_mod od_mod (vp_ix (fun _ _ => rfl) (vp_name 3) (vp_add vp_int (vp_name 7))) vp_int) (va_cons (vp_name 4) va_nil))))))
      (vss_one (vs_app (i := 6) (ha := (vp_tup (va_cons (vp_name 8) (va_cons (vp_ix (fun _ _ => rfl) (vp_lst (k := 0) (va_cons (vp_add (vp_name 8) (vp_name 5)) (va_cons (vp_add (vp_name 5) (vp_name 8)) (va_cons (vp_add (vp_name 8) (vp_name 5)) (va_cons (vp_name 9) (va_cons (vp_name 8) va_nil)))))) (vp_bin mono_mod od_mod (vp_ix (fun _ _ => rfl) (vp_name 3) (vp_add vp_int (vp_name 7))) vp_int)) va_nil)))))))))
      (vss_consJ (vs_if (vt_cmp mono_eq (od_eq hr.units) (by rfl) (vp_bin mono_mod od_mod (vp_ix (fun _ _ => rfl) (vp_name 3) vp_int) vp_int) vp_int) (vss_one (vs_app (i := 6) (ha := (vp_ix (fun _ _ => rfl) (vp_name 6) vp_int)))) vss_nil)
      (vss_one (vs_retV 6))))))))), fun ss R hl h => ?_⟩
  obtain ⟨⟨ks, th, rfl⟩, h⟩ := h
  refine ⟨⟨ks, th, rfl⟩, fun r1 ⟨xs, e1, x40, hxs⟩ => ?_⟩
  subst e1
  refine ⟨by show 2 < 10; decide, .inr (Nat.le_refl _), ⟨ks, th + 1, rfl⟩, fun r2 ⟨ys, e2, y40, hys⟩ => ?_⟩
  subst e2
  have at_ : ∀ i : Nat, i < 40 → ∃ n, atI (ys.map PyData.int) (i : Int) = some (.int n) ∧ num n := fun i hi => by
    obtain ⟨n, hn⟩ : ∃ n, ys[i]? = some n := ⟨_, List.getElem?_eq_getElem (by omega)⟩
    exact ⟨n, atI_of (int_at hn), hys n (List.mem_of_getElem? hn)⟩
  obtain ⟨n0, a0, b0⟩ := at_ 0 (by decide)
  obtain ⟨n3, a3, b3⟩ := at_ 3 (by decide)
  obtain ⟨n4, a4, b4⟩ := at_ 4 (by decide)
  obtain ⟨n20, a20, b20⟩ := at_ 20 (by decide)
  refine ⟨by show 3 < 10; decide, .inr (Nat.le_refl _), .int n0, a0, ⟨n0, rfl, b0⟩, fun r3 ⟨l, e3, l1, l2, l3⟩ => ?_⟩
  subst e3
  have q2 : (0 : Int) < 2 := by decide
  have q4 : (0 : Int) < 4 := by decide
  have q5 : (0 : Int) < 5 := by decide
  have q3 : (0 : Int) < 3 := by decide
  have nat : ∀ z : Int, 0 ≤ z → ∃ m : Nat, z = (m : Int) := fun z hz => ⟨z.toNat, (Int.toNat_of_nonneg hz).symm⟩
  have m3 := mbd n3 2 (by decide)
  obtain ⟨c3, hc3⟩ := nat (1 + n3 % 2) (by omega)
  refine ⟨by show 4 < 10; decide, trivial, .int n3, a3, q2, rfl, ⟨ys, 1, c3, l, by rw [← hc3]; rfl, y40, hys, by decide, by omega, l1, l2, l3⟩, fun r4 ⟨en, e4, en1, en2⟩ => ?_⟩
  subst e4
  refine ⟨by show 5 < 10; decide, trivial, Nat.zero_le _, by show 6 < 10; decide, .inr (Nat.le_refl _), ?_⟩
  have m4 := mbd n4 5 (by decide)
  let G : List D → Sl → Sl → Sl → List Sl := fun acc a b c => [.bor (.list (ks.map PyData.int)), .bor (.int (th : Nat)), .own 1 (.list (xs.map PyData.int)), .own 1 (.list (ys.map PyData.int)), .own 0 (wd l), .own 0 (wd en), .own 1 (.list acc), a, b, c]
  have big : ∀ n : Nat, n ≤ 1000 → n ≤ sizeLine := fun n h => Nat.le_trans h (by decide)
  refine ⟨.int n4, a4, q5, rfl, ⟨by show -(2 ^ 62) ≤ 1 + n4 % 5; omega, by show 1 + n4 % 5 < 2 ^ 62; omega⟩, fun i Γ => ∃ (ps : List WP) (a b c : Sl), Γ = G (ps.map pr) a b c ∧ ps.length = i ∧ ∀ p ∈ ps, okV5 p, ⟨[], .gone, .gone, .gone, rfl, rfl, by simp⟩, fun i d0 Γ' hd0 hI => ?_, fun Γ' hI => ?_⟩
  · obtain ⟨ps, a, b, c, rfl, hps, hok⟩ := hI
    have hi := (List.getElem?_eq_some_iff.mp hd0).1
    rw [rngD_len] at hi
    rw [rngD_get hi] at hd0
    have ed := (Option.some.inj hd0).symm
    subst ed
    have hi5 : i < 5 := by omega
    obtain ⟨n5, a5, b5⟩ := at_ (5 + i) (by omega)
    obtain ⟨n10, a10, b10⟩ := at_ (10 + i) (by omega)
    obtain ⟨n15, a15, b15⟩ := at_ (15 + i) (by omega)
    have i5 : (5 : Int) + (0 + (i : Nat) * 1) = ((5 + i : Nat) : Int) := by omega
    have i10 : (10 : Int) + (0 + (i : Nat) * 1) = ((10 + i : Nat) : Int) := by omega
    have i15 : (15 : Int) + (0 + (i : Nat) * 1) = ((15 + i : Nat) : Int) := by omega
    have k4 : (4 : Int) * (0 + (i : Nat) * 1) = ((4 * i : Nat) : Int) := by omega
    have k20 : (20 : Int) + 4 * (0 + (i : Nat) * 1) = ((20 + 4 * i : Nat) : Int) := by omega
    have m5 := mbd n5 4 (by decide)
    have m10 := mbd n10 4 (by decide)
    have m15 := mbd n15 5 (by decide)
    obtain ⟨c5, hc5⟩ := nat (n5 % 4) m5.1
    obtain ⟨c10, hc10⟩ := nat (n10 % 4) m10.1
    refine ⟨by show 7 < 10; decide, .inl ⟨by decide, by decide⟩, rfl, .int n5, by show atI (ys.map PyData.int) ((5 : Int) + (0 + (i : Nat) * 1)) = _; rw [i5]; exact a5, q4, rfl, ⟨xs, 4 * i, c5, l, by show [Sl.bor _, Sl.bor (PyData.int (4 * (0 + (i : Nat) * 1))), Sl.bor (PyData.int (n5 % 4)), Sl.bor _] = _; rw [k4, hc5], x40, hxs, by omega, by omega, l1, l2, l3⟩, fun r5 ⟨w, e5, w1, w2⟩ => ?_⟩
    subst e5
    refine ⟨by show 8 < 10; decide, trivial, .inl ⟨by decide, by decide⟩, rfl, .int n10, by show atI (ys.map PyData.int) ((10 : Int) + (0 + (i : Nat) * 1)) = _; rw [i10]; exact a10, q4, rfl, ⟨xs, 20 + 4 * i, c10, l, by show [Sl.bor _, Sl.bor (PyData.int (20 + 4 * (0 + (i : Nat) * 1))), Sl.bor (PyData.int (n10 % 4)), Sl.bor _] = _; rw [k20, hc10], x40, hxs, by omega, by omega, l1, l2, l3⟩, fun r6 ⟨o, e6, o1, o2⟩ => ?_⟩
    subst e6
    have cut : ∀ q : Int, 0 ≤ q → q < 5 → ∃ v : List Nat, atI [PyData.str ((⟨w.toArray⟩ : Str) ++ ⟨en.toArray⟩), PyData.str ((⟨en.toArray⟩ : Str) ++ ⟨w.toArray⟩), PyData.str ((⟨w.toArray⟩ : Str) ++ ⟨en.toArray⟩), wd o, wd w] q = some (wd v) ∧ v.length ≤ 6 ∧ isL v = true := fun q h0 h5 => by
      rw [wd_app, wd_app]
      have e : q = 0 ∨ q = 1 ∨ q = 2 ∨ q = 3 ∨ q = 4 := by omega
      rcases e with rfl | rfl | rfl | rfl | rfl
      · exact ⟨w ++ en, rfl, by simp; omega, by rw [isL_app, w1, en1]; rfl⟩
      · exact ⟨en ++ w, rfl, by simp; omega, by rw [isL_app, w1, en1]; rfl⟩
      · exact ⟨w ++ en, rfl, by simp; omega, by rw [isL_app, w1, en1]; rfl⟩
      · exact ⟨o, rfl, by omega, o1⟩
      · exact ⟨w, rfl, by omega, w1⟩
    obtain ⟨v, hv, v1, v2⟩ := cut (n15 % 5) m15.1 m15.2
    have s1 : (⟨w.toArray⟩ : Str).length + (⟨en.toArray⟩ : Str).length ≤ sizeLine := by rw [wd_len, wd_len]; exact big _ (by omega)
    have s2 : (⟨en.toArray⟩ : Str).length + (⟨w.toArray⟩ : Str).length ≤ sizeLine := by rw [wd_len, wd_len]; exact big _ (by omega)
    refine ⟨by show 9 < 10; decide, trivial, s1, s2, s1, trivial, trivial, trivial, trivial, trivial, by show 5 ≤ sizeLine; decide, .int n15, by show atI (ys.map PyData.int) ((15 : Int) + (0 + (i : Nat) * 1)) = _; rw [i15]; exact a15, q5, rfl, wd v, hv, trivial, rfl, by show 2 ≤ sizeLine; decide, trivial, ?_, ps ++ [(w, v)], .own 0 (.int (0 + (i : Nat) * 1)), .own 0 (wd w), .own 0 (wd o), ?_, by simp [hps], fun p hp => ?_⟩
    · rw [List.length_map]
      exact Nat.lt_of_le_of_lt (show ps.length ≤ 100 by omega) (by decide)
    · show _ = G _ _ _ _
      rw [List.map_append]; rfl
    · rcases List.mem_append.mp hp with hp | hp
      · exact hok p hp
      · rw [List.mem_singleton.mp hp]; exact ⟨by show w.length ≤ 6; omega, v1, w1, v2⟩
  · obtain ⟨ps, a, b, c, rfl, hps, hok⟩ := hI
    rw [rngD_len] at hps
    have hp1 : 1 ≤ ps.length := by omega
    have hp5 : ps.length ≤ 5 := by omega
    refine ⟨fun Γ => ∃ (ps : List WP) (a b c : Sl), Γ = G (ps.map pr) a b c ∧ 1 ≤ ps.length ∧ ps.length ≤ 6 ∧ ∀ p ∈ ps, okV5 p, ?_, fun Γ' hJ => ?_⟩
    · refine ⟨.int n20, a20, q3, rfl, plI, plI, .inl dpI, fun e => ?_, fun e => ⟨ps, a, b, c, rfl, hp1, by omega, hok⟩⟩
      obtain ⟨p, hp⟩ : ∃ p, ps[0]? = some p := ⟨_, List.getElem?_eq_getElem (by omega)⟩
      refine ⟨pr p, atI_of (i := 0) (by rw [List.getElem?_map, hp]; rfl), pr_imm, ?_, ps ++ [p], a, b, c, ?_, by simp, by simp; omega, fun q hq => ?_⟩
      · rw [List.length_map]
        exact Nat.lt_of_le_of_lt (show ps.length ≤ 100 by omega) (by decide)
      · show _ = G _ _ _ _
        rw [List.map_append]; rfl
      · rcases List.mem_append.mp hq with hq | hq
        · exact hok q hq
        · rw [List.mem_singleton.mp hq]; exact hok p (List.mem_of_getElem? hp)
    · obtain ⟨ps, a, b, c, rfl, h1, h6, hok⟩ := hJ
      exact h _ ⟨ps, rfl, h1, h6, hok⟩
end
end K84
namespace K84
open PySem PySem.Spec PyProof.Rows L2 VL
theorem mem_srt {ds : List D} {d : D} : d ∈ srt ds ↔ d ∈ ds := (List.mergeSort_perm ds _).mem_iff
theorem any_st {S : List S3} {u : S3} : ((S.map fun s => (stp s, PyData.bool true)).any fun p => decide (nk p.1 = nk (stp u))) = decide (u ∈ S) := by
  rw [Bool.eq_iff_iff, List.any_eq_true, decide_eq_true_eq]
  constructor
  · rintro ⟨p, hp, e⟩
    obtain ⟨s, hs, rfl⟩ := List.mem_map.mp hp
    have e := st_nk.mp (of_decide_eq_true e)
    rw [← e]; exact hs
  · intro h
    exact ⟨_, List.mem_map.mpr ⟨u, h, rfl⟩, decide_eq_true rfl⟩
section
variable {P : Program} {w : World} {K : PySem.W.Frag} {mg : Str → Option Value} {base : Heap}
theorem ok_raw_is_fourth (Y : Mo K mg) {k : Nat} (G_raw_moves : FnOk P w K mg base CX0 k Y.f_raw_moves Y.d_raw_moves ["x", "y", "z", "t", "stand"] (spV ⟨P, w, K⟩ 5 (spR r_raw_moves))) : FnOk P w K mg base CX0 (k + 1) Y.f_raw_is_fourth Y.d_raw_is_fourth ["x", "y", "z", "t"] (spV ⟨P, w, K⟩ 4 (spR r_raw_is_fourth)) := by
  refine okV Y.F_raw_is_fourth sc_raw_is_fourth fun cdv A outer s₀ H E C hr => ⟨_, (vss_cons (vs_if (vt_cmp mono_ne (od_ne hr.units) (by rfl) (vp_add (vp_fnB mono_len cd_len (by rfl) Y.m_len bb_len (vp_name 0)) (vp_fnB mono_len cd_len (by rfl) Y.m_len bb_len (vp_name 3))) (vp_add (vp_fnB mono_len cd_len (by rfl) Y.m_len bb_len (vp_name 1)) (vp_fnB mono_len cd_len (by rfl) Y.m_len bb_len (vp_name 2)))) (vss_one (vs_ret vp_bl)) vss_nil)
      (vss_cons (vs_par 1 4 1 5 rfl sc_raw_is_fourth.nd rfl rfl (by decide) rfl rfl (vp_dc1 hr.units (vp_tup (va_cons vp_int (va_cons vp_int (va_cons vp_int va_nil)))) vp_bl) (vp_lst (k := 0) (va_cons (vp_tup (va_cons vp_int (va_cons vp_int (va_cons vp_int va_nil)))) va_nil)) rfl)
      (vss_cons (vs_while PassesOwn.never (vt_cmp mono_gt od_gt (by rfl) (vp_fnB mono_len cd_len (by rfl) Y.m_len bb_len (vp_name 5)) vp_int) (vss_cons (vs_pop (j := 5) 6 sc_raw_is_fourth.nd rfl (by first | exact .inl rfl | exact .inr rfl | exact .inr (.inl rfl) | exact .inr (.inr rfl)))
      (vss_one (vs_for PassesOwn.never rfl (vi_seq (vp_call (ks := [.br, .br, .br, .br, .br]) G_raw_moves mono_spR rfl hr (by rfl) Y.g_raw_moves Y.F_raw_moves.kp Y.b_raw_moves (va_cons (vp_name 0) (va_cons (vp_name 1) (va_cons (vp_name 2) (va_cons (vp_name 3) (va_cons (vp_name 6) va_nil))))))) (vg_tup rfl (vgs_cons (vg_name 7 sc_raw_is_fourth.nd rfl (by first | exact .inl rfl | exact .inr rfl | exact .inr (.inl rfl) | exact .inr (.inr rfl))) (vgs_cons (vg_name 8 sc_raw_is_fourth.nd rfl (by first | exact .inl rfl | exact .inr rfl | exact .inr (.inl rfl) | exact .inr (.inr rfl))) vgs_nil)) rfl rfl (gsC_len (gsC_len gsN_len gN_ex) gN_ex))
      (vss_one (vs_if (vt_cmp mono_notIn (od_notIn hr.units) (by rfl) (vp_name 8) (vp_name 4)) (vss_cons (vs_dst 4 hr.units (vp_name 8) vp_bl)
      (vss_one (vs_app (i := 5) (ha := (vp_name 8))))) vss_nil))))))
      (vss_one (vs_ret (vp_cmp mono_in (od_in hr.units) (by rfl) (vp_tup (va_cons (vp_fnB mono_len cd_len (by rfl) Y.m_len bb_len (vp_name 1)) (va_cons (vp_fnB mono_len cd_len (by rfl) Y.m_len bb_len (vp_name 2)) (va_cons (vp_fnB mono_len cd_len (by rfl) Y.m_len bb_len (vp_name 0)) va_nil)))) (vp_name 4))))))), fun ss R hl h => ?_⟩
  obtain ⟨_, ⟨x, y, z, t, rfl, ⟨hx, hy, hz, ht⟩, rfl⟩, h⟩ := h
  have sx := wd_sz (l := x) (by omega)
  have sy := wd_sz (l := y) (by omega)
  have sz := wd_sz (l := z) (by omega)
  have s4 := wd_sz (l := t) (by omega)
  have hB := Bd_le hy hz
  have hBl : Bd y z < sizeLine := Nat.lt_of_le_of_lt hB (by decide)
  have tk1 : ∀ S : List S3, ∀ p ∈ S.map fun s => (stp s, PyData.bool true), tupK p.1 = true := fun S p hp => by
    obtain ⟨s, _, rfl⟩ := List.mem_map.mp hp
    exact st_tupK
  have hne : ∀ b, (!eqB (PyData.int (((⟨x.toArray⟩ : Str).length : Int) + ((⟨t.toArray⟩ : Str).length : Int))) (PyData.int (((⟨y.toArray⟩ : Str).length : Int) + ((⟨z.toArray⟩ : Str).length : Int)))) = b → b = decide (x.length + t.length ≠ y.length + z.length) := fun b e => by
    subst e
    show (!decide _) = _
    rw [wd_len, wd_len, wd_len, wd_len, Bool.eq_iff_iff]
    simp
    omega
  refine ⟨sx, rfl, s4, rfl, sy, rfl, sz, rfl, plI, plI, .inl dpI, fun e => ?_, fun e => ?_⟩
  · show R _
    have e := (hne _ e).symm
    have e2 : fourthB x y z t = false := by
      cases q : fourthB x y z t with
      | false => rfl
      | true => exact absurd (fourthB_iff.mp q).1 (of_decide_eq_true e)
    rw [e2] at h; exact h
  · have el : x.length + t.length = y.length + z.length := by
      have e := (hne _ e).symm
      exact Decidable.not_not.mp (of_decide_eq_false e)
    refine ⟨trivial, trivial, trivial, by show 3 ≤ sizeLine; decide, st_tupK, trivial, trivial, trivial, trivial, by show 3 ≤ sizeLine; decide, trivial, by show 1 ≤ sizeLine; decide, by show 4 < 9; decide, by show 5 < 9; decide, .inr (Nat.le_refl _), .inr (Nat.le_refl _), ?_⟩
    let G : List S3 → List S3 → Sl → Sl → Sl → List Sl := fun S L a b c => [.bor (wd x), .bor (wd y), .bor (wd z), .bor (wd t), .own 1 (.dict (S.map fun s => (stp s, PyData.bool true))), .own 1 (.list (L.map stp)), a, b, c]
    refine ⟨fun m Γ => ∃ S L g6 g7 g8, Γ = G S L g6 g7 g8 ∧ Wk x y z t S L (fun _ => False) ∧ L.length ≤ S.length ∧ m = 2 * (Bd y z - S.length) + L.length, ⟨_, [(0, 0, 0)], [(0, 0, 0)], .gone, .gone, .gone, rfl, ⟨by simp, by simp, fun s hs => ?_, fun s hs => hs, fun s hs => .inl hs⟩, Nat.le_refl _, rfl⟩, fun m Γ' hI => ?_⟩
    · have e : s = (0, 0, 0) := by simpa using hs
      rw [e]; exact .zero
    obtain ⟨S, L, g6, g7, g8, rfl, wk, hLS, rfl⟩ := hI
    refine ⟨rfl, fun e => ?_, fun e => ?_⟩
    · have hL : L ≠ [] := fun z => by
        subst z
        exact noFT (of_decide_eq_true e |> fun q => absurd q (by decide))
      obtain ⟨L', s, rfl⟩ : ∃ L' s, L = L' ++ [s] := ⟨L.dropLast, L.getLast hL, (List.dropLast_concat_getLast hL).symm⟩
      have hs : s ∈ S := wk.sub s (by simp)
      have bs := (wk.re s hs).bd
      have hSl := reach_len wk.nd wk.re
      have hLS : L'.length + 1 ≤ S.length := by simpa using hLS
      refine ⟨by decide, by show 6 < 9; decide, L'.map stp, stp s, by simp, ?_⟩
      refine ⟨_, ⟨x, y, z, t, s.1, s.2.1, s.2.2, rfl, ⟨by omega, by omega, by omega, by omega⟩, by omega, rfl⟩, ?_⟩
      have wk0 : Wk x y z t S L' (fun v => v = s) := ⟨wk.nd, wk.z0, wk.re, fun u hu => wk.sub u (List.mem_append_left _ hu), fun u hu => by
        rcases wk.cl u hu with h | h | h
        · rcases List.mem_append.mp h with h | h
          · exact .inl h
          · exact .inr (.inl (by simpa using h))
        · exact h.elim
        · exact .inr (.inr h)⟩
      refine ⟨fun n Γ => ∃ S' L'' g7 g8, Γ = G S' L'' (.own 0 (stp s)) g7 g8 ∧ Wk x y z t S' L'' (fun v => v = s) ∧ S'.length + L'.length = S.length + L''.length ∧ S.length ≤ S'.length ∧ ∀ m, m < n → ∀ nm u, (srt (moves x y z t s.1 s.2.1 s.2.2))[m]? = some (mv nm u.1 u.2.1 u.2.2) → u ∈ S', ⟨S, L', g7, g8, rfl, wk0, rfl, Nat.le_refl _, fun m hm => absurd hm (Nat.not_lt_zero _)⟩, fun n d Γ' hd hI => ?_, fun Γ' hI => ?_⟩
      · obtain ⟨S', L'', g7, g8, rfl, w2, l1, l2, cl⟩ := hI
        have hd' := hd
        obtain ⟨nm, u, rfl, hstep, _⟩ := mem_moves.mp (mem_srt.mp (List.mem_of_getElem? hd))
        have hsr : Reach x y z t s := wk.re s hs
        have nxt : ∀ S2 : List S3, (∀ v ∈ S', v ∈ S2) → u ∈ S2 → ∀ m, m < n + 1 → ∀ nm v, (srt (moves x y z t s.1 s.2.1 s.2.2))[m]? = some (mv nm v.1 v.2.1 v.2.2) → v ∈ S2 := fun S2 h1 h2 m hm nm' v hv => by
          by_cases hmn : m < n
          · exact h1 v (cl m hmn nm' v hv)
          · have e : m = n := by omega
            subst e
            rw [hd'] at hv
            have e2 := Option.some.inj hv
            have e3 : u = v := by
              obtain ⟨i, j, k⟩ := u
              obtain ⟨i', j', k'⟩ := v
              simp [mv, st] at e2
              obtain ⟨_, a, b, c⟩ := e2
              have a : i = i' := by omega
              have b : j = j' := by omega
              have c : k = k' := by omega
              rw [a, b, c]
            rw [← e3]; exact h2
        have hSl' := reach_len w2.nd w2.re
        refine ⟨by show 7 < 9; decide, by show 8 < 9; decide, st_tupK, tk1 S', fun e => ?_, fun e => ?_⟩
        · have e : (!((S'.map fun s => (stp s, PyData.bool true)).any fun p => decide (nk p.1 = nk (stp u)))) = true := e
          rw [any_st] at e
          have hu : u ∉ S' := by simpa using e
          refine ⟨trivial, st_tupK, List.all_eq_true.mpr (tk1 S'), ?_, by rw [List.length_map]; omega, trivial, ?_, ?_⟩
          · show ((S'.map fun s => (stp s, PyData.bool true)).any fun p => decide (nk p.1 = nk (stp u))) = false
            rw [any_st]; simpa using hu
          · rw [List.length_map]; omega
          · refine ⟨S' ++ [u], L'' ++ [u], .own 0 (.str nm), .own 0 (stp u), ?_, w2.add hu (.step hsr hstep), by simp; omega, by simp; omega, nxt _ (fun v hv => List.mem_append_left _ hv) (by simp)⟩
            show _ = G _ _ _ _ _
            simp only [G, List.map_append]
            rfl
        · have e : (!((S'.map fun s => (stp s, PyData.bool true)).any fun p => decide (nk p.1 = nk (stp u)))) = false := e
          rw [any_st] at e
          have hu : u ∈ S' := by simpa using e
          exact ⟨S', L'', _, _, rfl, w2, l1, l2, nxt _ (fun v hv => hv) hu⟩
      · obtain ⟨S', L'', g7, g8, rfl, w2, l1, l2, cl⟩ := hI
        have hSl' := reach_len w2.nd w2.re
        refine ⟨2 * (Bd y z - S'.length) + L''.length, ?_, S', L'', _, _, _, rfl, ⟨w2.nd, w2.z0, w2.re, w2.sub, fun v hv => ?_⟩, by omega, rfl⟩
        · simp; omega
        · rcases w2.cl v hv with h | h | h
          · exact .inl h
          · subst h
            refine .inr (.inr fun u q => ?_)
            have hm := mem_srt.mpr (mem_moves.mpr ⟨_, u, rfl, q, rfl⟩)
            obtain ⟨m, hm1, hm2⟩ := List.getElem_of_mem hm
            exact cl m hm1 _ u (by rw [List.getElem?_eq_getElem hm1, hm2])
          · exact .inr (.inr h)
    · have hL : L = [] := by
        cases L with
        | nil => rfl
        | cons a l =>
          have q := of_decide_eq_false e
          exact absurd (by first | (simp; done) | (simp; omega)) q
      subst hL
      refine ⟨sy, rfl, sz, rfl, sx, rfl, trivial, trivial, trivial, by show 3 ≤ sizeLine; decide, ?_⟩
      rw [show (⟨y.toArray⟩ : Str).length = y.length from wd_len, show (⟨z.toArray⟩ : Str).length = z.length from wd_len, show (⟨x.toArray⟩ : Str).length = x.length from wd_len]
      refine ⟨st_tupK, tk1 S, rfl, ?_⟩
      show R _
      have e1 : ((S.map fun s => (stp s, PyData.bool true)).any fun p => decide (nk p.1 = nk (stp (y.length, z.length, x.length)))) = fourthB x y z t := by
        rw [any_st, Bool.eq_iff_iff, decide_eq_true_eq, fourthB_iff, wk.all]
        exact ⟨fun h => ⟨el, h⟩, fun h => h.2⟩
      rw [← e1] at h
      exact h
end
end K84
namespace K84
open PySem PySem.Spec PyProof.Rows L2 VL
section
variable {P : Program} {w : World} {K : PySem.W.Frag} {mg : Str → Option Value} {base : Heap}
theorem ok_check_pairs (Y : Mo K mg) {k : Nat} (G_is_pair : FnOk P w K mg base CX0 k Y.f_is_pair Y.d_is_pair ["thing"] (spV ⟨P, w, K⟩ 1 (spR r_is_pair))) (G_is_tuple : FnOk P w K mg base CX0 k Y.f_is_tuple Y.d_is_tuple ["thing", "least", "most"] (spV ⟨P, w, K⟩ 3 (spR r_is_tuple))) : FnOk P w K mg base (L2.CX P w) (k + 1) Y.f_check_pairs Y.d_check_pairs ["pairs"] (spX ⟨P, w, K⟩ 1 (spE r_check_pairs (e_check_pairs Y))) := by
  refine okX Y.F_check_pairs sc_check_pairs fun cdv A outer s₀ H E C Ex hr tk hp => ⟨_, (vss_one (vs_if (VPW.pt (vw_or (vt_not (vt_tru (vp_call (ks := [.br, .br, .br]) G_is_tuple mono_spR rfl hr (by rfl) Y.g_is_tuple Y.F_is_tuple.kp Y.b_is_tuple (va_cons (vp_name 0) (va_cons vp_int (va_cons (vp_gint (by rfl) Y.c_MOST_PAIRS) va_nil)))) (fun _ => rfl))) (vw_or1 (vt_not (vt_tru (vp_fnB mono_all (cd_all rfl) (by rfl) Y.m_all bb_all (vp_lc 0 [("one", 1)] rfl sc_check_pairs.nd (vi_seq (vp_name 0)) (by kernel_rfl) (fun _ _ _ _ _ => (vg_name 1 sc_check_pairs.nd rfl (by first | exact .inl rfl | exact .inr rfl | exact .inr (.inl rfl) | exact .inr (.inr rfl)))) (fun _ _ _ _ _ => vts_nil) (fun _ _ _ _ _ => (vp_call (ks := [.br]) G_is_pair mono_spR rfl hr (by rfl) Y.g_is_pair Y.F_is_pair.kp Y.b_is_pair (va_cons (vp_name 1) va_nil))))) (fun _ => rfl)))))) (vss_one (vs_rais rfl tk PySem.F.excBase_ValueError Y.x_NoPairs Y.g_NoPairs Y.k_NoPairs (raises_own Y.s_NoPairs Y.t_NoPairs) (by rfl))) vss_nil)), fun ss R hl h => ?_⟩
  have hsm : ∃ d, ss = [.bor d] ∧ smQ d = true ∧ ((okPairsB d = true ∧ R (.own 0 .none)) ∨ (okPairsB d = false ∧ Ex (.ref Y.f_NoPairs))) := by
    rcases h with ⟨_, ⟨d, e, h1, h2, rfl⟩, q⟩ | ⟨_, ⟨d, e, h1, h2, rfl⟩, q⟩
    · exact ⟨d, e, h1, .inl ⟨h2, q⟩⟩
    · exact ⟨d, e, h1, .inr ⟨h2, q⟩⟩
  obtain ⟨d, rfl, hs, h⟩ := hsm
  have bad : okPairsB d = false → Ex (.ref Y.f_NoPairs) := fun e => by
    rcases h with ⟨h, _⟩ | ⟨_, h⟩
    · rw [e] at h; exact noFT h
    · exact h
  have good : okPairsB d = true → R (.own 0 .none) := fun e => by
    rcases h with ⟨_, h⟩ | ⟨h, _⟩
    · exact h
    · rw [e] at h; exact noTF h
  unfold okPairsB at bad good
  refine ⟨_, ⟨d, 1, 8, rfl, rfl⟩, fun e => ?_, fun e => ?_⟩
  · have e : (!isTupleB d 1 8) = true := e
    exact ⟨fun _ => bad (by rw [show isTupleB d 1 8 = false by simpa using e]; rfl), fun e => noTF e⟩
  · have e : (!isTupleB d 1 8) = false := e
    have e : isTupleB d 1 8 = true := by simpa using e
    rw [e] at bad good
    cases d with
    | tuple ds =>
      simp only [smQ, Bool.and_eq_true, decide_eq_true_eq] at hs
      obtain ⟨⟨h1, h2⟩, h3⟩ := hs
      refine ⟨fun j hj => ?_, h1, Nat.le_trans h2 (by decide), lc_mp (fun x => .bool (isPairB x)) (fun i d Kk hd hk => ?_) ?_⟩
      · have e : j = 1 := by simpa using hj
        subst e; rfl
      · exact ⟨by show 1 < 2; decide, fun _ => ⟨_, ⟨d, rfl, List.all_eq_true.mp h3 d (List.mem_of_getElem? hd), rfl⟩, trivial, hk⟩, fun e => noTF e⟩
      · refine all_map_bool ⟨rfl, fun e => ?_, fun e => ?_⟩
        · have e : (!ds.all isPairB) = true := e
          exact bad (by show (true && ds.all isPairB) = false; rw [show ds.all isPairB = false by simpa using e]; rfl)
        · have e : (!ds.all isPairB) = false := e
          exact good (by show (true && ds.all isPairB) = true; rw [show ds.all isPairB = true by simpa using e]; rfl)
    | _ => exact noFT e
end
end K84
namespace K84
open PySem PySem.Spec PyProof.Rows L2 VL
section
variable {P : Program} {w : World} {K : PySem.W.Frag} {mg : Str → Option Value} {base : Heap}
theorem ok_is_fourth (Y : Mo K mg) {k : Nat} (G_check_words : FnOk P w K mg base CX0 k Y.f_check_words Y.d_check_words ["words"] (spV ⟨P, w, K⟩ 1 (spR r_check_words))) (G_is_word : FnOk P w K mg base CX0 k Y.f_is_word Y.d_is_word ["thing"] (spV ⟨P, w, K⟩ 1 (spR r_is_word))) (G_raw_is_fourth : FnOk P w K mg base CX0 k Y.f_raw_is_fourth Y.d_raw_is_fourth ["x", "y", "z", "t"] (spV ⟨P, w, K⟩ 4 (spR r_raw_is_fourth))) : FnOk P w K mg base CX0 (k + 1) Y.f_is_fourth Y.d_is_fourth ["x", "y", "z", "t"] (spV ⟨P, w, K⟩ 4 (spR r_is_fourth)) := by
  refine okV Y.F_is_fourth sc_is_fourth fun cdv A outer s₀ H E C hr => ⟨_, (vss_cons (vs_expr (vp_call (ks := [.br]) G_check_words mono_spR rfl hr (by rfl) Y.g_check_words Y.F_check_words.kp Y.b_check_words (va_cons (vp_lst (k := 0) (va_cons (vp_name 0) (va_cons (vp_name 1) (va_cons (vp_name 2) va_nil)))) va_nil)))
      (vss_one (vs_ret (vp_and (vp_call (ks := [.br]) G_is_word mono_spR rfl hr (by rfl) Y.g_is_word Y.F_is_word.kp Y.b_is_word (va_cons (vp_name 3) va_nil)) (vp_one (vp_call (ks := [.br, .br, .br, .br]) G_raw_is_fourth mono_spR rfl hr (by rfl) Y.g_raw_is_fourth Y.F_raw_is_fourth.kp Y.b_raw_is_fourth (va_cons (vp_name 0) (va_cons (vp_name 1) (va_cons (vp_name 2) (va_cons (vp_name 3) va_nil)))))))))), fun ss R hl h => ?_⟩
  obtain ⟨_, ⟨x, y, z, t, rfl, ⟨hx, hy, hz, ht⟩, ⟨lx, ly, lz, lt⟩, rfl⟩, h⟩ := h
  refine ⟨rfl, rfl, rfl, by show 3 ≤ sizeLine; decide, _, ⟨_, rfl, immA_all fun d hd => ?_, fun d hd => ?_, rfl⟩, ?_⟩
  · rcases List.mem_cons.mp hd with rfl | hd
    · rfl
    rcases List.mem_cons.mp hd with rfl | hd
    · rfl
    rw [List.mem_singleton.mp hd]; rfl
  · rcases List.mem_cons.mp hd with rfl | hd
    · exact ⟨smS_wd (by omega), lx⟩
    rcases List.mem_cons.mp hd with rfl | hd
    · exact ⟨smS_wd (by omega), ly⟩
    rw [List.mem_singleton.mp hd]; exact ⟨smS_wd (by omega), lz⟩
  · refine ⟨_, ⟨wd t, rfl, smS_wd (by omega), rfl⟩, fun _ => ?_, fun e => ?_⟩
    · exact ⟨_, ⟨x, y, z, t, rfl, ⟨hx, hy, hz, ht⟩, rfl⟩, h⟩
    · rw [isWord_wd, lt] at e; exact noTF e
end
end K84
namespace K84
open PySem PySem.Spec PyProof.Rows L2 VL
section
variable {P : Program} {w : World} {K : PySem.W.Frag} {mg : Str → Option Value} {base : Heap}
theorem ok_like_pairs (Y : Mo K mg) {k : Nat} (G_check_pairs : FnOk P w K mg base (L2.CX P w) k Y.f_check_pairs Y.d_check_pairs ["pairs"] (spX ⟨P, w, K⟩ 1 (spE r_check_pairs (e_check_pairs Y)))) (G_raw_is_fourth : FnOk P w K mg base CX0 k Y.f_raw_is_fourth Y.d_raw_is_fourth ["x", "y", "z", "t"] (spV ⟨P, w, K⟩ 4 (spR r_raw_is_fourth))) : FnOk P w K mg base (L2.CX P w) (k + 1) Y.f_like_pairs Y.d_like_pairs ["pairs"] (spX ⟨P, w, K⟩ 1 (spE r_like_pairs (e_like_pairs Y))) := by
  refine okX Y.F_like_pairs sc_like_pairs fun cdv A outer s₀ H E C Ex hr tk hp => ⟨_, (vss_cons (vs_exprX tk (vp_callX (ks := [.br]) G_check_pairs mono_spE rfl hr (by rfl) Y.g_check_pairs Y.F_check_pairs.kp Y.b_check_pairs (va_cons (vp_name 0) va_nil)))
      (vss_cons (vs_set 1 1 sc_like_pairs.nd rfl (by first | exact .inl rfl | exact .inr rfl | exact .inr (.inl rfl) | exact .inr (.inr rfl)) (vp_lst (k := 0) va_nil))
      (vss_cons (vs_for hp rfl (vi_num (by rfl) Y.m_enumerate (vp_name 0)) (vg_tup rfl (vgs_cons (vg_name 2 sc_like_pairs.nd rfl (by first | exact .inl rfl | exact .inr rfl | exact .inr (.inl rfl) | exact .inr (.inr rfl))) (vgs_cons (vg_tup rfl (vgs_cons (vg_name 3 sc_like_pairs.nd rfl (by first | exact .inl rfl | exact .inr rfl | exact .inr (.inl rfl) | exact .inr (.inr rfl))) (vgs_cons (vg_name 4 sc_like_pairs.nd rfl (by first | exact .inl rfl | exact .inr rfl | exact .inr (.inl rfl) | exact .inr (.inr rfl))) vgs_nil)) rfl rfl (gsC_len (gsC_len gsN_len gN_ex) gN_ex)) vgs_nil)) rfl rfl (gsC_len (gsC_len gsN_len (gT_ex (gsC_ex gN_ex (gsC_ex gN_ex gsN_ex)))) gN_ex))
      (vss_one (vs_for hp rfl (vi_range2 (by rfl) Y.m_range (vp_add (vp_name 2) vp_int) (vp_fnB mono_len cd_len (by rfl) Y.m_len bb_len (vp_name 0))) (vg_name 5 sc_like_pairs.nd rfl (by first | exact .inl rfl | exact .inr rfl | exact .inr (.inl rfl) | exact .inr (.inr rfl)))
      (vss_one (vs_if (vt_tru (vp_call (ks := [.br, .br, .br, .br]) G_raw_is_fourth mono_spR rfl hr (by rfl) Y.g_raw_is_fourth Y.F_raw_is_fourth.kp Y.b_raw_is_fourth (va_cons (vp_name 3) (va_cons (vp_name 4) (va_cons (vp_ix (fun _ _ => rfl) (vp_ix (fun _ _ => rfl) (vp_name 0) (vp_name 5)) vp_int) (va_cons (vp_ix (fun _ _ => rfl) (vp_ix (fun _ _ => rfl) (vp_name 0) (vp_name 5)) vp_int) va_nil))))) (fun _ => rfl)) (vss_one (vs_app (i := 1) (ha := (vp_tup (va_cons (vp_name 2) (va_cons (vp_name 5) va_nil)))))) vss_nil)))))
      (vss_one (vs_ret (vp_tupOf (by rfl) Y.m_tuple bb_tuple (vp_name 1))))))), fun ss R hl h => ?_⟩
  rcases h with ⟨_, ⟨ps, rfl, ⟨l1, l8⟩, hok, rfl⟩, h⟩ | ⟨_, ⟨d, rfl, hs, hb, rfl⟩, h⟩
  rotate_left
  · exact .inr ⟨_, ⟨d, rfl, hs, hb, rfl⟩, h⟩
  refine .inl ⟨_, ⟨_, rfl, prs_smQ hok l8, prs_ok hok l1 l8, rfl⟩, ?_⟩
  refine ⟨Nat.zero_le _, by show 1 < 6; decide, .inr (Nat.le_refl _), ?_⟩
  let G : List D → Sl → Sl → Sl → Sl → List Sl := fun acc a b c d => [.bor (.tuple (ps.map pr)), .own 1 (.list acc), a, b, c, d]
  have b64 : ∀ m n : Nat, m ≤ 8 → n ≤ 8 → (likeD ps m).length + n < sizeLine := fun m n hm hn => by
    have a := likeD_len (ps := ps) (m := m)
    have b : m * ps.length ≤ 8 * 8 := Nat.mul_le_mul hm l8
    exact Nat.lt_of_le_of_lt (show (likeD ps m).length + n ≤ 100 by omega) (by decide)
  have gt : ∀ {j : Nat} {p : WP}, ps[j]? = some p → (ps.map pr)[j]? = some (pr p) := fun {j p} e => by rw [List.getElem?_map, e]; rfl
  refine ⟨prs_imm, fun i Γ => ∃ a b c d, Γ = G (likeD ps i) a b c d, ⟨_, _, _, _, rfl⟩, fun i dd Γ' hd hI => ?_, fun Γ' hI => ?_⟩
  · obtain ⟨a, b, c, d, rfl⟩ := hI
    rw [numD_get] at hd
    obtain ⟨q, hq, e⟩ := Option.map_eq_some_iff.mp hd
    subst e
    rw [List.getElem?_map] at hq
    obtain ⟨p, hp, e⟩ := Option.map_eq_some_iff.mp hq
    subst e
    have hi := (List.getElem?_eq_some_iff.mp hp).1
    obtain ⟨o1, o2, o3, o4⟩ := hok p (List.mem_of_getElem? hp)
    refine ⟨by show 2 < 6; decide, by show 3 < 6; decide, by show 4 < 6; decide, rfl, ⟨by show -(2 ^ 62) ≤ (i : Int) + 1; omega, by show (i : Int) + 1 < 2 ^ 62; omega⟩, ⟨by show -(2 ^ 62) ≤ (((ps.map pr).length : Nat) : Int); omega, by show (((ps.map pr).length : Nat) : Int) < 2 ^ 62; rw [List.length_map]; omega⟩, ?_⟩
    refine ⟨fun m Γ => ∃ d, Γ = G (likeD ps i ++ likeRow ps i m) (.own 0 (.int (i : Nat))) (.own 0 (wd p.1)) (.own 0 (wd p.2)) d, ⟨d, ?_⟩, fun m d2 Γ' hd2 hI => ?_, fun Γ' hI => ?_⟩
    · show _ = G _ _ _ _ _
      rw [show likeRow ps i 0 = [] from rfl, List.append_nil]
      rfl
    · obtain ⟨d, rfl⟩ := hI
      have hm := (List.getElem?_eq_some_iff.mp hd2).1
      rw [rngD_len, List.length_map] at hm
      have hm2 : i + 1 + m < ps.length := by omega
      rw [rngD_get (by rw [List.length_map]; omega)] at hd2
      have e2 := Option.some.inj hd2
      have e3 : d2 = .int ((i + 1 + m : Nat) : Int) := by
        rw [← e2]
        show PyData.int _ = _
        congr 1; omega
      subst e3
      obtain ⟨q, hq'⟩ : ∃ q, ps[i + 1 + m]? = some q := ⟨ps[i + 1 + m], List.getElem?_eq_getElem hm2⟩
      obtain ⟨u1, u2, u3, u4⟩ := hok q (List.mem_of_getElem? hq')
      have ht : tst ps i (i + 1 + m) = fourthB p.1 p.2 q.1 q.2 := by
        unfold tst; rw [hp, hq']
      refine ⟨by show 5 < 6; decide, pr q, atI_of (gt hq'), wd q.1, rfl, pr q, atI_of (gt hq'), wd q.2, rfl, _, ⟨p.1, p.2, q.1, q.2, rfl, ⟨o1, o2, u1, u2⟩, rfl⟩, fun e => ?_, fun e => ?_⟩
      · have lr := likeRow_len (ps := ps) (i := i) (m := m)
        have := b64 i m (by omega) (by omega)
        refine ⟨trivial, trivial, by show 2 ≤ sizeLine; decide, trivial, ?_, .own 0 (.int ((i + 1 + m : Nat) : Int)), ?_⟩
        · rw [List.length_append]; omega
        · show _ = G _ _ _ _ _
          rw [likeRow_succ, ht, e, if_pos rfl, ← List.append_assoc]
          rfl
      · refine ⟨.own 0 (.int ((i + 1 + m : Nat) : Int)), ?_⟩
        show _ = G _ _ _ _ _
        rw [likeRow_succ, ht, e, if_neg (by decide), List.append_nil]
        rfl
    · obtain ⟨d, rfl⟩ := hI
      refine ⟨.own 0 (.int (i : Nat)), .own 0 (wd p.1), .own 0 (wd p.2), d, ?_⟩
      rw [likeD_succ, rngD_len, List.length_map]
      have e : ((ps.length : Int) - ((i : Int) + 1)).toNat = ps.length - (i + 1) := by omega
      rw [e]
  · obtain ⟨a, b, c, d, rfl⟩ := hI
    rw [numD_len, List.length_map]
    exact ⟨likeD_imm, h⟩
end
end K84
namespace K84
open PySem PySem.Spec PyProof.Rows L2 VL
section
variable {P : Program} {w : World} {K : PySem.W.Frag} {mg : Str → Option Value} {base : Heap}
theorem ok__law_refused (Y : Mo K mg) {k : Nat} (G_like_pairs : FnOk P w K mg base (L2.CX P w) k Y.f_like_pairs Y.d_like_pairs ["pairs"] (spX ⟨P, w, K⟩ 1 (spE r_like_pairs (e_like_pairs Y)))) : FnOk P w K mg base CX0 (k + 1) Y.f__law_refused Y.d__law_refused ["thing"] (spV ⟨P, w, K⟩ 1 (spR r__law_refused)) := by
  refine okV Y.F__law_refused sc__law_refused fun cdv A outer s₀ H E C hr => ⟨_, (vss_cons (vs_set 0 1 sc__law_refused.nd rfl (by first | exact .inl rfl | exact .inr rfl | exact .inr (.inl rfl) | exact .inr (.inr rfl)) vp_bl)
      (vss_cons (vs_try rfl rfl ⟨by rfl, by decide, .inl Y.g_NoPairs⟩ (fun pn xe => (vp_callX (ks := [.br]) G_like_pairs mono_spE rfl hr (by rfl) Y.g_like_pairs Y.F_like_pairs.kp Y.b_like_pairs (va_cons (vp_name 0) va_nil))) (fun a pn => (vss_one (vs_set 0 1 sc__law_refused.nd rfl (by first | exact .inl rfl | exact .inr rfl | exact .inr (.inl rfl) | exact .inr (.inr rfl)) vp_bl))))
      (vss_one (vs_retV 1)))), fun ss R hl h => ?_⟩
  obtain ⟨_, ⟨d, rfl, hs, hb, rfl⟩, h⟩ := h
  refine ⟨by show 1 < 2; decide, trivial, .inr ⟨_, ⟨d, rfl, hs, hb, rfl⟩, Y.e_NoPairs, by show 1 < 2; decide, trivial, h⟩⟩
end
end K84
namespace K84
open PySem PySem.Spec PyProof.Rows L2 VL
theorem okW5 {p : WP} (h : okV5 p) : okW p := ⟨by have := h.1; omega, by have := h.2.1; omega, h.2.2.1, h.2.2.2⟩
theorem lev_bool {b : Bool} : ∀ n, lev (.bool b) (n + 1) = []
  | 0 => rfl
  | n + 1 => by
    show (lev (.bool b) (n + 1)).flatMap kids = []
    rw [lev_bool n]; rfl
theorem same_bool (b : Bool) : r__law_same [.bor (.bool b), .bor (.bool b)] (.own 0 (.bool true)) := by
  refine ⟨.bool b, rfl, rfl, lev_bool 29, fun n _ => ?_, fun n _ e he => ?_, rfl⟩
  · cases n with
    | zero => simp [lev]
    | succ n => rw [lev_bool]; simp
  · cases n with
    | zero =>
      have : e = .bool b := by simpa [lev] using he
      rw [this]; exact ⟨plB, dpB⟩
    | succ n => rw [lev_bool] at he; simp at he
/-- pairs of numbers -/
def isIJ (d : D) : Prop := ∃ i j : Int, d = .tuple [.int i, .int j]
theorem like_isIJ {ps : List WP} {m : Nat} : ∀ d ∈ likeD ps m, isIJ d := fun d hd => by
  unfold likeD at hd
  obtain ⟨i, _, h⟩ := List.mem_flatMap.mp hd
  unfold likeRow at h
  obtain ⟨o, _, h⟩ := List.mem_filterMap.mp h
  split at h
  · cases h; exact ⟨_, _, rfl⟩
  · cases h
theorem ij_plain {L : List D} (h : ∀ d ∈ L, isIJ d) : PyData.plainAll L = true ∧ PyData.depthAll L ≤ 1 := by
  induction L with
  | nil => simp [PyData.plainAll, PyData.depthAll]
  | cons d L ih =>
    obtain ⟨i, j, rfl⟩ := h d List.mem_cons_self
    obtain ⟨a, b⟩ := ih fun e he => h e (List.mem_cons_of_mem _ he)
    refine ⟨by simp [PyData.plainAll, PyData.plain, a], ?_⟩
    simp [PyData.depthAll, PyData.depth]
    omega
theorem lev_tup {L : List D} (h : ∀ d ∈ L, isIJ d) : lev (.tuple L) 1 = L ∧ (∀ e ∈ lev (.tuple L) 2, ∃ i : Int, e = .int i) ∧ (lev (.tuple L) 2).length = 2 * L.length ∧ ∀ n, lev (.tuple L) (n + 3) = [] := by
  have l1 : lev (.tuple L) 1 = L := by simp [lev, kids]
  have l2 : lev (.tuple L) 2 = L.flatMap kids := by show (lev (.tuple L) 1).flatMap kids = _; rw [l1]
  have e2 : ∀ e ∈ lev (.tuple L) 2, ∃ i : Int, e = .int i := fun e he => by
    rw [l2] at he
    obtain ⟨d, hd, hk⟩ := List.mem_flatMap.mp he
    obtain ⟨i, j, rfl⟩ := h d hd
    rcases List.mem_cons.mp hk with rfl | hk
    · exact ⟨i, rfl⟩
    · exact ⟨j, List.mem_singleton.mp hk⟩
  refine ⟨l1, e2, ?_, fun n => ?_⟩
  · rw [l2]
    clear l1 l2 e2
    induction L with
    | nil => rfl
    | cons d L ih =>
      obtain ⟨i, j, rfl⟩ := h d List.mem_cons_self
      rw [List.flatMap_cons, List.length_append, ih fun e he => h e (List.mem_cons_of_mem _ he)]
      simp [kids]; omega
  · induction n with
    | zero =>
      show (lev (.tuple L) 2).flatMap kids = []
      rw [List.flatMap_eq_nil_iff]
      intro e he
      obtain ⟨i, rfl⟩ := e2 e he
      rfl
    | succ n ih =>
      show (lev (.tuple L) (n + 3)).flatMap kids = []
      rw [ih]; rfl
theorem same_like (ps : List WP) (m : Nat) (hm : m ≤ 8) (hp : ps.length ≤ 8) : r__law_same [.bor (.tuple (likeD ps m)), .bor (.tuple (likeD ps m))] (.own 0 (.bool true)) := by
  obtain ⟨l1, l2, l3, l4⟩ := lev_tup (like_isIJ (ps := ps) (m := m))
  obtain ⟨p1, p2⟩ := ij_plain (like_isIJ (ps := ps) (m := m))
  have hl := likeD_len (ps := ps) (m := m)
  have h64 : m * ps.length ≤ 8 * 8 := Nat.mul_le_mul hm hp
  refine ⟨_, rfl, by simp only [imm]; exact likeD_imm, l4 27, fun n _ => ?_, fun n _ e he => ?_, rfl⟩
  · match n with
    | 0 => simp [lev]
    | 1 => rw [l1]; omega
    | 2 => rw [l3]; omega
    | n + 3 => rw [l4]; simp
  · match n with
    | 0 =>
      have : e = .tuple (likeD ps m) := by simpa [lev] using he
      rw [this]
      exact ⟨by simp only [PyData.plain]; exact p1, by simp only [PyData.depth]; omega⟩
    | 1 =>
      rw [l1] at he
      obtain ⟨i, j, rfl⟩ := like_isIJ e he
      simp [PyData.plain, PyData.plainAll, PyData.depth, PyData.depthAll]
    | 2 =>
      obtain ⟨i, rfl⟩ := l2 e he
      exact ⟨plI, dpI⟩
    | n + 3 => rw [l4] at he; simp at he
theorem odd_end {A : List WP} {x : D} (hA : ∀ p ∈ A, okW p) (hl : A.length ≤ 8) (h1 : imm x = true) (h2 : smP x = true) (h3 : isPairB x = false) : smQ (.tuple (A.map pr ++ [x])) = true ∧ okPairsB (.tuple (A.map pr ++ [x])) = false := by
  constructor
  · have i1 : immA (A.map pr ++ [x]) = true := immA_all fun d hd => (List.mem_append.mp hd).elim (fun h => immA_mem prs_imm d h) fun h => by rw [List.mem_singleton.mp h]; exact h1
    simp only [smQ, i1, Bool.true_and, Bool.and_eq_true, decide_eq_true_eq, List.length_append, List.length_map, List.length_singleton]
    refine ⟨by omega, List.all_eq_true.mpr fun d hd => ?_⟩
    rcases List.mem_append.mp hd with hd | hd
    · obtain ⟨p, hp, rfl⟩ := List.mem_map.mp hd
      exact pr_smP (hA p hp)
    · rw [List.mem_singleton.mp hd]; exact h2
  · simp only [okPairsB, itemsD, List.all_append, List.all_cons, List.all_nil, h3, Bool.false_and, Bool.and_false]
def oddD (A ps : List WP) : List D := [.tuple [], .list (ps.map pr), .none, .tuple (A.map pr ++ [.str "ab"]), .tuple (List.replicate (Int.toNat 9) [PyData.tuple [.str "a", .str "b"]]).flatten, .tuple (A.map pr ++ [.tuple [.str "a", .int 0]]), .int 0, .str "ab"]
theorem odd_at {A ps : List WP} (hA : ∀ p ∈ A, okW p) (hl : A.length ≤ 8) (k : Int) (h0 : 0 ≤ k) (h8 : k < 8) : ∃ d, atI (oddD A ps) k = some d ∧ smQ d = true ∧ okPairsB d = false := by
  have e : k = 0 ∨ k = 1 ∨ k = 2 ∨ k = 3 ∨ k = 4 ∨ k = 5 ∨ k = 6 ∨ k = 7 := by omega
  have a := odd_end (x := .str "ab") hA hl rfl rfl rfl
  have b := odd_end (x := .tuple [.str "a", .int 0]) hA hl (by simp [imm, immA]) (by decide +kernel) (by decide +kernel)
  rcases e with rfl | rfl | rfl | rfl | rfl | rfl | rfl | rfl
  · exact ⟨_, rfl, by decide +kernel, by decide +kernel⟩
  · exact ⟨_, rfl, rfl, rfl⟩
  · exact ⟨_, rfl, rfl, rfl⟩
  · exact ⟨_, rfl, a.1, a.2⟩
  · exact ⟨_, rfl, by decide +kernel, by decide +kernel⟩
  · exact ⟨_, rfl, b.1, b.2⟩
  · exact ⟨_, rfl, rfl, rfl⟩
  · exact ⟨_, rfl, by decide +kernel, rfl⟩
section
variable {P : Program} {w : World} {K : PySem.W.Frag} {mg : Str → Option Value} {base : Heap}
theorem ok_law (Y : Mo K mg) {k : Nat} (G__law_is_fourth : FnOk P w K mg base CX0 k Y.f__law_is_fourth Y.d__law_is_fourth ["x", "y", "z", "t"] (spV ⟨P, w, K⟩ 4 (spR r__law_is_fourth))) (G__law_numbers : FnOk P w K mg base CX0 k Y.f__law_numbers Y.d__law_numbers ["script", "thing"] (spV ⟨P, w, K⟩ 2 (spA p__law_numbers r__law_numbers))) (G__law_pairs : FnOk P w K mg base CX0 k Y.f__law_pairs Y.d__law_pairs ["script", "base"] (spV ⟨P, w, K⟩ 2 (spA p__law_pairs r__law_pairs))) (G__law_refused : FnOk P w K mg base CX0 k Y.f__law_refused Y.d__law_refused ["thing"] (spV ⟨P, w, K⟩ 1 (spR r__law_refused))) (G__law_same : FnOk P w K mg base CX0 k Y.f__law_same Y.d__law_same ["found", "due"] (spV ⟨P, w, K⟩ 2 (spR r__law_same))) (G_is_fourth : FnOk P w K mg base CX0 k Y.f_is_fourth Y.d_is_fourth ["x", "y", "z", "t"] (spV ⟨P, w, K⟩ 4 (spR r_is_fourth))) (G_like_pairs : FnOk P w K mg base (L2.CX P w) k Y.f_like_pairs Y.d_like_pairs ["pairs"] (spX ⟨P, w, K⟩ 1 (spE r_like_pairs (e_like_pairs Y)))) : FnOk P w K mg base CX0 (k + 1) Y.f_law Y.d_law ["script"] (spV ⟨P, w, K⟩ 1 (spR r_law)) := by
  refine okV Y.F_law sc_law fun cdv A outer s₀ H E C hr => ⟨_, (vss_cons (vs_for PassesOwn.never rfl (vi_range1 (by rfl) Y.m_range vp_int) (vg_name 1 sc_law.nd rfl (by first | exact .inl rfl | exact .inr rfl | exact .inr (.inl rfl) | exact .inr (.inr rfl)))
      (vss_cons (vs_set 1 2 sc_law.nd rfl (by first | exact .inl rfl | exact .inr rfl | exact .inr (.inl rfl) | exact .inr (.inr rfl)) (vp_slc (vp_add (vp_call (ks := [.br, .br]) G__law_pairs mono_spA rfl hr (by rfl) Y.g__law_pairs Y.F__law_pairs.kp Y.b__law_pairs (va_cons (vp_name 0) (va_cons (vp_bin mono_mul od_mul vp_int (vp_name 1)) va_nil))) (vp_call (ks := [.br, .br]) G__law_pairs mono_spA rfl hr (by rfl) Y.g__law_pairs Y.F__law_pairs.kp Y.b__law_pairs (va_cons (vp_name 0) (va_cons (vp_add (vp_bin mono_mul od_mul vp_int (vp_name 1)) vp_int) va_nil)))) vo_none (vo_some vp_int)))
      (vss_cons (vs_set 1 3 sc_law.nd rfl (by first | exact .inl rfl | exact .inr rfl | exact .inr (.inl rfl) | exact .inr (.inr rfl)) (vp_lst (k := 0) va_nil))
      (vss_cons (vs_for PassesOwn.never rfl (vi_range1 (by rfl) Y.m_range (vp_fnB mono_len cd_len (by rfl) Y.m_len bb_len (vp_name 2))) (vg_name 4 sc_law.nd rfl (by first | exact .inl rfl | exact .inr rfl | exact .inr (.inl rfl) | exact .inr (.inr rfl)))
      (vss_one (vs_for PassesOwn.never rfl (vi_range2 (by rfl) Y.m_range (vp_add (vp_name 4) vp_int) (vp_fnB mono_len cd_len (by rfl) Y.m_len bb_len (vp_name 2))) (vg_name 5 sc_law.nd rfl (by first | exact .inl rfl | exact .inr rfl | exact .inr (.inl rfl) | exact .inr (.inr rfl)))
      (vss_cons (vs_unp (vp_ix (fun _ _ => rfl) (vp_name 2) (vp_name 4)) (vg_tup rfl (vgs_cons (vg_name 6 sc_law.nd rfl (by first | exact .inl rfl | exact .inr rfl | exact .inr (.inl rfl) | exact .inr (.inr rfl))) (vgs_cons (vg_name 7 sc_law.nd rfl (by first | exact .inl rfl | exact .inr rfl | exact .inr (.inl rfl) | exact .inr (.inr rfl))) vgs_nil)) rfl rfl (gsC_len (gsC_len gsN_len gN_ex) gN_ex)))
      (vss_cons (vs_unp (vp_ix (fun _ _ => rfl) (vp_name 2) (vp_name 5)) (vg_tup rfl (vgs_cons (vg_name 8 sc_law.nd rfl (by first | exact .inl rfl | exact .inr rfl | exact .inr (.inl rfl) | exact .inr (.inr rfl))) (vgs_cons (vg_name 9 sc_law.nd rfl (by first | exact .inl rfl | exact .inr rfl | exact .inr (.inl rfl) | exact .inr (.inr rfl))) vgs_nil)) rfl rfl (gsC_len (gsC_len gsN_len gN_ex) gN_ex)))
      (vss_cons (vs_set 0 10 sc_law.nd rfl (by first | exact .inl rfl | exact .inr rfl | exact .inr (.inl rfl) | exact .inr (.inr rfl)) (vp_call (ks := [.br, .br, .br, .br]) G__law_is_fourth mono_spR rfl hr (by rfl) Y.g__law_is_fourth Y.F__law_is_fourth.kp Y.b__law_is_fourth (va_cons (vp_name 6) (va_cons (vp_name 7) (va_cons (vp_name 8) (va_cons (vp_name 9) va_nil))))))
      (vss_cons (vs_if (vt_not (vt_tru (vp_call (ks := [.br, .br]) G__law_same mono_spR rfl hr (by rfl) Y.g__law_same Y.F__law_same.kp Y.b__law_same (va_cons (vp_call (ks := [.br, .br, .br, .br]) G_is_fourth mono_spR rfl hr (by rfl) Y.g_is_fourth Y.F_is_fourth.kp Y.b_is_fourth (va_cons (vp_name 6) (va_cons (vp_name 7) (va_cons (vp_name 8) (va_cons (vp_name 9) va_nil))))) (va_cons (vp_name 10) va_nil))) (fun _ => rfl))) (vss_one (vs_ret vp_bl)) vss_nil)
      (vss_one (vs_if (vt_tru (vp_name 10) (fun _ => rfl)) (vss_one (vs_app (i := 3) (ha := (vp_tup (va_cons (vp_name 4) (va_cons (vp_name 5) va_nil)))))) vss_nil)))))))))
      (vss_cons (vs_if (vt_not (vt_tru (vp_call (ks := [.br, .br]) G__law_same mono_spR rfl hr (by rfl) Y.g__law_same Y.F__law_same.kp Y.b__law_same (va_cons (vp_callN (ks := [.br]) G_like_pairs mono_spE rfl hr (by rfl) Y.g_like_pairs Y.F_like_pairs.kp Y.b_like_pairs (va_cons (vp_tupOf (by rfl) Y.m_tuple bb_tuple (vp_name 2)) va_nil)) (va_cons (vp_tupOf (by rfl) Y.m_tuple bb_tuple (vp_name 3)) va_nil))) (fun _ => rfl))) (vss_one (vs_ret vp_bl)) vss_nil)
      (vss_cons (vs_set 1 11 sc_law.nd rfl (by first | exact .inl rfl | exact .inr rfl | exact .inr (.inl rfl) | exact .inr (.inr rfl)) (vp_call (ks := [.br, .br]) G__law_numbers mono_spA rfl hr (by rfl) Y.g__law_numbers Y.F__law_numbers.kp Y.b__law_numbers (va_cons (vp_name 0) (va_cons (vp_add (vp_bin mono_mul od_mul vp_int (vp_name 1)) vp_int) va_nil))))
      (vss_cons (vs_set 0 12 sc_law.nd rfl (by first | exact .inl rfl | exact .inr rfl | exact .inr (.inl rfl) | exact .inr (.inr rfl)) (vp_tupOf (by rfl) Y.m_tuple bb_tuple (vp_slc (vp_name 2) vo_none (vo_some vp_int))))
      (vss_fr 2 (vss_cons (vs_set 1 13 sc_law.nd rfl (by first | exact .inl rfl | exact .inr rfl | exact .inr (.inl rfl) | exact .inr (.inr rfl)) (vp_lst (k := 0) (va_cons (vp_tup va_nil) (va_cons (vp_name 2) (va_cons vp_non (va_cons (vp_add (vp_name 12) (vp_tup (va_cons vp_str va_nil))) (va_cons (vp_mulT (vp_tup (va_cons (vp_tup (va_cons vp_str (va_cons vp_str va_nil))) va_nil)) vp_int) (va_cons (vp_add (vp_name 12) (vp_tup (va_cons (vp_tup (va_cons vp_str (va_cons vp_int va_nil))) va_nil))) (va_cons vp_int (va_cons vp_str va_nil))))))))))
      (vss_one (vs_if (vt_not (vt_tru (vp_call (ks := [.br]) G__law_refused mono_spR rfl hr (by rfl) Y.g__law_refused Y.F__law_refused.kp Y.b__law_refused (va_cons (vp_ix1 13 (fun _ _ => rfl) (vp_bin mono_mod od_mod (vp_ix (fun _ _ => rfl) (vp_name 11) vp_int) vp_int)) va_nil)) (fun _ => rfl))) (vss_one (vs_ret vp_bl)) vss_nil)))))))))))
      (vss_one (vs_ret vp_bl))), fun ss R hl h => ?_⟩
  obtain ⟨_, ⟨ks, rfl, hks, rfl⟩, h⟩ := h
  let S : Sl := .own 0 (.list (ks.map PyData.int))
  have big : ∀ n : Nat, n ≤ 1000 → n ≤ sizeLine := fun n h => Nat.le_trans h (by decide)
  refine ⟨⟨by decide, by decide⟩, fun n Γ => ∃ a b c d e f g u v o p q s, Γ = [S, a, b, c, d, e, f, g, u, v, o, p, q, s], ⟨_, _, _, _, _, _, _, _, _, _, _, _, _, rfl⟩, fun n d0 Γ' hd0 hI => ?_, fun Γ' hI => ?_⟩
  rotate_left
  · obtain ⟨a, b, c, d, e, f, g, u, v, o, p, q, s, rfl⟩ := hI
    exact h
  obtain ⟨a, b, c, d, e, f, g, u, v, o, p, q, s, rfl⟩ := hI
  have hn := (List.getElem?_eq_some_iff.mp hd0).1
  rw [rngD_len] at hn
  rw [rngD_get hn] at hd0
  have ed := (Option.some.inj hd0).symm
  subst ed
  have hn4 : n < 4 := hn
  have k0 : (5 : Int) * (0 + (n : Nat) * 1) = ((5 * n : Nat) : Int) := by omega
  have k2 : (5 : Int) * (0 + (n : Nat) * 1) + 2 = ((5 * n + 2 : Nat) : Int) := by omega
  have k4 : (5 : Int) * (0 + (n : Nat) * 1) + 4 = ((5 * n + 4 : Nat) : Int) := by omega
  refine ⟨by show 1 < 14; decide, .inl ⟨by decide, by decide⟩, rfl, ⟨ks, 5 * n, by show [Sl.bor _, Sl.bor (PyData.int (5 * (0 + (n : Nat) * 1)))] = _; rw [k0]⟩, fun r1 ⟨ps1, e1, l1, l6, hk1⟩ => ?_⟩
  subst e1
  refine ⟨.inl ⟨by decide, by decide⟩, rfl, ⟨ks, 5 * n + 2, by show [Sl.bor _, Sl.bor (PyData.int (5 * (0 + (n : Nat) * 1) + 2))] = _; rw [k2]⟩, fun r2 ⟨ps2, e2, m1, m6, hk2⟩ => ?_⟩
  subst e2
  obtain ⟨ps, hps⟩ : ∃ ps, (ps1 ++ ps2).take 8 = ps := ⟨_, rfl⟩
  have eps : cutD (ps1.map pr ++ ps2.map pr) none (some 8) = ps.map pr := by
    rw [show (some (8 : Int)) = some ((8 : Nat) : Int) from rfl, cutD_take, ← List.map_append, ← List.map_take, hps]
  have len1 : 1 ≤ ps.length := by rw [← hps]; simp; omega
  have len8 : ps.length ≤ 8 := by rw [← hps]; simp; omega
  have hok : ∀ p ∈ ps, okV5 p := fun p hp => by
    rw [← hps] at hp
    exact (List.mem_append.mp (List.mem_of_mem_take hp)).elim (hk1 p) (hk2 p)
  refine ⟨by rw [List.length_map, List.length_map]; exact big _ (by omega), trivial, trivial, trivial, by show 2 < 14; decide, .inr (Nat.le_refl _), ?_⟩
  rw [eps]
  refine ⟨Nat.zero_le _, by show 3 < 14; decide, .inr (Nat.le_refl _), ?_⟩
  let G : List D → Sl → Sl → Sl → Sl → Sl → Sl → Sl → List Sl := fun due i j x y z t w => [S, .own 0 (.int (0 + (n : Nat) * 1)), .own 1 (.list (ps.map pr)), .own 1 (.list due), i, j, x, y, z, t, w, p, q, s]
  have b64 : ∀ m n : Nat, m ≤ 8 → n ≤ 8 → (likeD ps m).length + n < sizeLine := fun m n hm hn => by
    have a := likeD_len (ps := ps) (m := m)
    have b : m * ps.length ≤ 8 * 8 := Nat.mul_le_mul hm len8
    exact Nat.lt_of_le_of_lt (show (likeD ps m).length + n ≤ 100 by omega) (by decide)
  have gt : ∀ {j : Nat} {p : WP}, ps[j]? = some p → (ps.map pr)[j]? = some (pr p) := fun {j p} e => by rw [List.getElem?_map, e]; rfl
  have bl : B62 (((ps.map pr).length : Nat) : Int) := by rw [List.length_map]; exact ⟨by omega, by omega⟩
  refine ⟨rfl, bl, fun i Γ => ∃ i' j' x y z t w, Γ = G (likeD ps i) i' j' x y z t w, ⟨_, _, _, _, _, _, _, rfl⟩, fun i d1 Γ' hd1 hI => ?_, fun Γ' hI => ?_⟩
  · obtain ⟨i', j', x, y, z, t, w, rfl⟩ := hI
    have hi := (List.getElem?_eq_some_iff.mp hd1).1
    rw [rngD_len] at hi
    rw [rngD_get hi] at hd1
    have ed := (Option.some.inj hd1).symm
    subst ed
    rw [List.length_map] at hi
    have hi : i < ps.length := by omega
    have e0 : (0 : Int) + (i : Nat) * 1 = (i : Int) := by omega
    rw [e0]
    obtain ⟨pp, hp⟩ : ∃ pp, ps[i]? = some pp := ⟨_, List.getElem?_eq_getElem hi⟩
    have ok1 := hok pp (List.mem_of_getElem? hp)
    obtain ⟨o1, o2, o3, o4⟩ := ok1
    refine ⟨by show 4 < 14; decide, rfl, ⟨by show -(2 ^ 62) ≤ (i : Int) + 1; omega, by show (i : Int) + 1 < 2 ^ 62; omega⟩, bl, fun m Γ => ∃ j' x y z t w, Γ = G (likeD ps i ++ likeRow ps i m) (.own 0 (.int (i : Nat))) j' x y z t w, ⟨j', x, y, z, t, w, ?_⟩, fun m d2 Γ' hd2 hI => ?_, fun Γ' hI => ?_⟩
    · show _ = G _ _ _ _ _ _ _ _
      rw [show likeRow ps i 0 = [] from rfl, List.append_nil]
      rfl
    · obtain ⟨j', x, y, z, t, w, rfl⟩ := hI
      have hm := (List.getElem?_eq_some_iff.mp hd2).1
      rw [rngD_len, List.length_map] at hm
      have hm2 : i + 1 + m < ps.length := by omega
      rw [rngD_get (by rw [List.length_map]; omega)] at hd2
      have e2 := Option.some.inj hd2
      have e3 : d2 = .int ((i + 1 + m : Nat) : Int) := by
        rw [← e2]
        show PyData.int _ = _
        congr 1; omega
      subst e3
      obtain ⟨qq, hq'⟩ : ∃ q, ps[i + 1 + m]? = some q := ⟨ps[i + 1 + m], List.getElem?_eq_getElem hm2⟩
      obtain ⟨u1, u2, u3, u4⟩ := hok qq (List.mem_of_getElem? hq')
      have ht : tst ps i (i + 1 + m) = fourthB pp.1 pp.2 qq.1 qq.2 := by
        unfold tst; rw [hp, hq']
      refine ⟨by show 5 < 14; decide, pr pp, atI_of (gt hp), pr_imm, by show 6 < 14; decide, by show 7 < 14; decide, pr qq, atI_of (gt hq'), pr_imm, by show 8 < 14; decide, by show 9 < 14; decide, _, ⟨pp.1, pp.2, qq.1, qq.2, rfl, ⟨by omega, by omega, by omega, by omega⟩, rfl⟩, by show 10 < 14; decide, trivial, ?_⟩
      refine ⟨_, ⟨pp.1, pp.2, qq.1, qq.2, rfl, ⟨by omega, by omega, by omega, by omega⟩, ⟨o3, o4, u3, u4⟩, rfl⟩, _, same_bool _, fun e => noFT e, fun _ => ⟨fun e => ?_, fun e => ?_⟩⟩
      · have lr := likeRow_len (ps := ps) (i := i) (m := m)
        have := b64 i m (by omega) (by omega)
        refine ⟨trivial, trivial, by show 2 ≤ sizeLine; decide, trivial, ?_, .own 0 (.int ((i + 1 + m : Nat) : Int)), .own 0 (wd pp.1), .own 0 (wd pp.2), .own 0 (wd qq.1), .own 0 (wd qq.2), .own 0 (.bool (fourthB pp.1 pp.2 qq.1 qq.2)), ?_⟩
        · rw [List.length_append]; omega
        · show _ = G _ _ _ _ _ _ _ _
          rw [likeRow_succ, ht, e, if_pos rfl, ← List.append_assoc]
          rfl
      · refine ⟨.own 0 (.int ((i + 1 + m : Nat) : Int)), .own 0 (wd pp.1), .own 0 (wd pp.2), .own 0 (wd qq.1), .own 0 (wd qq.2), .own 0 (.bool (fourthB pp.1 pp.2 qq.1 qq.2)), ?_⟩
        show _ = G _ _ _ _ _ _ _ _
        rw [likeRow_succ, ht, e, if_neg (by decide), List.append_nil]
        rfl
    · obtain ⟨j', x, y, z, t, w, rfl⟩ := hI
      refine ⟨.own 0 (.int (i : Nat)), j', x, y, z, t, w, ?_⟩
      rw [likeD_succ, rngD_len, List.length_map]
      have e : ((ps.length : Int) - ((i : Int) + 1)).toNat = ps.length - (i + 1) := by omega
      rw [e]
  · obtain ⟨i', j', x, y, z, t, w, rfl⟩ := hI
    have eD : likeD ps (rngD 0 1 ((((ps.map pr).length : Nat) : Int)).toNat).length = likeD ps ps.length := by rw [rngD_len, List.length_map]; rfl
    rw [eD]
    have hokW : ∀ p ∈ ps, okW p := fun p hp => okW5 (hok p hp)
    refine ⟨prs_imm, .inl ⟨_, ⟨ps, rfl, ⟨len1, len8⟩, hokW, rfl⟩, likeD_imm, _, same_like ps ps.length len8 len8, fun e => noFT e, fun _ => ?_⟩⟩
    refine ⟨.inl ⟨by decide, by decide⟩, rfl, ⟨ks, 5 * n + 4, by show [Sl.bor _, Sl.bor (PyData.int (5 * (0 + (n : Nat) * 1) + 4))] = _; rw [k4]⟩, fun r3 ⟨xs, e3, x40, hxs⟩ => ?_⟩
    subst e3
    refine ⟨by show 11 < 14; decide, .inr (Nat.le_refl _), prs_imm, trivial, by show 12 < 14; decide, trivial, ?_⟩
    rw [show cutD (ps.map pr) none (some 7) = (ps.take 7).map pr by rw [show (some (7 : Int)) = some ((7 : Nat) : Int) from rfl, cutD_take, List.map_take]]
    have hA : ∀ p ∈ ps.take 7, okW p := fun p hp => hokW p (List.mem_of_mem_take hp)
    have lA : (ps.take 7).length ≤ 7 := by simp; omega
    have lA2 : ((ps.take 7).map pr).length + 1 ≤ sizeLine := by rw [List.length_map]; exact big _ (by omega)
    refine ⟨Nat.zero_le _, trivial, by show 1 ≤ sizeLine; decide, lA2, trivial, trivial, trivial, trivial, by show 2 ≤ sizeLine; decide, trivial, by show 1 ≤ sizeLine; decide, trivial, by simp, by decide, by decide, by decide, trivial, trivial, by show 2 ≤ sizeLine; decide, trivial, by show 1 ≤ sizeLine; decide, lA2, trivial, trivial, trivial, trivial, trivial, trivial, trivial, trivial, trivial, trivial, by show 8 ≤ sizeLine; decide, by show 13 < 14; decide, .inr (Nat.le_refl _), ?_⟩
    obtain ⟨x0, hx0⟩ : ∃ x, xs[0]? = some x := ⟨_, List.getElem?_eq_getElem (by omega)⟩
    have m8 := mbd x0 8 (by decide)
    have q8 : (0 : Int) < 8 := by decide
    obtain ⟨dd, d1, d2, d3⟩ := odd_at (ps := ps) hA (by omega) (x0 % 8) m8.1 m8.2
    exact ⟨.int x0, atI_of (i := 0) (int_at hx0), q8, rfl, dd, d1, _, ⟨dd, rfl, d2, d3, rfl⟩, fun e => noFT e, fun _ => ⟨_, _, _, _, _, _, _, _, _, _, _, _, _, rfl⟩⟩
end
end K84
namespace K84
open PySem PySem.Spec PyProof.Rows L2 VL
theorem exmOwn {K : PySem.W.Frag} {S : Addr} (h1 : PySem.W.subIn K (.ref S) (.type "BaseException") = some true) (h2 : PySem.W.isClsIn K S = true) (h3 : PySem.W.typeIn K (.ref S) = some (.type "type")) (h4 : PySem.W.subIn K (.ref S) (.ref S) = some true) : PySem.W.exmOne K (.ref S) (.ref S) = some true := by
  have c : (PySem.W.clsIn K S).isSome = true := h2
  unfold PySem.W.exmOne PySem.W.kitCls
  simp [h1, h3, c, h4]
theorem law_end {M : Md} {H : Hp} {a : Addr} {ns : List Int} (hl : ns.length ≤ 63) (hS : SqL M.K H a (ns.map V.int)) : spV M 1 (spR r_law) [.ref a] H (fun v _ => v = .bl true) fun _ _ _ => False := by
  refine ⟨⟨H, fun _ => True, fun _ => False⟩, [.own 0 (.list (ns.map PyData.int))], rfl, fun _ h => h.elim, .fz ⟨a, _, rfl, .inl ⟨trivial, fun h => h⟩, hS, ints_rpA ns⟩ .nil, rfl, _, ⟨ns, rfl, hl, rfl⟩, fun k d v H' F e res => ?_⟩
  cases e
  exact res.sl.2
theorem all_mk {l : PySem.W.OpenLaw} {w : World} {K : PySem.W.Frag} {h : Heap} {mg : Str → Option Value} {fa : Addr} (X : K.In h) (G : h.Ns mainGlobals mg) (hfa : mg "law" = some (.ref fa))
    (z_all : PySem.W.nsIn K mainGlobals "all" = some none)
    (z_bool : PySem.W.nsIn K mainGlobals "bool" = some none)
    (z_enumerate : PySem.W.nsIn K mainGlobals "enumerate" = some none)
    (z_int : PySem.W.nsIn K mainGlobals "int" = some none)
    (z_isinstance : PySem.W.nsIn K mainGlobals "isinstance" = some none)
    (z_len : PySem.W.nsIn K mainGlobals "len" = some none)
    (z_range : PySem.W.nsIn K mainGlobals "range" = some none)
    (z_set : PySem.W.nsIn K mainGlobals "set" = some none)
    (z_sorted : PySem.W.nsIn K mainGlobals "sorted" = some none)
    (z_str : PySem.W.nsIn K mainGlobals "str" = some none)
    (z_tuple : PySem.W.nsIn K mainGlobals "tuple" = some none)
    {v_LETTERS : Tok} (c_LETTERS : PySem.W.nsIn K mainGlobals "LETTERS" = some (some (.str (Str.ofString "abcdefghijklmnopqrstuvwxyz") v_LETTERS)))
    {v_MOST_PAIRS : Tok} (c_MOST_PAIRS : PySem.W.nsIn K mainGlobals "MOST_PAIRS" = some (some (.int 8 v_MOST_PAIRS)))
    {f_NoPairs : Addr} (a_NoPairs : PySem.W.nsIn K mainGlobals "NoPairs" = some (some (.ref f_NoPairs))) (x_NoPairs : PySem.W.excIn K f_NoPairs [.type "ValueError", .type "Exception", .type "BaseException", .type "object"] "ValueError.__new__" = true) (k_NoPairs : PySem.W.keepIn K (.ref f_NoPairs) = true) (s_NoPairs : PySem.W.subIn K (.ref f_NoPairs) (.type "BaseException") = some true) (t_NoPairs : PySem.W.typeIn K (.ref f_NoPairs) = some (.type "type")) (i_NoPairs : PySem.W.isClsIn K f_NoPairs = true) (u_NoPairs : PySem.W.subIn K (.ref f_NoPairs) (.ref f_NoPairs) = some true)
    {f_is_tuple : Addr} {od_is_tuple an_is_tuple : Option Addr} {sl_is_tuple : Array (Option Value)} {oc_is_tuple kV_is_tuple dc_is_tuple pm_is_tuple cd_is_tuple ct_is_tuple : Value} (a_is_tuple : PySem.W.nsIn K mainGlobals "is_tuple" = some (some (.ref f_is_tuple))) (l_is_tuple : K.lookup f_is_tuple = some ⟨oc_is_tuple, od_is_tuple, .func (PySem.W.fnOf "is_tuple" "is_tuple" (defArgs s_is_tuple) (defBody s_is_tuple) (defScope s_is_tuple) .none kV_is_tuple dc_is_tuple pm_is_tuple an_is_tuple cd_is_tuple ct_is_tuple), sl_is_tuple⟩) (c_is_tuple : PySem.W.codeIn K cd_is_tuple "is_tuple" = true) (k_is_tuple : PySem.W.keepIn K (.ref f_is_tuple) = true)
    {f_is_word : Addr} {od_is_word an_is_word : Option Addr} {sl_is_word : Array (Option Value)} {oc_is_word kV_is_word dc_is_word pm_is_word cd_is_word ct_is_word : Value} (a_is_word : PySem.W.nsIn K mainGlobals "is_word" = some (some (.ref f_is_word))) (l_is_word : K.lookup f_is_word = some ⟨oc_is_word, od_is_word, .func (PySem.W.fnOf "is_word" "is_word" (defArgs s_is_word) (defBody s_is_word) (defScope s_is_word) .none kV_is_word dc_is_word pm_is_word an_is_word cd_is_word ct_is_word), sl_is_word⟩) (c_is_word : PySem.W.codeIn K cd_is_word "is_word" = true) (k_is_word : PySem.W.keepIn K (.ref f_is_word) = true)
    {f_letter_at : Addr} {od_letter_at an_letter_at : Option Addr} {sl_letter_at : Array (Option Value)} {oc_letter_at kV_letter_at dc_letter_at pm_letter_at cd_letter_at ct_letter_at : Value} (a_letter_at : PySem.W.nsIn K mainGlobals "letter_at" = some (some (.ref f_letter_at))) (l_letter_at : K.lookup f_letter_at = some ⟨oc_letter_at, od_letter_at, .func (PySem.W.fnOf "letter_at" "letter_at" (defArgs s_letter_at) (defBody s_letter_at) (defScope s_letter_at) .none kV_letter_at dc_letter_at pm_letter_at an_letter_at cd_letter_at ct_letter_at), sl_letter_at⟩) (c_letter_at : PySem.W.codeIn K cd_letter_at "letter_at" = true) (k_letter_at : PySem.W.keepIn K (.ref f_letter_at) = true)
    {f__law_numbers : Addr} {od__law_numbers an__law_numbers : Option Addr} {sl__law_numbers : Array (Option Value)} {oc__law_numbers kV__law_numbers dc__law_numbers pm__law_numbers cd__law_numbers ct__law_numbers : Value} (a__law_numbers : PySem.W.nsIn K mainGlobals "_law_numbers" = some (some (.ref f__law_numbers))) (l__law_numbers : K.lookup f__law_numbers = some ⟨oc__law_numbers, od__law_numbers, .func (PySem.W.fnOf "_law_numbers" "_law_numbers" (defArgs s__law_numbers) (defBody s__law_numbers) (defScope s__law_numbers) .none kV__law_numbers dc__law_numbers pm__law_numbers an__law_numbers cd__law_numbers ct__law_numbers), sl__law_numbers⟩) (c__law_numbers : PySem.W.codeIn K cd__law_numbers "_law_numbers" = true) (k__law_numbers : PySem.W.keepIn K (.ref f__law_numbers) = true)
    {f__law_letters : Addr} {od__law_letters an__law_letters : Option Addr} {sl__law_letters : Array (Option Value)} {oc__law_letters kV__law_letters dc__law_letters pm__law_letters cd__law_letters ct__law_letters : Value} (a__law_letters : PySem.W.nsIn K mainGlobals "_law_letters" = some (some (.ref f__law_letters))) (l__law_letters : K.lookup f__law_letters = some ⟨oc__law_letters, od__law_letters, .func (PySem.W.fnOf "_law_letters" "_law_letters" (defArgs s__law_letters) (defBody s__law_letters) (defScope s__law_letters) .none kV__law_letters dc__law_letters pm__law_letters an__law_letters cd__law_letters ct__law_letters), sl__law_letters⟩) (c__law_letters : PySem.W.codeIn K cd__law_letters "_law_letters" = true) (k__law_letters : PySem.W.keepIn K (.ref f__law_letters) = true)
    {f__law_word : Addr} {od__law_word an__law_word : Option Addr} {sl__law_word : Array (Option Value)} {oc__law_word kV__law_word dc__law_word pm__law_word cd__law_word ct__law_word : Value} (a__law_word : PySem.W.nsIn K mainGlobals "_law_word" = some (some (.ref f__law_word))) (l__law_word : K.lookup f__law_word = some ⟨oc__law_word, od__law_word, .func (PySem.W.fnOf "_law_word" "_law_word" (defArgs s__law_word) (defBody s__law_word) (defScope s__law_word) .none kV__law_word dc__law_word pm__law_word an__law_word cd__law_word ct__law_word), sl__law_word⟩) (c__law_word : PySem.W.codeIn K cd__law_word "_law_word" = true) (k__law_word : PySem.W.keepIn K (.ref f__law_word) = true)
    {f__law_is_fourth : Addr} {od__law_is_fourth an__law_is_fourth : Option Addr} {sl__law_is_fourth : Array (Option Value)} {oc__law_is_fourth kV__law_is_fourth dc__law_is_fourth pm__law_is_fourth cd__law_is_fourth ct__law_is_fourth : Value} (a__law_is_fourth : PySem.W.nsIn K mainGlobals "_law_is_fourth" = some (some (.ref f__law_is_fourth))) (l__law_is_fourth : K.lookup f__law_is_fourth = some ⟨oc__law_is_fourth, od__law_is_fourth, .func (PySem.W.fnOf "_law_is_fourth" "_law_is_fourth" (defArgs s__law_is_fourth) (defBody s__law_is_fourth) (defScope s__law_is_fourth) .none kV__law_is_fourth dc__law_is_fourth pm__law_is_fourth an__law_is_fourth cd__law_is_fourth ct__law_is_fourth), sl__law_is_fourth⟩) (c__law_is_fourth : PySem.W.codeIn K cd__law_is_fourth "_law_is_fourth" = true) (k__law_is_fourth : PySem.W.keepIn K (.ref f__law_is_fourth) = true)
    {f__law_same : Addr} {od__law_same an__law_same : Option Addr} {sl__law_same : Array (Option Value)} {oc__law_same kV__law_same dc__law_same pm__law_same cd__law_same ct__law_same : Value} (a__law_same : PySem.W.nsIn K mainGlobals "_law_same" = some (some (.ref f__law_same))) (l__law_same : K.lookup f__law_same = some ⟨oc__law_same, od__law_same, .func (PySem.W.fnOf "_law_same" "_law_same" (defArgs s__law_same) (defBody s__law_same) (defScope s__law_same) .none kV__law_same dc__law_same pm__law_same an__law_same cd__law_same ct__law_same), sl__law_same⟩) (c__law_same : PySem.W.codeIn K cd__law_same "_law_same" = true) (k__law_same : PySem.W.keepIn K (.ref f__law_same) = true)
    {f_check_words : Addr} {od_check_words an_check_words : Option Addr} {sl_check_words : Array (Option Value)} {oc_check_words kV_check_words dc_check_words pm_check_words cd_check_words ct_check_words : Value} (a_check_words : PySem.W.nsIn K mainGlobals "check_words" = some (some (.ref f_check_words))) (l_check_words : K.lookup f_check_words = some ⟨oc_check_words, od_check_words, .func (PySem.W.fnOf "check_words" "check_words" (defArgs s_check_words) (defBody s_check_words) (defScope s_check_words) .none kV_check_words dc_check_words pm_check_words an_check_words cd_check_words ct_check_words), sl_check_words⟩) (c_check_words : PySem.W.codeIn K cd_check_words "check_words" = true) (k_check_words : PySem.W.keepIn K (.ref f_check_words) = true)
    {f_raw_moves : Addr} {od_raw_moves an_raw_moves : Option Addr} {sl_raw_moves : Array (Option Value)} {oc_raw_moves kV_raw_moves dc_raw_moves pm_raw_moves cd_raw_moves ct_raw_moves : Value} (a_raw_moves : PySem.W.nsIn K mainGlobals "raw_moves" = some (some (.ref f_raw_moves))) (l_raw_moves : K.lookup f_raw_moves = some ⟨oc_raw_moves, od_raw_moves, .func (PySem.W.fnOf "raw_moves" "raw_moves" (defArgs s_raw_moves) (defBody s_raw_moves) (defScope s_raw_moves) .none kV_raw_moves dc_raw_moves pm_raw_moves an_raw_moves cd_raw_moves ct_raw_moves), sl_raw_moves⟩) (c_raw_moves : PySem.W.codeIn K cd_raw_moves "raw_moves" = true) (k_raw_moves : PySem.W.keepIn K (.ref f_raw_moves) = true)
    {f_is_pair : Addr} {od_is_pair an_is_pair : Option Addr} {sl_is_pair : Array (Option Value)} {oc_is_pair kV_is_pair dc_is_pair pm_is_pair cd_is_pair ct_is_pair : Value} (a_is_pair : PySem.W.nsIn K mainGlobals "is_pair" = some (some (.ref f_is_pair))) (l_is_pair : K.lookup f_is_pair = some ⟨oc_is_pair, od_is_pair, .func (PySem.W.fnOf "is_pair" "is_pair" (defArgs s_is_pair) (defBody s_is_pair) (defScope s_is_pair) .none kV_is_pair dc_is_pair pm_is_pair an_is_pair cd_is_pair ct_is_pair), sl_is_pair⟩) (c_is_pair : PySem.W.codeIn K cd_is_pair "is_pair" = true) (k_is_pair : PySem.W.keepIn K (.ref f_is_pair) = true)
    {f__law_pairs : Addr} {od__law_pairs an__law_pairs : Option Addr} {sl__law_pairs : Array (Option Value)} {oc__law_pairs kV__law_pairs dc__law_pairs pm__law_pairs cd__law_pairs ct__law_pairs : Value} (a__law_pairs : PySem.W.nsIn K mainGlobals "_law_pairs" = some (some (.ref f__law_pairs))) (l__law_pairs : K.lookup f__law_pairs = some ⟨oc__law_pairs, od__law_pairs, .func (PySem.W.fnOf "_law_pairs" "_law_pairs" (defArgs s__law_pairs) (defBody s__law_pairs) (defScope s__law_pairs) .none kV__law_pairs dc__law_pairs pm__law_pairs an__law_pairs cd__law_pairs ct__law_pairs), sl__law_pairs⟩) (c__law_pairs : PySem.W.codeIn K cd__law_pairs "_law_pairs" = true) (k__law_pairs : PySem.W.keepIn K (.ref f__law_pairs) = true)
    {f_raw_is_fourth : Addr} {od_raw_is_fourth an_raw_is_fourth : Option Addr} {sl_raw_is_fourth : Array (Option Value)} {oc_raw_is_fourth kV_raw_is_fourth dc_raw_is_fourth pm_raw_is_fourth cd_raw_is_fourth ct_raw_is_fourth : Value} (a_raw_is_fourth : PySem.W.nsIn K mainGlobals "raw_is_fourth" = some (some (.ref f_raw_is_fourth))) (l_raw_is_fourth : K.lookup f_raw_is_fourth = some ⟨oc_raw_is_fourth, od_raw_is_fourth, .func (PySem.W.fnOf "raw_is_fourth" "raw_is_fourth" (defArgs s_raw_is_fourth) (defBody s_raw_is_fourth) (defScope s_raw_is_fourth) .none kV_raw_is_fourth dc_raw_is_fourth pm_raw_is_fourth an_raw_is_fourth cd_raw_is_fourth ct_raw_is_fourth), sl_raw_is_fourth⟩) (c_raw_is_fourth : PySem.W.codeIn K cd_raw_is_fourth "raw_is_fourth" = true) (k_raw_is_fourth : PySem.W.keepIn K (.ref f_raw_is_fourth) = true)
    {f_check_pairs : Addr} {od_check_pairs an_check_pairs : Option Addr} {sl_check_pairs : Array (Option Value)} {oc_check_pairs kV_check_pairs dc_check_pairs pm_check_pairs cd_check_pairs ct_check_pairs : Value} (a_check_pairs : PySem.W.nsIn K mainGlobals "check_pairs" = some (some (.ref f_check_pairs))) (l_check_pairs : K.lookup f_check_pairs = some ⟨oc_check_pairs, od_check_pairs, .func (PySem.W.fnOf "check_pairs" "check_pairs" (defArgs s_check_pairs) (defBody s_check_pairs) (defScope s_check_pairs) .none kV_check_pairs dc_check_pairs pm_check_pairs an_check_pairs cd_check_pairs ct_check_pairs), sl_check_pairs⟩) (c_check_pairs : PySem.W.codeIn K cd_check_pairs "check_pairs" = true) (k_check_pairs : PySem.W.keepIn K (.ref f_check_pairs) = true)
    {f_is_fourth : Addr} {od_is_fourth an_is_fourth : Option Addr} {sl_is_fourth : Array (Option Value)} {oc_is_fourth kV_is_fourth dc_is_fourth pm_is_fourth cd_is_fourth ct_is_fourth : Value} (a_is_fourth : PySem.W.nsIn K mainGlobals "is_fourth" = some (some (.ref f_is_fourth))) (l_is_fourth : K.lookup f_is_fourth = some ⟨oc_is_fourth, od_is_fourth, .func (PySem.W.fnOf "is_fourth" "is_fourth" (defArgs s_is_fourth) (defBody s_is_fourth) (defScope s_is_fourth) .none kV_is_fourth dc_is_fourth pm_is_fourth an_is_fourth cd_is_fourth ct_is_fourth), sl_is_fourth⟩) (c_is_fourth : PySem.W.codeIn K cd_is_fourth "is_fourth" = true) (k_is_fourth : PySem.W.keepIn K (.ref f_is_fourth) = true)
    {f_like_pairs : Addr} {od_like_pairs an_like_pairs : Option Addr} {sl_like_pairs : Array (Option Value)} {oc_like_pairs kV_like_pairs dc_like_pairs pm_like_pairs cd_like_pairs ct_like_pairs : Value} (a_like_pairs : PySem.W.nsIn K mainGlobals "like_pairs" = some (some (.ref f_like_pairs))) (l_like_pairs : K.lookup f_like_pairs = some ⟨oc_like_pairs, od_like_pairs, .func (PySem.W.fnOf "like_pairs" "like_pairs" (defArgs s_like_pairs) (defBody s_like_pairs) (defScope s_like_pairs) .none kV_like_pairs dc_like_pairs pm_like_pairs an_like_pairs cd_like_pairs ct_like_pairs), sl_like_pairs⟩) (c_like_pairs : PySem.W.codeIn K cd_like_pairs "like_pairs" = true) (k_like_pairs : PySem.W.keepIn K (.ref f_like_pairs) = true)
    {f__law_refused : Addr} {od__law_refused an__law_refused : Option Addr} {sl__law_refused : Array (Option Value)} {oc__law_refused kV__law_refused dc__law_refused pm__law_refused cd__law_refused ct__law_refused : Value} (a__law_refused : PySem.W.nsIn K mainGlobals "_law_refused" = some (some (.ref f__law_refused))) (l__law_refused : K.lookup f__law_refused = some ⟨oc__law_refused, od__law_refused, .func (PySem.W.fnOf "_law_refused" "_law_refused" (defArgs s__law_refused) (defBody s__law_refused) (defScope s__law_refused) .none kV__law_refused dc__law_refused pm__law_refused an__law_refused cd__law_refused ct__law_refused), sl__law_refused⟩) (c__law_refused : PySem.W.codeIn K cd__law_refused "_law_refused" = true) (k__law_refused : PySem.W.keepIn K (.ref f__law_refused) = true)
    {f_law : Addr} {od_law an_law : Option Addr} {sl_law : Array (Option Value)} {oc_law kV_law dc_law pm_law cd_law ct_law : Value} (a_law : PySem.W.nsIn K mainGlobals "law" = some (some (.ref f_law))) (l_law : K.lookup f_law = some ⟨oc_law, od_law, .func (PySem.W.fnOf "law" "law" (defArgs s_law) (defBody s_law) (defScope s_law) .none kV_law dc_law pm_law an_law cd_law ct_law), sl_law⟩) (c_law : PySem.W.codeIn K cd_law "law" = true) (k_law : PySem.W.keepIn K (.ref f_law) = true)
    : ∃ fd : FuncData, (∀ (s : Shared) (v : Value), BindsTo s fd ⟨[v], []⟩ [("script", v)]) ∧ ∀ base : Heap, K.In base → base.Ns mainGlobals mg → FnOk l.prog w K mg base CX0 6 fa fd ["script"] (spV ⟨l.prog, w, K⟩ 1 (spR r_law)) := by
  have e := hfa.symm.trans (PySem.W.mg_of X G a_law)
  cases e
  have F_is_tuple := fun_mk (st := s_is_tuple) l_is_tuple c_is_tuple k_is_tuple
  have b_is_tuple := F_is_tuple.binds (ps := ["thing", "least", "most"]) fun _ _ _ _ _ _ us hl => match us, hl with | [_, _, _], _ => rfl
  have F_is_word := fun_mk (st := s_is_word) l_is_word c_is_word k_is_word
  have b_is_word := F_is_word.binds (ps := ["thing"]) fun _ _ _ _ _ _ us hl => match us, hl with | [_], _ => rfl
  have F_letter_at := fun_mk (st := s_letter_at) l_letter_at c_letter_at k_letter_at
  have b_letter_at := F_letter_at.binds (ps := ["word", "at"]) fun _ _ _ _ _ _ us hl => match us, hl with | [_, _], _ => rfl
  have F__law_numbers := fun_mk (st := s__law_numbers) l__law_numbers c__law_numbers k__law_numbers
  have b__law_numbers := F__law_numbers.binds (ps := ["script", "thing"]) fun _ _ _ _ _ _ us hl => match us, hl with | [_, _], _ => rfl
  have F__law_letters := fun_mk (st := s__law_letters) l__law_letters c__law_letters k__law_letters
  have b__law_letters := F__law_letters.binds (ps := ["number"]) fun _ _ _ _ _ _ us hl => match us, hl with | [_], _ => rfl
  have F__law_word := fun_mk (st := s__law_word) l__law_word c__law_word k__law_word
  have b__law_word := F__law_word.binds (ps := ["xs", "start", "size", "letters"]) fun _ _ _ _ _ _ us hl => match us, hl with | [_, _, _, _], _ => rfl
  have F__law_is_fourth := fun_mk (st := s__law_is_fourth) l__law_is_fourth c__law_is_fourth k__law_is_fourth
  have b__law_is_fourth := F__law_is_fourth.binds (ps := ["x", "y", "z", "t"]) fun _ _ _ _ _ _ us hl => match us, hl with | [_, _, _, _], _ => rfl
  have F__law_same := fun_mk (st := s__law_same) l__law_same c__law_same k__law_same
  have b__law_same := F__law_same.binds (ps := ["found", "due"]) fun _ _ _ _ _ _ us hl => match us, hl with | [_, _], _ => rfl
  have F_check_words := fun_mk (st := s_check_words) l_check_words c_check_words k_check_words
  have b_check_words := F_check_words.binds (ps := ["words"]) fun _ _ _ _ _ _ us hl => match us, hl with | [_], _ => rfl
  have F_raw_moves := fun_mk (st := s_raw_moves) l_raw_moves c_raw_moves k_raw_moves
  have b_raw_moves := F_raw_moves.binds (ps := ["x", "y", "z", "t", "stand"]) fun _ _ _ _ _ _ us hl => match us, hl with | [_, _, _, _, _], _ => rfl
  have F_is_pair := fun_mk (st := s_is_pair) l_is_pair c_is_pair k_is_pair
  have b_is_pair := F_is_pair.binds (ps := ["thing"]) fun _ _ _ _ _ _ us hl => match us, hl with | [_], _ => rfl
  have F__law_pairs := fun_mk (st := s__law_pairs) l__law_pairs c__law_pairs k__law_pairs
  have b__law_pairs := F__law_pairs.binds (ps := ["script", "base"]) fun _ _ _ _ _ _ us hl => match us, hl with | [_, _], _ => rfl
  have F_raw_is_fourth := fun_mk (st := s_raw_is_fourth) l_raw_is_fourth c_raw_is_fourth k_raw_is_fourth
  have b_raw_is_fourth := F_raw_is_fourth.binds (ps := ["x", "y", "z", "t"]) fun _ _ _ _ _ _ us hl => match us, hl with | [_, _, _, _], _ => rfl
  have F_check_pairs := fun_mk (st := s_check_pairs) l_check_pairs c_check_pairs k_check_pairs
  have b_check_pairs := F_check_pairs.binds (ps := ["pairs"]) fun _ _ _ _ _ _ us hl => match us, hl with | [_], _ => rfl
  have F_is_fourth := fun_mk (st := s_is_fourth) l_is_fourth c_is_fourth k_is_fourth
  have b_is_fourth := F_is_fourth.binds (ps := ["x", "y", "z", "t"]) fun _ _ _ _ _ _ us hl => match us, hl with | [_, _, _, _], _ => rfl
  have F_like_pairs := fun_mk (st := s_like_pairs) l_like_pairs c_like_pairs k_like_pairs
  have b_like_pairs := F_like_pairs.binds (ps := ["pairs"]) fun _ _ _ _ _ _ us hl => match us, hl with | [_], _ => rfl
  have F__law_refused := fun_mk (st := s__law_refused) l__law_refused c__law_refused k__law_refused
  have b__law_refused := F__law_refused.binds (ps := ["thing"]) fun _ _ _ _ _ _ us hl => match us, hl with | [_], _ => rfl
  have F_law := fun_mk (st := s_law) l_law c_law k_law
  have b_law := F_law.binds (ps := ["script"]) fun _ _ _ _ _ _ us hl => match us, hl with | [_], _ => rfl
  let Y : Mo K mg := {
    m_all := PySem.W.mg_none_of X G z_all
    m_bool := PySem.W.mg_none_of X G z_bool
    m_enumerate := PySem.W.mg_none_of X G z_enumerate
    m_int := PySem.W.mg_none_of X G z_int
    m_isinstance := PySem.W.mg_none_of X G z_isinstance
    m_len := PySem.W.mg_none_of X G z_len
    m_range := PySem.W.mg_none_of X G z_range
    m_set := PySem.W.mg_none_of X G z_set
    m_sorted := PySem.W.mg_none_of X G z_sorted
    m_str := PySem.W.mg_none_of X G z_str
    m_tuple := PySem.W.mg_none_of X G z_tuple
    v_LETTERS := v_LETTERS
    c_LETTERS := PySem.W.mg_of X G c_LETTERS
    v_MOST_PAIRS := v_MOST_PAIRS
    c_MOST_PAIRS := PySem.W.mg_of X G c_MOST_PAIRS
    f_NoPairs := f_NoPairs
    g_NoPairs := PySem.W.mg_of X G a_NoPairs
    k_NoPairs := k_NoPairs
    x_NoPairs := x_NoPairs
    s_NoPairs := s_NoPairs
    t_NoPairs := t_NoPairs
    e_NoPairs := exmOwn s_NoPairs i_NoPairs t_NoPairs u_NoPairs
    f_is_tuple := f_is_tuple
    d_is_tuple := _
    F_is_tuple := F_is_tuple
    b_is_tuple := b_is_tuple
    g_is_tuple := PySem.W.mg_of X G a_is_tuple
    f_is_word := f_is_word
    d_is_word := _
    F_is_word := F_is_word
    b_is_word := b_is_word
    g_is_word := PySem.W.mg_of X G a_is_word
    f_letter_at := f_letter_at
    d_letter_at := _
    F_letter_at := F_letter_at
    b_letter_at := b_letter_at
    g_letter_at := PySem.W.mg_of X G a_letter_at
    f__law_numbers := f__law_numbers
    d__law_numbers := _
    F__law_numbers := F__law_numbers
    b__law_numbers := b__law_numbers
    g__law_numbers := PySem.W.mg_of X G a__law_numbers
    f__law_letters := f__law_letters
    d__law_letters := _
    F__law_letters := F__law_letters
    b__law_letters := b__law_letters
    g__law_letters := PySem.W.mg_of X G a__law_letters
    f__law_word := f__law_word
    d__law_word := _
    F__law_word := F__law_word
    b__law_word := b__law_word
    g__law_word := PySem.W.mg_of X G a__law_word
    f__law_is_fourth := f__law_is_fourth
    d__law_is_fourth := _
    F__law_is_fourth := F__law_is_fourth
    b__law_is_fourth := b__law_is_fourth
    g__law_is_fourth := PySem.W.mg_of X G a__law_is_fourth
    f__law_same := f__law_same
    d__law_same := _
    F__law_same := F__law_same
    b__law_same := b__law_same
    g__law_same := PySem.W.mg_of X G a__law_same
    f_check_words := f_check_words
    d_check_words := _
    F_check_words := F_check_words
    b_check_words := b_check_words
    g_check_words := PySem.W.mg_of X G a_check_words
    f_raw_moves := f_raw_moves
    d_raw_moves := _
    F_raw_moves := F_raw_moves
    b_raw_moves := b_raw_moves
    g_raw_moves := PySem.W.mg_of X G a_raw_moves
    f_is_pair := f_is_pair
    d_is_pair := _
    F_is_pair := F_is_pair
    b_is_pair := b_is_pair
    g_is_pair := PySem.W.mg_of X G a_is_pair
    f__law_pairs := f__law_pairs
    d__law_pairs := _
    F__law_pairs := F__law_pairs
    b__law_pairs := b__law_pairs
    g__law_pairs := PySem.W.mg_of X G a__law_pairs
    f_raw_is_fourth := f_raw_is_fourth
    d_raw_is_fourth := _
    F_raw_is_fourth := F_raw_is_fourth
    b_raw_is_fourth := b_raw_is_fourth
    g_raw_is_fourth := PySem.W.mg_of X G a_raw_is_fourth
    f_check_pairs := f_check_pairs
    d_check_pairs := _
    F_check_pairs := F_check_pairs
    b_check_pairs := b_check_pairs
    g_check_pairs := PySem.W.mg_of X G a_check_pairs
    f_is_fourth := f_is_fourth
    d_is_fourth := _
    F_is_fourth := F_is_fourth
    b_is_fourth := b_is_fourth
    g_is_fourth := PySem.W.mg_of X G a_is_fourth
    f_like_pairs := f_like_pairs
    d_like_pairs := _
    F_like_pairs := F_like_pairs
    b_like_pairs := b_like_pairs
    g_like_pairs := PySem.W.mg_of X G a_like_pairs
    f__law_refused := f__law_refused
    d__law_refused := _
    F__law_refused := F__law_refused
    b__law_refused := b__law_refused
    g__law_refused := PySem.W.mg_of X G a__law_refused
    f_law := fa
    d_law := _
    F_law := F_law
    b_law := b_law
    g_law := PySem.W.mg_of X G a_law }
  refine ⟨PySem.W.fnOf "law" "law" (defArgs s_law) (defBody s_law) (defScope s_law) .none kV_law dc_law pm_law an_law cd_law ct_law, fun s v => .of_eq rfl, fun base _ _ => ?_⟩
  have G_is_tuple := ok_is_tuple (P := l.prog) (w := w) (base := base) Y (k := 0) 
  have G_is_word := ok_is_word (P := l.prog) (w := w) (base := base) Y (k := 0) 
  have G_letter_at := ok_letter_at (P := l.prog) (w := w) (base := base) Y (k := 0) 
  have G__law_numbers := ok__law_numbers (P := l.prog) (w := w) (base := base) Y (k := 0) 
  have G__law_letters := ok__law_letters (P := l.prog) (w := w) (base := base) Y (k := 0) 
  have G__law_word := ok__law_word (P := l.prog) (w := w) (base := base) Y (k := 0) 
  have G__law_is_fourth := ok__law_is_fourth (P := l.prog) (w := w) (base := base) Y (k := 0) 
  have G__law_same := ok__law_same (P := l.prog) (w := w) (base := base) Y (k := 0) 
  have G_check_words := ok_check_words (P := l.prog) (w := w) (base := base) Y (k := 1) (G_is_word.mono (by omega))
  have G_raw_moves := ok_raw_moves (P := l.prog) (w := w) (base := base) Y (k := 1) (G_letter_at.mono (by omega))
  have G_is_pair := ok_is_pair (P := l.prog) (w := w) (base := base) Y (k := 1) (G_is_tuple.mono (by omega)) (G_is_word.mono (by omega))
  have G__law_pairs := ok__law_pairs (P := l.prog) (w := w) (base := base) Y (k := 1) (G__law_letters.mono (by omega)) (G__law_numbers.mono (by omega)) (G__law_word.mono (by omega))
  have G_raw_is_fourth := ok_raw_is_fourth (P := l.prog) (w := w) (base := base) Y (k := 2) (G_raw_moves.mono (by omega))
  have G_check_pairs := ok_check_pairs (P := l.prog) (w := w) (base := base) Y (k := 2) (G_is_pair.mono (by omega)) (G_is_tuple.mono (by omega))
  have G_is_fourth := ok_is_fourth (P := l.prog) (w := w) (base := base) Y (k := 3) (G_check_words.mono (by omega)) (G_is_word.mono (by omega)) (G_raw_is_fourth.mono (by omega))
  have G_like_pairs := ok_like_pairs (P := l.prog) (w := w) (base := base) Y (k := 3) (G_check_pairs.mono (by omega)) (G_raw_is_fourth.mono (by omega))
  have G__law_refused := ok__law_refused (P := l.prog) (w := w) (base := base) Y (k := 4) (G_like_pairs.mono (by omega))
  have G_law := ok_law (P := l.prog) (w := w) (base := base) Y (k := 5) (G__law_is_fourth.mono (by omega)) (G__law_numbers.mono (by omega)) (G__law_pairs.mono (by omega)) (G__law_refused.mono (by omega)) (G__law_same.mono (by omega)) (G_is_fourth.mono (by omega)) (G_like_pairs.mono (by omega))
  exact G_law
end K84
open PySem PySem.W PyProof.Rows
set_option maxHeartbeats 0 in
theorem PySem.Challenge.cw_fourthword_k84_pairs_that_are_to_each_ot_holds : PySem.Challenge.rw_fourthword_k84_pairs_that_are_to_each_ot.Holds := by
  w_on; o_law; k_head; (case hw => w_witness2)
  k_fill
  refine L2.walk_of (l := PySem.Challenge.rw_fourthword_k84_pairs_that_are_to_each_ot) (n := 63) (k := 6) (x := "script") (CX := fun _ => L2.CX0) (sp := fun w => VL.spV ⟨PySem.Challenge.rw_fourthword_k84_pairs_that_are_to_each_ot.prog, w, _⟩ 1 (VL.spR K84.r_law)) rfl (by decide) rfl ⟨rfl, by decide, by decide⟩ (fun w h Y => PySem.W.kIn_of Y) ?F (fun _ H a ns hl _ hS => K84.law_end hl hS) (fun _ _ _ _ _ h => h)
  case F =>
    intro w mg fa h KX G hmg
    refine' K84.all_mk KX G hmg ?z_all ?z_bool ?z_enumerate ?z_int ?z_isinstance ?z_len ?z_range ?z_set ?z_sorted ?z_str ?z_tuple ?c_LETTERS ?c_MOST_PAIRS ?a_NoPairs ?x_NoPairs ?k_NoPairs ?s_NoPairs ?t_NoPairs ?i_NoPairs ?u_NoPairs ?a_is_tuple ?l_is_tuple ?c_is_tuple ?k_is_tuple ?a_is_word ?l_is_word ?c_is_word ?k_is_word ?a_letter_at ?l_letter_at ?c_letter_at ?k_letter_at ?a__law_numbers ?l__law_numbers ?c__law_numbers ?k__law_numbers ?a__law_letters ?l__law_letters ?c__law_letters ?k__law_letters ?a__law_word ?l__law_word ?c__law_word ?k__law_word ?a__law_is_fourth ?l__law_is_fourth ?c__law_is_fourth ?k__law_is_fourth ?a__law_same ?l__law_same ?c__law_same ?k__law_same ?a_check_words ?l_check_words ?c_check_words ?k_check_words ?a_raw_moves ?l_raw_moves ?c_raw_moves ?k_raw_moves ?a_is_pair ?l_is_pair ?c_is_pair ?k_is_pair ?a__law_pairs ?l__law_pairs ?c__law_pairs ?k__law_pairs ?a_raw_is_fourth ?l_raw_is_fourth ?c_raw_is_fourth ?k_raw_is_fourth ?a_check_pairs ?l_check_pairs ?c_check_pairs ?k_check_pairs ?a_is_fourth ?l_is_fourth ?c_is_fourth ?k_is_fourth ?a_like_pairs ?l_like_pairs ?c_like_pairs ?k_like_pairs ?a__law_refused ?l__law_refused ?c__law_refused ?k__law_refused ?a_law ?l_law ?c_law ?k_law
    (case z_all => k_is); (case z_bool => k_is); (case z_enumerate => k_is); (case z_int => k_is); (case z_isinstance => k_is); (case z_len => k_is); (case z_range => k_is); (case z_set => k_is); (case z_sorted => k_is); (case z_str => k_is); (case z_tuple => k_is); (case c_LETTERS => k_is); (case c_MOST_PAIRS => k_is); (case a_NoPairs => k_is); (case x_NoPairs => k_exc); (case k_NoPairs => k_is); (case s_NoPairs => k_is); (case t_NoPairs => k_is); (case i_NoPairs => k_is); (case u_NoPairs => k_is); (case a_is_tuple => k_is); (case l_is_tuple => k_is); (case c_is_tuple => k_is); (case k_is_tuple => k_is); (case a_is_word => k_is); (case l_is_word => k_is); (case c_is_word => k_is); (case k_is_word => k_is); (case a_letter_at => k_is); (case l_letter_at => k_is); (case c_letter_at => k_is); (case k_letter_at => k_is); (case a__law_numbers => k_is); (case l__law_numbers => k_is); (case c__law_numbers => k_is); (case k__law_numbers => k_is); (case a__law_letters => k_is); (case l__law_letters => k_is); (case c__law_letters => k_is); (case k__law_letters => k_is); (case a__law_word => k_is); (case l__law_word => k_is); (case c__law_word => k_is); (case k__law_word => k_is); (case a__law_is_fourth => k_is); (case l__law_is_fourth => k_is); (case c__law_is_fourth => k_is); (case k__law_is_fourth => k_is); (case a__law_same => k_is); (case l__law_same => k_is); (case c__law_same => k_is); (case k__law_same => k_is); (case a_check_words => k_is); (case l_check_words => k_is); (case c_check_words => k_is); (case k_check_words => k_is); (case a_raw_moves => k_is); (case l_raw_moves => k_is); (case c_raw_moves => k_is); (case k_raw_moves => k_is); (case a_is_pair => k_is); (case l_is_pair => k_is); (case c_is_pair => k_is); (case k_is_pair => k_is); (case a__law_pairs => k_is); (case l__law_pairs => k_is); (case c__law_pairs => k_is); (case k__law_pairs => k_is); (case a_raw_is_fourth => k_is); (case l_raw_is_fourth => k_is); (case c_raw_is_fourth => k_is); (case k_raw_is_fourth => k_is); (case a_check_pairs => k_is); (case l_check_pairs => k_is); (case c_check_pairs => k_is); (case k_check_pairs => k_is); (case a_is_fourth => k_is); (case l_is_fourth => k_is); (case c_is_fourth => k_is); (case k_is_fourth => k_is); (case a_like_pairs => k_is); (case l_like_pairs => k_is); (case c_like_pairs => k_is); (case k_like_pairs => k_is); (case a__law_refused => k_is); (case l__law_refused => k_is); (case c__law_refused => k_is); (case k__law_refused => k_is); (case a_law => k_is); (case l_law => k_is); (case c_law => k_is); (case k_law => k_is)
