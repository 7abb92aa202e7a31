import PyProof.Rows.All
import Wide.All
import OpenK.AllK
import Wide.FinOn
import KE.KStateDown
import Lean
import HandS.ForMost
import HandS.Defaults
import HandS.Head0
import HandS.Head1
import HandS.Head2
import HandS.HeadEnd
import HandS.HeadHook1
import HandS.HeadHook2
import HandS.Walk
import HandS.EndBits
import HandS.WideBits
import HandS.Conv
import HandS.TupAny
import HandS.Deep
import HandS.IsInst
import HandS.TupLe
import HandS.TupLen
import HandS.Zip
import PyProof.P3In
import KE.SortData
import PyProof.ReprRoads
import HandS.SortInts
import HandS.TupSets
import PyProof.SumAny
import KE.KIndexOf
import KE.GoesEnum
import HandS.DictComp
import HandS.Style
import KE.KDictPairs
import KE.KDictCopyH
import PyProof.TupleOfSeq
import HandS.ExcValue
import PySem.Challenge.RW_stillsaid_k85_whole_splits_in_all_readin
import PyProof.Rows.ReprOcc
set_option Elab.async false
set_option linter.all false
set_option maxRecDepth 100000
set_option maxHeartbeats 0
/-! data, what represents it, readings over data -/
namespace Sd
open PySem PySem.Spec PyProof.Rows L2
abbrev D := PyData
mutual
def imm : D → Bool
  | .list _ => false
  | .dict _ => false
  | .tuple ds => immL ds
  | _ => true
def immL : List D → Bool
  | [] => true
  | d :: r => imm d && immL r
end
def keyD : Key → D
  | .inl i => .int i
  | .inr x => .str x
def tkeyD (ks : List Key) : D := .tuple (ks.map keyD)
def hide (H : Hp) (B : List Addr) : Hp := fun a => if a ∈ B then none else H a
theorem hide_some {H : Hp} {B : List Addr} {a : Addr} {o : HO} (h : hide H B a = some o) : a ∉ B ∧ H a = some o := by
  unfold hide at h
  split at h
  · cases h
  · exact ⟨by assumption, h⟩
theorem hide_of {H : Hp} {B : List Addr} {a : Addr} {o : HO} (hb : a ∉ B) (h : H a = some o) : hide H B a = some o := by
  unfold hide; rw [if_neg hb]; exact h
theorem hide_le (H : Hp) (B : List Addr) : Same (hide H B) H := fun _ _ h => (hide_some h).2
theorem hide_mono {H H' : Hp} {B B' : List Addr} (h : ∀ a o, a ∉ B → H a = some o → a ∉ B' ∧ H' a = some o) : Same (hide H B) (hide H' B') := fun a o e => by
  obtain ⟨h1, h2⟩ := hide_some e
  obtain ⟨h3, h4⟩ := h a o h1 h2
  exact hide_of h3 h4
/-- the pot's mark among dicts -/
def isPot : List (D × D) → Bool
  | [(.none, .none)] => true
  | _ => false
def potD : D := .dict [(.none, .none)]
/-- how tuples are held: as the very objects that they are, or by their items alone -/
def frzOk : Bool := true
def TupO (vs : List V) (o : HO) : Prop := (frzOk = false ∧ o = .tup vs) ∨ (frzOk = true ∧ ∃ ob, o = .frz ob (.tup vs) ∧ ob.dict = none)
def TupAt (H : Hp) (a : Addr) (vs : List V) : Prop := ∃ o, TupO vs o ∧ H a = some o
theorem TupAt.two {H : Hp} {a : Addr} {vs : List V} (h : TupAt H a vs) : H a = some (.tup vs) ∨ ∃ o, H a = some (.frz o (.tup vs)) := by
  obtain ⟨o, ⟨_, rfl⟩ | ⟨_, ob, rfl, _⟩, e⟩ := h
  · exact .inl e
  · exact .inr ⟨ob, e⟩
theorem TupAt.sq {K : PySem.W.Frag} {H : Hp} {a : Addr} {vs : List V} (h : TupAt H a vs) : SqT K H a vs := by
  rcases h.two with h | ⟨o, h⟩
  · exact .inl (.inl h)
  · exact .inl (.inr ⟨o, h⟩)
theorem TupAt.mono {H H' : Hp} {a : Addr} {vs : List V} (s : Same H H') (h : TupAt H a vs) : TupAt H' a vs := by
  obtain ⟨o, z, e⟩ := h
  exact ⟨o, z, s _ _ e⟩
/-- a dict with tuples of ints as keys, as an object -/
def tkHash (ks : List Int) : Int := reduceHash (Builtin.Tuple.tupleHashOf (ks.map hashInt))
def tentry (x : List Int × Addr × Value) : DictEntry := ⟨tkHash x.1, .ref x.2.1, x.2.2⟩
def DTx (a : Addr) (xs : List (List Int × Addr × Value)) (h : Heap) : Prop := ∃ o es ep, h.get? a = some o ∧ o.ExactDict ∧ o.data = .dict es ep ∧ es.toList = xs.map tentry ∧ (xs.map (·.1)).Nodup
def itupD (ks : List Int) : D := .tuple (ks.map .int)
/-- a dict's object in H, its keys in R -/
def DcAt (H R : Hp) (a : Addr) (keys : List D) (vs : List V) : Prop :=
  (∃ ks : List Key, ks.length = vs.length ∧ keys = ks.map keyD ∧ H a = some (.dK (ks.zip vs))) ∨
  (∃ xs : List (List Int × Addr × Value), (keys = xs.map (fun x => itupD x.1) ∧ Vals vs (xs.map (·.2.2))) ∧ (xs ≠ [] ∧ xs.length ≤ sizeLine ∧ (a == sysModules) = false) ∧ H a = some (.ext (DTx a xs)) ∧ ∀ x ∈ xs, TupAt R x.2.1 (x.1.map V.int))
theorem DcAt.imp {H H' R R' : Hp} {a : Addr} {ks : List D} {vs : List V} (h : DcAt H R a ks vs) (s : ∀ o, H a = some o → H' a = some o) (r : Same R R') : DcAt H' R' a ks vs := by
  rcases h with ⟨k, h1, h2, h3⟩ | ⟨k, h1, h2, h3, h4⟩
  · exact .inl ⟨k, h1, h2, s _ h3⟩
  · exact .inr ⟨k, h1, h2, s _ h3, fun x hx => (h4 x hx).mono r⟩
theorem DcAt.nt {H R : Hp} {a : Addr} {ks : List D} {vs : List V} (h : DcAt H R a ks vs) : ∃ o, H a = some o ∧ (match o with | .tup _ => false | .frz _ (.tup _) => false | _ => true) = true := by
  rcases h with ⟨k, h1, h2, h3⟩ | ⟨k, h1, h2, h3, h4⟩
  · exact ⟨_, h3, rfl⟩
  · exact ⟨_, h3, rfl⟩
mutual
def Rep (K : PySem.W.Frag) (p : Addr) : D → Hp → V → Prop
  | .none, _, v => v = .non
  | .bool b, _, v => v = .bl b
  | .int i, _, v => v = .int i
  | .str x, _, v => v = .str x
  | .list ds, H, v => ∃ a vs, v = .ref a ∧ H a = some (.lst vs) ∧ RepL K p ds (hide H [a]) vs
  | .tuple ds, H, v => ∃ a vs, v = .ref a ∧ TupAt H a vs ∧ RepL K p ds H vs
  | .dict kvs, H, v => (isPot kvs = true ∧ v = .ref p) ∨ (isPot kvs = false ∧ ∃ a vs, v = .ref a ∧ DcAt H (hide H [a]) a (kvs.map (·.1)) vs ∧ RepKV K p kvs (hide H [a]) vs)
def RepL (K : PySem.W.Frag) (p : Addr) : List D → Hp → List V → Prop
  | [], _, vs => vs = []
  | d :: ds, H, vs => ∃ v r, vs = v :: r ∧ Rep K p d H v ∧ RepL K p ds H r
def RepKV (K : PySem.W.Frag) (p : Addr) : List (D × D) → Hp → List V → Prop
  | [], _, vs => vs = []
  | (_, d) :: ds, H, vs => ∃ v r, vs = v :: r ∧ Rep K p d H v ∧ RepKV K p ds H r
end
theorem Rd_mono {H H' : Hp} {a : Addr} {u : HO} (s : Same H H') (h : Rd H a u) : Rd H' a u := by
  rcases h with h | ⟨o, h⟩
  · exact .inl (s _ _ h)
  · exact .inr ⟨o, s _ _ h⟩
theorem SqT_mono {K : PySem.W.Frag} {H H' : Hp} {a : Addr} {xs : List V} (s : Same H H') (h : SqT K H a xs) : SqT K H' a xs := by
  rcases h with h | h
  · exact .inl (Rd_mono s h)
  · exact .inr h
theorem hide_same {H H' : Hp} (B : List Addr) (s : Same H H') : Same (hide H B) (hide H' B) := hide_mono fun a o h e => ⟨h, s a o e⟩
section
variable {K : PySem.W.Frag} {p : Addr}
mutual
theorem Rep.mono : ∀ {d : D} {H H' : Hp} {v : V}, Same H H' → Rep K p d H v → Rep K p d H' v
  | .none, _, _, _, _, h => h
  | .bool _, _, _, _, _, h => h
  | .int _, _, _, _, _, h => h
  | .str _, _, _, _, _, h => h
  | .list ds, _, _, _, s, h => by
    obtain ⟨a, vs, e, h1, h2⟩ := h
    exact ⟨a, vs, e, s _ _ h1, RepL.mono (hide_same _ s) h2⟩
  | .tuple ds, _, _, _, s, h => by
    obtain ⟨a, vs, e, h1, h2⟩ := h
    exact ⟨a, vs, e, h1.mono s, RepL.mono s h2⟩
  | .dict kvs, _, _, _, s, h => by
    rcases h with h | ⟨h0, a, vs, e, h1, h2⟩
    · exact .inl h
    · exact .inr ⟨h0, a, vs, e, h1.imp (fun o z => s a o z) (hide_same _ s), RepKV.mono (hide_same _ s) h2⟩
theorem RepL.mono : ∀ {ds : List D} {H H' : Hp} {vs : List V}, Same H H' → RepL K p ds H vs → RepL K p ds H' vs
  | [], _, _, _, _, h => h
  | d :: ds, _, _, _, s, h => by
    obtain ⟨v, r, e, h1, h2⟩ := h
    exact ⟨v, r, e, Rep.mono s h1, RepL.mono s h2⟩
theorem RepKV.mono : ∀ {ds : List (D × D)} {H H' : Hp} {vs : List V}, Same H H' → RepKV K p ds H vs → RepKV K p ds H' vs
  | [], _, _, _, _, h => h
  | (_, d) :: ds, _, _, _, s, h => by
    obtain ⟨v, r, e, h1, h2⟩ := h
    exact ⟨v, r, e, Rep.mono s h1, RepKV.mono s h2⟩
end
/-- tuples stay -/
def TupS (K : PySem.W.Frag) (H H' : Hp) : Prop := ∀ a xs, TupAt H a xs → TupAt H' a xs
mutual
theorem Rep.imm : ∀ {d : D} {H H' : Hp} {v : V}, imm d = true → TupS K H H' → Rep K p d H v → Rep K p d H' v
  | .none, _, _, _, _, _, h => h
  | .bool _, _, _, _, _, _, h => h
  | .int _, _, _, _, _, _, h => h
  | .str _, _, _, _, _, _, h => h
  | .list ds, _, _, _, i, _, _ => by simp [Sd.imm] at i
  | .tuple ds, _, _, _, i, s, h => by
    obtain ⟨a, vs, e, h1, h2⟩ := h
    exact ⟨a, vs, e, s _ _ h1, RepL.imm (by simpa [Sd.imm] using i) s h2⟩
  | .dict kvs, _, _, _, i, _, _ => by simp [Sd.imm] at i
theorem RepL.imm : ∀ {ds : List D} {H H' : Hp} {vs : List V}, immL ds = true → TupS K H H' → RepL K p ds H vs → RepL K p ds H' vs
  | [], _, _, _, _, _, h => h
  | d :: ds, _, _, _, i, s, h => by
    obtain ⟨v, r, e, h1, h2⟩ := h
    simp only [immL, Bool.and_eq_true] at i
    exact ⟨v, r, e, Rep.imm i.1 s h1, RepL.imm i.2 s h2⟩
end
theorem RepL.length : ∀ {ds : List D} {H : Hp} {vs : List V}, RepL K p ds H vs → vs.length = ds.length
  | [], _, _, h => by rw [show _ = [] from h]; rfl
  | d :: ds, _, _, h => by
    obtain ⟨v, r, e, _, h2⟩ := h
    rw [e, List.length_cons, List.length_cons, RepL.length h2]
theorem RepL.get : ∀ {ds : List D} {H : Hp} {vs : List V} {i : Nat} {d : D}, RepL K p ds H vs → ds[i]? = some d → ∃ v, vs[i]? = some v ∧ Rep K p d H v
  | [], _, _, _, _, _, e => by simp at e
  | d :: ds, _, _, 0, _, h, e => by
    obtain ⟨v, r, rfl, h1, _⟩ := h
    simp at e; subst e
    exact ⟨v, rfl, h1⟩
  | d :: ds, _, _, i + 1, _, h, e => by
    obtain ⟨v, r, rfl, _, h2⟩ := h
    obtain ⟨w, e1, e2⟩ := RepL.get (i := i) h2 (by simpa using e)
    exact ⟨w, by simpa using e1, e2⟩
theorem RepL.app : ∀ {ds es : List D} {H : Hp} {vs ws : List V}, RepL K p ds H vs → RepL K p es H ws → RepL K p (ds ++ es) H (vs ++ ws)
  | [], _, _, _, _, h, g => by rw [show _ = [] from h]; exact g
  | d :: ds, _, _, _, _, h, g => by
    obtain ⟨v, r, rfl, h1, h2⟩ := h
    exact ⟨v, _, rfl, h1, RepL.app h2 g⟩
theorem RepL.one {d : D} {H : Hp} {v : V} (h : Rep K p d H v) : RepL K p [d] H [v] := ⟨v, [], rfl, h, rfl⟩
theorem RepL.drop : ∀ {ds : List D} {H : Hp} {vs : List V} (n : Nat), RepL K p ds H vs → RepL K p (ds.drop n) H (vs.drop n)
  | _, _, _, 0, h => h
  | [], _, _, n + 1, h => by rw [show _ = [] from h]; rfl
  | d :: ds, _, _, n + 1, h => by
    obtain ⟨v, r, rfl, _, h2⟩ := h
    exact RepL.drop n h2
theorem RepL.take : ∀ {ds : List D} {H : Hp} {vs : List V} (n : Nat), RepL K p ds H vs → RepL K p (ds.take n) H (vs.take n)
  | _, _, _, 0, h => rfl
  | [], _, _, n + 1, h => by rw [show _ = [] from h]; rfl
  | d :: ds, _, _, n + 1, h => by
    obtain ⟨v, r, rfl, h1, h2⟩ := h
    exact ⟨v, _, rfl, h1, RepL.take n h2⟩
theorem RepL.rev : ∀ {ds : List D} {H : Hp} {vs : List V}, RepL K p ds H vs → RepL K p ds.reverse H vs.reverse
  | [], _, _, h => by rw [show _ = [] from h]; rfl
  | d :: ds, _, _, h => by
    obtain ⟨v, r, rfl, h1, h2⟩ := h
    rw [List.reverse_cons, List.reverse_cons]
    exact RepL.app (RepL.rev h2) (RepL.one h1)
theorem RepL.eraseIdx : ∀ {ds : List D} {H : Hp} {vs : List V} (n : Nat), RepL K p ds H vs → RepL K p (ds.eraseIdx n) H (vs.eraseIdx n)
  | [], _, _, n, h => by rw [show _ = [] from h]; rfl
  | d :: ds, _, _, 0, h => by
    obtain ⟨v, r, rfl, _, h2⟩ := h
    exact h2
  | d :: ds, _, _, n + 1, h => by
    obtain ⟨v, r, rfl, h1, h2⟩ := h
    exact ⟨v, _, rfl, h1, RepL.eraseIdx n h2⟩
theorem RepL.of_get : ∀ {ds : List D} {H : Hp} {vs : List V}, vs.length = ds.length → (∀ (i : Nat) (d : D) (v : V), ds[i]? = some d → vs[i]? = some v → Rep K p d H v) → RepL K p ds H vs
  | [], _, [], _, _ => rfl
  | [], _, _ :: _, h, _ => by simp at h
  | _ :: _, _, [], h, _ => by simp at h
  | d :: ds, _, v :: vs, h, f => ⟨v, vs, rfl, f 0 d v rfl rfl, RepL.of_get (by simpa using h) fun i d' v' e1 e2 => f (i + 1) d' v' (by simpa using e1) (by simpa using e2)⟩
end

/-! ### the pot, what runs over it -/
abbrev Pot := Int × Int
def M (α : Type) : Type := Pot → Option (α × Pot)
def M.pure {α : Type} (a : α) : M α := fun q => some (a, q)
def M.bind {α β : Type} (m : M α) (f : α → M β) : M β := fun q => match m q with
  | none => none
  | some (a, q') => f a q'
def M.fail {α : Type} : M α := fun _ => none
def M.of {α : Type} (o : Option α) : M α := match o with
  | some a => M.pure a
  | none => M.fail
theorem M.bind_some {α β : Type} {m : M α} {f : α → M β} {q : Pot} {r : β × Pot} (h : M.bind m f q = some r) : ∃ a q', m q = some (a, q') ∧ f a q' = some r := by
  unfold M.bind at h
  split at h
  · cases h
  · exact ⟨_, _, by assumption, h⟩
theorem M.of_some {α : Type} {o : Option α} {q : Pot} {a : α} {q' : Pot} (h : M.of o q = some (a, q')) : o = some a ∧ q' = q := by
  unfold M.of at h
  split at h
  · have e : (_, q) = (a, q') := Option.some.inj h
    cases e
    exact ⟨rfl, rfl⟩
  · cases h
theorem M.pure_some {α : Type} {a b : α} {q q' : Pot} (h : M.pure a q = some (b, q')) : b = a ∧ q' = q := by
  have e : (a, q) = (b, q') := Option.some.inj h
  cases e
  exact ⟨rfl, rfl⟩
instance : Monad M where
  pure := M.pure
  bind := M.bind
abbrev Env := List (Option (Bool × D))
def nontup : HO → Bool
  | .tup _ => false
  | .frz _ (.tup _) => false
  | _ => true
def potV (q : Pot) : HO := .lst [.int q.1, .int q.2]
/-- all tracked lists, tuples within the line -/
def HL (H : Hp) : Prop := ∀ a xs, (Rd H a (.lst xs) ∨ Rd H a (.tup xs)) → xs.length ≤ sizeLine
theorem HL_of {P : Program} {w : World} {H : Hp} {h : Heap} (x : HOk P w H h) : HL H := fun a xs r => by
  rcases r with r | r
  · exact (r.ok x).1
  · exact (r.ok x).1
section
variable (K : PySem.W.Frag) (p : Addr)
/-- a list, a dict that may be changed: known to its one name -/
def Bld (F : Addr → Prop) (H : Hp) (B : List Addr) (d : D) (v : V) : Prop := ∃ a, v = .ref a ∧ a ∈ B ∧ a ≠ p ∧ F a ∧
  ((∃ ds vs, d = .list ds ∧ H a = some (.lst vs) ∧ RepL K p ds (hide H B) vs) ∨
   (∃ kvs vs, d = .dict kvs ∧ isPot kvs = false ∧ DcAt H (hide H B) a (kvs.map (·.1)) vs ∧ RepKV K p kvs (hide H B) vs))
/-- a value that is consumed at once -/
def RepC (F : Addr → Prop) (H : Hp) (B : List Addr) (d : D) (v : V) : Prop := Rep K p d (hide H B) v ∨ Bld K p F H B d v
structure Pre (F : Addr → Prop) (H : Hp) (B : List Addr) (σ : L2.St) (ρ : Env) (q : Pot) : Prop where
  pot : H p = some (potV q)
  pB : p ∈ B
  nt : ∀ a ∈ B, ∃ o, H a = some o ∧ nontup o = true
  env : ∀ (i : Nat) (b : Bool) (d : D), ρ[i]? = some (some (b, d)) → ∃ v, σ[i]? = some (some v) ∧ (b = false → Rep K p d (hide H B) v) ∧ (b = true → Bld K p F H B d v)
  len : σ.length = ρ.length
def Stp (H H' : Hp) : Prop := ∀ a o, H a = some o → a ≠ p → H' a = some o
end
section
variable {K : PySem.W.Frag} {p : Addr} {F : Addr → Prop} {H H' H1 H2 : Hp} {B : List Addr} {σ : L2.St} {ρ : Env} {q q' : Pot} {d : D} {v : V}
theorem Stp.refl : Stp p H H := fun _ _ h _ => h
theorem Stp.trans (a : Stp p H H1) (b : Stp p H1 H2) : Stp p H H2 := fun c o h n => b c o (a c o h n) n
theorem Stp.of (s : Same H H') : Stp p H H' := fun a o h _ => s a o h
theorem Stp.hid (s : Stp p H H') (hp : p ∈ B) : Same (hide H B) (hide H' B) := hide_mono fun a o h e => ⟨h, s a o e fun z => h (z ▸ hp)⟩
theorem Stp.free (s : Stp p H H') {a : Addr} (ha : a ≠ p) (h : H' a = none) : H a = none := by
  cases e : H a with
  | none => rfl
  | some o => rw [s a o e ha] at h; cases h
theorem Bld.stp (s : Stp p H H') (hp : p ∈ B) (h : Bld K p F H B d v) : Bld K p F H' B d v := by
  obtain ⟨a, e, hB, hne, hF, h⟩ := h
  refine ⟨a, e, hB, hne, hF, ?_⟩
  rcases h with ⟨ds, vs, e1, h1, h2⟩ | ⟨kvs, vs, e1, h0, h1, h2⟩
  · exact .inl ⟨ds, vs, e1, s _ _ h1 hne, RepL.mono (s.hid hp) h2⟩
  · exact .inr ⟨kvs, vs, e1, h0, h1.imp (fun o z => s _ o z hne) (s.hid hp), RepKV.mono (s.hid hp) h2⟩
theorem RepC.stp (s : Stp p H H') (hp : p ∈ B) (h : RepC K p F H B d v) : RepC K p F H' B d v := by
  rcases h with h | h
  · exact .inl (Rep.mono (s.hid hp) h)
  · exact .inr (h.stp s hp)
theorem Pre.stp (h : Pre K p F H B σ ρ q) (s : Stp p H H') (hq : H' p = some (potV q')) : Pre K p F H' B σ ρ q' := by
  refine ⟨hq, h.pB, fun a ha => ?_, fun i b d e => ?_, h.len⟩
  · by_cases ne : a = p
    · subst ne; exact ⟨_, hq, rfl⟩
    · obtain ⟨o, h1, h2⟩ := h.nt a ha
      exact ⟨o, s _ _ h1 ne, h2⟩
  · obtain ⟨v, h1, h2, h3⟩ := h.env i b d e
    exact ⟨v, h1, fun z => Rep.mono (s.hid h.pB) (h2 z), fun z => (h3 z).stp s h.pB⟩
theorem tupO_nt {vs : List V} {o : HO} (h : TupO vs o) : nontup o = false := by
  rcases h with ⟨_, rfl⟩ | ⟨_, ob, rfl, _⟩ <;> rfl
theorem hide_tup (nt : ∀ a ∈ B, ∃ o, H a = some o ∧ nontup o = true) : TupS K H (hide H B) := fun a xs h => by
  obtain ⟨o, z, e⟩ := h
  refine ⟨o, z, hide_of (fun y => ?_) e⟩
  obtain ⟨o', e1, e2⟩ := nt a y
  rw [e] at e1; cases e1
  rw [tupO_nt z] at e2; cases e2
/-- as it lies in the whole heap -/
theorem Rep.out (h : Rep K p d (hide H B) v) : Rep K p d H v := Rep.mono (hide_le H B) h
theorem RepL.out {ds : List D} {vs : List V} (h : RepL K p ds (hide H B) vs) : RepL K p ds H vs := RepL.mono (hide_le H B) h
theorem RepC.lst {ds : List D} (hp : p ∈ B) (h : RepC K p F H B (.list ds) v) : ∃ a vs, v = .ref a ∧ a ≠ p ∧ H a = some (.lst vs) ∧ RepL K p ds (hide H B) vs := by
  rcases h with h | ⟨a, e, hB, hne, hF, h⟩
  · obtain ⟨a, vs, e, h1, h2⟩ := h
    refine ⟨a, vs, e, fun z => ?_, (hide_some h1).2, RepL.mono (hide_le _ _) h2⟩
    subst z
    exact (hide_some h1).1 hp
  · rcases h with ⟨ds', vs, e1, h1, h2⟩ | ⟨_, _, e1, _⟩
    · cases e1
      exact ⟨a, vs, e, hne, h1, h2⟩
    · cases e1
theorem RepC.tup {ds : List D} (h : RepC K p F H B (.tuple ds) v) : ∃ a vs, v = .ref a ∧ TupAt H a vs ∧ RepL K p ds (hide H B) vs := by
  rcases h with h | ⟨a, e, hB, hne, hF, h⟩
  · obtain ⟨a, vs, e, h1, h2⟩ := h
    exact ⟨a, vs, e, h1.mono (hide_le H B), h2⟩
  · rcases h with ⟨_, _, e1, _⟩ | ⟨_, _, e1, _⟩ <;> cases e1
theorem RepC.dic {kvs : List (D × D)} (h0 : isPot kvs = false) (h : RepC K p F H B (.dict kvs) v) : ∃ a vs, v = .ref a ∧ DcAt H (hide H B) a (kvs.map (·.1)) vs ∧ RepKV K p kvs (hide H B) vs := by
  rcases h with h | ⟨a, e, hB, hne, hF, h⟩
  · rcases h with h | ⟨_, a, vs, e, h1, h2⟩
    · rw [h0] at h; cases h.1
    · exact ⟨a, vs, e, h1.imp (fun o z => hide_le H B a o z) (hide_le _ _), RepKV.mono (hide_le _ _) h2⟩
  · rcases h with ⟨_, _, e1, _⟩ | ⟨kvs', vs, e1, h0', h1, h2⟩
    · cases e1
    · cases e1
      exact ⟨a, vs, e, h1, h2⟩
/-- what is neither a list nor a dict -/
theorem RepC.imm1 (hi : ∀ ds, d ≠ .list ds) (hk : ∀ kvs, d ≠ .dict kvs) (h : RepC K p F H B d v) : Rep K p d (hide H B) v := by
  rcases h with h | ⟨a, e, hB, hne, hF, h⟩
  · exact h
  · rcases h with ⟨_, _, e1, _⟩ | ⟨_, _, e1, _⟩
    · exact absurd e1 (hi _)
    · exact absurd e1 (hk _)
theorem RepC.int {i : Int} (h : RepC K p F H B (.int i) v) : v = .int i := h.imm1 (fun _ z => by cases z) (fun _ z => by cases z)
theorem RepC.bool {b : Bool} (h : RepC K p F H B (.bool b) v) : v = .bl b := h.imm1 (fun _ z => by cases z) (fun _ z => by cases z)
theorem RepC.str {x : Str} (h : RepC K p F H B (.str x) v) : v = .str x := h.imm1 (fun _ z => by cases z) (fun _ z => by cases z)
theorem RepC.none (h : RepC K p F H B .none v) : v = .non := h.imm1 (fun _ z => by cases z) (fun _ z => by cases z)
end
mutual
/-- no dict within -/
def nod : D → Bool
  | .list ds => nodL ds
  | .tuple ds => nodL ds
  | .dict _ => false
  | _ => true
def nodL : List D → Bool
  | [] => true
  | d :: r => nod d && nodL r
end
section
variable {K : PySem.W.Frag} {p : Addr}
mutual
theorem Rep.dp : ∀ {d : D} {H : Hp} {v : V}, nod d = true → Rep K p d H v → Dp K H v d
  | .none, _, _, _, h => by rw [show _ = V.non from h]; exact .non
  | .bool b, _, _, _, h => by rw [show _ = V.bl b from h]; exact .bl b
  | .int b, _, _, _, h => by rw [show _ = V.int b from h]; exact .int b
  | .str b, _, _, _, h => by rw [show _ = V.str b from h]; exact .str b
  | .list ds, _, _, n, h => by
    obtain ⟨a, vs, e, h1, h2⟩ := h
    subst e
    exact .lst (.inl (.inl h1)) (RepL.dp (by simpa [nod] using n) (RepL.out h2))
  | .tuple ds, _, _, n, h => by
    obtain ⟨a, vs, e, h1, h2⟩ := h
    subst e
    exact .tup h1.sq (RepL.dp (by simpa [nod] using n) h2)
  | .dict _, _, _, n, _ => by simp [nod] at n
theorem RepL.dp : ∀ {ds : List D} {H : Hp} {vs : List V}, nodL ds = true → RepL K p ds H vs → DpAll K H vs ds
  | [], _, _, _, h => by rw [show _ = [] from h]; exact .nil
  | d :: ds, _, _, n, h => by
    obtain ⟨v, r, e, h1, h2⟩ := h
    subst e
    simp only [nodL, Bool.and_eq_true] at n
    exact .cons (Rep.dp n.1 h1) (RepL.dp n.2 h2)
end
theorem RepC.dp {H : Hp} {B : List Addr} {d : D} {v : V} (hp : p ∈ B) (n : nod d = true) (h : RepC K p F H B d v) : Dp K H v d := by
  cases d with
  | list ds =>
    obtain ⟨a, vs, e, _, h1, h2⟩ := h.lst hp
    subst e
    exact .lst (.inl (.inl h1)) (RepL.dp (by simpa [nod] using n) h2.out)
  | dict kvs => simp [nod] at n
  | none => exact Rep.dp n (Rep.out (h.imm1 (fun _ z => by cases z) (fun _ z => by cases z)))
  | bool b => exact Rep.dp n (Rep.out (h.imm1 (fun _ z => by cases z) (fun _ z => by cases z)))
  | int b => exact Rep.dp n (Rep.out (h.imm1 (fun _ z => by cases z) (fun _ z => by cases z)))
  | str b => exact Rep.dp n (Rep.out (h.imm1 (fun _ z => by cases z) (fun _ z => by cases z)))
  | tuple ds => exact Rep.dp n (Rep.out (h.imm1 (fun _ z => by cases z) (fun _ z => by cases z)))
end
end Sd
/-! new tuples -/
namespace Sd
open PySem PySem.Spec PyProof.Rows L2
section
variable {X : Cx} {e : Expr} {es : List Expr} {t : TA} {te : TE} {pos : Pos} {pins : List (Addr × Obj)} {σ : L2.St} {H : Hp} {s : Shared}
/-- a new tuple, held as it is to be held -/
theorem tup_new {xs : List V} {its : List Value} {h : Heap} {tk : Nat} {s : Shared} (I : Inv X pins σ H { s with heap := h, toks := tk }) (r : Vals xs its) (z : xs.length ≤ sizeLine) :
    ∃ o, TupO xs o ∧ Inv X pins σ (upd H h.objs.size o) { s with heap := h.push { cls := .type "tuple", data := .seq its.toArray }, toks := tk } := by
  have it : ∀ {H : Hp}, ObjOk X.prog X.w H (h.push { cls := .type "tuple", data := .seq its.toArray }) h.objs.size (.tup xs) := ⟨z, its, r, IsTup.new _ _⟩
  cases f : frzOk with
  | false => exact ⟨.tup xs, .inl ⟨f, rfl⟩, I.laid (t' := tk) (fun _ _ q => Heap.get?_push_of_some _ q) (Nat.le_refl _) it⟩
  | true => exact ⟨.frz { cls := .type "tuple", data := .seq its.toArray } (.tup xs), .inr ⟨f, _, rfl, rfl⟩, I.laid (t' := tk) (fun _ _ q => Heap.get?_push_of_some _ q) (Nat.le_refl _) (show ObjOk X.prog X.w _ _ _ (.frz _ _) from ⟨Heap.get?_push_size _ rfl, it⟩)⟩
theorem tup_fin {xs : List V} {its : List Value} {h : Heap} {tk : Nat} {Q : VK} (I : Inv X pins σ H { s with heap := h, toks := tk }) (r : Vals xs its) (z : xs.length ≤ sizeLine) (q : ∀ p o, H p = none → TupO xs o → Q (.ref p) (upd H p o)) :
    EP X pins σ Q (.ref h.objs.size) { s with heap := h.push { cls := .type "tuple", data := .seq its.toArray }, toks := tk } := by
  obtain ⟨o, ho, J⟩ := tup_new I r z
  exact ⟨.ref _, _, J, rfl, q _ o (I.hok.fresh (Nat.le_refl _)) ho⟩
def tTupO (t : TA) : TE := fun σ H Q => t σ H fun xs H1 => xs.length ≤ sizeLine ∧ ∀ p o, H1 p = none → TupO xs o → Q (.ref p) (upd H1 p o)
theorem pe_tupO {k : Nat} (h : PA X es t) : PE X (.Tuple es k pos) (tTupO t) :=
  ⟨fun pins s σ H Q I hq => wpAny_Tuple_spliced (thn (h.run pos pins s σ H _ I hq) fun us s1 ⟨xs, H1, I1, r, z, q⟩ => ⟨by rw [← r.length]; exact z, tup_fin (h := s1.heap) (tk := s1.toks) I1 r z q⟩)⟩
/-- t[lo:hi] -/
def rSlO (K : PySem.W.Frag) : V → Option Int → Option Int → Hp → VK → Prop := fun x lo hi H Q => ∃ a xs, x = .ref a ∧ SqT K H a xs ∧
  (HT.sIx xs.length 0 lo = 0 ∧ HT.sIx xs.length xs.length hi = xs.length → Q (.ref a) H) ∧ (¬ (HT.sIx xs.length 0 lo = 0 ∧ HT.sIx xs.length xs.length hi = xs.length) → ∀ p o, H p = none → TupO (cutV xs lo hi) o → Q (.ref p) (upd H p o))
theorem sl_tupO : SlR X (rSlO X.K) := by
  intro pins s σ H x v vl vu lo hi sl Q I rx hs pl pu h
  obtain ⟨a, xs, rfl, hx, q1, q2⟩ := h
  by_cases whole : HT.sIx xs.length 0 lo = 0 ∧ HT.sIx xs.length xs.length hi = xs.length
  · exact sl_tupA pins s σ H _ v vl vu lo hi sl Q I rx hs pl pu ⟨a, xs, rfl, hx, q1, fun c => absurd whole c⟩
  · cases rx
    obtain ⟨its, r, ht, hz⟩ := I.tuple hx
    have size : its.toArray.size = xs.length := by rw [List.size_toArray, r.length]
    refine ⟨"tuple", _, PyProof.Rows.slot_tuple_getitem.lookup, ht.typeIs, HT.getItem_tuple_cut ht hs pl pu (by rw [size]; exact whole) ?_ (by rw [size]; exact hz)⟩
    rw [size]
    exact tup_fin (h := s.heap) (tk := s.toks) I ((r.drop (HT.sIx xs.length 0 lo)).take (HT.sIx xs.length xs.length hi - HT.sIx xs.length 0 lo)) (Nat.le_trans (cutV_length xs lo hi) hz) (q2 whole)
/-- t + u -/
def rCatO (K : PySem.W.Frag) : R2 := fun x y H Q => ∃ a b xs ys, x = .ref a ∧ y = .ref b ∧ SqT K H a xs ∧ SqT K H b ys ∧ xs.length + ys.length ≤ sizeLine ∧
  (xs = [] → Q (.ref b) H) ∧ (xs ≠ [] → ys = [] → Q (.ref a) H) ∧ (xs ≠ [] → ys ≠ [] → ∀ p o, H p = none → TupO (xs ++ ys) o → Q (.ref p) (upd H p o))
theorem op_catO : OpR X (binaryOp .Add) (rCatO X.K) := by
  intro pins s σ H x y v u Q I rx ry h
  obtain ⟨a, b, xs, ys, rfl, rfl, ha, hb, hz, q0, q1, q2⟩ := h
  by_cases nx : xs = []
  · exact op_catA pins s σ H _ _ v u Q I rx ry ⟨a, b, xs, ys, rfl, rfl, ha, hb, hz, q0, q1, fun c => absurd nx c⟩
  · cases rx
    cases ry
    obtain ⟨its, r1, p1, _⟩ := I.tuple ha
    obtain ⟨its2, r2, p2, _⟩ := I.tuple hb
    refine HT.cat_tup p1 p2 (fun z => nx (r1.nil_iff.mp z)) (fun z => ⟨.ref a, H, I, rfl, q1 nx (r2.nil_iff.mp z)⟩) (fun z => ?_) (by rw [← r1.length, ← r2.length]; exact hz)
    exact tup_fin (h := s.heap) (tk := s.toks) I (r1.append r2) (by rw [List.length_append]; exact hz) (q2 nx fun w => z (r2.nil_iff.mpr w))
/-- tuple(xs) -/
theorem call_tupleO : CallR X (.type "tuple") (fun xs H Q => ∃ a ys, xs = [.ref a] ∧ ((SqL X.K H a ys ∧ ∀ p o, H p = none → TupO ys o → Q (.ref p) (upd H p o)) ∨ (SqT X.K H a ys ∧ Q (.ref a) H))) := by
  intro pins s σ H xs us Q I r h
  obtain ⟨a, ys, rfl, ⟨hq, q⟩ | ⟨hq, q⟩⟩ := h
  · rw [Vals.ref1 r]
    obtain ⟨its, rv, pl, hz⟩ := I.list hq
    have len := rv.length
    exact call_tuple_list pl.isList (fun h' kp => tup_fin (s := s) (h := h') (tk := s.toks) (I.kept kp) rv hz q) (by rw [List.size_toArray, ← len]; exact hz)
  · exact call_tuple_of pins s σ H _ us Q I r ⟨a, ys, rfl, .inr ⟨hq, q⟩⟩
/-- tuple(range(..)) -/
def tTupRgO (te : L2.St → Hp → (Int → Int → Hp → Prop) → Prop) : TE := fun σ H Q => te σ H fun a b H1 => RgOk a b ∧ ∀ p o, H1 p = none → TupO (rgV a b) o → Q (.ref p) (upd H1 p o)
theorem pe_tupRgO {te : L2.St → Hp → (Int → Int → Hp → Prop) → Prop} {np : Pos} (hc : X.calm = true) (hg : Gl X "tuple") (hm : X.mg "tuple" = none) (he : PRg X e te) (na : starEach [e] X.env = (false, eval e X.env) :: starEach [] X.env := by rfl) : PE X (.Call (.Name "tuple" np) [e] [] pos) (tTupRgO te) := by
  constructor
  intro pins s σ H Q I h
  refine Call_ (ld_blt I hg hm boot_tuple (PyProof.Rows.callWith_type1 (args_cons (thn (he pins s σ H _ I h) fun x s1 ⟨r, a, b, t, u, v, H1, ex, hr, I1, ok, q⟩ => args_nil ?_) na) na))
  subst ex
  obtain ⟨b1, b2, b3, b4, b5⟩ := ok
  refine call_tuple_range (n := (b - a).toNat) (I1.ok.hd hc) hr (small_one b1 b2 b3 b4) (rangeSize_nat a b) b5 fun h' tk acc hk hi => ?_
  have z := tup_fin (s := s1) (h := h') (tk := tk) (its := acc.toList) (I1.kept hk) (vals_rg hi) (by rw [rgV_length, sizeLine_eq]; omega) q
  rwa [Array.toArray_toList] at z
end
end Sd
/-! judgements over data: expressions, tests, arguments -/
namespace Sd
open PySem PySem.Spec PyProof.Rows L2
def isLD : D → Bool
  | .list _ => true
  | .dict _ => true
  | _ => false
def New (H : Hp) (v : V) (d : D) : Prop := isLD d = true → ∃ a, v = .ref a ∧ H a = none
section
variable (K : PySem.W.Frag) (p : Addr)
def Res (F : Addr → Prop) (c : Bool) (H : Hp) (B : List Addr) (d : D) (v : V) : Prop := if c = true then RepC K p F H B d v else Rep K p d (hide H B) v
def ResL (F : Addr → Prop) (c : Bool) (H : Hp) (B : List Addr) : List D → List V → Prop
  | [], vs => vs = []
  | d :: ds, vs => ∃ v r, vs = v :: r ∧ Res K p F c H B d v ∧ ResL F c H B ds r
def tE (f : Env → M D) (c fr : Bool) : TE := fun σ H Q => HL H → ∃ (F : Addr → Prop) (ρ : Env) (B : List Addr) (q : Pot) (d : D) (q' : Pot), Pre K p F H B σ ρ q ∧ f ρ q = some (d, q') ∧
  ∀ v H', HL H' → Stp p H H' → H' p = some (potV q') → Res K p F c H' B d v → (fr = true → New H v d) → Q v H'
def tT (f : Env → M D) : TT := fun σ H Q => HL H → ∃ (F : Addr → Prop) (ρ : Env) (B : List Addr) (q : Pot) (b : Bool) (q' : Pot), Pre K p F H B σ ρ q ∧ f ρ q = some (.bool b, q') ∧
  ∀ H', HL H' → Stp p H H' → H' p = some (potV q') → Q b H'
def seqE : List (Env → M D) → Env → M (List D)
  | [], _ => M.pure []
  | f :: fs, ρ => M.bind (f ρ) fun d => M.bind (seqE fs ρ) fun ds => M.pure (d :: ds)
def tA (fs : List (Env → M D)) (c : Bool) : TA := fun σ H Q => HL H → ∃ (F : Addr → Prop) (ρ : Env) (B : List Addr) (q : Pot) (ds : List D) (q' : Pot), Pre K p F H B σ ρ q ∧ seqE fs ρ q = some (ds, q') ∧
  ∀ vs H', HL H' → Stp p H H' → H' p = some (potV q') → ResL K p F c H' B ds vs → Q vs H'
end
structure DE (X : Cx) (p : Addr) (e : Expr) (f : Env → M D) (c fr : Bool) : Prop where
  pe : PE X e (tE X.K p f c fr)
structure DT (X : Cx) (p : Addr) (e : Expr) (f : Env → M D) : Prop where
  pt : PT X e (tT X.K p f)
structure DW (X : Cx) (p : Addr) (e : Expr) (f : Env → M D) : Prop where
  pw : PW X e (tT X.K p f)
structure DA (X : Cx) (p : Addr) (es : List Expr) (fs : List (Env → M D)) (c : Bool) : Prop where
  pa : PA X es (tA X.K p fs c)
section
variable {K : PySem.W.Frag} {p : Addr} {F : Addr → Prop} {c fr : Bool} {H H' H1 H2 : Hp} {B : List Addr} {d : D} {v : V} {ds : List D} {vs : List V}
theorem Res.cons (h : Res K p F c H B d v) : RepC K p F H B d v := by
  unfold Res at h
  split at h
  · exact h
  · exact .inl h
theorem Res.of (h : Rep K p d (hide H B) v) : Res K p F c H B d v := by
  unfold Res
  split
  · exact .inl h
  · exact h
theorem Res.stp (s : Stp p H H') (hp : p ∈ B) (h : Res K p F c H B d v) : Res K p F c H' B d v := by
  unfold Res at h ⊢
  split
  · rename_i e; rw [if_pos e] at h; exact RepC.stp s hp h
  · rename_i e; rw [if_neg e] at h; exact Rep.mono (s.hid hp) h
theorem ResL.stp (s : Stp p H H') (hp : p ∈ B) : ∀ {ds : List D} {vs : List V}, ResL K p F c H B ds vs → ResL K p F c H' B ds vs
  | [], _, h => h
  | d :: ds, _, h => by
    obtain ⟨v, r, e, h1, h2⟩ := h
    exact ⟨v, r, e, h1.stp s hp, ResL.stp s hp h2⟩
theorem ResL.cons : ∀ {ds : List D} {vs : List V}, ResL K p F c H B ds vs → ResL K p F true H B ds vs
  | [], _, h => h
  | d :: ds, _, h => by
    obtain ⟨v, r, e, h1, h2⟩ := h
    exact ⟨v, r, e, by unfold Res; rw [if_pos rfl]; exact h1.cons, ResL.cons h2⟩
theorem ResL.rep : ∀ {ds : List D} {vs : List V}, ResL K p F false H B ds vs → RepL K p ds (hide H B) vs
  | [], _, h => h
  | d :: ds, _, h => by
    obtain ⟨v, r, e, h1, h2⟩ := h
    exact ⟨v, r, e, h1, ResL.rep h2⟩
theorem ResL.len : ∀ {ds : List D} {vs : List V}, ResL K p F c H B ds vs → vs.length = ds.length
  | [], _, h => by rw [show _ = [] from h]; rfl
  | d :: ds, _, h => by
    obtain ⟨v, r, e, _, h2⟩ := h
    rw [e, List.length_cons, List.length_cons, ResL.len h2]
end
section
variable {X : Cx} {p : Addr} {e : Expr} {f g : Env → M D} {c fr : Bool}
/-- the line is known ahead and behind -/
theorem peHL {t t' : TE} (h : PE X e t) (imp : ∀ σ H Q, HL H → t' σ H Q → t σ H (fun v H' => HL H' → Q v H')) : PE X e t' :=
  ⟨fun pins s σ H Q I hw => thn (h.run pins s σ H _ I (imp σ H Q (HL_of I.hok) hw)) fun _ _ ⟨v, H', I', r, q⟩ => ⟨v, H', I', r, q (HL_of I'.hok)⟩⟩
theorem ptHL {t t' : TT} (h : PT X e t) (imp : ∀ σ H Q, HL H → t' σ H Q → t σ H (fun v H' => HL H' → Q v H')) : PT X e t' :=
  ⟨fun pins s σ H Q I hw => thn (h.run pins s σ H _ I (imp σ H Q (HL_of I.hok) hw)) fun _ _ ⟨H', I', q⟩ => ⟨H', I', q (HL_of I'.hok)⟩⟩
theorem pwHL {t t' : TT} (h : PW X e t) (imp : ∀ σ H Q, HL H → t' σ H Q → t σ H (fun v H' => HL H' → Q v H')) : PW X e t' :=
  ⟨fun wh pins s σ H Q I hw => thn (h.run wh pins s σ H _ I (imp σ H Q (HL_of I.hok) hw)) fun _ _ ⟨H', I', q⟩ => ⟨H', I', q (HL_of I'.hok)⟩⟩
theorem paHL {es : List Expr} {t t' : TA} (h : PA X es t) (imp : ∀ σ H Q, HL H → t' σ H Q → t σ H (fun v H' => HL H' → Q v H')) : PA X es t' :=
  ⟨fun pos pins s σ H Q I hw => thn (h.run pos pins s σ H _ I (imp σ H Q (HL_of I.hok) hw)) fun _ _ ⟨v, H', I', r, q⟩ => ⟨v, H', I', r, q (HL_of I'.hok)⟩⟩
theorem DE.weak (h : DE X p e f c fr) : DE X p e f true false := ⟨peHL h.pe fun σ H Q hl t => by
  obtain ⟨F, ρ, B, q, d, q', h1, h2, h3⟩ := t hl
  exact fun _ => ⟨F, ρ, B, q, d, q', h1, h2, fun v H' l s hq r n l' => h3 v H' l s hq (by unfold Res; rw [if_pos rfl]; exact r.cons) (fun z => by cases z)⟩⟩
theorem DE.nofr (h : DE X p e f c fr) : DE X p e f c false := ⟨peHL h.pe fun σ H Q hl t => by
  obtain ⟨F, ρ, B, q, d, q', h1, h2, h3⟩ := t hl
  exact fun _ => ⟨F, ρ, B, q, d, q', h1, h2, fun v H' l s hq r n l' => h3 v H' l s hq r (fun z => by cases z)⟩⟩
/-! ### names, constants -/
def vr (i : Nat) : Env → M D := fun ρ => match ρ[i]? with
  | some (some (false, d)) => M.pure d
  | _ => M.fail
def vrC (i : Nat) : Env → M D := fun ρ => match ρ[i]? with
  | some (some (_, d)) => M.pure d
  | _ => M.fail
theorem vr_some {i : Nat} {ρ : Env} {q q' : Pot} {d : D} (h : vr i ρ q = some (d, q')) : ρ[i]? = some (some (false, d)) ∧ q' = q := by
  unfold vr at h
  cases e : ρ[i]? with
  | none => rw [e] at h; cases h
  | some o =>
    cases o with
    | none => rw [e] at h; cases h
    | some bd =>
      obtain ⟨b, d'⟩ := bd
      cases b with
      | true => rw [e] at h; cases h
      | false =>
        rw [e] at h
        obtain ⟨rfl, rfl⟩ := M.pure_some h
        exact ⟨rfl, rfl⟩
theorem vrC_some {i : Nat} {ρ : Env} {q q' : Pot} {d : D} (h : vrC i ρ q = some (d, q')) : ∃ b, ρ[i]? = some (some (b, d)) ∧ q' = q := by
  unfold vrC at h
  cases e : ρ[i]? with
  | none => rw [e] at h; cases h
  | some o =>
    cases o with
    | none => rw [e] at h; cases h
    | some bd =>
      obtain ⟨b, d'⟩ := bd
      rw [e] at h
      obtain ⟨rfl, rfl⟩ := M.pure_some h
      exact ⟨b, rfl, rfl⟩
def cst (d : D) : Env → M D := fun _ => M.pure d
theorem d_var {x : Str} {pos : Pos} (i : Nat) (hN : X.N[i]? = some x) (hv : Vis X.env.scope x) (hd : (x == ("__debug__" : Str)) = false := by decide) (hcd : (x == ("__classdict__" : Str)) = false := by decide) :
    DE X p (.Name x pos) (vr i) false false := ⟨peHL (pe_var hN hv hd hcd) fun σ H Q hl t => by
  obtain ⟨F, ρ, B, q, d, q', h1, h2, h3⟩ := t hl
  obtain ⟨e, rfl⟩ := vr_some h2
  obtain ⟨v, e1, e2, _⟩ := h1.env i false _ e
  exact ⟨v, e1, fun l => h3 v H l Stp.refl h1.pot (e2 rfl) (fun z => by cases z)⟩⟩
theorem d_varC {x : Str} {pos : Pos} (i : Nat) (hN : X.N[i]? = some x) (hv : Vis X.env.scope x) (hd : (x == ("__debug__" : Str)) = false := by decide) (hcd : (x == ("__classdict__" : Str)) = false := by decide) :
    DE X p (.Name x pos) (vrC i) true false := ⟨peHL (pe_var hN hv hd hcd) fun σ H Q hl t => by
  obtain ⟨F, ρ, B, q, d, q', h1, h2, h3⟩ := t hl
  obtain ⟨b, e, rfl⟩ := vrC_some h2
  obtain ⟨v, e1, e2, e3⟩ := h1.env i b _ e
  refine ⟨v, e1, fun l => h3 v H l Stp.refl h1.pot ?_ (fun z => by cases z)⟩
  cases b with
  | false => exact .inl (e2 rfl)
  | true => exact .inr (e3 rfl)⟩
/-- a value that is what it is in every heap -/
theorem d_cst {d : D} {v : V} (h : PE X e (tC v)) (r : ∀ H, Rep X.K p d H v) (nl : isLD d = false) : DE X p e (cst d) false fr := ⟨peHL h fun σ H Q hl t => by
  obtain ⟨F, ρ, B, q, d', q', h1, h2, h3⟩ := t hl
  obtain ⟨rfl, rfl⟩ := M.pure_some h2
  exact fun l => h3 v H l Stp.refl h1.pot (r _) (fun _ z => by rw [nl] at z; cases z)⟩
theorem d_int {i : Int} {j : Nat} {pos : Pos} : DE X p (.Constant (.int i) j pos) (cst (.int i)) false fr := d_cst pe_int (fun _ => rfl) rfl
theorem d_bl {i : Bool} {j : Nat} {pos : Pos} : DE X p (.Constant (.bool i) j pos) (cst (.bool i)) false fr := d_cst pe_bl (fun _ => rfl) rfl
theorem d_non {j : Nat} {pos : Pos} : DE X p (.Constant .none j pos) (cst .none) false fr := d_cst pe_non (fun _ => rfl) rfl
theorem d_str {i : Str} {j : Nat} {pos : Pos} : DE X p (.Constant (.str i) j pos) (cst (.str i)) false fr := d_cst pe_str (fun _ => rfl) rfl
theorem d_glob {x : Str} {v : V} {u : Value} {pos : Pos} {d : D} (hm : X.mg x = some u) (r : RelV v u) (rd : ∀ H, Rep X.K p d H v) (nl : isLD d = false) (hg : Gl X x) (hd : (x == ("__debug__" : Str)) = false := by decide) :
    DE X p (.Name x pos) (cst d) false fr := d_cst (pe_glob hg hm r hd) rd nl
/-! ### arguments -/
theorem da_nil : DA X p [] [] c := ⟨paHL pa_nil fun σ H Q hl t => by
  obtain ⟨F, ρ, B, q, ds, q', h1, h2, h3⟩ := t hl
  obtain ⟨rfl, rfl⟩ := M.pure_some h2
  exact fun l => h3 [] H l Stp.refl h1.pot rfl⟩
theorem da_cons {e : Expr} {es : List Expr} {fs : List (Env → M D)} {fr : Bool} (h1 : DE X p e f c fr) (h2 : DA X p es fs c) (hs : starEach (e :: es) X.env = (false, eval e X.env) :: starEach es X.env := by rfl) :
    DA X p (e :: es) (f :: fs) c := ⟨paHL (pa_cons h1.pe h2.pa hs) fun σ H Q hl t => by
  obtain ⟨F, ρ, B, q, ds, q', k1, k2, k3⟩ := t hl
  obtain ⟨d, q1, e1, k2⟩ := M.bind_some k2
  obtain ⟨dr, q2, e2, k2⟩ := M.bind_some k2
  obtain ⟨rfl, rfl⟩ := M.pure_some k2
  exact fun _ => ⟨F, ρ, B, q, d, q1, k1, e1, fun v H1 l1 s1 p1 r1 _ _ => ⟨F, ρ, B, q1, dr, _, k1.stp s1 p1, e2, fun vs H2 l2 s2 p2 r2 l2' =>
    k3 _ H2 l2 (s1.trans s2) p2 ⟨v, vs, rfl, r1.stp s2 k1.pB, r2⟩⟩⟩⟩
/-! ### operations by values -/
def OkN (K : PySem.W.Frag) (p : Addr) (r : List V → Hp → VK → Prop) (g : List D → Option D) (fr : Bool) : Prop :=
  ∀ (F : Addr → Prop) (vs : List V) (H : Hp) (B : List Addr) (ds : List D) (d : D) (Q : VK), p ∈ B → (∀ a ∈ B, ∃ o, H a = some o ∧ nontup o = true) → HL H → ResL K p F true H B ds vs → g ds = some d →
    (∀ v H', Same H H' → Rep K p d (hide H' B) v → (fr = true → New H v d) → Q v H') → r vs H Q
/-- two values -/
def Ok2 (K : PySem.W.Frag) (p : Addr) (r : R2) (g : D → D → Option D) (fr : Bool) : Prop :=
  ∀ (F : Addr → Prop) (x y : V) (H : Hp) (B : List Addr) (d1 d2 : D) (d : D) (Q : VK), p ∈ B → (∀ a ∈ B, ∃ o, H a = some o ∧ nontup o = true) → HL H → RepC K p F H B d1 x → RepC K p F H B d2 y → g d1 d2 = some d →
    (∀ v H', Same H H' → Rep K p d (hide H' B) v → (fr = true → New H v d) → Q v H') → r x y H Q
def ap (g : List D → Option D) (fs : List (Env → M D)) : Env → M D := fun ρ => M.bind (seqE fs ρ) fun ds => M.of (g ds)
def ap2 (g : D → D → Option D) (f1 f2 : Env → M D) : Env → M D := fun ρ => M.bind (f1 ρ) fun d1 => M.bind (f2 ρ) fun d2 => M.of (g d1 d2)
def ap1 (g : D → Option D) (f1 : Env → M D) : Env → M D := fun ρ => M.bind (f1 ρ) fun d1 => M.of (g d1)
theorem pot_same {H H' : Hp} {q : Pot} (s : Same H H') (h : H p = some (potV q)) : H' p = some (potV q) := s _ _ h
theorem d_callR {es : List Expr} {fs : List (Env → M D)} {r : List V → Hp → VK → Prop} {g : List D → Option D} (t : ∀ {ta : TA}, PA X es ta → PE X e (tCB r ta)) (ok : OkN X.K p r g fr) (ha : DA X p es fs c) : DE X p e (ap g fs) false fr :=
  ⟨peHL (t ha.pa) fun σ H Q hl t => by
    obtain ⟨F, ρ, B, q, d, q', k1, k2, k3⟩ := t hl
    obtain ⟨ds, q1, e1, k2⟩ := M.bind_some k2
    obtain ⟨e2, rfl⟩ := M.of_some k2
    exact fun _ => ⟨F, ρ, B, q, ds, _, k1, e1, fun vs H1 l1 s1 p1 r1 => ok F vs H1 B ds d _ k1.pB (k1.stp s1 p1).nt l1 r1.cons e2 fun v H' s' rep new l' =>
      k3 v H' l' (s1.trans (Stp.of s')) (s' _ _ p1) rep fun z y => by
        obtain ⟨a, ea, na⟩ := new z y
        refine ⟨a, ea, ?_⟩
        by_cases hp : a = p
        · subst hp; rw [na] at p1; cases p1
        · exact s1.free hp na⟩⟩
theorem d_2 {a b : Expr} {fa fb : Env → M D} {ca cb f1 f2 : Bool} {r : R2} {g : D → D → Option D} (ok : Ok2 X.K p r g fr) (ha : DE X p a fa ca f1) (hb : DE X p b fb cb f2) (t : ∀ {ta tb : TE}, PE X a ta → PE X b tb → PE X e (tOp r ta tb)) : DE X p e (ap2 g fa fb) false fr :=
  ⟨peHL (t ha.pe hb.pe) fun σ H Q hl t => by
    obtain ⟨F, ρ, B, q, d, q', k1, k2, k3⟩ := t hl
    obtain ⟨d1, q1, e1, k2⟩ := M.bind_some k2
    obtain ⟨d2, q2, e2, k2⟩ := M.bind_some k2
    obtain ⟨e3, rfl⟩ := M.of_some k2
    exact fun _ => ⟨F, ρ, B, q, d1, q1, k1, e1, fun x H1 l1 s1 p1 r1 _ _ => ⟨F, ρ, B, q1, d2, _, k1.stp s1 p1, e2, fun y H2 l2 s2 p2 r2 _ =>
      ok F x y H2 B d1 d2 d _ k1.pB ((k1.stp s1 p1).stp s2 p2).nt l2 (RepC.stp s2 k1.pB r1.cons) r2.cons e3 fun v H' s' rep new l' =>
        k3 v H' l' ((s1.trans s2).trans (Stp.of s')) (s' _ _ p2) rep fun z y => by
          obtain ⟨a, ea, na⟩ := new z y
          refine ⟨a, ea, ?_⟩
          by_cases hp : a = p
          · subst hp; rw [na] at p2; cases p2
          · exact (s1.trans s2).free hp na⟩⟩⟩
theorem dt_2 {a b : Expr} {fa fb : Env → M D} {ca cb f1 f2 : Bool} {r : R2} {g : D → D → Option D} (ok : Ok2 X.K p r g fr) (ha : DE X p a fa ca f1) (hb : DE X p b fb cb f2) (t : ∀ {ta tb : TE}, PE X a ta → PE X b tb → PT X e (tTest (tOp r ta tb))) : DT X p e (ap2 g fa fb) :=
  ⟨ptHL (t ha.pe hb.pe) fun σ H Q hl t => by
    obtain ⟨F, ρ, B, q, d, q', k1, k2, k3⟩ := t hl
    obtain ⟨d1, q1, e1, k2⟩ := M.bind_some k2
    obtain ⟨d2, q2, e2, k2⟩ := M.bind_some k2
    obtain ⟨e3, rfl⟩ := M.of_some k2
    exact fun _ => ⟨F, ρ, B, q, d1, q1, k1, e1, fun x H1 l1 s1 p1 r1 _ _ => ⟨F, ρ, B, q1, d2, _, k1.stp s1 p1, e2, fun y H2 l2 s2 p2 r2 _ =>
      ok F x y H2 B d1 d2 _ _ k1.pB ((k1.stp s1 p1).stp s2 p2).nt l2 (RepC.stp s2 k1.pB r1.cons) r2.cons e3 fun v H' s' rep new =>
        ⟨d, rep, fun l' => k3 H' l' ((s1.trans s2).trans (Stp.of s')) (s' _ _ p2)⟩⟩⟩⟩
/-- a test whose value is a bool -/
theorem dt_val (h : DE X p e f c fr) (he : ∀ whole, isTrue e X.env whole = (do let v ← whole; standAt e.pos; holding [v] (truthy v)) := by intro _; rfl) : DT X p e f :=
  ⟨ptHL (pt_val h.pe he) fun σ H Q hl t => by
    obtain ⟨F, ρ, B, q, b, q', k1, k2, k3⟩ := t hl
    exact fun _ => ⟨F, ρ, B, q, _, q', k1, k2, fun v H' l s hq r _ => ⟨b, r.cons.bool, fun l' => k3 H' l' s hq⟩⟩⟩
/-! ### and, or, not, if -/
def andE (f g : Env → M D) : Env → M D := fun ρ => M.bind (f ρ) fun d => match d with
  | .bool true => g ρ
  | .bool false => M.pure (.bool false)
  | _ => M.fail
def orE (f g : Env → M D) : Env → M D := fun ρ => M.bind (f ρ) fun d => match d with
  | .bool true => M.pure (.bool true)
  | .bool false => g ρ
  | _ => M.fail
def notD : D → Option D
  | .bool b => some (.bool (!b))
  | _ => none
def iteE (c f g : Env → M D) : Env → M D := fun ρ => M.bind (c ρ) fun d => match d with
  | .bool true => f ρ
  | .bool false => g ρ
  | _ => M.fail
theorem andE_some {ρ : Env} {q q' : Pot} {d : D} (h : andE f g ρ q = some (d, q')) : (∃ q1, f ρ q = some (.bool true, q1) ∧ g ρ q1 = some (d, q')) ∨ (f ρ q = some (.bool false, q') ∧ d = .bool false) := by
  obtain ⟨a, q1, e1, h⟩ := M.bind_some h
  cases a with
  | bool b =>
    cases b with
    | true => exact .inl ⟨q1, e1, h⟩
    | false =>
      obtain ⟨rfl, rfl⟩ := M.pure_some h
      exact .inr ⟨e1, rfl⟩
  | _ => cases h
theorem orE_some {ρ : Env} {q q' : Pot} {d : D} (h : orE f g ρ q = some (d, q')) : (∃ q1, f ρ q = some (.bool false, q1) ∧ g ρ q1 = some (d, q')) ∨ (f ρ q = some (.bool true, q') ∧ d = .bool true) := by
  obtain ⟨a, q1, e1, h⟩ := M.bind_some h
  cases a with
  | bool b =>
    cases b with
    | false => exact .inl ⟨q1, e1, h⟩
    | true =>
      obtain ⟨rfl, rfl⟩ := M.pure_some h
      exact .inr ⟨e1, rfl⟩
  | _ => cases h
theorem iteE_some {t : Env → M D} {ρ : Env} {q q' : Pot} {d : D} (h : iteE t f g ρ q = some (d, q')) : ∃ b q1, t ρ q = some (.bool b, q1) ∧ (if b = true then f ρ q1 else g ρ q1) = some (d, q') := by
  obtain ⟨a, q1, e1, h⟩ := M.bind_some h
  cases a with
  | bool b =>
    refine ⟨b, q1, e1, ?_⟩
    cases b with
    | true => rw [if_pos rfl]; exact h
    | false => rw [if_neg Bool.false_ne_true]; exact h
  | _ => cases h
theorem d_one {op : BoolOp} {pos : Pos} (h : DE X p e f c fr) : DE X p (.BoolOp op [e] pos) f c fr := ⟨pe_one h.pe⟩
theorem d_and {a b : Expr} {rest : List Expr} {pos : Pos} {c1 f1 : Bool} (ha : DE X p a f c1 f1) (hb : DE X p (.BoolOp .And (b :: rest) pos) g c fr) : DE X p (.BoolOp .And (a :: b :: rest) pos) (andE f g) c false :=
  ⟨peHL (pe_and ha.pe hb.pe) fun σ H Q hl t => by
    obtain ⟨F, ρ, B, q, d, q', k1, k2, k3⟩ := t hl
    rcases andE_some k2 with ⟨q1, e1, e2⟩ | ⟨e1, rfl⟩
    · refine fun _ => ⟨F, ρ, B, q, _, q1, k1, e1, fun v H1 l1 s1 p1 r1 _ => ⟨true, r1.cons.bool, ?_⟩⟩
      rw [if_pos rfl]
      exact fun _ => ⟨F, ρ, B, q1, d, q', k1.stp s1 p1, e2, fun v H2 l2 s2 p2 r2 n2 l2' => k3 v H2 l2 (s1.trans s2) p2 r2 (fun z => by cases z)⟩
    · refine fun _ => ⟨F, ρ, B, q, _, q', k1, e1, fun v H1 l1 s1 p1 r1 _ => ⟨false, r1.cons.bool, ?_⟩⟩
      rw [if_neg Bool.false_ne_true]
      exact fun l => k3 _ H1 l s1 p1 (Res.of rfl) (fun z => by cases z)⟩
theorem d_or {a b : Expr} {rest : List Expr} {pos : Pos} {c1 f1 : Bool} (ha : DE X p a f c1 f1) (hb : DE X p (.BoolOp .Or (b :: rest) pos) g c fr) : DE X p (.BoolOp .Or (a :: b :: rest) pos) (orE f g) c false :=
  ⟨peHL (pe_or ha.pe hb.pe) fun σ H Q hl t => by
    obtain ⟨F, ρ, B, q, d, q', k1, k2, k3⟩ := t hl
    rcases orE_some k2 with ⟨q1, e1, e2⟩ | ⟨e1, rfl⟩
    · refine fun _ => ⟨F, ρ, B, q, _, q1, k1, e1, fun v H1 l1 s1 p1 r1 _ => ⟨false, r1.cons.bool, ?_⟩⟩
      rw [if_neg Bool.false_ne_true]
      exact fun _ => ⟨F, ρ, B, q1, d, q', k1.stp s1 p1, e2, fun v H2 l2 s2 p2 r2 n2 l2' => k3 v H2 l2 (s1.trans s2) p2 r2 (fun z => by cases z)⟩
    · refine fun _ => ⟨F, ρ, B, q, _, q', k1, e1, fun v H1 l1 s1 p1 r1 _ => ⟨true, r1.cons.bool, ?_⟩⟩
      rw [if_pos rfl]
      exact fun l => k3 _ H1 l s1 p1 (Res.of rfl) (fun z => by cases z)⟩
theorem notD_some {d e : D} (h : notD d = some e) : ∃ b, d = .bool b ∧ e = .bool (!b) := by
  cases d with
  | bool b => cases h; exact ⟨b, rfl, rfl⟩
  | _ => cases h
theorem d_not {a : Expr} {pos : Pos} (ha : DE X p a f c fr) : DE X p (.UnaryOp .Not a pos) (ap1 notD f) false false :=
  ⟨peHL (pe_not ha.pe) fun σ H Q hl t => by
    obtain ⟨F, ρ, B, q, d, q', k1, k2, k3⟩ := t hl
    obtain ⟨d1, q1, e1, k2⟩ := M.bind_some k2
    obtain ⟨e2, rfl⟩ := M.of_some k2
    obtain ⟨b, rfl, rfl⟩ := notD_some e2
    exact fun _ => ⟨F, ρ, B, q, _, _, k1, e1, fun v H1 l1 s1 p1 r1 _ => ⟨b, r1.cons.bool, fun l => k3 _ H1 l s1 p1 (Res.of rfl) (fun z => by cases z)⟩⟩⟩
theorem d_ifx {t a b : Expr} {ft : Env → M D} {pos : Pos} {f1 f2 : Bool} (ht : DT X p t ft) (ha : DE X p a f c f1) (hb : DE X p b g c f2) : DE X p (.IfExp t a b pos) (iteE ft f g) c false :=
  ⟨peHL (pe_ifExp ht.pt ha.pe hb.pe) fun σ H Q hl t => by
    obtain ⟨F, ρ, B, q, d, q', k1, k2, k3⟩ := t hl
    obtain ⟨b, q1, e1, e2⟩ := iteE_some k2
    refine fun _ => ⟨F, ρ, B, q, b, q1, k1, e1, fun H1 l1 s1 p1 => ?_⟩
    cases b with
    | true =>
      rw [if_pos rfl] at e2 ⊢
      exact fun _ => ⟨F, ρ, B, q1, d, q', k1.stp s1 p1, e2, fun v H2 l2 s2 p2 r2 n2 l2' => k3 v H2 l2 (s1.trans s2) p2 r2 (fun z => by cases z)⟩
    | false =>
      rw [if_neg Bool.false_ne_true] at e2 ⊢
      exact fun _ => ⟨F, ρ, B, q1, d, q', k1.stp s1 p1, e2, fun v H2 l2 s2 p2 r2 n2 l2' => k3 v H2 l2 (s1.trans s2) p2 r2 (fun z => by cases z)⟩⟩
theorem dw_pt (h : DW X p e f) : DT X p e f := ⟨PW.pt h.pw⟩
theorem dw_and1 {a : Expr} {pos : Pos} (h : DT X p a f) : DW X p (.BoolOp .And [a] pos) f := ⟨pw_and1 h.pt⟩
theorem dw_or1 {a : Expr} {pos : Pos} (h : DT X p a f) : DW X p (.BoolOp .Or [a] pos) f := ⟨pw_or1 h.pt⟩
theorem dw_and {a b : Expr} {rest : List Expr} {pos : Pos} (ha : DT X p a f) (hb : DW X p (.BoolOp .And (b :: rest) pos) g) : DW X p (.BoolOp .And (a :: b :: rest) pos) (andE f g) :=
  ⟨pwHL (pw_and ha.pt hb.pw) fun σ H Q hl t => by
    obtain ⟨F, ρ, B, q, b, q', k1, k2, k3⟩ := t hl
    rcases andE_some k2 with ⟨q1, e1, e2⟩ | ⟨e1, e2⟩
    · refine fun _ => ⟨F, ρ, B, q, _, q1, k1, e1, fun H1 l1 s1 p1 => ?_⟩
      dsimp only
      rw [if_pos rfl]
      exact fun _ => ⟨F, ρ, B, q1, b, q', k1.stp s1 p1, e2, fun H2 l2 s2 p2 l2' => k3 H2 l2 (s1.trans s2) p2⟩
    · cases e2
      refine fun _ => ⟨F, ρ, B, q, _, q', k1, e1, fun H1 l1 s1 p1 => ?_⟩
      dsimp only
      rw [if_neg Bool.false_ne_true]
      exact fun l => k3 H1 l s1 p1⟩
theorem dw_or {a b : Expr} {rest : List Expr} {pos : Pos} (ha : DT X p a f) (hb : DW X p (.BoolOp .Or (b :: rest) pos) g) : DW X p (.BoolOp .Or (a :: b :: rest) pos) (orE f g) :=
  ⟨pwHL (pw_or ha.pt hb.pw) fun σ H Q hl t => by
    obtain ⟨F, ρ, B, q, b, q', k1, k2, k3⟩ := t hl
    rcases orE_some k2 with ⟨q1, e1, e2⟩ | ⟨e1, e2⟩
    · refine fun _ => ⟨F, ρ, B, q, _, q1, k1, e1, fun H1 l1 s1 p1 => ?_⟩
      dsimp only
      rw [if_neg Bool.false_ne_true]
      exact fun _ => ⟨F, ρ, B, q1, b, q', k1.stp s1 p1, e2, fun H2 l2 s2 p2 l2' => k3 H2 l2 (s1.trans s2) p2⟩
    · cases e2
      refine fun _ => ⟨F, ρ, B, q, _, q', k1, e1, fun H1 l1 s1 p1 => ?_⟩
      dsimp only
      rw [if_pos rfl]
      exact fun l => k3 H1 l s1 p1⟩
theorem dt_not {a : Expr} {pos : Pos} (ha : DT X p a f) : DT X p (.UnaryOp .Not a pos) (ap1 notD f) :=
  ⟨ptHL (pt_not ha.pt) fun σ H Q hl t => by
    obtain ⟨F, ρ, B, q, b, q', k1, k2, k3⟩ := t hl
    obtain ⟨d1, q1, e1, k2⟩ := M.bind_some k2
    obtain ⟨e2, rfl⟩ := M.of_some k2
    obtain ⟨b', rfl, e3⟩ := notD_some e2
    cases e3
    exact fun _ => ⟨F, ρ, B, q, b', _, k1, e1, fun H1 l1 s1 p1 l => k3 H1 l s1 p1⟩⟩
/-! ### displays -/
theorem new_of {H H1 : Hp} {a : Addr} {d : D} {q : Pot} (s : Stp p H H1) (hp : H1 p = some (potV q)) (ha : H1 a = none) : New H (.ref a) d := fun _ => ⟨a, rfl, by
  by_cases e : a = p
  · subst e; rw [ha] at hp; cases hp
  · exact s.free e ha⟩
theorem same_upd {H : Hp} {a : Addr} {o : HO} (h : H a = none) : Same H (upd H a o) := fun b x e => by
  rw [upd_ne (ne_of_none e h)]
  exact e
theorem hid_new {H : Hp} {a : Addr} {o : HO} {B : List Addr} (h : H a = none) : Same (hide H B) (hide (hide (upd H a o) B) [a]) := fun b x e => by
  obtain ⟨h1, h2⟩ := hide_some e
  have ne : b ≠ a := ne_of_none h2 h
  exact hide_of (by simpa using ne) (hide_of h1 (by rw [upd_ne ne]; exact h2))
theorem new_nB {H : Hp} {a : Addr} {B : List Addr} (nt : ∀ a ∈ B, ∃ o, H a = some o ∧ nontup o = true) (h : H a = none) : a ∉ B := fun z => by
  obtain ⟨o, e, _⟩ := nt a z
  rw [h] at e; cases e
theorem rep_lst {K : PySem.W.Frag} {H : Hp} {a : Addr} {B : List Addr} {ds : List D} {vs : List V} (nt : ∀ a ∈ B, ∃ o, H a = some o ∧ nontup o = true) (h : H a = none) (r : RepL K p ds (hide H B) vs) : Rep K p (.list ds) (hide (upd H a (.lst vs)) B) (.ref a) :=
  ⟨a, vs, rfl, hide_of (new_nB nt h) upd_same, RepL.mono (hid_new h) r⟩
theorem rep_tup {K : PySem.W.Frag} {H : Hp} {a : Addr} {B : List Addr} {ds : List D} {vs : List V} {o : HO} (nt : ∀ a ∈ B, ∃ o, H a = some o ∧ nontup o = true) (h : H a = none) (ho : TupO vs o) (r : RepL K p ds (hide H B) vs) : Rep K p (.tuple ds) (hide (upd H a o) B) (.ref a) :=
  ⟨a, vs, rfl, ⟨o, ho, hide_of (new_nB nt h) upd_same⟩, RepL.mono (hide_same B (same_upd h)) r⟩
def tupE (fs : List (Env → M D)) : Env → M D := fun ρ => M.bind (seqE fs ρ) fun ds => M.pure (.tuple ds)
def lstE (fs : List (Env → M D)) : Env → M D := fun ρ => M.bind (seqE fs ρ) fun ds => M.pure (.list ds)
theorem seqE_len : ∀ {fs : List (Env → M D)} {ρ : Env} {q q' : Pot} {ds : List D}, seqE fs ρ q = some (ds, q') → ds.length = fs.length
  | [], _, _, _, _, h => by obtain ⟨rfl, rfl⟩ := M.pure_some h; rfl
  | f :: fs, _, _, _, _, h => by
    obtain ⟨d, q1, e1, h⟩ := M.bind_some h
    obtain ⟨dr, q2, e2, h⟩ := M.bind_some h
    obtain ⟨rfl, rfl⟩ := M.pure_some h
    rw [List.length_cons, List.length_cons, seqE_len e2]
theorem d_tup {es : List Expr} {fs : List (Env → M D)} {x1 : Nat} {pos : Pos} (ha : DA X p es fs false) (hn : fs.length ≤ sizeLine := by decide) : DE X p (.Tuple es x1 pos) (tupE fs) false false :=
  ⟨peHL (pe_tupO ha.pa) fun σ H Q hl t => by
    obtain ⟨F, ρ, B, q, d, q', k1, k2, k3⟩ := t hl
    obtain ⟨ds, q1, e1, k2⟩ := M.bind_some k2
    obtain ⟨rfl, rfl⟩ := M.pure_some k2
    refine fun _ => ⟨F, ρ, B, q, ds, _, k1, e1, fun vs H1 l1 s1 p1 r1 => ⟨by rw [r1.len, seqE_len e1]; exact hn, fun a o na ho l => ?_⟩⟩
    exact k3 _ _ l (s1.trans (Stp.of (same_upd na))) (same_upd na _ _ p1) (rep_tup (k1.stp s1 p1).nt na ho r1.rep) (fun z => by cases z)⟩
theorem d_lst {es : List Expr} {fs : List (Env → M D)} {pos : Pos} (ha : DA X p es fs false) (hn : fs.length ≤ sizeLine := by decide) : DE X p (.List es pos) (lstE fs) false true :=
  ⟨peHL (pe_lst ha.pa) fun σ H Q hl t => by
    obtain ⟨F, ρ, B, q, d, q', k1, k2, k3⟩ := t hl
    obtain ⟨ds, q1, e1, k2⟩ := M.bind_some k2
    obtain ⟨rfl, rfl⟩ := M.pure_some k2
    refine fun _ => ⟨F, ρ, B, q, ds, _, k1, e1, fun vs H1 l1 s1 p1 r1 => ⟨by rw [r1.len, seqE_len e1]; exact hn, fun a na l => ?_⟩⟩
    exact k3 _ _ l (s1.trans (Stp.of (same_upd na))) (same_upd na _ _ p1) (rep_lst (k1.stp s1 p1).nt na r1.rep) (fun _ => new_of s1 p1 na)⟩
end
end Sd
/-! defs over data, calls -/
namespace Sd
open PySem PySem.Spec PyProof.Rows L2
/-- what a def over data promises -/
def spD (K : PySem.W.Frag) (n : Nat) (sem : List D → M D) (vs : List V) (H : Hp) (Q : VK) : Prop := vs.length = n ∧ ∃ (p : Addr) (ds : List D) (B : List Addr) (q : Pot) (d : D) (q' : Pot),
  RepL K p ds (hide H B) vs ∧ p ∈ B ∧ (∀ a ∈ B, ∃ o, H a = some o ∧ nontup o = true) ∧ H p = some (potV q) ∧ sem ds q = some (d, q') ∧
  ∀ v H', HL H' → Stp p H H' → H' p = some (potV q') → Rep K p d (hide H' B) v → Q v H'
def Came (P : Program) (w : World) (outer : List PySem.Env) (H : Hp) (s : Shared) (Q : VK) (r : Result) (s' : Shared) : Prop := ∃ u, r = .ok (.ret u) ∧ CE outer P w H s Q u s'
/-- a def that keeps a promise, called where nothing is being shown (no repr above) -/
structure FnG (P : Program) (w : World) (K : PySem.W.Frag) (mg : Str → Option Value) (base : Heap) (k : Nat) (f : Addr) (fd : FuncData) (ps : List Str) (sp : List V → Hp → VK → Prop) : Prop where
  run : ∀ (A : Around) (outer : List PySem.Env) (s : Shared) (H : Hp) (args : Args) (us : List Value) (vs : List V) (Q : VK), Room k A → A.guards = some [] → Env0 P w K mg base A outer s H → BindsTo s fd args (ps.zip us) → vs.length = ps.length → Vals vs us → sp vs H Q →
    codeAny (model P w) A (.call (.ref f) args) (Came P w outer H s Q) s
section
variable {P : Program} {w : World} {K : PySem.W.Frag} {mg : Str → Option Value} {base : Heap} {x qual : Str} {body : List Stmt} {scope : Scope} {f : Addr} {fd : FuncData} {N ps : List Str} {k : Nat} {sp : List V → Hp → VK → Prop} {params : Arguments}
theorem FnG.mono {j : Nat} (F : FnG P w K mg base j f fd ps sp) (h : j ≤ k) : FnG P w K mg base k f fd ps sp := ⟨fun A o s H args us vs Q hr => F.run A o s H args us vs Q (hr.mono h)⟩
/-- the context of a def's body -/
abbrev cxB (P : Program) (w : World) (K : PySem.W.Frag) (mg : Str → Option Value) (base : Heap) (N : List Str) (qual : Str) (scope : Scope) (f : Addr) (cd : Value) (A : Around) (outer : List PySem.Env) (s : Shared) (H : Hp) : Cx :=
  (cxOf CX0 P w K mg base N qual scope f cd A outer s H fun _ _ _ => False).nox
theorem fnG_of (F : FunD K x qual params body scope [] [] f fd) (S : FnScope N ps scope)
    (hbody : ∀ (cdv : Value) (A : Around) (outer : List PySem.Env) (s : Shared) (H : Hp) (vs : List V) (Q : VK), Room k (A.deeper (envOfC qual scope s.heap.objs.size f cdv)) → A.guards = some [] → vs.length = ps.length → sp vs H Q →
      ∃ t, PSs (cxB P w K mg base N qual scope f cdv A outer s H) body t ∧ t { nx := fun _ H' => Q .non H', rt := Q } (start N vs) H) : FnG P w K mg base (k + 1) f fd ps sp := by
  obtain ⟨oc, od, dV, kV, doc, pm, an, cdv, ct, osl, rfl, lk, hcd, _, _⟩ := F.ex
  constructor
  intro A outer s H args us vs Q hr hgd e0 hb hl r hsp
  have inS : K.In s.heap := e0.mod.kin.keeps fun b o e => (e0.bs b o e).1
  have noLim : s.heap.NoLimit := e0.mod.nolimit.keeps fun b o e => (e0.bs b o e).1
  have kinds : ∀ y ∈ ps.zip us, scope.names.lookup y.1 = some .local ∨ (scope.names.lookup y.1 = some .cell ∧ ((cellsFrom (s.heap.objs.size + 1) scope.names []).lookup y.1).isSome = true) := by
    rintro ⟨n, v⟩ hy
    rcases S.par n (List.of_mem_zip hy).1 with z | z
    · exact Or.inl z
    · exact Or.inr ⟨z, PySem.W.cellsFrom_some _ _ _ (Or.inl z)⟩
  refine codeAny_call_function hr.depth (inS _ _ lk) rfl S.co S.gen rfl (PySem.W.codeRec_of inS hcd) (hb _ _ _ _ ?_)
  refine wpAny_newFunctionEnv_cells S.kind kinds fun env he s1 y => ?_
  subst he
  refine ⟨noLim.keeps y.toInCall.keep, codeAny_func ?_⟩
  obtain ⟨t, ht, hq⟩ := hbody cdv A outer s H vs Q (hr.deeper _) hgd hl hsp
  have J : Inv (cxB P w K mg base N qual scope f cdv A outer s H) [] (start N vs) H s1 := (inv_start S hr.hd e0 hl r y).wish _
  refine wpAny_mono (ht.run [] s1 (start N vs) H _ J hq) (fun fl s' hs => ?_) fun e s' hs => False.elim hs
  cases fl with
  | ret u =>
    obtain ⟨v, σ', H', J', rv, z⟩ := hs
    exact ⟨u, rfl, v, H', J'.os, J'.bare, J'.base, J'.hok, rv, z⟩
  | next =>
    obtain ⟨σ', H', J', z⟩ := hs
    exact ⟨.none, rfl, V.non, H', J'.os, J'.bare, J'.base, J'.hok, rfl, z⟩
  | brk =>
    obtain ⟨_, _, _, z⟩ := hs
    cases z
  | cont =>
    obtain ⟨_, _, _, z⟩ := hs
    cases z
end
section
variable {X : Cx} {k : Nat} {f : Addr} {fd : FuncData} {ps ks : List Str} {sp : List V → Hp → VK → Prop} {x : Str} {np pos : Pos} {e : Expr} {es : List Expr} {kws : List Keyword} {t tk : TA}
theorem runG {pins : List (Addr × Obj)} {σ : L2.St} {H : Hp} {s : Shared} {Q : VK} {args : Args} {us : List Value} {vs : List V} (F : FnG X.prog X.w X.K X.mg X.base k f fd ps sp) (hr : Room k X.A) (hgd : X.A.guards = some [])
    (hb : BindsTo s fd args (ps.zip us)) (I : Inv X pins σ H s) (hl : vs.length = ps.length) (r : Vals vs us) (h : sp vs H Q) : codeAny (model X.prog X.w) X.A (.call (.ref f) args) (fun r s' => match r with
      | .ok (.ret u) => EP X pins σ Q u s'
      | _ => False) s := by
  refine codeAny_mono (F.run X.A X.stack s H args us vs Q hr hgd I.env0 hb hl r h) fun r s' hq => ?_
  obtain ⟨u, rfl, hc⟩ := hq
  exact I.after hc
/-- f(e, ..) -/
theorem pe_callG (F : FnG X.prog X.w X.K X.mg X.base k f fd ps sp) (hr : Room k X.A) (hgd : X.A.guards = some []) (hg : Gl X x) (hm : X.mg x = some (.ref f)) (hk : PySem.W.keepIn X.K (.ref f) = true) (hb : Binds X.K fd ps [])
    (ha : PA X (e :: es) t) (hdb : (x == ("__debug__" : Str)) = false := by decide) (he : starEach (e :: es) X.env = (false, eval e X.env) :: starEach es X.env := by rfl) (hpl : (backTo pos (starEach es X.env)).any (·.1) = false := by rfl) :
    PE X (.Call (.Name x np) (e :: es) [] pos) (fun σ H Q => t σ H fun vs H1 => vs.length = ps.length ∧ sp vs H1 Q) := by
  constructor
  intro pins s σ H Q I h
  refine wpAny_Call_Name_kw (ld_glob I hg hm ?_ hdb)
  refine PySem.W.callWith_K (h₀ := X.base) I.ok.mod.kin hk (thn (ha.run pos pins s σ H _ I h) fun us s1 ⟨vs, H1, I1, r, hl, q⟩ => ⟨I1.kIn, ?_⟩) he hpl
  have hlu : (us ++ []).length = ps.length := by rw [List.append_nil, ← r.length]; exact hl
  have hb1 := hb s1 us I1.kIn hlu
  rw [List.append_nil] at hb1
  refine wpAny_call (codeAny_mono (runG F hr hgd hb1 I1 hl r q) fun r s' hq => ?_)
  cases r with
  | error e => cases hq
  | ok fl =>
    cases fl with
    | ret u => exact hq
    | next => cases hq
    | brk => cases hq
    | cont => cases hq
/-- f() -/
theorem pe_callG0 (F : FnG X.prog X.w X.K X.mg X.base k f fd ps sp) (hr : Room k X.A) (hgd : X.A.guards = some []) (hg : Gl X x) (hm : X.mg x = some (.ref f)) (hk : PySem.W.keepIn X.K (.ref f) = true) (hb : Binds X.K fd ps [])
    (hdb : (x == ("__debug__" : Str)) = false := by decide) : PE X (.Call (.Name x np) [] [] pos) (fun σ H Q => ps = [] ∧ sp [] H Q) := by
  constructor
  intro pins s σ H Q I h
  obtain ⟨rfl, h⟩ := h
  refine wpAny_Call_Name_kw (ld_glob I hg hm ?_ hdb)
  have hb1 := hb s [] I.kIn rfl
  refine PySem.W.callWith_K0 I.kIn hk (wpAny_call (codeAny_mono (runG (us := []) F hr hgd hb1 I rfl .nil h) fun r s' hq => ?_))
  cases r with
  | error e => cases hq
  | ok fl =>
    cases fl with
    | ret u => exact hq
    | next => cases hq
    | brk => cases hq
    | cont => cases hq
/-- f(k = v, ..), every parameter by its name -/
structure KwB (K : PySem.W.Frag) (fd : FuncData) (ps ks : List Str) (g : {α : Type} → List α → List α) : Prop where
  to : ∀ (s : Shared) (ws : List Value), K.In s.heap → ws.length = ks.length → BindsTo s fd ⟨[], ks.zip ws⟩ (ps.zip (g ws))
  len : ∀ {α : Type} (ws : List α), ws.length = ks.length → (g ws).length = ps.length
  rel : ∀ {zs : List V} {ws : List Value}, zs.length = ks.length → Vals zs ws → Vals (g zs) (g ws)
theorem pe_callGK {g : {α : Type} → List α → List α} (F : FnG X.prog X.w X.K X.mg X.base k f fd ps sp) (hr : Room k X.A) (hgd : X.A.guards = some []) (hg : Gl X x) (hm : X.mg x = some (.ref f)) (hk : PySem.W.keepIn X.K (.ref f) = true) (hb : KwB X.K fd ps ks g)
    (hkw : PK X kws tk) (hall : (backToKw pos (keywordEach kws X.env)).all (·.1.isSome) = true := by rfl) (hks : (backToKw pos (keywordEach kws X.env)).filterMap (·.1) = ks := by rfl)
    (hpl : ((backTo pos (starEach [] X.env)).any (·.1) || (backToKw pos (keywordEach kws X.env)).any (·.1.isNone)) = false := by rfl) (hdb : (x == ("__debug__" : Str)) = false := by decide) :
    PE X (.Call (.Name x np) [] kws pos) (fun σ H Q => tk σ H fun zs H1 => zs.length = ks.length ∧ sp (g zs) H1 Q) := by
  constructor
  intro pins s σ H Q I h
  refine wpAny_Call_Name_kw (ld_glob I hg hm ?_ hdb)
  refine PySem.W.callWith_KW0 (h₀ := X.base) I.ok.mod.kin hk hall (thn (hkw.run pos pins s σ H _ I h) fun ws s2 ⟨zs, H2, I2, rz, hl, q2⟩ => ⟨I2.kIn, ?_⟩) hpl
  rw [hks]
  have hlw : ws.length = ks.length := by rw [← rz.length]; exact hl
  refine wpAny_call (codeAny_mono (runG F hr hgd (hb.to s2 ws I2.kIn hlw) I2 (hb.len zs hl) (hb.rel hl rz) q2) fun r s' hq => ?_)
  cases r with
  | error e => cases hq
  | ok fl =>
    cases fl with
    | ret u => exact hq
    | next => cases hq
    | brk => cases hq
    | cont => cases hq
end
/-! ### calls over data -/
def callE (φ : List D → M D) (fs : List (Env → M D)) : Env → M D := fun ρ => M.bind (seqE fs ρ) φ
def callC (φ : List D → M D) (fs : List (Env → M D)) : Env → M D := fun ρ => M.bind (seqE fs ρ) fun ds => M.bind (φ ds) fun d => if imm d = true then M.pure d else M.fail
structure DK (X : Cx) (p : Addr) (kws : List Keyword) (fs : List (Env → M D)) (c : Bool) : Prop where
  pk : PK X kws (tA X.K p fs c)
section
variable {X : Cx} {p : Addr} {c fr : Bool} {f : Env → M D}
theorem pkHL {kws : List Keyword} {t t' : TA} (h : PK X kws t) (imp : ∀ σ H Q, HL H → t' σ H Q → t σ H (fun v H' => HL H' → Q v H')) : PK X kws t' :=
  ⟨fun pos pins s σ H Q I hw => thn (h.run pos pins s σ H _ I (imp σ H Q (HL_of I.hok) hw)) fun _ _ ⟨v, H', I', r, q⟩ => ⟨v, H', I', r, q (HL_of I'.hok)⟩⟩
theorem dk_nil : DK X p [] [] c := ⟨pkHL pk_nil fun σ H Q hl t => by
  obtain ⟨F, ρ, B, q, ds, q', h1, h2, h3⟩ := t hl
  obtain ⟨rfl, rfl⟩ := M.pure_some h2
  exact fun l => h3 [] H l Stp.refl h1.pot rfl⟩
theorem dk_cons {e : Expr} {kws : List Keyword} {nm : Option Str} {kpos : Pos} {fs : List (Env → M D)} {fr : Bool} (h1 : DE X p e f c fr) (h2 : DK X p kws fs c) : DK X p (⟨nm, e, kpos⟩ :: kws) (f :: fs) c :=
  ⟨pkHL (pk_cons h1.pe h2.pk) fun σ H Q hl t => by
    obtain ⟨F, ρ, B, q, ds, q', k1, k2, k3⟩ := t hl
    obtain ⟨d, q1, e1, k2⟩ := M.bind_some k2
    obtain ⟨dr, q2, e2, k2⟩ := M.bind_some k2
    obtain ⟨rfl, rfl⟩ := M.pure_some k2
    exact fun _ => ⟨F, ρ, B, q, d, q1, k1, e1, fun v H1 l1 s1 p1 r1 _ _ => ⟨F, ρ, B, q1, dr, _, k1.stp s1 p1, e2, fun vs H2 l2 s2 p2 r2 l2' =>
      k3 _ H2 l2 (s1.trans s2) p2 ⟨v, vs, rfl, r1.stp s2 k1.pB, r2⟩⟩⟩⟩
/-- from arguments that may be changed lists: only the pot is hidden -/
theorem ResL.open_ {K : PySem.W.Frag} {F : Addr → Prop} {H : Hp} {B : List Addr} (hp : p ∈ B) : ∀ {ds : List D} {vs : List V}, ResL K p F true H B ds vs → RepL K p ds (hide H [p]) vs
  | [], _, h => h
  | d :: ds, _, h => by
    obtain ⟨v, r, e, h1, h2⟩ := h
    refine ⟨v, r, e, ?_, ResL.open_ hp h2⟩
    have out : Same (hide H B) (hide H [p]) := hide_mono fun a o n e => ⟨fun z => n (by simp only [List.mem_singleton] at z; subst z; exact hp), e⟩
    rcases h1.cons with z | ⟨a, ea, hB, hne, hF, z⟩
    · exact Rep.mono out z
    · have out2 : Same (hide H B) (hide (hide H [p]) [a]) := fun b o z => by
        obtain ⟨n, z⟩ := hide_some z
        exact hide_of (by simp only [List.mem_singleton]; exact fun y => n (y ▸ hB)) (hide_of (by simp only [List.mem_singleton]; exact fun y => n (y ▸ hp)) z)
      have hna : a ∉ [p] := by simpa using hne
      rcases z with ⟨ds', vs', e1, z1, z2⟩ | ⟨kvs, vs', e1, z0, z1, z2⟩
      · rw [e1]
        exact ⟨a, vs', ea, hide_of hna z1, RepL.mono out2 z2⟩
      · rw [e1]
        exact .inr ⟨z0, a, vs', ea, z1.imp (fun o h => hide_of hna h) out2, RepKV.mono out2 z2⟩
theorem TupS.trans {K : PySem.W.Frag} {H H1 H2 : Hp} (a : TupS K H H1) (b : TupS K H1 H2) : TupS K H H2 := fun x xs h => b x xs (a x xs h)
theorem TupS.of {K : PySem.W.Frag} {H H1 : Hp} (s : Same H H1) : TupS K H H1 := fun x xs h => h.mono s
theorem d_callG {e : Expr} {es : List Expr} {n : Nat} {φ : List D → M D} {fs : List (Env → M D)} (t : ∀ {ta : TA}, PA X es ta → PE X e (fun σ H Q => ta σ H fun vs H1 => vs.length = n ∧ spD X.K n φ vs H1 Q)) (hn : fs.length = n) (ha : DA X p es fs false) : DE X p e (callE φ fs) false false :=
  ⟨peHL (t ha.pa) fun σ H Q hl t => by
    obtain ⟨F, ρ, B, q, d, q', k1, k2, k3⟩ := t hl
    obtain ⟨ds, q1, e1, k2⟩ := M.bind_some k2
    refine fun _ => ⟨F, ρ, B, q, ds, q1, k1, e1, fun vs H1 l1 s1 p1 r1 => ?_⟩
    have len : vs.length = n := by rw [r1.len, seqE_len e1, hn]
    exact ⟨len, len, p, ds, B, q1, d, q', r1.rep, k1.pB, (k1.stp s1 p1).nt, p1, k2, fun v H' l s' p' rep l' => k3 v H' l (s1.trans s') p' rep (fun z => by cases z)⟩⟩
theorem callC_some {φ : List D → M D} {ds : List D} {q q' : Pot} {d : D} (h : M.bind (φ ds) (fun d => if imm d = true then M.pure d else M.fail) q = some (d, q')) : φ ds q = some (d, q') ∧ imm d = true := by
  obtain ⟨d', q1, e1, h⟩ := M.bind_some h
  by_cases i : imm d' = true
  · rw [if_pos i] at h
    obtain ⟨rfl, rfl⟩ := M.pure_some h
    exact ⟨e1, i⟩
  · rw [if_neg i] at h; cases h
theorem d_callGC {e : Expr} {es : List Expr} {n : Nat} {φ : List D → M D} {fs : List (Env → M D)} (t : ∀ {ta : TA}, PA X es ta → PE X e (fun σ H Q => ta σ H fun vs H1 => vs.length = n ∧ spD X.K n φ vs H1 Q)) (hn : fs.length = n) (ha : DA X p es fs true) : DE X p e (callC φ fs) false false :=
  ⟨peHL (t ha.pa) fun σ H Q hl t => by
    obtain ⟨F, ρ, B, q, d, q', k1, k2, k3⟩ := t hl
    obtain ⟨ds, q1, e1, k2⟩ := M.bind_some k2
    obtain ⟨e2, i⟩ := callC_some k2
    refine fun _ => ⟨F, ρ, B, q, ds, q1, k1, e1, fun vs H1 l1 s1 p1 r1 => ?_⟩
    have len : vs.length = n := by rw [r1.len, seqE_len e1, hn]
    refine ⟨len, len, p, ds, [p], q1, d, q', ResL.open_ k1.pB r1, by simp, fun a ha => ?_, p1, e2, fun v H' l s' p' rep l' => ?_⟩
    · simp only [List.mem_singleton] at ha; subst ha; exact ⟨_, p1, rfl⟩
    · refine k3 v H' l (s1.trans s') p' (Rep.imm i ?_ rep) (fun z => by cases z)
      exact TupS.trans (TupS.of (hide_le _ _)) (hide_tup ((k1.stp s1 p1).stp s' p').nt)⟩
/-- by keywords -/
theorem d_callGK {e : Expr} {kws : List Keyword} {n m : Nat} {g : {α : Type} → List α → List α} {φ : List D → M D} {fs : List (Env → M D)} (t : ∀ {ta : TA}, PK X kws ta → PE X e (fun σ H Q => ta σ H fun zs H1 => zs.length = m ∧ spD X.K n φ (g zs) H1 Q)) (hm : fs.length = m)
    (hg : ∀ {K : PySem.W.Frag} {H : Hp} {ds : List D} {vs : List V}, ds.length = m → RepL K p ds H vs → RepL K p (g ds) H (g vs)) (hgl : ∀ {α : Type} (ws : List α), ws.length = m → (g ws).length = n) (ha : DK X p kws fs false) : DE X p e (callE (fun ds => φ (g ds)) fs) false false :=
  ⟨peHL (t ha.pk) fun σ H Q hl t => by
    obtain ⟨F, ρ, B, q, d, q', k1, k2, k3⟩ := t hl
    obtain ⟨ds, q1, e1, k2⟩ := M.bind_some k2
    refine fun _ => ⟨F, ρ, B, q, ds, q1, k1, e1, fun vs H1 l1 s1 p1 r1 => ?_⟩
    have ld : ds.length = m := by rw [seqE_len e1, hm]
    have len : vs.length = m := by rw [r1.len, ld]
    exact ⟨len, hgl vs len, p, g ds, B, q1, d, q', hg ld r1.rep, k1.pB, (k1.stp s1 p1).nt, p1, k2, fun v H' l s' p' rep l' => k3 v H' l (s1.trans s') p' rep (fun z => by cases z)⟩⟩
end
end Sd
/-! statements over data -/
namespace Sd
open PySem PySem.Spec PyProof.Rows L2
inductive Fl where
  | nx | bk | ct | rt (d : D)
abbrev SE := Env → M (Fl × Env)
structure StR (K : PySem.W.Frag) (p : Addr) (H0 : Hp) (Ext own : List Addr) (H : Hp) (σ : L2.St) (ρ : Env) (q : Pot) : Prop where
  keep : ∀ a o, H0 a = some o → a ≠ p → H a = some o
  pre : Pre K p (fun a => H0 a = none) H (own ++ Ext) σ ρ q
  pX : p ∈ Ext
  own0 : ∀ a ∈ own, H0 a = none ∧ a ≠ p
  ext0 : ∀ a ∈ Ext, H0 a ≠ none
  uniq : ∀ (i j : Nat) (d e : D) (a : Addr), ρ[i]? = some (some (true, d)) → ρ[j]? = some (some (true, e)) → σ[i]? = some (some (.ref a)) → σ[j]? = some (some (.ref a)) → i = j
  len : σ.length = ρ.length
def Aft (K : PySem.W.Frag) (p : Addr) (H0 : Hp) (Ext : List Addr) (E : Ends) : Fl × Env → Pot → Prop
  | (.nx, ρ'), q' => ∀ σ' H' own, HL H' → StR K p H0 Ext own H' σ' ρ' q' → E.nx σ' H'
  | (.bk, ρ'), q' => ∀ σ' H' own, HL H' → StR K p H0 Ext own H' σ' ρ' q' → E.bk σ' H'
  | (.ct, ρ'), q' => ∀ σ' H' own, HL H' → StR K p H0 Ext own H' σ' ρ' q' → E.ct σ' H'
  | (.rt d, _), q' => ∀ v H', HL H' → Stp p H0 H' → H' p = some (potV q') → Rep K p d (hide H' Ext) v → E.rt v H'
def tS (K : PySem.W.Frag) (p : Addr) (f : SE) : TS := fun E σ H => HL H → ∃ (H0 : Hp) (Ext own : List Addr) (ρ : Env) (q : Pot) (r : Fl × Env) (q' : Pot), StR K p H0 Ext own H σ ρ q ∧ f ρ q = some (r, q') ∧ Aft K p H0 Ext E r q'
structure DS (X : Cx) (p : Addr) (st : Stmt) (f : SE) : Prop where
  ps : PS X st (tS X.K p f)
structure DSs (X : Cx) (p : Addr) (st : List Stmt) (f : SE) : Prop where
  pss : PSs X st (tS X.K p f)
/-- the ends, the line known -/
def Ends.hl (E : Ends) : Ends := { nx := fun σ H => HL H → E.nx σ H, rt := fun v H => HL H → E.rt v H, bk := fun σ H => HL H → E.bk σ H, ct := fun σ H => HL H → E.ct σ H }
section
variable {X : Cx} {p : Addr}
theorem SP.hl {pins : List (Addr × Obj)} {E : Ends} {f : Flow} {s : Shared} (h : SP X pins (Ends.hl E) f s) : SP X pins E f s := by
  cases f with
  | next => obtain ⟨σ', H', I, q⟩ := h; exact ⟨σ', H', I, q (HL_of I.hok)⟩
  | brk => obtain ⟨σ', H', I, q⟩ := h; exact ⟨σ', H', I, q (HL_of I.hok)⟩
  | cont => obtain ⟨σ', H', I, q⟩ := h; exact ⟨σ', H', I, q (HL_of I.hok)⟩
  | ret u => obtain ⟨v, σ', H', I, r, q⟩ := h; exact ⟨v, σ', H', I, r, q (HL_of I.hok)⟩
theorem psHL {st : Stmt} {t t' : TS} (h : PS X st t) (imp : ∀ E σ H, HL H → t' E σ H → t (Ends.hl E) σ H) : PS X st t' :=
  ⟨fun pins s σ H E I hw => thn (h.run pins s σ H _ I (imp E σ H (HL_of I.hok) hw)) fun _ _ q => SP.hl q⟩
theorem pssHL {st : List Stmt} {t t' : TS} (h : PSs X st t) (imp : ∀ E σ H, HL H → t' E σ H → t (Ends.hl E) σ H) : PSs X st t' :=
  ⟨fun pins s σ H E I hw => thn (h.run pins s σ H _ I (imp E σ H (HL_of I.hok) hw)) fun _ _ q => SP.hl q⟩
variable {K : PySem.W.Frag} {H0 H H' : Hp} {Ext own : List Addr} {σ : L2.St} {ρ : Env} {q q' : Pot} {E : Ends}
theorem StR.stp (S : StR K p H0 Ext own H σ ρ q) (s : Stp p H H') (hq : H' p = some (potV q')) : StR K p H0 Ext own H' σ ρ q' :=
  ⟨fun a o e ne => s a o (S.keep a o e ne) ne, S.pre.stp s hq, S.pX, S.own0, S.ext0, S.uniq, S.len⟩
theorem StR.stp0 (S : StR K p H0 Ext own H σ ρ q) : Stp p H0 H := S.keep
/-- the ends of a block's rest -/
theorem Aft.hl : ∀ {r : Fl × Env} {q : Pot}, Aft K p H0 Ext E r q → Aft K p H0 Ext (Ends.hl E) r q
  | (.nx, _), _, h => fun σ' H' own l S _ => h σ' H' own l S
  | (.bk, _), _, h => fun σ' H' own l S _ => h σ' H' own l S
  | (.ct, _), _, h => fun σ' H' own l S _ => h σ' H' own l S
  | (.rt _, _), _, h => fun v H' l s e r _ => h v H' l s e r
def nilS : SE := fun ρ => M.pure (.nx, ρ)
def seqS (f g : SE) : SE := fun ρ => M.bind (f ρ) fun r => match r with
  | (.nx, ρ') => g ρ'
  | r => M.pure r
theorem dss_nil : DSs X p [] nilS := ⟨pssHL pss_nil fun E σ H hl t => by
  obtain ⟨H0, Ext, own, ρ, q, r, q', S, e, a⟩ := t hl
  obtain ⟨rfl, rfl⟩ := M.pure_some e
  exact fun l => a σ H own l S⟩
theorem seqS_some {f g : SE} {ρ : Env} {q q' : Pot} {r : Fl × Env} (h : seqS f g ρ q = some (r, q')) : (∃ ρ' q1, f ρ q = some ((.nx, ρ'), q1) ∧ g ρ' q1 = some (r, q')) ∨ (f ρ q = some (r, q') ∧ r.1 ≠ .nx) := by
  obtain ⟨⟨fl, ρ'⟩, q1, e1, h⟩ := M.bind_some h
  cases fl with
  | nx => exact .inl ⟨ρ', q1, e1, h⟩
  | bk => obtain ⟨rfl, rfl⟩ := M.pure_some h; exact .inr ⟨e1, fun z => by cases z⟩
  | ct => obtain ⟨rfl, rfl⟩ := M.pure_some h; exact .inr ⟨e1, fun z => by cases z⟩
  | rt d => obtain ⟨rfl, rfl⟩ := M.pure_some h; exact .inr ⟨e1, fun z => by cases z⟩
theorem dss_cons {st : Stmt} {rest : List Stmt} {f g : SE} (h1 : DS X p st f) (h2 : DSs X p rest g) : DSs X p (st :: rest) (seqS f g) := ⟨pssHL (pss_cons h1.ps h2.pss) fun E σ H hl t => by
  obtain ⟨H0, Ext, own, ρ, q, r, q', S, e, a⟩ := t hl
  rcases seqS_some e with ⟨ρ', q1, e1, e2⟩ | ⟨e1, e2⟩
  · exact fun _ => ⟨H0, Ext, own, ρ, q, _, q1, S, e1, fun σ' H' own' l' S' l2 => ⟨H0, Ext, own', ρ', q1, r, q', S', e2, a.hl⟩⟩
  · refine fun _ => ⟨H0, Ext, own, ρ, q, r, q', S, e1, ?_⟩
    obtain ⟨fl, ρ'⟩ := r
    cases fl with
    | nx => exact absurd rfl e2
    | bk => exact a.hl
    | ct => exact a.hl
    | rt d => exact a.hl⟩
theorem dss_one {st : Stmt} {f : SE} (h1 : DS X p st f) : DSs X p [st] f := ⟨pss_one h1.ps⟩
def passS : SE := nilS
theorem ds_pass {pos : Pos} : DS X p (.Pass pos) nilS := ⟨psHL ps_pass fun E σ H hl t => by
  obtain ⟨H0, Ext, own, ρ, q, r, q', S, e, a⟩ := t hl
  obtain ⟨rfl, rfl⟩ := M.pure_some e
  exact fun l => a σ H own l S⟩
def breakS : SE := fun ρ => M.pure (.bk, ρ)
def contS : SE := fun ρ => M.pure (.ct, ρ)
theorem ds_break {pos : Pos} : DS X p (.Break pos) breakS := ⟨psHL ps_break fun E σ H hl t => by
  obtain ⟨H0, Ext, own, ρ, q, r, q', S, e, a⟩ := t hl
  obtain ⟨rfl, rfl⟩ := M.pure_some e
  exact fun l => a σ H own l S⟩
theorem ds_cont {pos : Pos} : DS X p (.Continue pos) contS := ⟨psHL ps_continue fun E σ H hl t => by
  obtain ⟨H0, Ext, own, ρ, q, r, q', S, e, a⟩ := t hl
  obtain ⟨rfl, rfl⟩ := M.pure_some e
  exact fun l => a σ H own l S⟩
/-- what is never run -/
def neverS : SE := fun _ => M.fail
theorem ds_never {st : Stmt} : DS X p st neverS := ⟨psHL ps_never fun E σ H hl t => by
  obtain ⟨H0, Ext, own, ρ, q, r, q', S, e, a⟩ := t hl
  cases e⟩
/-- an expression alone -/
def exprS (f : Env → M D) : SE := fun ρ => M.bind (f ρ) fun _ => M.pure (.nx, ρ)
theorem ds_expr {e : Expr} {pos : Pos} {f : Env → M D} {c fr : Bool} (h : DE X p e f c fr) (hs : swapsWith e none pos.line X.env = pure false := by rfl) : DS X p (.Expr e pos) (exprS f) := ⟨psHL (ps_expr h.pe hs) fun E σ H hl t => by
  obtain ⟨H0, Ext, own, ρ, q, r, q', S, e, a⟩ := t hl
  obtain ⟨d, q1, e1, e⟩ := M.bind_some e
  obtain ⟨rfl, rfl⟩ := M.pure_some e
  exact fun _ => ⟨_, ρ, _, q, d, _, S.pre, e1, fun v H1 l1 s1 p1 _ _ _ => a σ H1 own l1 (S.stp s1 p1)⟩⟩
/-- return -/
def retS (f : Env → M D) : SE := fun ρ => M.bind (f ρ) fun d => M.pure (.rt d, ρ)
theorem RepC_ret {d : D} {v : V} (S : StR K p H0 Ext own H σ ρ q) (h : RepC K p (fun a => H0 a = none) H (own ++ Ext) d v) : Rep K p d (hide H Ext) v := by
  have out : Same (hide H (own ++ Ext)) (hide H Ext) := hide_mono fun a o n e => ⟨fun z => n (List.mem_append_right _ z), e⟩
  rcases h with h | ⟨a, e, hB, hne, hF, h⟩
  · exact Rep.mono out h
  · have hx : a ∉ Ext := fun z => S.ext0 a z hF
    have out2 : Same (hide H (own ++ Ext)) (hide (hide H Ext) [a]) := hide_mono (B' := [a]) (H' := hide H Ext) fun b o n e => ⟨by simp only [List.mem_singleton]; exact fun z => n (z ▸ hB), hide_of (fun z => n (List.mem_append_right _ z)) e⟩
    rcases h with ⟨ds, vs, e1, h1, h2⟩ | ⟨kvs, vs, e1, h0, h1, h2⟩
    · rw [e1]
      exact ⟨a, vs, e, hide_of hx h1, RepL.mono out2 h2⟩
    · rw [e1]
      exact .inr ⟨h0, a, vs, e, h1.imp (fun o h => hide_of hx h) out2, RepKV.mono out2 h2⟩
theorem ds_ret {e : Expr} {pos : Pos} {f : Env → M D} {c fr : Bool} (h : DE X p e f c fr) : DS X p (.Return (some e) pos) (retS f) := ⟨psHL (ps_ret h.pe) fun E σ H hl t => by
  obtain ⟨H0, Ext, own, ρ, q, r, q', S, e, a⟩ := t hl
  obtain ⟨d, q1, e1, e⟩ := M.bind_some e
  obtain ⟨rfl, rfl⟩ := M.pure_some e
  exact fun _ => ⟨_, ρ, _, q, d, _, S.pre, e1, fun v H1 l1 s1 p1 r1 _ _ => a v H1 l1 (S.stp s1 p1).stp0 p1 (RepC_ret (S.stp s1 p1) r1.cons)⟩⟩
theorem ds_retN {pos : Pos} : DS X p (.Return none pos) (retS (cst .none)) := ⟨psHL ps_retN fun E σ H hl t => by
  obtain ⟨H0, Ext, own, ρ, q, r, q', S, e, a⟩ := t hl
  obtain ⟨d, q1, e1, e⟩ := M.bind_some e
  obtain ⟨rfl, rfl⟩ := M.pure_some e
  obtain ⟨rfl, rfl⟩ := M.pure_some e1
  exact fun l => a _ H l S.stp0 S.pre.pot rfl⟩
/-- if -/
def ifS (c : Env → M D) (f g : SE) : SE := fun ρ => M.bind (c ρ) fun d => match d with
  | .bool true => f ρ
  | .bool false => g ρ
  | _ => M.fail
theorem ifS_some {c : Env → M D} {f g : SE} {ρ : Env} {q q' : Pot} {r : Fl × Env} (h : ifS c f g ρ q = some (r, q')) : ∃ b q1, c ρ q = some (.bool b, q1) ∧ (if b = true then f ρ q1 else g ρ q1) = some (r, q') := by
  obtain ⟨a, q1, e1, h⟩ := M.bind_some h
  cases a with
  | bool b =>
    refine ⟨b, q1, e1, ?_⟩
    cases b with
    | true => rw [if_pos rfl]; exact h
    | false => rw [if_neg Bool.false_ne_true]; exact h
  | _ => cases h
theorem ds_if {t : Expr} {a b : List Stmt} {pos : Pos} {c : Env → M D} {f g : SE} (ht : DT X p t c) (ha : DSs X p a f) (hb : DSs X p b g) : DS X p (.If t a b pos) (ifS c f g) := ⟨psHL (ps_if ht.pt ha.pss hb.pss) fun E σ H hl t => by
  obtain ⟨H0, Ext, own, ρ, q, r, q', S, e, af⟩ := t hl
  obtain ⟨b, q1, e1, e2⟩ := ifS_some e
  refine fun _ => ⟨_, ρ, _, q, b, q1, S.pre, e1, fun H1 l1 s1 p1 => ?_⟩
  cases b with
  | true =>
    rw [if_pos rfl] at e2 ⊢
    exact fun _ => ⟨H0, Ext, own, ρ, q1, r, q', S.stp s1 p1, e2, af.hl⟩
  | false =>
    rw [if_neg Bool.false_ne_true] at e2 ⊢
    exact fun _ => ⟨H0, Ext, own, ρ, q1, r, q', S.stp s1 p1, e2, af.hl⟩⟩
/-! ### names are stored -/
theorem set_get {α : Type} {l : List α} {i j : Nat} {x y : α} (h : (l.set i x)[j]? = some y) : (i = j ∧ x = y ∧ j < l.length) ∨ (i ≠ j ∧ l[j]? = some y) := by
  by_cases e : i = j
  · subst e
    by_cases hl : i < l.length
    · rw [List.getElem?_set_self hl] at h; cases h; exact .inl ⟨rfl, rfl, hl⟩
    · rw [List.getElem?_eq_none (by simpa using hl)] at h; cases h
  · rw [List.getElem?_set_ne e] at h; exact .inr ⟨e, h⟩
theorem StR.set {d : D} {v : V} (S : StR K p H0 Ext own H σ ρ q) (i : Nat) (r : Rep K p d (hide H (own ++ Ext)) v) : StR K p H0 Ext own H (σ.set i (some v)) (ρ.set i (some (false, d))) q := by
  refine ⟨S.keep, ⟨S.pre.pot, S.pre.pB, S.pre.nt, fun j b e h => ?_, by simp [S.len]⟩, S.pX, S.own0, S.ext0, fun j k d1 d2 a h1 h2 h3 h4 => ?_, by simp [S.len]⟩
  · rcases set_get h with ⟨rfl, e1, hl⟩ | ⟨ne, h⟩
    · cases e1
      exact ⟨v, by rw [List.getElem?_set_self (by rw [S.len]; exact hl)], fun _ => r, fun z => by cases z⟩
    · obtain ⟨w, h1, h2⟩ := S.pre.env j b e h
      exact ⟨w, by rw [List.getElem?_set_ne ne]; exact h1, h2⟩
  · rcases set_get h1 with ⟨_, e1, _⟩ | ⟨n1, h1⟩
    · cases e1
    · rcases set_get h2 with ⟨_, e1, _⟩ | ⟨n2, h2⟩
      · cases e1
      · rw [List.getElem?_set_ne n1] at h3
        rw [List.getElem?_set_ne n2] at h4
        exact S.uniq j k d1 d2 a h1 h2 h3 h4
/-- a new list, dict of its own -/
theorem StR.setB {d : D} {v : V} (S : StR K p H0 Ext own H σ ρ q) (s : Stp p H H') (hq : H' p = some (potV q')) (i : Nat) (nw : New H v d) (ld : isLD d = true) (r : Rep K p d (hide H' (own ++ Ext)) v) :
    ∃ a, StR K p H0 Ext (a :: own) H' (σ.set i (some v)) (ρ.set i (some (true, d))) q' := by
  obtain ⟨a, rfl, na⟩ := nw ld
  have S' := S.stp s hq
  have hp : a ≠ p := fun z => by rw [z, S.pre.pot] at na; cases na
  have h0 : H0 a = none := by
    cases e : H0 a with
    | none => rfl
    | some o => rw [S.keep a o e hp] at na; cases na
  have bld : Bld K p (fun a => H0 a = none) H' (a :: own ++ Ext) d (.ref a) := by
    have sub : Same (hide (hide H' (own ++ Ext)) [a]) (hide H' (a :: own ++ Ext)) := fun b o e => by
      obtain ⟨n1, e⟩ := hide_some e
      obtain ⟨n2, e⟩ := hide_some e
      refine hide_of (fun z => ?_) e
      rcases List.mem_cons.mp z with z | z
      · exact n1 (by simp [z])
      · exact n2 z
    cases d with
    | list ds =>
      obtain ⟨a', vs, ea, h1, h2⟩ := r
      cases ea
      exact ⟨a, rfl, List.mem_cons_self, hp, h0, .inl ⟨ds, vs, rfl, (hide_some h1).2, RepL.mono sub h2⟩⟩
    | dict kvs =>
      rcases r with ⟨_, e⟩ | ⟨hk, a', vs, ea, h1, h2⟩
      · cases e; exact absurd rfl hp
      · cases ea
        exact ⟨a, rfl, List.mem_cons_self, hp, h0, .inr ⟨kvs, vs, rfl, hk, h1.imp (fun o z => (hide_some z).2) sub, RepKV.mono sub h2⟩⟩
    | none => cases ld
    | bool _ => cases ld
    | int _ => cases ld
    | str _ => cases ld
    | tuple _ => cases ld
  have nta : ∃ o, H' a = some o ∧ nontup o = true := by
    obtain ⟨a', ea, _, _, _, z⟩ := bld
    cases ea
    rcases z with ⟨ds, vs, _, h1, _⟩ | ⟨kvs, vs, _, _, h1, _⟩
    · exact ⟨_, h1, rfl⟩
    · exact h1.nt
  -- what the others are leans on nothing new
  have out : Same (hide H (own ++ Ext)) (hide H' (a :: own ++ Ext)) := hide_mono fun b o n e => ⟨fun z => by
    rcases List.mem_cons.mp z with z | z
    · rw [z, na] at e; cases e
    · exact n z, s b o e fun z => n (z ▸ S.pre.pB)⟩
  have others : ∀ (j : Nat) (b : Bool) (e : D), ρ[j]? = some (some (b, e)) → ∃ w, σ[j]? = some (some w) ∧ (b = false → Rep K p e (hide H' (a :: own ++ Ext)) w) ∧ (b = true → Bld K p (fun a => H0 a = none) H' (a :: own ++ Ext) e w ∧ w ≠ .ref a) := fun j b e h => by
    obtain ⟨w, h1, h2, h3⟩ := S.pre.env j b e h
    refine ⟨w, h1, fun z => Rep.mono out (h2 z), fun z => ?_⟩
    obtain ⟨c, ec, hB, hne, hF, z⟩ := h3 z
    have hc : c ≠ a := fun y => by
      rcases z with ⟨ds, vs, _, g1, _⟩ | ⟨kvs, vs, _, _, g1, _⟩
      · rw [y, na] at g1; cases g1
      · obtain ⟨o, g1, _⟩ := g1.nt
        rw [y, na] at g1; cases g1
    refine ⟨⟨c, ec, List.mem_cons_of_mem _ hB, hne, hF, ?_⟩, fun y => hc (by rw [ec] at y; cases y; rfl)⟩
    rcases z with ⟨ds, vs, e1, g1, g2⟩ | ⟨kvs, vs, e1, g0, g1, g2⟩
    · exact .inl ⟨ds, vs, e1, s _ _ g1 hne, RepL.mono out g2⟩
    · exact .inr ⟨kvs, vs, e1, g0, g1.imp (fun o z => s _ o z hne) out, RepKV.mono out g2⟩
  refine ⟨a, S'.keep, ⟨hq, List.mem_cons_of_mem _ S.pre.pB, fun b hb => ?_, fun j b e h => ?_, by simp [S.len]⟩, S.pX, fun b hb => ?_, S.ext0, fun j k d1 d2 c h1 h2 h3 h4 => ?_, by simp [S.len]⟩
  · rcases List.mem_cons.mp hb with z | z
    · rw [z]; exact nta
    · exact S'.pre.nt b z
  · rcases set_get h with ⟨rfl, e1, hl⟩ | ⟨ne, h⟩
    · cases e1
      exact ⟨.ref a, by rw [List.getElem?_set_self (by rw [S.len]; exact hl)], fun z => (by cases z), fun _ => bld⟩
    · obtain ⟨w, h1, h2, h3⟩ := others j b e h
      exact ⟨w, by rw [List.getElem?_set_ne ne]; exact h1, h2, fun z => (h3 z).1⟩
  · rcases List.mem_cons.mp hb with z | z
    · rw [z]; exact ⟨h0, hp⟩
    · exact S.own0 b z
  · rcases set_get h1 with ⟨i1, e1, l1⟩ | ⟨n1, h1⟩
    · rcases set_get h2 with ⟨i2, e2, l2⟩ | ⟨n2, h2⟩
      · rw [← i1, ← i2]
      · obtain ⟨w, g1, _, g3⟩ := others k true d2 h2
        rw [List.getElem?_set_ne n2, g1] at h4
        rw [← i1, List.getElem?_set_self (by rw [S.len, i1]; exact l1)] at h3
        cases h3; cases h4
        exact absurd rfl (g3 rfl).2
    · rcases set_get h2 with ⟨i2, e2, l2⟩ | ⟨n2, h2⟩
      · obtain ⟨w, g1, _, g3⟩ := others j true d1 h1
        rw [List.getElem?_set_ne n1, g1] at h3
        rw [← i2, List.getElem?_set_self (by rw [S.len, i2]; exact l2)] at h4
        cases h3; cases h4
        exact absurd rfl (g3 rfl).2
      · rw [List.getElem?_set_ne n1] at h3
        rw [List.getElem?_set_ne n2] at h4
        exact S.uniq j k d1 d2 c h1 h2 h3 h4
def setS (i : Nat) (f : Env → M D) : SE := fun ρ => M.bind (f ρ) fun d => M.pure (.nx, ρ.set i (some (false, d)))
def setB (i : Nat) (f : Env → M D) : SE := fun ρ => M.bind (f ρ) fun d => if isLD d = true then M.pure (.nx, ρ.set i (some (true, d))) else M.fail
theorem ds_set {x : Str} {e : Expr} {pos pos' : Pos} {f : Env → M D} {fr : Bool} (i : Nat) (hN : X.N.Nodup) (hi : X.N[i]? = some x) (hx : Loc X.env.scope x) (he : DE X p e f false fr)
    (hs : swapsWith e (some (.Name x pos')) pos.line X.env = pure false := by rfl) (hf : X.fn x = true ∨ X.env.scope.names.lookup x = some .local := by first | exact .inl rfl | exact .inr rfl) : DS X p (.Assign [.Name x pos'] e pos) (setS i f) := ⟨psHL (ps_set hN hi hx he.pe hs hf) fun E σ H hl t => by
  obtain ⟨H0, Ext, own, ρ, q, r, q', S, e, a⟩ := t hl
  obtain ⟨d, q1, e1, e⟩ := M.bind_some e
  obtain ⟨rfl, rfl⟩ := M.pure_some e
  exact fun _ => ⟨_, ρ, _, q, d, _, S.pre, e1, fun v H1 l1 s1 p1 r1 _ _ => a _ H1 own l1 ((S.stp s1 p1).set i r1)⟩⟩
theorem ds_setB {x : Str} {e : Expr} {pos pos' : Pos} {f : Env → M D} (i : Nat) (hN : X.N.Nodup) (hi : X.N[i]? = some x) (hx : Loc X.env.scope x) (he : DE X p e f false true)
    (hs : swapsWith e (some (.Name x pos')) pos.line X.env = pure false := by rfl) (hf : X.fn x = true ∨ X.env.scope.names.lookup x = some .local := by first | exact .inl rfl | exact .inr rfl) : DS X p (.Assign [.Name x pos'] e pos) (setB i f) := ⟨psHL (ps_set hN hi hx he.pe hs hf) fun E σ H hl t => by
  obtain ⟨H0, Ext, own, ρ, q, r, q', S, e, a⟩ := t hl
  obtain ⟨d, q1, e1, e⟩ := M.bind_some e
  by_cases ld : isLD d = true
  · rw [if_pos ld] at e
    obtain ⟨rfl, rfl⟩ := M.pure_some e
    refine fun _ => ⟨_, ρ, _, q, d, _, S.pre, e1, fun v H1 l1 s1 p1 r1 n1 _ => ?_⟩
    obtain ⟨b, S'⟩ := S.setB s1 p1 i (n1 rfl) ld r1
    exact a _ H1 _ l1 S'
  · rw [if_neg ld] at e; cases e⟩
end
end Sd
/-! targets, several at once, loops -/
namespace Sd
open PySem PySem.Spec PyProof.Rows L2
def sets {α : Type} : List (Option α) → List Nat → List α → List (Option α)
  | l, i :: is, x :: xs => sets (l.set i (some x)) is xs
  | l, _, _ => l
theorem sets_len {α : Type} : ∀ (is : List Nat) (xs : List α) (l : List (Option α)), (sets l is xs).length = l.length
  | [], _, _ => by simp [sets]
  | _ :: _, [], _ => by simp [sets]
  | i :: is, x :: xs, l => by simp [sets, sets_len is xs]
section
variable {X : Cx} {p : Addr} {K : PySem.W.Frag} {H0 H H' : Hp} {Ext own : List Addr} {σ : L2.St} {ρ : Env} {q q' : Pot} {E : Ends}
/-! ### a changing list is shared from now on -/
def unb (i : Nat) (ρ : Env) : Env := match ρ[i]? with
  | some (some (true, d)) => ρ.set i (some (false, d))
  | _ => ρ
theorem unb_eq (i : Nat) (ρ : Env) : (∃ d, ρ[i]? = some (some (true, d)) ∧ unb i ρ = ρ.set i (some (false, d))) ∨ unb i ρ = ρ := by
  unfold unb
  cases e : ρ[i]? with
  | none => exact .inr rfl
  | some o =>
    cases o with
    | none => exact .inr rfl
    | some bd =>
      obtain ⟨b, d⟩ := bd
      cases b with
      | true => exact .inl ⟨d, rfl, rfl⟩
      | false => exact .inr rfl
theorem StR.unb (S : StR K p H0 Ext own H σ ρ q) (i : Nat) : ∃ own', StR K p H0 Ext own' H σ (unb i ρ) q := by
  rcases unb_eq i ρ with ⟨d, e, eu⟩ | eu
  · rw [eu]
    obtain ⟨w, g1, _, g3⟩ := S.pre.env i true d e
    obtain ⟨a, ea, hB, hne, hF, z⟩ := g3 rfl
    subst ea
    have hx : a ∉ Ext := fun z => S.ext0 a z hF
    have mem : ∀ b, b ∈ own.filter (fun b => decide (b ≠ a)) ++ Ext → b ∈ own ++ Ext := fun b hb => by
      rcases List.mem_append.mp hb with y | y
      · exact List.mem_append_left _ (List.mem_filter.mp y).1
      · exact List.mem_append_right _ y
    have na : a ∉ own.filter (fun b => decide (b ≠ a)) ++ Ext := fun hb => by
      rcases List.mem_append.mp hb with y | y
      · have := (List.mem_filter.mp y).2; simp at this
      · exact hx y
    have back : ∀ b, b ∈ own ++ Ext → b ≠ a → b ∈ own.filter (fun b => decide (b ≠ a)) ++ Ext := fun b hb ne => by
      rcases List.mem_append.mp hb with y | y
      · exact List.mem_append_left _ (List.mem_filter.mpr ⟨y, by simpa using ne⟩)
      · exact List.mem_append_right _ y
    have out : Same (hide H (own ++ Ext)) (hide H (own.filter (fun b => decide (b ≠ a)) ++ Ext)) := hide_mono fun b o n e => ⟨fun y => n (mem b y), e⟩
    have out2 : Same (hide H (own ++ Ext)) (hide (hide H (own.filter (fun b => decide (b ≠ a)) ++ Ext)) [a]) := fun b o e => by
      have e2 := out b o e
      exact hide_of (by simp only [List.mem_singleton]; exact fun y => (hide_some e).1 (y ▸ hB)) e2
    refine ⟨own.filter (fun b => decide (b ≠ a)), S.keep, ⟨S.pre.pot, back p S.pre.pB (Ne.symm hne), fun b hb => S.pre.nt b (mem b hb), fun j b e' h => ?_, by simp [S.len]⟩, S.pX, fun b hb => S.own0 b (List.mem_filter.mp hb).1, S.ext0, fun j k d1 d2 c h1 h2 h3 h4 => ?_, by simp [S.len]⟩
    · rcases set_get h with ⟨rfl, e1, _⟩ | ⟨ne, h⟩
      · cases e1
        refine ⟨.ref a, g1, fun _ => ?_, fun z => by cases z⟩
        rcases z with ⟨ds, vs, rfl, z1, z2⟩ | ⟨kvs, vs, rfl, z0, z1, z2⟩
        · exact ⟨a, vs, rfl, hide_of na z1, RepL.mono out2 z2⟩
        · exact .inr ⟨z0, a, vs, rfl, z1.imp (fun o h => hide_of na h) out2, RepKV.mono out2 z2⟩
      · obtain ⟨w, f1, f2, f3⟩ := S.pre.env j b e' h
        refine ⟨w, f1, fun y => Rep.mono out (f2 y), fun y => ?_⟩
        subst y
        obtain ⟨c, ec, hB', hne', hF', y⟩ := f3 rfl
        subst ec
        have hc : c ≠ a := fun y => ne (S.uniq i j d e' a e h g1 (y ▸ f1))
        refine ⟨c, rfl, back c hB' hc, hne', hF', ?_⟩
        rcases y with ⟨ds, vs, e1, z1, z2⟩ | ⟨kvs, vs, e1, z0, z1, z2⟩
        · exact .inl ⟨ds, vs, e1, z1, RepL.mono out z2⟩
        · exact .inr ⟨kvs, vs, e1, z0, z1.imp (fun _ z => z) out, RepKV.mono out z2⟩
    · rcases set_get h1 with ⟨_, e1, _⟩ | ⟨n1, h1⟩
      · cases e1
      · rcases set_get h2 with ⟨_, e1, _⟩ | ⟨n2, h2⟩
        · cases e1
        · exact S.uniq j k d1 d2 c h1 h2 h3 h4
  · rw [eu]; exact ⟨own, S⟩
def unbS (i : Nat) (f : SE) : SE := fun ρ => f (Sd.unb i ρ)
theorem ds_unb {st : Stmt} {f : SE} (i : Nat) (h : DS X p st f) : DS X p st (unbS i f) := ⟨psHL h.ps fun E σ H hl t => by
  obtain ⟨H0, Ext, own, ρ, q, r, q', S, e, a⟩ := t hl
  obtain ⟨own', S'⟩ := S.unb i
  exact fun _ => ⟨H0, Ext, own', _, q, r, q', S', e, a.hl⟩⟩
/-! ### values that wait to be stored -/
theorem StR.pre_of {σp : L2.St} {ρp : Env} (S : StR K p H0 Ext own H (σ ++ σp) (ρ ++ ρp) q) (hl : σ.length = ρ.length) : Pre K p (fun a => H0 a = none) H (own ++ Ext) σ ρ q := by
  refine ⟨S.pre.pot, S.pre.pB, S.pre.nt, fun i b d h => ?_, hl⟩
  have hi : i < ρ.length := (List.getElem?_eq_some_iff.mp h).1
  obtain ⟨v, h1, h2⟩ := S.pre.env i b d (by rw [List.getElem?_append_left hi]; exact h)
  exact ⟨v, by rw [List.getElem?_append_left (by omega)] at h1; exact h1, h2⟩
theorem StR.room (S : StR K p H0 Ext own H σ ρ q) : StR K p H0 Ext own H (σ ++ [none]) (ρ ++ [none]) q := by
  have low : ∀ {j : Nat} {x : Bool × D}, (ρ ++ [none])[j]? = some (some x) → j < ρ.length ∧ ρ[j]? = some (some x) := fun {j x} h => by
    by_cases hj : j < ρ.length
    · rw [List.getElem?_append_left hj] at h; exact ⟨hj, h⟩
    · rw [List.getElem?_append_right (by omega)] at h
      cases e : j - ρ.length with
      | zero => rw [e] at h; cases h
      | succ m => rw [e] at h; cases h
  refine ⟨S.keep, ⟨S.pre.pot, S.pre.pB, S.pre.nt, fun i b d h => ?_, by simp [S.len]⟩, S.pX, S.own0, S.ext0, fun i j d e a h1 h2 h3 h4 => ?_, by simp [S.len]⟩
  · obtain ⟨hi, h⟩ := low h
    obtain ⟨v, h1, h2⟩ := S.pre.env i b d h
    exact ⟨v, by rw [List.getElem?_append_left (by rw [S.len]; exact hi)]; exact h1, h2⟩
  · obtain ⟨hi, h1⟩ := low h1
    obtain ⟨hj, h2⟩ := low h2
    rw [List.getElem?_append_left (by rw [S.len]; exact hi)] at h3
    rw [List.getElem?_append_left (by rw [S.len]; exact hj)] at h4
    exact S.uniq i j d e a h1 h2 h3 h4
theorem set_end {α : Type} (l : List α) (x y : α) : (l ++ [x]).set l.length y = l ++ [y] := by
  rw [List.set_append_right _ _ (Nat.le_refl _)]
  simp
/-- the last one is stored at i -/
theorem StR.move {w : Option V} {x : Option (Bool × D)} (i : Nat) (S : StR K p H0 Ext own H (σ ++ [w]) (ρ ++ [x]) q) : StR K p H0 Ext own H (σ.set i w) (ρ.set i x) q := by
  have hl : σ.length = ρ.length := by have := S.len; simp at this; exact this
  -- a place of the new list, in the old one
  have at_ : ∀ {j : Nat} {y : Bool × D}, (ρ.set i x)[j]? = some (some y) → ∃ j', (ρ ++ [x])[j']? = some (some y) ∧ (σ.set i w)[j]? = (σ ++ [w])[j']? ∧ (j = i ∧ j' = ρ.length ∨ j ≠ i ∧ j' = j ∧ j < ρ.length) := fun {j y} h => by
    rcases set_get h with ⟨rfl, e1, hj⟩ | ⟨ne, h⟩
    · refine ⟨ρ.length, by rw [List.getElem?_append_right (Nat.le_refl _)]; simpa using e1, ?_, .inl ⟨rfl, rfl⟩⟩
      rw [List.getElem?_set_self (by omega), ← hl, List.getElem?_append_right (Nat.le_refl _)]
      simp
    · have hj : j < ρ.length := (List.getElem?_eq_some_iff.mp h).1
      refine ⟨j, by rw [List.getElem?_append_left hj]; exact h, ?_, .inr ⟨Ne.symm ne, rfl, hj⟩⟩
      rw [List.getElem?_set_ne ne, List.getElem?_append_left (by omega)]
  refine ⟨S.keep, ⟨S.pre.pot, S.pre.pB, S.pre.nt, fun j b d h => ?_, by simp [hl]⟩, S.pX, S.own0, S.ext0, fun j k d e a h1 h2 h3 h4 => ?_, by simp [hl]⟩
  · obtain ⟨j', g1, g2, _⟩ := at_ h
    obtain ⟨v, f1, f2⟩ := S.pre.env j' b d g1
    exact ⟨v, g2.trans f1, f2⟩
  · obtain ⟨j', g1, g2, g3⟩ := at_ h1
    obtain ⟨k', f1, f2, f3⟩ := at_ h2
    have z := S.uniq j' k' d e a g1 f1 (g2 ▸ h3) (f2 ▸ h4)
    rcases g3 with ⟨a1, a2⟩ | ⟨a1, a2, a3⟩ <;> rcases f3 with ⟨b1, b2⟩ | ⟨b1, b2, b3⟩ <;> omega
theorem StR.moves : ∀ (is : List Nat) (ws : List V) (xs : List (Bool × D)) (σ : L2.St) (ρ : Env), is.length = ws.length → ws.length = xs.length → is.Nodup → (∀ i ∈ is, i < ρ.length) → σ.length = ρ.length →
    StR K p H0 Ext own H (σ ++ ws.map some) (ρ ++ xs.map some) q → StR K p H0 Ext own H (sets σ is ws) (sets ρ is xs) q
  | [], [], [], σ, ρ, _, _, _, _, _, S => by simpa [sets] using S
  | [], _ :: _, _, _, _, h, _, _, _, _, _ => by simp at h
  | [], [], _ :: _, _, _, _, h, _, _, _, _ => by simp at h
  | _ :: _, [], _, _, _, h, _, _, _, _, _ => by simp at h
  | _ :: _, _ :: _, [], _, _, _, h, _, _, _, _ => by simp at h
  | i :: is, w :: ws, x :: xs, σ, ρ, h1, h2, nd, hlt, hl, S => by
    -- the first one is brought to the end, then stored
    have hi : i < ρ.length := hlt i List.mem_cons_self
    have rot : StR K p H0 Ext own H ((σ ++ ws.map some) ++ [some w]) ((ρ ++ xs.map some) ++ [some x]) q := by
      have lw : (ws.map (some : V → Option V)).length = (xs.map (some : Bool × D → Option (Bool × D))).length := by simp; simpa using h2
      -- a place of the turned list, in the list as it was
      have at_ : ∀ {j : Nat} {y : Bool × D}, ((ρ ++ xs.map some) ++ [some x])[j]? = some (some y) → ∃ j', (ρ ++ (x :: xs).map some)[j']? = some (some y) ∧ ((σ ++ ws.map some) ++ [some w])[j]? = (σ ++ (w :: ws).map some)[j']? ∧
          (j < ρ.length ∧ j' = j ∨ ρ.length ≤ j ∧ j < ρ.length + xs.length ∧ j' = j + 1 ∨ j = ρ.length + xs.length ∧ j' = ρ.length) := fun {j y} h => by
        have ls : (σ ++ ws.map some).length = (ρ ++ xs.map some).length := by simp [hl]; simpa using h2
        by_cases c1 : j < ρ.length
        · refine ⟨j, ?_, ?_, .inl ⟨c1, rfl⟩⟩
          · rw [List.getElem?_append_left (by simp; omega), List.getElem?_append_left c1] at h
            rw [List.getElem?_append_left c1]; exact h
          · rw [List.getElem?_append_left (by simp; omega), List.getElem?_append_left (by omega), List.getElem?_append_left (by omega)]
        · by_cases c2 : j < ρ.length + xs.length
          · refine ⟨j + 1, ?_, ?_, .inr (.inl ⟨by omega, c2, rfl⟩)⟩
            · rw [List.getElem?_append_left (by simp; omega), List.getElem?_append_right (by omega)] at h
              rw [List.getElem?_append_right (by omega), show j + 1 - ρ.length = (j - ρ.length) + 1 by omega, List.map_cons, List.getElem?_cons_succ]
              exact h
            · rw [List.getElem?_append_left (by rw [ls]; simp; omega), List.getElem?_append_right (by omega), List.getElem?_append_right (by omega), show j + 1 - σ.length = (j - σ.length) + 1 by omega, List.map_cons, List.getElem?_cons_succ]
          · by_cases c3 : j = ρ.length + xs.length
            · refine ⟨ρ.length, ?_, ?_, .inr (.inr ⟨c3, rfl⟩)⟩
              · rw [List.getElem?_append_right (by simp; omega)] at h
                rw [List.getElem?_append_right (Nat.le_refl _), Nat.sub_self, List.map_cons, List.getElem?_cons_zero]
                rw [show j - (ρ ++ xs.map some).length = 0 by simp; omega, List.getElem?_cons_zero] at h
                exact h
              · rw [List.getElem?_append_right (by rw [ls]; simp; omega), ls, show j - (ρ ++ xs.map some).length = 0 by simp; omega, ← hl, List.getElem?_append_right (Nat.le_refl _), Nat.sub_self, List.map_cons, List.getElem?_cons_zero, List.getElem?_cons_zero]
            · rw [List.getElem?_eq_none (by simp; omega)] at h; cases h
      refine ⟨S.keep, ⟨S.pre.pot, S.pre.pB, S.pre.nt, fun j b d h => ?_, by simp [hl]; simpa using h2⟩, S.pX, S.own0, S.ext0, fun j k d e a g1 g2 g3 g4 => ?_, by simp [hl]; simpa using h2⟩
      · obtain ⟨j', g1, g2, _⟩ := at_ h
        obtain ⟨v, f1, f2⟩ := S.pre.env j' b d g1
        exact ⟨v, g2.trans f1, f2⟩
      · obtain ⟨j', a1, a2, a3⟩ := at_ g1
        obtain ⟨k', b1, b2, b3⟩ := at_ g2
        have z := S.uniq j' k' d e a a1 b1 (a2 ▸ g3) (b2 ▸ g4)
        rcases a3 with ⟨c1, c2⟩ | ⟨c0, c1, c2⟩ | ⟨c1, c2⟩ <;> rcases b3 with ⟨e1, e2⟩ | ⟨e0, e1, e2⟩ | ⟨e1, e2⟩ <;> omega
    have mv := rot.move i
    rw [List.set_append_left _ _ hi, List.set_append_left _ _ (by omega)] at mv
    exact StR.moves is ws xs (σ.set i (some w)) (ρ.set i (some x)) (by simpa using h1) (by simpa using h2) (List.nodup_cons.mp nd).2 (fun k hk => by simpa using hlt k (List.mem_cons_of_mem _ hk)) (by simp [hl]) mv
end
end Sd
/-! several at once, targets, walks, comprehensions, loops -/
namespace Sd
open PySem PySem.Spec PyProof.Rows L2
section
variable (K : PySem.W.Frag) (p : Addr)
def seqB : List (Bool × (Env → M D)) → Env → M (List (Bool × D))
  | [], _ => M.pure []
  | (b, f) :: fs, ρ => M.bind (f ρ) fun d => if b = true ∧ isLD d = false then M.fail else M.bind (seqB fs ρ) fun ds => M.pure ((b, d) :: ds)
/-- values evaluated one behind another, waiting to be stored -/
def tP (fs : List (Bool × (Env → M D))) : TA := fun σ H Q => HL H → ∃ (H0 : Hp) (Ext own : List Addr) (σp : L2.St) (ρ ρp : Env) (q : Pot) (xs : List (Bool × D)) (q' : Pot), σ.length = ρ.length ∧ StR K p H0 Ext own H (σ ++ σp) (ρ ++ ρp) q ∧ seqB fs ρ q = some (xs, q') ∧
  ∀ vs H' own', HL H' → vs.length = xs.length → StR K p H0 Ext own' H' (σ ++ σp ++ vs.map some) (ρ ++ ρp ++ xs.map some) q' → Q vs H'
end
structure DP (X : Cx) (p : Addr) (es : List Expr) (fs : List (Bool × (Env → M D))) : Prop where
  pa : PA X es (tP X.K p fs)
section
variable {X : Cx} {p : Addr}
theorem dp_nil : DP X p [] [] := ⟨paHL pa_nil fun σ H Q hl t => by
  obtain ⟨H0, Ext, own, σp, ρ, ρp, q, xs, q', hlen, S, e, k⟩ := t hl
  obtain ⟨rfl, rfl⟩ := M.pure_some e
  exact fun l => k [] H own l rfl (by simpa using S)⟩
theorem dp_cons {e : Expr} {es : List Expr} {f : Env → M D} {fs : List (Bool × (Env → M D))} {fr : Bool} (b : Bool) (h1 : DE X p e f false fr) (hb : b = true → fr = true) (h2 : DP X p es fs) (hs : starEach (e :: es) X.env = (false, eval e X.env) :: starEach es X.env := by rfl) :
    DP X p (e :: es) ((b, f) :: fs) := ⟨paHL (pa_cons h1.pe h2.pa hs) fun σ H Q hl t => by
  obtain ⟨H0, Ext, own, σp, ρ, ρp, q, xs, q', hlen, S, e, k⟩ := t hl
  obtain ⟨d, q1, e1, e⟩ := M.bind_some e
  by_cases hbad : b = true ∧ isLD d = false
  · rw [if_pos hbad] at e; cases e
  rw [if_neg hbad] at e
  obtain ⟨dr, q2, e2, e⟩ := M.bind_some e
  obtain ⟨rfl, rfl⟩ := M.pure_some e
  refine fun _ => ⟨_, ρ, _, q, d, q1, S.pre_of hlen, e1, fun v H1 l1 s1 p1 r1 n1 => ?_⟩
  -- the value waits
  have step : ∃ own1, StR X.K p H0 Ext own1 H1 (σ ++ (σp ++ [some v])) (ρ ++ (ρp ++ [some (b, d)])) q1 := by
    have lp : (σ ++ σp).length = (ρ ++ ρp).length := S.len
    rw [← List.append_assoc, ← List.append_assoc]
    cases b with
    | false =>
      have S1 := (S.stp s1 p1).room.set (ρ ++ ρp).length r1
      rw [set_end, ← lp, set_end] at S1
      exact ⟨own, S1⟩
    | true =>
      have ld : isLD d = true := by
        cases z : isLD d with
        | true => rfl
        | false => exact absurd ⟨rfl, z⟩ hbad
      obtain ⟨a, S1⟩ := S.room.setB s1 p1 (ρ ++ ρp).length (n1 (hb rfl)) ld r1
      rw [set_end, ← lp, set_end] at S1
      exact ⟨_, S1⟩
  obtain ⟨own1, S1⟩ := step
  refine fun _ => ⟨H0, Ext, own1, σp ++ [some v], ρ, ρp ++ [some (b, d)], q1, dr, _, hlen, S1, e2, fun vs H2 own2 l2 hv S2 l2' => ?_⟩
  refine k (v :: vs) H2 own2 l2 (by simp [hv]) ?_
  simpa using S2⟩
theorem seqB_len : ∀ {fs : List (Bool × (Env → M D))} {ρ : Env} {q q' : Pot} {xs : List (Bool × D)}, seqB fs ρ q = some (xs, q') → xs.length = fs.length
  | [], _, _, _, _, h => by obtain ⟨rfl, rfl⟩ := M.pure_some h; rfl
  | (b, f) :: fs, _, _, _, _, h => by
    obtain ⟨d, q1, e1, h⟩ := M.bind_some h
    by_cases hbad : b = true ∧ isLD d = false
    · rw [if_pos hbad] at h; cases h
    rw [if_neg hbad] at h
    obtain ⟨dr, q2, e2, h⟩ := M.bind_some h
    obtain ⟨rfl, rfl⟩ := M.pure_some h
    rw [List.length_cons, List.length_cons, seqB_len e2]
def parS (is : List Nat) (fs : List (Bool × (Env → M D))) : SE := fun ρ => if is.all (fun i => decide (i < ρ.length)) = true then M.bind (seqB fs ρ) fun xs => M.pure (.nx, sets ρ is xs) else M.fail
theorem parS_some {is : List Nat} {fs : List (Bool × (Env → M D))} {ρ : Env} {q q' : Pot} {r : Fl × Env} (h : parS is fs ρ q = some (r, q')) : (∀ i ∈ is, i < ρ.length) ∧ ∃ xs, seqB fs ρ q = some (xs, q') ∧ r = (.nx, sets ρ is xs) := by
  unfold parS at h
  by_cases c : is.all (fun i => decide (i < ρ.length)) = true
  · rw [if_pos c] at h
    obtain ⟨xs, q1, e1, h⟩ := M.bind_some h
    obtain ⟨rfl, rfl⟩ := M.pure_some h
    exact ⟨fun i hi => by simpa using List.all_eq_true.mp c i hi, xs, e1, rfl⟩
  · rw [if_neg c] at h; cases h
theorem len2 {α : Type} : ∀ {l : List α}, l.length = 2 → ∃ a b, l = [a, b]
  | [a, b], _ => ⟨a, b, rfl⟩
  | [], h => by simp at h
  | [_], h => by simp at h
  | _ :: _ :: _ :: _, h => by simp at h
/-- a, b = e1, e2: two local names -/
theorem ds_par {x y : Str} {a b : Expr} {px py pt : Pos} {kt k2 : Nat} {pt2 pos : Pos} {fs : List (Bool × (Env → M D))} (i j : Nat) (hc : X.calm = true) (hN : X.N.Nodup) (hi : X.N[i]? = some x) (hj : X.N[j]? = some y) (hij : i ≠ j)
    (hx : X.env.scope.names.lookup x = some .local) (hy : X.env.scope.names.lookup y = some .local) (ha : DP X p [a, b] fs) (hfs : fs.length = 2)
    (hw : swappedStores [.Tuple [.Name x px, .Name y py] kt pt] (.Tuple [a, b] k2 pt2) X.env = pure (some [x, y]))
    (hs : swapsWithSole [.Tuple [.Name x px, .Name y py] kt pt] (.Tuple [a, b] k2 pt2) pos.line X.env = pure false := by rfl) :
    DS X p (.Assign [.Tuple [.Name x px, .Name y py] kt pt] (.Tuple [a, b] k2 pt2) pos) (parS [i, j] fs) := ⟨psHL (ps_par hc hN hi hj hij hx hy ha.pa hw hs) fun E σ H hl t => by
  obtain ⟨H0, Ext, own, ρ, q, r, q', S, e, af⟩ := t hl
  obtain ⟨lt, xs, e1, rfl⟩ := parS_some e
  refine fun _ => ⟨H0, Ext, own, [], ρ, [], q, xs, q', S.len, by simpa using S, e1, fun vs H' own' l hv S' => ?_⟩
  have lx : xs.length = 2 := by rw [seqB_len e1, hfs]
  obtain ⟨v, w, rfl⟩ := len2 (hv.trans lx)
  obtain ⟨d1, d2, rfl⟩ := len2 lx
  refine ⟨v, w, rfl, fun l' => af _ H' own' l' ?_⟩
  have S2 := StR.moves [i, j] [v, w] [d1, d2] σ ρ rfl rfl (by simpa using hij) lt S.len (by simpa using S')
  exact S2⟩
/-- a tuple of names takes a written tuple: the tuple is made, then taken apart -/
theorem ds_tupAsg {tgs es : List Expr} {kt k2 : Nat} {pt pt2 pos : Pos} {fs : List (Bool × (Env → M D))} {g : TGs} (is : List Nat) (hc : X.calm = true) (ha : DP X p es fs) (hfs : fs.length = is.length) (nd : is.Nodup) (hg : PGs X tgs g)
    (hgs : ∀ (ws : List V) (σ : L2.St) (H : Hp) (Q : L2.St → Hp → Prop), ws.length = is.length → Q (sets σ is ws) H → g ws σ H Q) (hz : fs.length ≤ sizeLine := by decide)
    (hn : (assignEach tgs X.env).length = is.length := by rfl) (hst : (assignEach tgs X.env).findIdx? (·.1) = none := by rfl)
    (hs : swapsWithSole [.Tuple tgs kt pt] (.Tuple es k2 pt2) pos.line X.env = pure false := by rfl) (hw : swappedStores [.Tuple tgs kt pt] (.Tuple es k2 pt2) X.env = pure none := by rfl)
    (h1 : (assignEach [.Tuple tgs kt pt] X.env).map (·.2) = [assign (.Tuple tgs kt pt) X.env] := by rfl) :
    DS X p (.Assign [.Tuple tgs kt pt] (.Tuple es k2 pt2) pos) (parS is fs) := ⟨psHL (ps_asg (pe_tup ha.pa) (pg_tup hc hg hn hst) hs hw h1) fun E σ H hl t => by
  obtain ⟨H0, Ext, own, ρ, q, r, q', S, e, af⟩ := t hl
  obtain ⟨lt, xs, e1, rfl⟩ := parS_some e
  refine fun _ => ⟨H0, Ext, own, [], ρ, [], q, xs, q', S.len, by simpa using S, e1, fun vs H' own' l hv S' => ⟨by rw [hv, seqB_len e1]; exact hz, fun a na => ?_⟩⟩
  have lv : vs.length = is.length := by rw [hv, seqB_len e1, hfs]
  refine ⟨a, vs, rfl, .inl (.inl upd_same), lv, hgs vs _ _ _ lv fun l' => af _ _ own' l' ?_⟩
  have S2 := StR.moves is vs xs σ ρ lv.symm hv nd lt S.len (by simpa using S')
  exact S2.stp (Stp.of (same_upd na)) (same_upd na _ _ S2.pre.pot)⟩
/-! ### targets -/
abbrev Gd := D → Option (List (Nat × D))
def gN (i : Nat) : Gd := fun d => some [(i, d)]
def gT : List Gd → Gd := fun gs d => match d with
  | .tuple ds => if ds.length = gs.length then (go gs ds) else none
  | _ => none
where go : List Gd → List D → Option (List (Nat × D))
  | g :: gs, d :: ds => match g d, go gs ds with
    | some a, some b => some (a ++ b)
    | _, _ => none
  | _, _ => some []
/-- what a target is given: data, or (tk) a tuple of data that is not held itself -/
def RepG (K : PySem.W.Frag) (p : Addr) (tk : Bool) (d : D) (R H : Hp) (v : V) : Prop := Rep K p d R v ∨ (tk = true ∧ ∃ ds a vs, d = .tuple ds ∧ v = .ref a ∧ SqT K H a vs ∧ RepL K p ds R vs)
def tG (K : PySem.W.Frag) (p : Addr) (tk : Bool) (g : Gd) : TG := fun v σ H Q => ∃ (d : D) (R : Hp) (as : List (Nat × D)), RepG K p tk d R H v ∧ Same R H ∧ g d = some as ∧ ∀ ws, RepL K p (as.map (·.2)) R ws → Q (sets σ (as.map (·.1)) ws) H
def tGs (K : PySem.W.Frag) (p : Addr) (gs : List Gd) : TGs := fun vs σ H Q => ∃ (ds : List D) (R : Hp) (as : List (Nat × D)), RepL K p ds R vs ∧ ds.length = gs.length ∧ Same R H ∧ gT.go gs ds = some as ∧ ∀ ws, RepL K p (as.map (·.2)) R ws → Q (sets σ (as.map (·.1)) ws) H
structure DG (X : Cx) (p : Addr) (tk : Bool) (tg : Expr) (g : Gd) : Prop where
  pg : PG X tg (tG X.K p tk g)
structure DGs (X : Cx) (p : Addr) (tgs : List Expr) (gs : List Gd) : Prop where
  pgs : PGs X tgs (tGs X.K p gs)
theorem PG.imp {tg : Expr} {t t' : TG} (h : PG X tg t) (i : ∀ v σ H Q, t' v σ H Q → t v σ H Q) : PG X tg t' := ⟨fun pins s σ H v u Q I r hw => h.run pins s σ H v u Q I r (i v σ H Q hw)⟩
theorem PGs.imp {tg : List Expr} {t t' : TGs} (h : PGs X tg t) (i : ∀ v σ H Q, t' v σ H Q → t v σ H Q) : PGs X tg t' := ⟨fun pins s σ H v u Q I r hw => h.run pins s σ H v u Q I r (i v σ H Q hw)⟩
theorem dg_name {x : Str} {pos : Pos} (i : Nat) (hN : X.N.Nodup) (hi : X.N[i]? = some x) (hx : Loc X.env.scope x) (hf : X.fn x = true ∨ X.env.scope.names.lookup x = some .local := by first | exact .inl rfl | exact .inr rfl) : DG X p false (.Name x pos) (gN i) :=
  ⟨PG.imp (pg_name hN hi hx hf) fun v σ H Q t => by
    obtain ⟨d, R, as, r | ⟨z, _⟩, s, e, k⟩ := t
    · cases e
      exact k [v] (RepL.one r)
    · cases z⟩
theorem dgs_nil : DGs X p [] [] := ⟨PGs.imp pgs_nil fun vs σ H Q t => by
  obtain ⟨ds, R, as, r, hl, s, e, k⟩ := t
  match ds, hl with
  | [], _ =>
    cases e
    exact ⟨r, k [] rfl⟩⟩
theorem RepL.split {K : PySem.W.Frag} {R : Hp} : ∀ {as bs : List D} {ws : List V}, RepL K p (as ++ bs) R ws → ∃ u v, ws = u ++ v ∧ RepL K p as R u ∧ RepL K p bs R v
  | [], _, ws, h => ⟨[], ws, rfl, rfl, h⟩
  | a :: as, bs, _, h => by
    obtain ⟨w, r, rfl, h1, h2⟩ := h
    obtain ⟨u, v, rfl, h3, h4⟩ := RepL.split h2
    exact ⟨w :: u, v, rfl, ⟨w, u, rfl, h1, h3⟩, h4⟩
theorem sets_app {α : Type} : ∀ (is js : List Nat) (xs ys : List α) (l : List (Option α)), is.length = xs.length → sets l (is ++ js) (xs ++ ys) = sets (sets l is xs) js ys
  | [], _, [], _, _, _ => by simp [sets]
  | [], _, _ :: _, _, _, h => by simp at h
  | _ :: _, _, [], _, _, h => by simp at h
  | i :: is, js, x :: xs, ys, l, h => by
    show sets (l.set i (some x)) (is ++ js) (xs ++ ys) = _
    rw [sets_app is js xs ys _ (by simpa using h)]
    rfl
theorem dgs_cons {e : Expr} {es : List Expr} {g : Gd} {gs : List Gd} (h1 : DG X p false e g) (h2 : DGs X p es gs) (hs : (assignEach (e :: es) X.env).map (·.2) = assign e X.env :: (assignEach es X.env).map (·.2) := by rfl) : DGs X p (e :: es) (g :: gs) :=
  ⟨PGs.imp (pgs_cons h1.pg h2.pgs hs) fun vs σ H Q t => by
    obtain ⟨ds, R, as, r, hl, s, e, k⟩ := t
    match ds, hl with
    | d :: ds, hl =>
      obtain ⟨v, vr, rfl, r1, r2⟩ := r
      unfold gT.go at e
      cases e1 : g d with
      | none => rw [e1] at e; cases e
      | some a1 =>
        cases e2 : gT.go gs ds with
        | none => rw [e1, e2] at e; cases e
        | some a2 =>
          rw [e1, e2] at e
          cases e
          refine ⟨v, vr, rfl, d, R, a1, .inl r1, s, e1, fun w1 y1 => ⟨ds, R, a2, r2, by simpa using hl, s, e2, fun w2 y2 => ?_⟩⟩
          have z := k (w1 ++ w2) (by rw [List.map_append]; exact RepL.app y1 y2)
          rw [List.map_append, sets_app _ _ _ _ _ (by rw [y1.length]; simp)] at z
          exact z⟩
theorem dg_tup {es : List Expr} {k : Nat} {pos : Pos} {gs : List Gd} {tk : Bool} (hc : X.calm = true) (h : DGs X p es gs) (hn : (assignEach es X.env).length = gs.length := by rfl) (hst : (assignEach es X.env).findIdx? (·.1) = none := by rfl) : DG X p tk (.Tuple es k pos) (gT gs) :=
  ⟨PG.imp (pg_tup hc h.pgs hn hst) fun v σ H Q t => by
    obtain ⟨d, R, as, r, s, e, k⟩ := t
    have r2 : ∀ ds, d = .tuple ds → ∃ a vs, v = .ref a ∧ SqT X.K H a vs ∧ RepL X.K p ds R vs := fun ds ed => by
      subst ed
      rcases r with r | ⟨_, ds', a, vs, e1, e2, h1, h2⟩
      · obtain ⟨a, vs, e2, h1, h2⟩ := r
        exact ⟨a, vs, e2, (h1.mono s).sq, h2⟩
      · cases e1
        exact ⟨a, vs, e2, h1, h2⟩
    cases d with
    | tuple ds =>
      obtain ⟨a, vs, rfl, h1, h2⟩ := r2 ds rfl
      unfold gT at e
      dsimp only at e
      by_cases hl : ds.length = gs.length
      · rw [if_pos hl] at e
        exact ⟨a, vs, rfl, h1, by rw [h2.length, hl], ds, R, as, h2, hl, s, e, k⟩
      · rw [if_neg hl] at e; cases e
    | _ => cases e⟩
variable {K : PySem.W.Frag} {H0 H H' : Hp} {Ext own B : List Addr} {σ : L2.St} {ρ : Env} {q q' : Pot} {E : Ends} {F : Addr → Prop}
def cl (as : List (Nat × D)) : List (Bool × D) := as.map fun a => (false, a.2)
theorem StR.setsC : ∀ {as : List (Nat × D)} {ws : List V} {σ : L2.St} {ρ : Env}, StR K p H0 Ext own H σ ρ q → RepL K p (as.map (·.2)) (hide H (own ++ Ext)) ws → StR K p H0 Ext own H (sets σ (as.map (·.1)) ws) (sets ρ (as.map (·.1)) (cl as)) q
  | [], ws, σ, ρ, S, r => by
    rw [show ws = [] from r]
    simpa [sets, cl] using S
  | (i, d) :: as, _, σ, ρ, S, r => by
    obtain ⟨w, ws, rfl, h1, h2⟩ := r
    have z := StR.setsC (as := as) (ws := ws) (S.set i h1) h2
    exact z
theorem Pre.set (S : Pre K p F H B σ ρ q) {d : D} {v : V} (i : Nat) (r : Rep K p d (hide H B) v) : Pre K p F H B (σ.set i (some v)) (ρ.set i (some (false, d))) q :=
  ⟨S.pot, S.pB, S.nt, fun j b e h => by
    rcases set_get h with ⟨rfl, e1, hj⟩ | ⟨ne, h⟩
    · cases e1
      exact ⟨v, by rw [List.getElem?_set_self (by rw [S.len]; exact hj)], fun _ => r, fun z => by cases z⟩
    · obtain ⟨w, h1, h2⟩ := S.env j b e h
      exact ⟨w, by rw [List.getElem?_set_ne ne]; exact h1, h2⟩, by simp [S.len]⟩
theorem Pre.setsC : ∀ {as : List (Nat × D)} {ws : List V} {σ : L2.St} {ρ : Env}, Pre K p F H B σ ρ q → RepL K p (as.map (·.2)) (hide H B) ws → Pre K p F H B (sets σ (as.map (·.1)) ws) (sets ρ (as.map (·.1)) (cl as)) q
  | [], ws, σ, ρ, S, r => by
    rw [show ws = [] from r]
    simpa [sets, cl] using S
  | (i, d) :: as, _, σ, ρ, S, r => by
    obtain ⟨w, ws, rfl, h1, h2⟩ := r
    have z := Pre.setsC (as := as) (ws := ws) (S.set i h1) h2
    exact z
end
end Sd
/-! walks, comprehensions, for, while -/
namespace Sd
open PySem PySem.Spec PyProof.Rows L2
/-- later on: what stood stands (c: but the pot; else: but what is hidden) -/
def Lt (p : Addr) (c : Bool) (B : List Addr) (H1 H : Hp) : Prop := if c = true then Stp p H1 H else ∀ a o, a ∉ B → H1 a = some o → H a = some o
structure WkD (K : PySem.W.Frag) (p : Addr) (c pr : Bool) (J : It) (xs : List D) (B : List Addr) (H1 : Hp) : Prop where
  ex : ∃ (G : Hp → Prop) (Y : Nat → Hp → V → Hp → Prop), Walk J xs.length G Y ∧ (∀ H, Lt p c B H1 H → G H) ∧
    ∀ (i : Nat) (H : Hp) (v : V) (H' : Hp) (d : D), Lt p c B H1 H → Y i H v H' → xs[i]? = some d → Same H H' ∧ ∀ B', Same (hide H1 B) (hide H B') → (∀ a ∈ B', H a ≠ none) → RepG K p pr d (hide H' B') H' v
theorem RepG.up {K : PySem.W.Frag} {p : Addr} {pr tk : Bool} {d : D} {R H : Hp} {v : V} (h : pr = true → tk = true) (r : RepG K p pr d R H v) : RepG K p tk d R H v := by
  rcases r with r | ⟨z, r⟩
  · exact .inl r
  · exact .inr ⟨h z, r⟩
abbrev IE := Env → M (List D)
def tI (K : PySem.W.Frag) (p : Addr) (f : IE) (c pr : Bool) : TI := fun σ H R => HL H → ∃ (F : Addr → Prop) (ρ : Env) (B : List Addr) (q : Pot) (xs : List D) (q' : Pot), Pre K p F H B σ ρ q ∧ f ρ q = some (xs, q') ∧
  ∀ J H1, HL H1 → Stp p H H1 → H1 p = some (potV q') → xs.length ≤ sizeLine → WkD K p c pr J xs B H1 → R J H1
structure DI (X : Cx) (p : Addr) (tg iter : Expr) (f : IE) (c pr : Bool) : Prop where
  pi : PI X tg iter (tI X.K p f c pr)
section
variable {X : Cx} {p : Addr} {K : PySem.W.Frag} {H0 H H' H1 : Hp} {Ext own B : List Addr} {σ : L2.St} {ρ : Env} {q q' : Pot} {E : Ends} {F : Addr → Prop} {c fr : Bool} {f : Env → M D}
theorem piHL {tg iter : Expr} {t t' : TI} (h : PI X tg iter t) (imp : ∀ σ H R, HL H → t' σ H R → t σ H (fun J H' => HL H' → R J H')) : PI X tg iter t' :=
  ⟨fun pins s σ H R I hw => thn (h.run pins s σ H _ I (imp σ H R (HL_of I.hok) hw)) fun _ _ z => thn z fun _ _ ⟨it, fp, tn, J, H', e, I', T, st, f, r⟩ => ⟨it, fp, tn, J, H', e, I', T, st, f, r (HL_of I'.hok)⟩⟩
/-- a list or a tuple is walked -/
theorem pi_seq {tg l : Expr} {tl : TE} (hl : PE X l tl) : PI X tg l (fun σ H R => tl σ H fun x H1 => ∃ a, x = .ref a ∧ (((∃ xs, SqL X.K H1 a xs) ∧ R (Itl X.K a) H1) ∨ ((∃ xs, SqT X.K H1 a xs) ∧ R (Itt X.K a) H1))) := by
  constructor
  intro pins s σ H R I h
  refine thn (hl.run pins s σ H _ I h) fun v s1 ⟨x, H1, I1, r1, a, ea, z⟩ => ?_
  subst ea
  cases r1
  have fresh : ∀ b, b ∈ [s1.heap.objs.size] → FpOk X pins H1 b := by
    intro b hb
    rw [List.mem_singleton] at hb
    subst hb
    exact I1.fpOk (Nat.le_refl _) (I1.hok.fresh (Nat.le_refl _))
  rcases z with ⟨⟨xs, hx⟩, r⟩ | ⟨⟨xs, hx⟩, r⟩
  · obtain ⟨its, _, pl, _⟩ := I1.list hx
    exact wpAny_pyIter_list pl.isList ⟨_, _, _, _, H1, rfl, I1.kept (t' := s1.toks) fun _ _ y => Heap.get?_push_of_some _ y, turn_list a _, ⟨_, Heap.get?_push_size _ rfl, rfl, rfl⟩, fresh, r⟩
  · obtain ⟨its, _, pl, _⟩ := I1.tuple hx
    exact wpAny_pyIter_tuple (show s1.heap.IsTuple a its.toArray from pl) ⟨_, _, _, _, H1, rfl, I1.kept (t' := s1.toks) fun _ _ y => Heap.get?_push_of_some _ y, turn_tuple a _, ⟨_, Heap.get?_push_size _ rfl, rfl, rfl⟩, fresh, r⟩
def items : D → Option (List D)
  | .list ds => some ds
  | .tuple ds => some ds
  | _ => none
def itE (f : Env → M D) : IE := fun ρ => M.bind (f ρ) fun d => M.of (items d)
theorem Lt.le (h : Lt p c B H1 H) (hp : p ∈ B) : ∀ a o, a ∉ B → H1 a = some o → H a = some o := by
  unfold Lt at h
  split at h
  · exact fun a o n e => h a o e fun z => n (z ▸ hp)
  · exact h
theorem RepL.nth {ds : List D} {R : Hp} {vs : List V} {i : Nat} {d : D} {v : V} (h : RepL K p ds R vs) (e1 : ds[i]? = some d) (e2 : vs[i]? = some v) : Rep K p d R v := by
  obtain ⟨w, g1, g2⟩ := h.get e1
  rw [e2] at g1; cases g1
  exact g2
theorem wk_lst {a : Addr} {ds : List D} {vs : List V} (h1 : H1 a = some (.lst vs)) (r : RepL K p ds (hide H1 B) vs) (ok : ∀ H, Lt p c B H1 H → H a = some (.lst vs)) : WkD K p c false (Itl K a) ds B H1 := by
  refine ⟨fun H => SqL K H a vs, YAt vs, by rw [← r.length]; exact walk_list, fun H l => .inl (.inl (ok H l)), fun i H v H' d l y e => ?_⟩
  obtain ⟨rfl, y⟩ := y
  exact ⟨Same.refl _, fun B' s _ => .inl (Rep.mono s (r.nth e y))⟩
theorem wk_tup {a : Addr} {ds : List D} {vs : List V} (r : RepL K p ds (hide H1 B) vs) (ok : ∀ H, Lt p c B H1 H → TupAt H a vs) : WkD K p c false (Itt K a) ds B H1 := by
  refine ⟨fun H => SqT K H a vs, YAt vs, by rw [← r.length]; exact walk_tup, fun H l => (ok H l).sq, fun i H v H' d l y e => ?_⟩
  obtain ⟨rfl, y⟩ := y
  exact ⟨Same.refl _, fun B' s _ => .inl (Rep.mono s (r.nth e y))⟩
theorem tup_nt (K : PySem.W.Frag) {a : Addr} {vs : List V} (nt : ∀ a ∈ B, ∃ o, H1 a = some o ∧ nontup o = true) (h : TupAt H1 a vs) (le : ∀ a o, a ∉ B → H1 a = some o → H a = some o) : TupAt H a vs := by
  obtain ⟨o, z, e⟩ := hide_tup (K := K) nt a vs h
  obtain ⟨n, e⟩ := hide_some e
  exact ⟨o, z, le _ _ n e⟩
theorem HL.tup {a : Addr} {vs : List V} (l : HL H) (h : TupAt H a vs) : vs.length ≤ sizeLine := l a vs (.inr h.two)
theorem HL.lst {a : Addr} {vs : List V} (l : HL H) (h : H a = some (.lst vs)) : vs.length ≤ sizeLine := l a vs (.inl (.inl h))
theorem di_seq {tg e : Expr} (h : DE X p e f c fr) (hz : ∀ a xs, X.K.lookup a = some xs → True := fun _ _ _ => trivial) : DI X p tg e (itE f) c false := ⟨piHL (pi_seq h.pe) fun σ H R hl t => by
  obtain ⟨F, ρ, B, q, xs, q', k1, k2, k3⟩ := t hl
  obtain ⟨d, q1, e1, k2⟩ := M.bind_some k2
  obtain ⟨e2, rfl⟩ := M.of_some k2
  refine fun _ => ⟨F, ρ, B, q, d, _, k1, e1, fun v H1 l1 s1 p1 r1 _ => ?_⟩
  have nt := (k1.stp s1 p1).nt
  cases d with
  | list ds =>
    cases e2
    obtain ⟨a, vs, ea, hne, h1, h2⟩ := r1.cons.lst k1.pB
    refine ⟨a, ea, .inl ⟨⟨vs, .inl (.inl h1)⟩, fun l => k3 _ H1 l s1 p1 (by rw [← h2.length]; exact l1.lst h1) (wk_lst h1 h2 fun H' lt => ?_)⟩⟩
    unfold Lt at lt
    cases c with
    | true => rw [if_pos rfl] at lt; exact lt _ _ h1 hne
    | false =>
      rw [if_neg Bool.false_ne_true] at lt
      unfold Res at r1
      rw [if_neg Bool.false_ne_true] at r1
      obtain ⟨a', vs', ea', g1, _⟩ := r1
      rw [ea] at ea'; cases ea'
      exact lt _ _ (hide_some g1).1 h1
  | tuple ds =>
    cases e2
    obtain ⟨a, vs, ea, h1, h2⟩ := r1.cons.tup
    exact ⟨a, ea, .inr ⟨⟨vs, h1.sq⟩, fun l => k3 _ H1 l s1 p1 (by rw [← h2.length]; exact l1.tup h1) (wk_tup h2 fun H' lt => tup_nt X.K nt h1 (lt.le k1.pB))⟩⟩
  | _ => cases e2⟩
/-- range(n) -/
def rngE (f : Env → M D) : IE := fun ρ => M.bind (f ρ) fun d => match d with
  | .int j => if -1000000 ≤ j ∧ j ≤ 1000000 then M.pure ((List.range j.toNat).map fun i => .int (i : Nat)) else M.fail
  | _ => M.fail
theorem rngE_some {ρ : Env} {q q' : Pot} {xs : List D} (h : rngE f ρ q = some (xs, q')) : ∃ j, f ρ q = some (.int j, q') ∧ (-1000000 ≤ j ∧ j ≤ 1000000) ∧ xs = (List.range j.toNat).map fun i => .int (i : Nat) := by
  obtain ⟨d, q1, e1, h⟩ := M.bind_some h
  cases d with
  | int j =>
    dsimp only at h
    by_cases c : -1000000 ≤ j ∧ j ≤ 1000000
    · rw [if_pos c] at h
      obtain ⟨rfl, rfl⟩ := M.pure_some h
      exact ⟨j, e1, c, rfl⟩
    · rw [if_neg c] at h; cases h
  | _ => cases h
theorem wk_range {lo : Int} {n : Nat} : WkD K p c false (Itr lo n) ((List.range n).map fun i => .int (lo + (i : Nat))) B H1 := by
  refine ⟨fun _ => True, YFn fun i => .int (lo + i), by simpa using walk_range, fun _ _ => trivial, fun i H v H' d l y e => ?_⟩
  obtain ⟨rfl, rfl⟩ := y
  rw [List.getElem?_map] at e
  cases z : (List.range n)[i]? with
  | none => rw [z] at e; cases e
  | some j =>
    rw [z] at e
    cases e
    obtain ⟨h1, h2⟩ := List.getElem?_eq_some_iff.mp z
    rw [List.getElem_range] at h2
    subst h2
    exact ⟨Same.refl _, fun _ _ _ => .inl rfl⟩
theorem sz6 : (1000000 : Nat) ≤ sizeLine := by rw [sizeLine_eq]; decide
theorem di_range1 {tg a : Expr} {np pos : Pos} (hg : Gl X "range") (hm : X.mg "range" = none) (ha : DE X p a f c fr) (hs : starEach [a] X.env = [(false, eval a X.env)] := by rfl)
    (hs2 : starEach [a] X.env = (false, eval a X.env) :: starEach [] X.env := by rfl) : DI X p tg (.Call (.Name "range" np) [a] [] pos) (rngE f) false false := ⟨piHL (pi_range1 hg hm (pa_cons ha.pe pa_nil hs2) hs) fun σ H R hl t => by
  obtain ⟨F, ρ, B, q, xs, q', k1, k2, k3⟩ := t hl
  obtain ⟨j, e1, hj, rfl⟩ := rngE_some k2
  refine fun _ => ⟨F, ρ, B, q, _, q', k1, e1, fun v H1 l1 s1 p1 r1 _ => ⟨j, by rw [r1.cons.int], by omega, by omega, fun l => k3 _ H1 l s1 p1 ?_ ?_⟩⟩
  · rw [List.length_map, List.length_range]
    have := sz6
    omega
  · have z := wk_range (K := X.K) (p := p) (c := false) (B := B) (H1 := H1) (lo := 0) (n := j.toNat)
    simpa using z⟩
def rng2E (f g : Env → M D) : IE := fun ρ => M.bind (f ρ) fun d => M.bind (g ρ) fun e => match d, e with
  | .int i, .int j => if (-400000 ≤ i ∧ i ≤ 400000) ∧ (-400000 ≤ j ∧ j ≤ 400000) then M.pure ((List.range (j - i).toNat).map fun k => .int (i + (k : Nat))) else M.fail
  | _, _ => M.fail
theorem rng2E_some {g : Env → M D} {ρ : Env} {q q' : Pot} {xs : List D} (h : rng2E f g ρ q = some (xs, q')) : ∃ i j q1, f ρ q = some (.int i, q1) ∧ g ρ q1 = some (.int j, q') ∧ ((-400000 ≤ i ∧ i ≤ 400000) ∧ (-400000 ≤ j ∧ j ≤ 400000)) ∧ xs = (List.range (j - i).toNat).map fun k => .int (i + (k : Nat)) := by
  obtain ⟨d, q1, e1, h⟩ := M.bind_some h
  obtain ⟨e, q2, e2, h⟩ := M.bind_some h
  cases d with
  | int i =>
    cases e with
    | int j =>
      dsimp only at h
      by_cases c : (-400000 ≤ i ∧ i ≤ 400000) ∧ (-400000 ≤ j ∧ j ≤ 400000)
      · rw [if_pos c] at h
        obtain ⟨rfl, rfl⟩ := M.pure_some h
        exact ⟨i, j, q1, e1, e2, c, rfl⟩
      · rw [if_neg c] at h; cases h
    | _ => cases h
  | _ => cases h
theorem di_range2 {tg a b : Expr} {g : Env → M D} {c2 fr2 : Bool} {np pos : Pos} (hg : Gl X "range") (hm : X.mg "range" = none) (ha : DE X p a f c fr) (hb : DE X p b g c2 fr2) (hs : starEach [a, b] X.env = (false, eval a X.env) :: starEach [b] X.env := by rfl)
    (hs2 : starEach [b] X.env = (false, eval b X.env) :: starEach [] X.env := by rfl) (hs0 : starEach [a, b] X.env = [(false, eval a X.env), (false, eval b X.env)] := by rfl) (hs00 : starEach [b] X.env = [(false, eval b X.env)] := by rfl) : DI X p tg (.Call (.Name "range" np) [a, b] [] pos) (rng2E f g) false false := ⟨piHL (pi_range2 hg hm (pa_cons ha.pe (pa_cons hb.pe pa_nil hs2) hs) hs0 hs00) fun σ H R hl t => by
  obtain ⟨F, ρ, B, q, xs, q', k1, k2, k3⟩ := t hl
  obtain ⟨i, j, q1, e1, e2, ⟨⟨h1, h2⟩, h3, h4⟩, rfl⟩ := rng2E_some k2
  refine fun _ => ⟨F, ρ, B, q, _, q1, k1, e1, fun v H1 l1 s1 p1 r1 _ _ => ⟨F, ρ, B, q1, _, q', k1.stp s1 p1, e2, fun w H2 l2 s2 p2 r2 _ => ⟨i, j, by rw [r1.cons.int, r2.cons.int], ⟨by omega, by omega, by omega, by omega⟩, fun l => k3 _ H2 l (s1.trans s2) p2 ?_ ?_⟩⟩⟩
  · rw [List.length_map, List.length_range]
    have := sz6
    omega
  · exact wk_range⟩
/-! ### a comprehension -/
def wipeD (ρ : Env) : List Nat → Env
  | [] => ρ
  | v :: vs => (wipeD ρ vs).set v none
theorem wipeD_len (ρ : Env) : ∀ vs, (wipeD ρ vs).length = ρ.length
  | [] => rfl
  | v :: vs => by simp [wipeD, wipeD_len ρ vs]
theorem Pre.wipe (S : Pre K p F H B σ ρ q) : ∀ vs, Pre K p F H B (wipe σ vs) (wipeD ρ vs) q
  | [] => S
  | v :: vs => by
    have S' := Pre.wipe S vs
    refine ⟨S'.pot, S'.pB, S'.nt, fun i b d h => ?_, by simp [L2.wipe, wipeD, S'.len]⟩
    have h : ((wipeD ρ vs).set v none)[i]? = some (some (b, d)) := h
    by_cases e : v = i
    · subst e
      by_cases hl : v < (wipeD ρ vs).length
      · rw [List.getElem?_set_self hl] at h; cases h
      · rw [List.getElem?_eq_none (by simpa using hl)] at h; cases h
    · rw [List.getElem?_set_ne e] at h
      obtain ⟨w, h1, h2⟩ := S'.env i b d h
      exact ⟨w, by show ((L2.wipe σ vs).set v none)[i]? = _; rw [List.getElem?_set_ne e]; exact h1, h2⟩
/-- one turn after another: what is kept, mapped -/
def lcGo (own : List Nat) (g : Gd) (tt te : Env → M D) (ρ : Env) : List D → M (List D)
  | [] => M.pure []
  | x :: xs => M.bind (M.of (g x)) fun as => M.bind (tt (sets (wipeD ρ own) (as.map (·.1)) (cl as))) fun b => match b with
    | .bool true => M.bind (te (sets (wipeD ρ own) (as.map (·.1)) (cl as))) fun y => M.bind (lcGo own g tt te ρ xs) fun ys => M.pure (y :: ys)
    | .bool false => lcGo own g tt te ρ xs
    | _ => M.fail
def lcE (own : List Nat) (it : IE) (g : Gd) (tt te : Env → M D) : Env → M D := fun ρ => M.bind (it ρ) fun xs => if own.all (fun i => decide (i < ρ.length)) = true then M.bind (lcGo own g tt te ρ xs) fun ys => M.pure (.list ys) else M.fail
structure DTs (X : Cx) (p : Addr) (ifs : List Expr) (f : Env → M D) : Prop where
  pts : PTs X ifs (tT X.K p f)
theorem dts_nil : DTs X p [] (cst (.bool true)) := ⟨⟨fun pins s σ H Q I hw => wpAny_tests_nil (by
  obtain ⟨F, ρ, B, q, b, q', k1, k2, k3⟩ := hw (HL_of I.hok)
  obtain ⟨e, rfl⟩ := M.pure_some k2
  cases e
  exact ⟨H, I, k3 H (HL_of I.hok) Stp.refl k1.pot⟩)⟩⟩
theorem dts_one {t : Expr} (h : DT X p t f) : DTs X p [t] f := ⟨pts_one h.pt⟩
/-- the targets are among these -/
def Gin (g : Gd) (own : List Nat) : Prop := ∀ d as, g d = some as → ∀ a ∈ as, a.1 ∈ own
theorem gN_in {i : Nat} {own : List Nat} (h : i ∈ own) : Gin (gN i) own := fun d as e a ha => by
  cases e
  simp only [List.mem_singleton] at ha
  rw [ha]; exact h
theorem gT_go_in {own : List Nat} : ∀ {gs : List Gd}, (∀ g ∈ gs, Gin g own) → ∀ {ds : List D} {as : List (Nat × D)}, gT.go gs ds = some as → ∀ a ∈ as, a.1 ∈ own
  | [], _, ds, as, e, a, ha => by
    unfold gT.go at e
    cases e; cases ha
  | g :: gs, h, [], as, e, a, ha => by
    unfold gT.go at e
    cases e; cases ha
  | g :: gs, h, d :: ds, as, e, a, ha => by
    unfold gT.go at e
    cases e1 : g d with
    | none => rw [e1] at e; cases e
    | some a1 =>
      cases e2 : gT.go gs ds with
      | none => rw [e1, e2] at e; cases e
      | some a2 =>
        rw [e1, e2] at e
        cases e
        rcases List.mem_append.mp ha with z | z
        · exact h g List.mem_cons_self d a1 e1 a z
        · exact gT_go_in (fun g' hg => h g' (List.mem_cons_of_mem _ hg)) e2 a z
theorem gT_in {gs : List Gd} {own : List Nat} (h : ∀ g ∈ gs, Gin g own) : Gin (gT gs) own := fun d as e a ha => by
  cases d with
  | tuple ds =>
    unfold gT at e
    dsimp only at e
    by_cases hl : ds.length = gs.length
    · rw [if_pos hl] at e
      exact gT_go_in h e a ha
    · rw [if_neg hl] at e; cases e
  | _ => cases e
theorem gi_nil {own : List Nat} : ∀ g ∈ ([] : List Gd), Gin g own := fun g h => by cases h
theorem gi_cons {g : Gd} {gs : List Gd} {own : List Nat} (h1 : Gin g own) (h2 : ∀ g ∈ gs, Gin g own) : ∀ g' ∈ g :: gs, Gin g' own := fun g' h => by
  rcases List.mem_cons.mp h with z | z
  · rw [z]; exact h1
  · exact h2 g' z
theorem wipe_set {α : Type} : ∀ (vs : List Nat) (σ : List (Option V)) (i : Nat) (x : V), i ∈ vs → wipe (σ.set i (some x)) vs = wipe σ vs
  | [], _, _, _, h => by cases h
  | v :: vs, σ, i, x, h => by
    show (wipe (σ.set i (some x)) vs).set v none = (wipe σ vs).set v none
    by_cases hi : i ∈ vs
    · rw [wipe_set (α := α) vs σ i x hi]
    · have e : i = v := by
        rcases List.mem_cons.mp h with z | z
        · exact z
        · exact absurd z hi
      subst e
      refine List.ext_getElem? fun j => ?_
      have len : (wipe (σ.set i (some x)) vs).length = (wipe σ vs).length := by simp [wipe_length]
      by_cases hj : i = j
      · subst hj
        by_cases hl : i < (wipe σ vs).length
        · rw [List.getElem?_set_self hl, List.getElem?_set_self (by rw [len]; exact hl)]
        · rw [List.getElem?_eq_none (by simp [wipe_length] at hl ⊢; exact hl), List.getElem?_eq_none (by simp [wipe_length] at hl ⊢; exact hl)]
      · rw [List.getElem?_set_ne hj, List.getElem?_set_ne hj]
        exact wipe_other vs σ i j x hj
where wipe_other : ∀ (vs : List Nat) (σ : List (Option V)) (i j : Nat) (x : V), i ≠ j → (wipe (σ.set i (some x)) vs)[j]? = (wipe σ vs)[j]?
  | [], σ, i, j, x, h => List.getElem?_set_ne h
  | v :: vs, σ, i, j, x, h => by
    show ((wipe (σ.set i (some x)) vs).set v none)[j]? = ((wipe σ vs).set v none)[j]?
    have len : (wipe (σ.set i (some x)) vs).length = (wipe σ vs).length := by simp [wipe_length]
    by_cases hv : v = j
    · subst hv
      by_cases hl : v < (wipe σ vs).length
      · rw [List.getElem?_set_self hl, List.getElem?_set_self (by rw [len]; exact hl)]
      · rw [List.getElem?_eq_none (by simp [wipe_length] at hl ⊢; exact hl), List.getElem?_eq_none (by simp [wipe_length] at hl ⊢; exact hl)]
    · rw [List.getElem?_set_ne hv, List.getElem?_set_ne hv]
      exact wipe_other vs σ i j x h
theorem wipe_sets {own : List Nat} : ∀ (is : List Nat) (ws : List V) (σ : List (Option V)), (∀ i ∈ is, i ∈ own) → wipe (sets σ is ws) own = wipe σ own
  | [], _, _, _ => by simp [sets]
  | _ :: _, [], _, _ => by simp [sets]
  | i :: is, w :: ws, σ, h => by
    show wipe (sets (σ.set i (some w)) is ws) own = _
    rw [wipe_sets is ws _ fun j hj => h j (List.mem_cons_of_mem _ hj), wipe_set (α := Unit) own σ i w (h i List.mem_cons_self)]
theorem wipe_wipe {σ : List (Option V)} (own : List Nat) : wipe (wipe σ own) own = wipe σ own := by
  have key : ∀ (vs : List Nat) (τ : List (Option V)), (∀ v ∈ vs, ∀ x, τ[v]? = some x → x = none) → wipe τ vs = τ := by
    intro vs
    induction vs with
    | nil => intro τ _; rfl
    | cons v vs ih =>
      intro τ h
      show (wipe τ vs).set v none = τ
      rw [ih τ fun w hw => h w (List.mem_cons_of_mem _ hw)]
      refine List.ext_getElem? fun j => ?_
      by_cases hv : v = j
      · subst hv
        by_cases hl : v < τ.length
        · rw [List.getElem?_set_self hl, List.getElem?_eq_getElem hl]
          have := h v List.mem_cons_self _ (List.getElem?_eq_getElem hl)
          rw [this]
        · rw [List.getElem?_eq_none (by simpa using hl), List.getElem?_eq_none (by simpa using hl)]
      · rw [List.getElem?_set_ne hv]
  refine key own _ fun v hv x hx => ?_
  cases x with
  | none => rfl
  | some y => exact absurd hv (wipe_some hx).2
theorem Lt.of_stp (s : Stp p H1 H) (hp : p ∈ B) : Lt p c B H1 H := by
  unfold Lt
  split
  · exact s
  · exact fun a o n e => s a o e fun z => n (z ▸ hp)
theorem lcGo_cons {own : List Nat} {g : Gd} {tt te : Env → M D} {ρ : Env} {x : D} {xs ys : List D} {q q' : Pot} (h : lcGo own g tt te ρ (x :: xs) q = some (ys, q')) : ∃ as b q1, g x = some as ∧ tt (sets (wipeD ρ own) (as.map (·.1)) (cl as)) q = some (.bool b, q1) ∧
    ((b = true ∧ ∃ y q2 yr, te (sets (wipeD ρ own) (as.map (·.1)) (cl as)) q1 = some (y, q2) ∧ lcGo own g tt te ρ xs q2 = some (yr, q') ∧ ys = y :: yr) ∨ (b = false ∧ lcGo own g tt te ρ xs q1 = some (ys, q'))) := by
  unfold lcGo at h
  obtain ⟨as, q0, e0, h1⟩ := M.bind_some h
  clear h
  obtain ⟨e1, rfl⟩ := M.of_some e0
  clear e0
  obtain ⟨b, q1, e2, h⟩ := M.bind_some h1
  clear h1
  cases b with
  | bool b =>
    refine ⟨as, b, q1, e1, e2, ?_⟩
    cases b with
    | true =>
      obtain ⟨y, q2, e3, h⟩ := M.bind_some h
      obtain ⟨yr, q3, e4, h⟩ := M.bind_some h
      obtain ⟨rfl, rfl⟩ := M.pure_some h
      exact .inl ⟨rfl, y, q2, yr, e3, e4, rfl⟩
    | false => exact .inr ⟨rfl, h⟩
  | _ => cases h
theorem lc_read {own : List Nat} {it : IE} {ci cr pr tk : Bool} {g : Gd} {ft fe : Env → M D} {Q : VK} (hpt : pr = true → tk = true) (hgo : Gin g own) (hl : HL H) (t : tE X.K p (lcE own it g ft fe) false true σ H Q) :
    tLc (tI X.K p it ci pr) (tG X.K p tk g) (tT X.K p ft) (tE X.K p fe false cr) own σ H (fun v H' => HL H' → Q v H') := by
  obtain ⟨F, ρ, B, q, d, q', k1, k2, k3⟩ := t hl
  obtain ⟨xs, q1, e1, k2⟩ := M.bind_some k2
  by_cases hown : own.all (fun i => decide (i < ρ.length)) = true
  case neg => rw [if_neg hown] at k2; cases k2
  rw [if_pos hown] at k2
  obtain ⟨ys, q2, e2, k2⟩ := M.bind_some k2
  obtain ⟨rfl, rfl⟩ := M.pure_some k2
  refine fun _ => ⟨F, ρ, B, q, xs, q1, k1, e1, fun J H1 l1 s1 p1 hz wk L nL => ?_⟩
  obtain ⟨G, Y, W, hG, hY⟩ := wk.ex
  have pB := k1.pB
  have K1 := k1.stp s1 p1
  have hLp : L ≠ p := fun z => by rw [z, p1] at nL; cases nL
  have hLB : L ∉ B := new_nB K1.nt nL
  -- what holds between two turns
  refine lc_it (Qd := fun H => HL H → Q (.ref L) H) W (fun i H' => ∃ (vs : List V) (acc rest : List D) (qi : Pot), H' L = some (.lst vs) ∧ vs.length ≤ i ∧ RepL X.K p acc (hide H' (L :: B)) vs ∧ Stp p H1 H' ∧ H' p = some (potV qi) ∧
    lcGo own g ft fe ρ (xs.drop i) qi = some (rest, q') ∧ ys = acc ++ rest) ?_ ?_ ?_ ?_
  · refine ⟨[], [], ys, q1, upd_same, Nat.zero_le _, rfl, Stp.of (same_upd nL), ?_, e2, rfl⟩
    rw [upd_ne (Ne.symm hLp)]; exact p1
  · rintro i H' _ ⟨vs, acc, rest, qi, _, _, _, st, _⟩
    exact hG H' (Lt.of_stp st pB)
  · rintro i x Ha Hb hi ⟨vs, acc, rest, qi, hL, hlen, racc, st, pq, ego, eys⟩ y
    have hx : xs[i]? = some xs[i] := List.getElem?_eq_getElem hi
    obtain ⟨sab, rx⟩ := hY i Ha x Hb _ (Lt.of_stp st pB) y hx
    rw [show xs.drop i = xs[i] :: xs.drop (i + 1) from List.drop_eq_getElem_cons hi] at ego
    obtain ⟨as, b, q3, ea, et, ego2⟩ := lcGo_cons ego
    clear ego
    have stb : Stp p H1 Hb := st.trans (Stp.of sab)
    -- all that the slots lean on, the new list hidden too
    have hidA : Same (hide H1 B) (hide Ha (L :: B)) := hide_mono fun a o n e => ⟨fun z => by
      rcases List.mem_cons.mp z with z | z
      · rw [z, nL] at e; cases e
      · exact n z, st a o e fun z => n (z ▸ pB)⟩
    have hidB : Same (hide H1 B) (hide Hb (L :: B)) := fun a o e => hide_same _ sab _ _ (hidA _ _ e)
    have repx := rx (L :: B) hidA fun a ha => by
      rcases List.mem_cons.mp ha with z | z
      · rw [z, hL]; exact fun z => by cases z
      · by_cases hap : a = p
        · rw [hap, pq]; exact fun z => by cases z
        · obtain ⟨o, e, _⟩ := K1.nt a z
          rw [st a o e hap]; exact fun z => by cases z
    have hLb : Hb L = some (.lst vs) := sab _ _ hL
    have pqb : Hb p = some (potV qi) := sab _ _ pq
    have Pb : Pre X.K p F Hb (L :: B) (wipe σ own) (wipeD ρ own) qi := by
      have P1 := (K1.stp stb pqb).wipe own
      refine ⟨pqb, List.mem_cons_of_mem _ pB, fun a ha => ?_, fun j b e h => ?_, P1.len⟩
      · rcases List.mem_cons.mp ha with z | z
        · rw [z]; exact ⟨_, hLb, rfl⟩
        · exact P1.nt a z
      · obtain ⟨w, h1, h2, h3⟩ := (K1.wipe own).env j b e h
        refine ⟨w, h1, fun z => Rep.mono hidB (h2 z), fun z => ?_⟩
        obtain ⟨a, ea, hB, hne, hF, z⟩ := h3 z
        refine ⟨a, ea, List.mem_cons_of_mem _ hB, hne, hF, ?_⟩
        rcases z with ⟨ds, ws, e1, z1, z2⟩ | ⟨kvs, ws, e1, z0, z1, z2⟩
        · exact .inl ⟨ds, ws, e1, stb _ _ z1 hne, RepL.mono hidB z2⟩
        · exact .inr ⟨kvs, ws, e1, z0, z1.imp (fun o z => stb _ o z hne) hidB, RepKV.mono hidB z2⟩
    refine ⟨xs[i], hide Hb (L :: B), as, RepG.up hpt repx, hide_le _ _, ea, fun ws rws => ⟨?_, ?_⟩⟩
    · rw [wipe_sets _ ws _ fun j hj => ?_, wipe_wipe]
      obtain ⟨a, ha, rfl⟩ := List.mem_map.mp hj
      exact hgo _ _ ea a ha
    · have Ps := Pb.setsC rws
      refine fun _ => ⟨F, _, L :: B, qi, b, q3, Ps, et, fun Hc lc sc pc => ?_⟩
      have stc : Stp p H1 Hc := stb.trans sc
      have hLc : Hc L = some (.lst vs) := sc _ _ hLb hLp
      have raccC : RepL X.K p acc (hide Hc (L :: B)) vs := RepL.mono (Stp.hid ((Stp.of sab).trans sc) (List.mem_cons_of_mem _ pB)) racc
      rcases ego2 with ⟨rfl, yv, q4, yr, ev, ego, rfl⟩ | ⟨rfl, ego⟩
      · dsimp only
        rw [if_pos rfl]
        refine fun _ => ⟨F, _, L :: B, q3, yv, q4, Ps.stp sc pc, ev, fun v Hd ld sd pd rv _ => ?_⟩
        have hLd : Hd L = some (.lst vs) := sd _ _ hLc hLp
        refine ⟨vs, hLd, by omega, vs ++ [v], acc ++ [yv], yr, q4, upd_same, by simp; omega, ?_, fun a o e ne => ?_, ?_, ego, by rw [eys, List.append_assoc]; rfl⟩
        · have hs : Same (hide Hd (L :: B)) (hide (upd Hd L (.lst (vs ++ [v]))) (L :: B)) := hide_mono fun a o n e => ⟨n, by rw [upd_ne (fun z => n (by simp [z]))]; exact e⟩
          exact RepL.mono hs (RepL.app (RepL.mono (sd.hid (List.mem_cons_of_mem _ pB)) raccC) (RepL.one rv))
        · have hn : a ≠ L := fun z => by rw [z, nL] at e; cases e
          rw [upd_ne hn]
          exact (stc.trans sd) a o e ne
        · rw [upd_ne (Ne.symm hLp)]; exact pd
      · dsimp only
        rw [if_neg Bool.false_ne_true]
        exact ⟨vs, acc, rest, q3, hLc, by omega, raccC, stc, pc, ego, eys⟩
  · rintro Hn ⟨vs, acc, rest, qn, hL, hlen, racc, st, pq, ego, eys⟩ ln
    rw [List.drop_length] at ego
    obtain ⟨rfl, rfl⟩ := M.pure_some ego
    rw [List.append_nil] at eys
    subst eys
    refine k3 _ Hn ln (s1.trans st) pq ?_ fun _ => new_of s1 p1 nL
    exact ⟨L, vs, rfl, hide_of hLB hL, RepL.mono (fun a o e => by
      obtain ⟨n, e⟩ := hide_some e
      exact hide_of (by simp only [List.mem_singleton]; exact fun z => n (by simp [z])) (hide_of (fun z => n (List.mem_cons_of_mem _ z)) e)) racc⟩
theorem d_lc {elt tg iter : Expr} {ifs : List Expr} {scope : Scope} {pos : Pos} (own : List (Str × Nat)) {it : IE} {ci cr pr tk : Bool} {g : Gd} {ft fe : Env → M D} (hpt : pr = true → tk = true) (hc : X.calm = true) (hN : X.N.Nodup) (ok : BlkOk X.N X.env.scope scope own) (hi : DI X p tg iter it ci pr)
    (hgo : Gin g (own.map (·.2))) (hg : ∀ (s : Shared) (H : Hp) (C : Addr) (cl : List (Str × Addr)) (fp : List Addr), DG (X.blk s H scope (compEnvC scope cl C X.env) fp) p tk tg g)
    (ht : ∀ (s : Shared) (H : Hp) (C : Addr) (cl : List (Str × Addr)) (fp : List Addr), DTs (X.blk s H scope (compEnvC scope cl C X.env) fp) p ifs ft)
    (he : ∀ (s : Shared) (H : Hp) (C : Addr) (cl : List (Str × Addr)) (fp : List Addr), DE (X.blk s H scope (compEnvC scope cl C X.env) fp) p elt fe false cr) (hs : ∀ x, foldedSetIterable iter X.env x = pure x := by intro _; rfl) :
    DE X p (.ListComp elt [⟨tg, iter, ifs, 0⟩] scope pos) (lcE (own.map (·.2)) it g ft fe) false true :=
  ⟨peHL (pe_lc hc hN hi.pi ok (fun s H C cl fp => (hg s H C cl fp).pg) (fun s H C cl fp => (ht s H C cl fp).pts) (fun s H C cl fp => (he s H C cl fp).pe) hs) fun σ H Q hl t => lc_read hpt hgo hl t⟩
end
end Sd
/-! loops, lists that change -/
namespace Sd
open PySem PySem.Spec PyProof.Rows L2
section
variable {X : Cx} {p : Addr} {K : PySem.W.Frag} {H0 H H' H1 : Hp} {Ext own own' B : List Addr} {σ σ' : L2.St} {ρ ρ' : Env} {q q' : Pot} {E : Ends} {F : Addr → Prop} {c fr : Bool} {f : Env → M D}
theorem Bld.free {F' : Addr → Prop} {d : D} {v : V} (h : ∀ a ∈ B, F a → F' a) (b : Bld K p F H B d v) : Bld K p F' H B d v := by
  obtain ⟨a, ea, hB, hne, hF, z⟩ := b
  exact ⟨a, ea, hB, hne, h a hB hF, z⟩
theorem Pre.free {F' : Addr → Prop} (h : ∀ a ∈ B, F a → F' a) (P : Pre K p F H B σ ρ q) : Pre K p F' H B σ ρ q :=
  ⟨P.pot, P.pB, P.nt, fun i b d e => by
    obtain ⟨v, h1, h2, h3⟩ := P.env i b d e
    exact ⟨v, h1, h2, fun z => (h3 z).free h⟩, P.len⟩
/-- what stands now, but the lists that may change, is what must stay -/
theorem StR.rebase (S : StR K p H0 Ext own H σ ρ q) : StR K p (hide H own) Ext own H σ ρ q := by
  refine ⟨fun a o e _ => (hide_some e).2, S.pre.free fun a ha h0 => ?_, S.pX, fun a ha => ⟨?_, (S.own0 a ha).2⟩, fun a ha => ?_, S.uniq, S.len⟩
  · rcases List.mem_append.mp ha with z | z
    · show hide H own a = none
      unfold hide; rw [if_pos z]
    · exact absurd h0 (S.ext0 a z)
  · unfold hide; rw [if_pos ha]
  · obtain ⟨o, e, _⟩ := S.pre.nt a (List.mem_append_right _ ha)
    rw [hide_of (fun z => S.ext0 a ha (S.own0 a z).1) e]
    exact fun z => by cases z
theorem StR.unbase (S : StR K p H0 Ext own H σ ρ q) (S' : StR K p (hide H own) Ext own' H' σ' ρ' q') : StR K p H0 Ext own' H' σ' ρ' q' := by
  have up : ∀ a o, H0 a = some o → a ≠ p → hide H own a = some o := fun a o e ne => hide_of (fun z => by rw [(S.own0 a z).1] at e; cases e) (S.keep a o e ne)
  refine ⟨fun a o e ne => S'.keep a o (up a o e ne) ne, S'.pre.free fun a ha h0 => ?_, S'.pX, fun a ha => ⟨?_, (S'.own0 a ha).2⟩, S.ext0, S'.uniq, S'.len⟩
  · show H0 a = none
    cases e : H0 a with
    | none => rfl
    | some o =>
      exfalso
      by_cases ne : a = p
      · have := S'.ext0 p S'.pX
        rw [ne] at h0
        exact this h0
      · rw [show hide H own a = some o from up a o e ne] at h0; cases h0
  · cases e : H0 a with
    | none => rfl
    | some o =>
      have h := (S'.own0 a ha).1
      rw [up a o e (S'.own0 a ha).2] at h; cases h
def forGo (g : Gd) (body : SE) : List D → SE
  | [], ρ => M.pure (.nx, ρ)
  | x :: xs, ρ => M.bind (M.of (g x)) fun as => M.bind (body (sets ρ (as.map (·.1)) (cl as))) fun r => match r with
    | (.nx, ρ') => forGo g body xs ρ'
    | (.ct, ρ') => forGo g body xs ρ'
    | (.bk, ρ') => M.pure (.nx, ρ')
    | (.rt d, ρ') => M.pure (.rt d, ρ')
def forS (it : IE) (g : Gd) (body : SE) : SE := fun ρ => M.bind (it ρ) fun xs => forGo g body xs ρ
theorem forGo_cons {g : Gd} {body : SE} {x : D} {xs : List D} {r : Fl × Env} (h : forGo g body (x :: xs) ρ q = some (r, q')) : ∃ as rb q1, g x = some as ∧ body (sets ρ (as.map (·.1)) (cl as)) q = some (rb, q1) ∧
    ((∃ ρ', (rb = (.nx, ρ') ∨ rb = (.ct, ρ')) ∧ forGo g body xs ρ' q1 = some (r, q')) ∨ (∃ ρ', rb = (.bk, ρ') ∧ r = (.nx, ρ') ∧ q1 = q') ∨ (∃ d ρ', rb = (.rt d, ρ') ∧ r = (.rt d, ρ') ∧ q1 = q')) := by
  unfold forGo at h
  obtain ⟨as, q0, e0, h1⟩ := M.bind_some h
  clear h
  obtain ⟨e1, rfl⟩ := M.of_some e0
  clear e0
  obtain ⟨⟨fl, ρ1⟩, q1, e2, h⟩ := M.bind_some h1
  clear h1
  refine ⟨as, _, q1, e1, e2, ?_⟩
  cases fl with
  | nx => exact .inl ⟨ρ1, .inl rfl, h⟩
  | ct => exact .inl ⟨ρ1, .inr rfl, h⟩
  | bk =>
    obtain ⟨e, e'⟩ := M.pure_some h
    exact .inr (.inl ⟨ρ1, rfl, e, e'.symm⟩)
  | rt d =>
    obtain ⟨e, e'⟩ := M.pure_some h
    exact .inr (.inr ⟨d, ρ1, rfl, e, e'.symm⟩)
theorem ds_for {tg iter : Expr} {body : List Stmt} {pos : Pos} {it : IE} {g : Gd} {fb : SE} {pr tk : Bool} (hpt : pr = true → tk = true) (hp : PassesOwn (model X.prog X.w) X.A X.env X.xe) (hc : X.calm = true) (hi : DI X p tg iter it false pr) (hg : DG X p tk tg g) (hb : DSs X p body fb)
    (hs : ∀ x, foldedSetIterable iter X.env x = pure x := by intro _; rfl) : DS X p (.For tg iter body [] pos) (forS it g fb) := ⟨psHL (ps_for hp hc hi.pi hg.pg hb.pss hs) fun E σ H hl t => by
  obtain ⟨H0, Ext, own, ρ, q, r, q', S, e, af⟩ := t hl
  obtain ⟨xs, q1, e1, e2⟩ := M.bind_some e
  refine fun _ => ⟨_, ρ, _, q, xs, q1, S.pre, e1, fun J H1 l1 s1 p1 hz wk => ?_⟩
  obtain ⟨G, Y, W, hG, hY⟩ := wk.ex
  have S1 := S.stp s1 p1
  have R1 := S1.rebase
  have af := af.hl
  -- what is walked stands
  have later : ∀ {own' : List Addr} {H' : Hp} {σ' : L2.St} {ρ' : Env} {q2 : Pot}, StR X.K p (hide H1 own) Ext own' H' σ' ρ' q2 → Lt p false (own ++ Ext) H1 H' := fun {own' H' σ' ρ' q2} S' => by
    unfold Lt
    rw [if_neg Bool.false_ne_true]
    exact fun a o n e => S'.keep a o (hide_of (fun z => n (List.mem_append_left _ z)) e) fun z => n (List.mem_append_right _ (z ▸ S.pX))
  refine for_it W (fun i σ' H' => ∃ own' ρ' qi, StR X.K p (hide H1 own) Ext own' H' σ' ρ' qi ∧ forGo g fb (xs.drop i) ρ' qi = some (r, q')) ⟨own, ρ, q1, R1, e2⟩ ?_ ?_ ?_
  · rintro i σ' H' _ ⟨own', ρ', qi, S', _⟩
    exact hG H' (later S')
  · rintro i x σ' Ha Hb hi ⟨own', ρ', qi, S', ego⟩ y
    have hx : xs[i]? = some xs[i] := List.getElem?_eq_getElem hi
    obtain ⟨sab, rx⟩ := hY i Ha x Hb _ (later S') y hx
    rw [show xs.drop i = xs[i] :: xs.drop (i + 1) from List.drop_eq_getElem_cons hi] at ego
    obtain ⟨as, rb, q2, ea, eb, ego2⟩ := forGo_cons ego
    clear ego
    have pb : Hb p = some (potV qi) := sab _ _ S'.pre.pot
    have Sb := S'.stp (Stp.of sab) pb
    have sh : Same (hide H1 (own ++ Ext)) (hide Ha (own' ++ Ext)) := hide_mono fun a o n e => by
      have h0 : hide H1 own a = some o := hide_of (fun z => n (List.mem_append_left _ z)) e
      refine ⟨fun z => ?_, later S' a o n e⟩
      rcases List.mem_append.mp z with z | z
      · rw [(S'.own0 a z).1] at h0; cases h0
      · exact n (List.mem_append_right _ z)
    have repx := rx (own' ++ Ext) sh fun a ha => by
      obtain ⟨o, e, _⟩ := S'.pre.nt a ha
      rw [e]; exact fun z => by cases z
    refine ⟨xs[i], hide Hb (own' ++ Ext), as, RepG.up hpt repx, hide_le _ _, ea, fun ws rws => ?_⟩
    refine fun _ => ⟨hide H1 own, Ext, own', _, qi, rb, q2, Sb.setsC rws, eb, ?_⟩
    rcases ego2 with ⟨ρ2, rfl | rfl, ego⟩ | ⟨ρ2, rfl, rfl, rfl⟩ | ⟨d, ρ2, rfl, rfl, rfl⟩
    · exact fun σ2 H2 own2 l2 S2 => ⟨own2, ρ2, q2, S2, ego⟩
    · exact fun σ2 H2 own2 l2 S2 => ⟨own2, ρ2, q2, S2, ego⟩
    · exact fun σ2 H2 own2 l2 S2 => af σ2 H2 own2 l2 (S1.unbase S2)
    · refine fun v H2 l2 st pq rv => af v H2 l2 (fun a o e ne => ?_) pq rv
      exact st a o (hide_of (fun z => by rw [(S1.own0 a z).1] at e; cases e) (S1.keep a o e ne)) ne
  · rintro σ' H' ⟨own', ρ', qi, S', ego⟩
    rw [List.drop_length] at ego
    obtain ⟨rfl, rfl⟩ := M.pure_some ego
    exact fun l => af σ' H' own' l (S1.unbase S') l⟩
def whileS (c : Env → M D) (body : SE) : Nat → SE
  | 0, _ => M.fail
  | n + 1, ρ => M.bind (c ρ) fun d => match d with
    | .bool true => M.bind (body ρ) fun r => match r with
      | (.nx, ρ') => whileS c body n ρ'
      | (.ct, ρ') => whileS c body n ρ'
      | (.bk, ρ') => M.pure (.nx, ρ')
      | (.rt d, ρ') => M.pure (.rt d, ρ')
    | .bool false => M.pure (.nx, ρ)
    | _ => M.fail
theorem whileS_some {cn : Env → M D} {body : SE} {n : Nat} {r : Fl × Env} (h : whileS cn body (n + 1) ρ q = some (r, q')) : ∃ b q1, cn ρ q = some (.bool b, q1) ∧ ((b = false ∧ r = (.nx, ρ) ∧ q1 = q') ∨ (b = true ∧ ∃ rb q2, body ρ q1 = some (rb, q2) ∧
    ((∃ ρ', (rb = (.nx, ρ') ∨ rb = (.ct, ρ')) ∧ whileS cn body n ρ' q2 = some (r, q')) ∨ (∃ ρ', rb = (.bk, ρ') ∧ r = (.nx, ρ') ∧ q2 = q') ∨ (∃ d ρ', rb = (.rt d, ρ') ∧ r = (.rt d, ρ') ∧ q2 = q')))) := by
  unfold whileS at h
  obtain ⟨d, q1, e1, h1⟩ := M.bind_some h
  clear h
  cases d with
  | bool b =>
    refine ⟨b, q1, e1, ?_⟩
    cases b with
    | false =>
      obtain ⟨e, e'⟩ := M.pure_some h1
      exact .inl ⟨rfl, e, e'.symm⟩
    | true =>
      obtain ⟨⟨fl, ρ1⟩, q2, e2, h⟩ := M.bind_some h1
      clear h1
      refine .inr ⟨rfl, _, q2, e2, ?_⟩
      cases fl with
      | nx => exact .inl ⟨ρ1, .inl rfl, h⟩
      | ct => exact .inl ⟨ρ1, .inr rfl, h⟩
      | bk =>
        obtain ⟨e, e'⟩ := M.pure_some h
        exact .inr (.inl ⟨ρ1, rfl, e, e'.symm⟩)
      | rt d =>
        obtain ⟨e, e'⟩ := M.pure_some h
        exact .inr (.inr ⟨d, ρ1, rfl, e, e'.symm⟩)
  | _ => cases h1
theorem ds_while {t : Expr} {body : List Stmt} {pos : Pos} {cn : Env → M D} {fb : SE} (n : Nat) (hp : PassesOwn (model X.prog X.w) X.A X.env X.xe) (ht : DT X p t cn) (hb : DSs X p body fb) : DS X p (.While t body [] pos) (whileS cn fb n) := ⟨psHL (ps_while hp ht.pt hb.pss) fun E σ H hl t => by
  obtain ⟨H0, Ext, own, ρ, q, r, q', S, e, af⟩ := t hl
  have af := af.hl
  refine ⟨fun m σ' H' => ∃ own' ρ' qi, StR X.K p H0 Ext own' H' σ' ρ' qi ∧ whileS cn fb m ρ' qi = some (r, q'), ⟨n, own, ρ, q, S, e⟩, ?_⟩
  rintro m σ' H' ⟨own', ρ', qi, S', e'⟩
  cases m with
  | zero => cases e'
  | succ m =>
    obtain ⟨b, q1, e1, e2⟩ := whileS_some e'
    refine fun _ => ⟨_, ρ', _, qi, b, q1, S'.pre, e1, fun H2 l2 s2 p2 => ?_⟩
    have S2 := S'.stp s2 p2
    rcases e2 with ⟨rfl, rfl, rfl⟩ | ⟨rfl, rb, q2, eb, z⟩
    · dsimp only
      rw [if_neg Bool.false_ne_true]
      exact fun l => af σ' H2 own' l S2 l
    · dsimp only
      rw [if_pos rfl]
      refine ⟨fun σ3 H3 => ∃ own3 ρ3 q3, StR X.K p H0 Ext own3 H3 σ3 ρ3 q3 ∧ whileS cn fb m ρ3 q3 = some (r, q'), fun σ3 H3 z => ⟨m, Nat.lt_succ_self m, z⟩, fun _ => ⟨H0, Ext, own', ρ', q1, rb, q2, S2, eb, ?_⟩⟩
      rcases z with ⟨ρ2, rfl | rfl, ego⟩ | ⟨ρ2, rfl, rfl, rfl⟩ | ⟨d, ρ2, rfl, rfl, rfl⟩
      · exact fun σ3 H3 own3 l3 S3 => ⟨own3, ρ2, q2, S3, ego⟩
      · exact fun σ3 H3 own3 l3 S3 => ⟨own3, ρ2, q2, S3, ego⟩
      · exact fun σ3 H3 own3 l3 S3 => af σ3 H3 own3 l3 S3
      · exact fun v H3 l3 st pq rv => af v H3 l3 st pq rv⟩
end
end Sd
/-! operations over data -/
namespace Sd
open PySem PySem.Spec PyProof.Rows L2
section
variable {X : Cx} {p : Addr} {K : PySem.W.Frag} {c fr : Bool} {f g : Env → M D} {e : Expr}
theorem resL1 {F : Addr → Prop} {H : Hp} {B : List Addr} {d : D} {vs : List V} (h : ResL K p F true H B [d] vs) : ∃ v, vs = [v] ∧ RepC K p F H B d v := by
  obtain ⟨v, r, rfl, h1, h2⟩ := h
  rw [show r = [] from h2]
  exact ⟨v, rfl, h1.cons⟩
theorem resL2 {F : Addr → Prop} {H : Hp} {B : List Addr} {d e : D} {vs : List V} (h : ResL K p F true H B [d, e] vs) : ∃ v w, vs = [v, w] ∧ RepC K p F H B d v ∧ RepC K p F H B e w := by
  obtain ⟨v, r, rfl, h1, h2⟩ := h
  obtain ⟨w, rfl, h3⟩ := resL1 h2
  exact ⟨v, w, rfl, h1.cons, h3⟩
/-! ### len -/
def lenD : List D → Option D
  | [.list ds] => some (.int ds.length)
  | [.tuple ds] => some (.int ds.length)
  | _ => none
theorem ok_len : OkN X.K p (fun xs H Q => ∃ a ys, xs = [.ref a] ∧ (SqL X.K H a ys ∨ SqT X.K H a ys) ∧ Q (.int ys.length) H) lenD false := fun F vs H B ds d Q hp nt hl r e q => by
  match ds with
  | [.list xs] =>
    cases e
    obtain ⟨v, rfl, h⟩ := resL1 r
    obtain ⟨a, ws, rfl, _, h1, h2⟩ := h.lst hp
    exact ⟨a, ws, rfl, .inl (.inl (.inl h1)), q _ _ (Same.refl _) (by rw [h2.length]; rfl) (fun z => by cases z)⟩
  | [.tuple xs] =>
    cases e
    obtain ⟨v, rfl, h⟩ := resL1 r
    obtain ⟨a, ws, rfl, h1, h2⟩ := h.tup
    exact ⟨a, ws, rfl, .inr h1.sq, q _ _ (Same.refl _) (by rw [h2.length]; rfl) (fun z => by cases z)⟩
  | [] => cases e
  | [.none] => cases e
  | [.bool _] => cases e
  | [.int _] => cases e
  | [.str _] => cases e
  | [.dict _] => cases e
  | _ :: _ :: _ => unfold lenD at e; split at e <;> simp_all
/-! ### numbers -/
def numD (f : Int → Int → Option Int) (d e : D) : Option D := match d, e with
  | .int i, .int j => (f i j).map .int
  | _, _ => none
theorem numD_some {f : Int → Int → Option Int} {d e r : D} (h : numD f d e = some r) : ∃ i j k, d = .int i ∧ e = .int j ∧ f i j = some k ∧ r = .int k := by
  cases d with
  | int i =>
    cases e with
    | int j =>
      have h' : (f i j).map PyData.int = some r := h
      cases z : f i j with
      | none => rw [z] at h'; cases h'
      | some k => rw [z] at h'; cases h'; exact ⟨i, j, k, rfl, rfl, z, rfl⟩
    | _ => cases h
  | _ => cases h
theorem ok_num {C : Int → Int → Prop} {h : Int → Int → Int} {f : Int → Int → Option Int} (hf : ∀ i j k, f i j = some k → C i j ∧ k = h i j) : Ok2 X.K p (rI C fun i j => .int (h i j)) (numD f) fr := fun F x y H B d1 d2 d Q hp nt hl r1 r2 e q => by
  obtain ⟨i, j, k, rfl, rfl, e1, rfl⟩ := numD_some e
  obtain ⟨hc, rfl⟩ := hf i j k e1
  exact ⟨i, j, r1.int, r2.int, hc, q _ _ (Same.refl _) rfl (fun _ z => by cases z)⟩
theorem ok_num0 {h : Int → Int → Int} : Ok2 X.K p (rI0 fun i j => .int (h i j)) (numD fun i j => some (h i j)) fr := fun F x y H B d1 d2 d Q hp nt hl r1 r2 e q => by
  obtain ⟨i, j, k, rfl, rfl, e1, rfl⟩ := numD_some e
  cases e1
  exact ⟨i, j, r1.int, r2.int, q _ _ (Same.refl _) rfl (fun _ z => by cases z)⟩
def subD : D → D → Option D := numD fun i j => some (i - j)
def mulD : D → D → Option D := numD fun i j => if (-(2 ^ 64) < i ∧ i < 2 ^ 64) ∨ (-(2 ^ 64) < j ∧ j < 2 ^ 64) then some (i * j) else none
def modD : D → D → Option D := numD fun i j => if 0 < j then some (i % j) else none
def fdivD : D → D → Option D := numD fun i j => if 0 < j ∧ j < 1073741824 then some (i / j) else none
def powD : D → D → Option D := numD fun i j => if 0 ≤ j ∧ j ≤ 1000000 ∧ i.natAbs < 2 ^ 64 then some (i ^ j.toNat) else none
theorem d_sub {a b : Expr} {fa fb : Env → M D} {ca cb f1 f2 : Bool} {pos : Pos} (ha : DE X p a fa ca f1) (hb : DE X p b fb cb f2) : DE X p (.BinOp a .Sub b pos) (ap2 subD fa fb) false true := d_2 ok_num0 ha hb (pe_op op_sub)
theorem d_mul {a b : Expr} {fa fb : Env → M D} {ca cb f1 f2 : Bool} {pos : Pos} (ha : DE X p a fa ca f1) (hb : DE X p b fb cb f2) : DE X p (.BinOp a .Mult b pos) (ap2 mulD fa fb) false true :=
  d_2 (ok_num fun i j k h => by
    by_cases z : (-(2 ^ 64) < i ∧ i < 2 ^ 64) ∨ (-(2 ^ 64) < j ∧ j < 2 ^ 64)
    · rw [if_pos z] at h; cases h; exact ⟨z, rfl⟩
    · rw [if_neg z] at h; cases h) ha hb (pe_op op_mul)
theorem d_mod {a b : Expr} {fa fb : Env → M D} {ca cb f1 f2 : Bool} {pos : Pos} (ha : DE X p a fa ca f1) (hb : DE X p b fb cb f2) : DE X p (.BinOp a .Mod b pos) (ap2 modD fa fb) false true :=
  d_2 (ok_num fun i j k h => by
    by_cases z : 0 < j
    · rw [if_pos z] at h; cases h; exact ⟨z, rfl⟩
    · rw [if_neg z] at h; cases h) ha hb (pe_op op_mod)
theorem d_fdiv {a b : Expr} {fa fb : Env → M D} {ca cb f1 f2 : Bool} {pos : Pos} (ha : DE X p a fa ca f1) (hb : DE X p b fb cb f2) : DE X p (.BinOp a .FloorDiv b pos) (ap2 fdivD fa fb) false true :=
  d_2 (ok_num fun i j k h => by
    by_cases z : 0 < j ∧ j < 1073741824
    · rw [if_pos z] at h; cases h; exact ⟨z, rfl⟩
    · rw [if_neg z] at h; cases h) ha hb (pe_op op_fdiv)
theorem d_pow {a b : Expr} {fa fb : Env → M D} {ca cb f1 f2 : Bool} {pos : Pos} (ha : DE X p a fa ca f1) (hb : DE X p b fb cb f2) : DE X p (.BinOp a .Pow b pos) (ap2 powD fa fb) false true :=
  d_2 (ok_num fun i j k h => by
    by_cases z : 0 ≤ j ∧ j ≤ 1000000 ∧ i.natAbs < 2 ^ 64
    · rw [if_pos z] at h; cases h; exact ⟨z, rfl⟩
    · rw [if_neg z] at h; cases h) ha hb (pe_op op_pow)
def negD : D → Option D
  | .int i => some (.int (-i))
  | _ => none
theorem d_1 {a : Expr} {fa : Env → M D} {ca f1 : Bool} {r : V → Hp → VK → Prop} {g : D → Option D} (ok : ∀ (F : Addr → Prop) (x : V) (H : Hp) (B : List Addr) (d1 d : D) (Q : VK), p ∈ B → (∀ a ∈ B, ∃ o, H a = some o ∧ nontup o = true) → HL H → RepC X.K p F H B d1 x → g d1 = some d →
      (∀ v H', Same H H' → Rep X.K p d (hide H' B) v → (fr = true → New H v d) → Q v H') → r x H Q)
    (ha : DE X p a fa ca f1) (t : ∀ {ta : TE}, PE X a ta → PE X e (tUn r ta)) : DE X p e (ap1 g fa) false fr :=
  ⟨peHL (t ha.pe) fun σ H Q hl t => by
    obtain ⟨F, ρ, B, q, d, q', k1, k2, k3⟩ := t hl
    obtain ⟨d1, q1, e1, k2⟩ := M.bind_some k2
    obtain ⟨e2, rfl⟩ := M.of_some k2
    exact fun _ => ⟨F, ρ, B, q, d1, _, k1, e1, fun x H1 l1 s1 p1 r1 _ => ok F x H1 B d1 d _ k1.pB (k1.stp s1 p1).nt l1 r1.cons e2 fun v H' s' rep new l' =>
      k3 v H' l' (s1.trans (Stp.of s')) (s' _ _ p1) rep fun z y => by
        obtain ⟨a, ea, na⟩ := new z y
        exact ⟨a, ea, by
          by_cases hp : a = p
          · subst hp; rw [na] at p1; cases p1
          · exact s1.free hp na⟩⟩⟩
theorem d_neg {a : Expr} {fa : Env → M D} {ca f1 : Bool} {pos : Pos} (ha : DE X p a fa ca f1) : DE X p (.UnaryOp .USub a pos) (ap1 negD fa) false true :=
  d_1 (fun F x H B d1 d Q hp nt hl r e q => by
    cases d1 with
    | int i => cases e; exact ⟨i, r.int, q _ _ (Same.refl _) rfl (fun _ z => by cases z)⟩
    | _ => cases e) ha (pe_un un_neg)
/-! ### + -/
def addD : D → D → Option D
  | .int i, .int j => some (.int (i + j))
  | .list a, .list b => if a.length + b.length ≤ 1000000 then some (.list (a ++ b)) else none
  | .tuple a, .tuple b => if a.length + b.length ≤ 1000000 then some (.tuple (a ++ b)) else none
  | _, _ => none
theorem hid_same {H : Hp} {a : Addr} {o : HO} {B : List Addr} (h : H a = none) : Same (hide H B) (hide (upd H a o) B) := hide_same B (same_upd h)
theorem ok_add : Ok2 X.K p (fun x y H Q => (rI0 (fun i j => .int (i + j)) x y H Q) ∨ (rCat x y H Q ∨ rCatO X.K x y H Q)) addD false := fun F x y H B d1 d2 d Q hp nt hl r1 r2 e q => by
  have sz := sz6
  cases d1 with
  | int i =>
    cases d2 with
    | int j => cases e; exact .inl ⟨i, j, r1.int, r2.int, q _ _ (Same.refl _) rfl (fun z => by cases z)⟩
    | _ => cases e
  | list a =>
    cases d2 with
    | list b =>
      have e' : (if a.length + b.length ≤ 1000000 then some (PyData.list (a ++ b)) else none) = some d := e
      by_cases z : a.length + b.length ≤ 1000000
      · rw [if_pos z] at e'
        cases e'
        obtain ⟨l1, v1, rfl, _, h1, h2⟩ := r1.lst hp
        obtain ⟨l2, v2, rfl, _, g1, g2⟩ := r2.lst hp
        exact .inr (.inl ⟨l1, l2, v1, v2, rfl, rfl, h1, g1, by rw [h2.length, g2.length]; omega, fun l nl => q _ _ (same_upd nl) (rep_lst nt nl (RepL.app h2 g2)) (fun z => by cases z)⟩)
      · rw [if_neg z] at e'; cases e'
    | _ => cases e
  | tuple a =>
    cases d2 with
    | tuple b =>
      have e' : (if a.length + b.length ≤ 1000000 then some (PyData.tuple (a ++ b)) else none) = some d := e
      by_cases z : a.length + b.length ≤ 1000000
      · rw [if_pos z] at e'
        cases e'
        have rr1 := r1.imm1 (fun _ z => by cases z) (fun _ z => by cases z)
        have rr2 := r2.imm1 (fun _ z => by cases z) (fun _ z => by cases z)
        obtain ⟨l1, v1, rfl, h1, h2⟩ := r1.tup
        obtain ⟨l2, v2, rfl, g1, g2⟩ := r2.tup
        refine .inr (.inr ⟨l1, l2, v1, v2, rfl, rfl, h1.sq, g1.sq, by rw [h2.length, g2.length]; omega, fun z => ?_, fun z y => ?_, fun _ _ l o nl ho => q _ _ (same_upd nl) (rep_tup nt nl ho (RepL.app h2 g2)) (fun z => by cases z)⟩)
        · have : a = [] := List.length_eq_zero_iff.mp (by rw [← h2.length, z]; rfl)
          subst this
          exact q _ _ (Same.refl _) rr2 (fun z => by cases z)
        · have : b = [] := List.length_eq_zero_iff.mp (by rw [← g2.length, y]; rfl)
          subst this
          rw [List.append_nil] at q
          exact q _ _ (Same.refl _) rr1 (fun z => by cases z)
      · rw [if_neg z] at e'; cases e'
    | _ => cases e
  | _ => cases e
theorem d_add {a b : Expr} {fa fb : Env → M D} {ca cb f1 f2 : Bool} {pos : Pos} (ha : DE X p a fa ca f1) (hb : DE X p b fb cb f2) : DE X p (.BinOp a .Add b pos) (ap2 addD fa fb) false false := d_2 ok_add ha hb (pe_op (op_add.or (op_cat.or op_catO)))
/-! ### comparisons -/
def cmpD (f : Int → Int → Bool) (d e : D) : Option D := match d, e with
  | .int i, .int j => some (.bool (f i j))
  | _, _ => none
theorem ok_cmp {f : Int → Int → Bool} : Ok2 X.K p (rI0 fun i j => .bl (f i j)) (cmpD f) fr := fun F x y H B d1 d2 d Q hp nt hl r1 r2 e q => by
  cases d1 with
  | int i =>
    cases d2 with
    | int j => cases e; exact ⟨i, j, r1.int, r2.int, q _ _ (Same.refl _) rfl (fun _ z => by cases z)⟩
    | _ => cases e
  | _ => cases e
def leD : D → D → Option D := cmpD fun i j => decide (i ≤ j)
def gtD : D → D → Option D := cmpD fun i j => decide (j < i)
def geD : D → D → Option D := cmpD fun i j => decide (j ≤ i)
theorem d_le {a b : Expr} {fa fb : Env → M D} {ca cb f1 f2 : Bool} {pos : Pos} (ha : DE X p a fa ca f1) (hb : DE X p b fb cb f2) : DE X p (.Compare a [.LtE] [b] pos) (ap2 leD fa fb) false true := d_2 ok_cmp ha hb fun x y => pe_cmpR op_le x y (nomark _)
theorem dt_le {a b : Expr} {fa fb : Env → M D} {ca cb f1 f2 : Bool} {pos : Pos} (ha : DE X p a fa ca f1) (hb : DE X p b fb cb f2) : DT X p (.Compare a [.LtE] [b] pos) (ap2 leD fa fb) := dt_2 (fr := true) ok_cmp ha hb fun x y => pt_cmpR op_le x y (nomark _)
theorem d_gt {a b : Expr} {fa fb : Env → M D} {ca cb f1 f2 : Bool} {pos : Pos} (ha : DE X p a fa ca f1) (hb : DE X p b fb cb f2) : DE X p (.Compare a [.Gt] [b] pos) (ap2 gtD fa fb) false true := d_2 ok_cmp ha hb fun x y => pe_cmpR op_gt x y (nomark _)
theorem dt_gt {a b : Expr} {fa fb : Env → M D} {ca cb f1 f2 : Bool} {pos : Pos} (ha : DE X p a fa ca f1) (hb : DE X p b fb cb f2) : DT X p (.Compare a [.Gt] [b] pos) (ap2 gtD fa fb) := dt_2 (fr := true) ok_cmp ha hb fun x y => pt_cmpR op_gt x y (nomark _)
theorem d_ge {a b : Expr} {fa fb : Env → M D} {ca cb f1 f2 : Bool} {pos : Pos} (ha : DE X p a fa ca f1) (hb : DE X p b fb cb f2) : DE X p (.Compare a [.GtE] [b] pos) (ap2 geD fa fb) false true := d_2 ok_cmp ha hb fun x y => pe_cmpR op_ge x y (nomark _)
theorem dt_ge {a b : Expr} {fa fb : Env → M D} {ca cb f1 f2 : Bool} {pos : Pos} (ha : DE X p a fa ca f1) (hb : DE X p b fb cb f2) : DT X p (.Compare a [.GtE] [b] pos) (ap2 geD fa fb) := dt_2 (fr := true) ok_cmp ha hb fun x y => pt_cmpR op_ge x y (nomark _)
/-- ints, tuples of ints -/
def intsOf : List D → Option (List Int)
  | [] => some []
  | .int i :: r => (intsOf r).map (i :: ·)
  | _ => none
theorem intsOf_rep {H : Hp} : ∀ {ds : List D} {ns : List Int} {vs : List V}, intsOf ds = some ns → RepL K p ds H vs → vs = ns.map V.int
  | [], _, _, e, r => by cases e; exact r
  | d :: ds, ns, _, e, r => by
    obtain ⟨v, vr, rfl, h1, h2⟩ := r
    cases d with
    | int i =>
      have e' : (intsOf ds).map (i :: ·) = some ns := e
      cases z : intsOf ds with
      | none => rw [z] at e'; cases e'
      | some ms =>
        rw [z] at e'; cases e'
        rw [show v = V.int i from h1, intsOf_rep z h2]; rfl
    | _ => cases e
def ltD (d e : D) : Option D := match d, e with
  | .int i, .int j => some (.bool (decide (i < j)))
  | .tuple a, .tuple b => match intsOf a, intsOf b with
    | some ns, some ms => some (.bool (HT.lexLt ns ms))
    | _, _ => none
  | _, _ => none
theorem ok_lt : Ok2 X.K p (fun x y H Q => (rI0 (fun i j => .bl (decide (i < j))) x y H Q) ∨ rLtT X.K x y H Q) ltD fr := fun F x y H B d1 d2 d Q hp nt hl r1 r2 e q => by
  cases d1 with
  | int i =>
    cases d2 with
    | int j => cases e; exact .inl ⟨i, j, r1.int, r2.int, q _ _ (Same.refl _) rfl (fun _ z => by cases z)⟩
    | _ => cases e
  | tuple a =>
    cases d2 with
    | tuple b =>
      have e' : (match intsOf a, intsOf b with
        | some ns, some ms => some (PyData.bool (HT.lexLt ns ms))
        | _, _ => none) = some d := e
      cases z1 : intsOf a with
      | none => rw [z1] at e'; cases e'
      | some ns =>
        cases z2 : intsOf b with
        | none => rw [z1, z2] at e'; cases e'
        | some ms =>
          rw [z1, z2] at e'
          cases e'
          obtain ⟨l1, v1, rfl, h1, h2⟩ := r1.tup
          obtain ⟨l2, v2, rfl, g1, g2⟩ := r2.tup
          have e1 := intsOf_rep z1 h2
          have e2 := intsOf_rep z2 g2
          subst e1 e2
          exact .inr ⟨l1, l2, ns, ms, rfl, rfl, h1.sq, g1.sq, q _ _ (Same.refl _) rfl (fun _ z => by cases z)⟩
    | _ => cases e
  | _ => cases e
theorem d_lt {a b : Expr} {fa fb : Env → M D} {ca cb f1 f2 : Bool} {pos : Pos} (hu : X.A.units < cLine) (ha : DE X p a fa ca f1) (hb : DE X p b fb cb f2) : DE X p (.Compare a [.Lt] [b] pos) (ap2 ltD fa fb) false true := d_2 ok_lt ha hb fun x y => pe_cmpR (op_lt.or (op_ltT hu)) x y (nomark _)
theorem dt_lt {a b : Expr} {fa fb : Env → M D} {ca cb f1 f2 : Bool} {pos : Pos} (hu : X.A.units < cLine) (ha : DE X p a fa ca f1) (hb : DE X p b fb cb f2) : DT X p (.Compare a [.Lt] [b] pos) (ap2 ltD fa fb) := dt_2 (fr := true) ok_lt ha hb fun x y => pt_cmpR (op_lt.or (op_ltT hu)) x y (nomark _)
/-- == of data -/
def eqD (d e : D) : Option D := if (SeqAt.shaped d && SeqAt.shaped e && (nod d && nod e)) = true then some (.bool (PyData.eqv d e)) else none
def neD (d e : D) : Option D := if (SeqAt.shaped d && SeqAt.shaped e && (nod d && nod e)) = true then some (.bool (!PyData.eqv d e)) else none
theorem ok_eq : Ok2 X.K p (rEqD X.K) eqD fr := fun F x y H B d1 d2 d Q hp nt hl r1 r2 e q => by
  unfold eqD at e
  by_cases z : (SeqAt.shaped d1 && SeqAt.shaped d2 && (nod d1 && nod d2)) = true
  · rw [if_pos z] at e
    cases e
    simp only [Bool.and_eq_true] at z
    exact ⟨d1, d2, r1.dp hp z.2.1, r2.dp hp z.2.2, z.1.1, z.1.2, q _ _ (Same.refl _) rfl (fun _ z => by cases z)⟩
  · rw [if_neg z] at e; cases e
theorem ok_ne : Ok2 X.K p (rNeD X.K) neD fr := fun F x y H B d1 d2 d Q hp nt hl r1 r2 e q => by
  unfold neD at e
  by_cases z : (SeqAt.shaped d1 && SeqAt.shaped d2 && (nod d1 && nod d2)) = true
  · rw [if_pos z] at e
    cases e
    simp only [Bool.and_eq_true] at z
    exact ⟨d1, d2, r1.dp hp z.2.1, r2.dp hp z.2.2, z.1.1, z.1.2, q _ _ (Same.refl _) rfl (fun _ z => by cases z)⟩
  · rw [if_neg z] at e; cases e
theorem d_eq {a b : Expr} {fa fb : Env → M D} {ca cb f1 f2 : Bool} {pos : Pos} (hu : X.A.units + 64 < cLine) (ha : DE X p a fa ca f1) (hb : DE X p b fb cb f2) : DE X p (.Compare a [.Eq] [b] pos) (ap2 eqD fa fb) false true := d_2 ok_eq ha hb fun x y => pe_cmpR (op_eqD hu) x y (nomark _)
theorem dt_eq {a b : Expr} {fa fb : Env → M D} {ca cb f1 f2 : Bool} {pos : Pos} (hu : X.A.units + 64 < cLine) (ha : DE X p a fa ca f1) (hb : DE X p b fb cb f2) : DT X p (.Compare a [.Eq] [b] pos) (ap2 eqD fa fb) := dt_2 (fr := true) ok_eq ha hb fun x y => pt_cmpR (op_eqD hu) x y (nomark _)
theorem d_ne {a b : Expr} {fa fb : Env → M D} {ca cb f1 f2 : Bool} {pos : Pos} (hu : X.A.units + 64 < cLine) (ha : DE X p a fa ca f1) (hb : DE X p b fb cb f2) : DE X p (.Compare a [.NotEq] [b] pos) (ap2 neD fa fb) false true := d_2 ok_ne ha hb fun x y => pe_cmpR (op_neD hu) x y (nomark _)
theorem dt_ne {a b : Expr} {fa fb : Env → M D} {ca cb f1 f2 : Bool} {pos : Pos} (hu : X.A.units + 64 < cLine) (ha : DE X p a fa ca f1) (hb : DE X p b fb cb f2) : DT X p (.Compare a [.NotEq] [b] pos) (ap2 neD fa fb) := dt_2 (fr := true) ok_ne ha hb fun x y => pt_cmpR (op_neD hu) x y (nomark _)
/-- is None, is a bool -/
def isD (neg : Bool) (d e : D) : Option D := match e with
  | .none => some (.bool (neg != (match d with | .none => true | _ => false)))
  | .bool b => match d with
    | .bool a => some (.bool (neg != decide (a = b)))
    | _ => none
  | _ => none
/-! ### in -/
def inG (neg : Bool) (d e : D) : Option D := match items e with
  | some ds => if (SeqAt.shaped d && SeqAt.shaped e && (nod d && nod e)) = true then some (.bool (neg != ds.any fun z => PyData.eqv z d)) else none
  | _ => none
def rInS (K : PySem.W.Frag) (neg : Bool) : R2 := fun x y H Q => ∃ d e ds, Dp K H x d ∧ Dp K H y e ∧ items e = some ds ∧ SeqAt.shaped d = true ∧ SeqAt.shaped e = true ∧ Q (.bl (neg != ds.any fun z => PyData.eqv z d)) H
theorem op_inS (hu : X.A.units + 65 < cLine) : OpR X (compareOp .In) (rInS X.K false) := by
  intro pins s σ H x y v u Q I rx ry h
  obtain ⟨d, e, ds, hd, he, ei, sd, se, q⟩ := h
  obtain ⟨as, r1⟩ := Dp.reads I d x v hd rx
  obtain ⟨bs, r2⟩ := Dp.reads I e y u he ry
  have q : Q (.bl (ds.any fun z => PyData.eqv z d)) H := by simpa using q
  cases e with
  | list l => cases ei; exact SeqAt.in_list_reads r2 r1 (SeqAt.canLay_of_shaped se) (SeqAt.canLay_of_shaped sd) (room_in_shaped sd hu) ⟨.bl _, H, I, rfl, q⟩
  | tuple l => cases ei; exact SeqAt.in_tuple_reads r2 r1 (SeqAt.canLay_of_shaped se) (SeqAt.canLay_of_shaped sd) (room_in_shaped sd hu) ⟨.bl _, H, I, rfl, q⟩
  | _ => cases ei
theorem op_notInS (hu : X.A.units + 65 < cLine) : OpR X (compareOp .NotIn) (rInS X.K true) := by
  intro pins s σ H x y v u Q I rx ry h
  obtain ⟨d, e, ds, hd, he, ei, sd, se, q⟩ := h
  obtain ⟨as, r1⟩ := Dp.reads I d x v hd rx
  obtain ⟨bs, r2⟩ := Dp.reads I e y u he ry
  have q : Q (.bl (!ds.any fun z => PyData.eqv z d)) H := by simpa using q
  cases e with
  | list l => cases ei; exact SeqAt.notIn_list_reads r2 r1 (SeqAt.canLay_of_shaped se) (SeqAt.canLay_of_shaped sd) (room_in_shaped sd hu) ⟨.bl _, H, I, rfl, q⟩
  | tuple l => cases ei; exact SeqAt.notIn_tuple_reads r2 r1 (SeqAt.canLay_of_shaped se) (SeqAt.canLay_of_shaped sd) (room_in_shaped sd hu) ⟨.bl _, H, I, rfl, q⟩
  | _ => cases ei
theorem ok_in {neg : Bool} : Ok2 X.K p (rInS X.K neg) (inG neg) fr := fun F x y H B d1 d2 d Q hp nt hl r1 r2 e q => by
  unfold inG at e
  cases ei : items d2 with
  | none => rw [ei] at e; cases e
  | some ds =>
    rw [ei] at e
    dsimp only at e
    by_cases z : (SeqAt.shaped d1 && SeqAt.shaped d2 && (nod d1 && nod d2)) = true
    · rw [if_pos z] at e
      cases e
      simp only [Bool.and_eq_true] at z
      exact ⟨d1, d2, ds, r1.dp hp z.2.1, r2.dp hp z.2.2, ei, z.1.1, z.1.2, q _ _ (Same.refl _) rfl (fun _ z => by cases z)⟩
    · rw [if_neg z] at e; cases e
theorem d_in {a b : Expr} {fa fb : Env → M D} {ca cb f1 f2 : Bool} {pos : Pos} (hu : X.A.units + 65 < cLine) (ha : DE X p a fa ca f1) (hb : DE X p b fb cb f2) (hm : behindInMarks .In b = false := by rfl) : DE X p (.Compare a [.In] [b] pos) (ap2 (inG false) fa fb) false true := d_2 ok_in ha hb fun x y => pe_cmpR (op_inS hu) x y hm
theorem dt_in {a b : Expr} {fa fb : Env → M D} {ca cb f1 f2 : Bool} {pos : Pos} (hu : X.A.units + 65 < cLine) (ha : DE X p a fa ca f1) (hb : DE X p b fb cb f2) (hm : behindInMarks .In b = false := by rfl) : DT X p (.Compare a [.In] [b] pos) (ap2 (inG false) fa fb) := dt_2 (fr := true) ok_in ha hb fun x y => pt_cmpR (op_inS hu) x y hm
theorem d_nin {a b : Expr} {fa fb : Env → M D} {ca cb f1 f2 : Bool} {pos : Pos} (hu : X.A.units + 65 < cLine) (ha : DE X p a fa ca f1) (hb : DE X p b fb cb f2) (hm : behindInMarks .NotIn b = false := by rfl) : DE X p (.Compare a [.NotIn] [b] pos) (ap2 (inG true) fa fb) false true := d_2 ok_in ha hb fun x y => pe_cmpR (op_notInS hu) x y hm
theorem dt_nin {a b : Expr} {fa fb : Env → M D} {ca cb f1 f2 : Bool} {pos : Pos} (hu : X.A.units + 65 < cLine) (ha : DE X p a fa ca f1) (hb : DE X p b fb cb f2) (hm : behindInMarks .NotIn b = false := by rfl) : DT X p (.Compare a [.NotIn] [b] pos) (ap2 (inG true) fa fb) := dt_2 (fr := true) ok_in ha hb fun x y => pt_cmpR (op_notInS hu) x y hm
end
end Sd
/-! operations over data, more -/
namespace Sd
open PySem PySem.Spec PyProof.Rows L2
section
variable {X : Cx} {p : Addr} {K : PySem.W.Frag} {c fr : Bool} {f g : Env → M D} {e : Expr}
/-! ### list(..), tuple(..) -/
def listD : List D → Option D
  | [.list ds] => some (.list ds)
  | [.tuple ds] => some (.list ds)
  | _ => none
def tupD : List D → Option D
  | [.list ds] => some (.tuple ds)
  | [.tuple ds] => some (.tuple ds)
  | _ => none
theorem listD_some {ds : List D} {d : D} (h : listD ds = some d) : ∃ xs, d = .list xs ∧ (ds = [.list xs] ∨ ds = [.tuple xs]) := by
  unfold listD at h
  split at h
  · cases h; exact ⟨_, rfl, .inl rfl⟩
  · cases h; exact ⟨_, rfl, .inr rfl⟩
  · cases h
theorem tupD_some {ds : List D} {d : D} (h : tupD ds = some d) : ∃ xs, d = .tuple xs ∧ (ds = [.list xs] ∨ ds = [.tuple xs]) := by
  unfold tupD at h
  split at h
  · cases h; exact ⟨_, rfl, .inl rfl⟩
  · cases h; exact ⟨_, rfl, .inr rfl⟩
  · cases h
theorem new_at {H : Hp} {a : Addr} {d : D} (h : H a = none) : New H (.ref a) d := fun _ => ⟨a, rfl, h⟩
theorem ok_list : OkN X.K p (fun xs H Q => ∃ a ys, xs = [.ref a] ∧ (SqL X.K H a ys ∨ SqT X.K H a ys) ∧ ∀ l, H l = none → Q (.ref l) (upd H l (.lst ys))) listD true := fun F vs H B ds d Q hp nt hl r e q => by
  obtain ⟨xs, rfl, rfl | rfl⟩ := listD_some e
  · obtain ⟨v, rfl, h⟩ := resL1 r
    obtain ⟨a, ws, rfl, _, h1, h2⟩ := h.lst hp
    exact ⟨a, ws, rfl, .inl (.inl (.inl h1)), fun l nl => q _ _ (same_upd nl) (rep_lst nt nl h2) (fun _ => new_at nl)⟩
  · obtain ⟨v, rfl, h⟩ := resL1 r
    obtain ⟨a, ws, rfl, h1, h2⟩ := h.tup
    exact ⟨a, ws, rfl, .inr h1.sq, fun l nl => q _ _ (same_upd nl) (rep_lst nt nl h2) (fun _ => new_at nl)⟩
theorem ok_tup : OkN X.K p (fun xs H Q => ∃ a ys, xs = [.ref a] ∧ ((SqL X.K H a ys ∧ ∀ p o, H p = none → TupO ys o → Q (.ref p) (upd H p o)) ∨ (SqT X.K H a ys ∧ Q (.ref a) H))) tupD true := fun F vs H B ds d Q hp nt hl r e q => by
  obtain ⟨xs, rfl, rfl | rfl⟩ := tupD_some e
  · obtain ⟨v, rfl, h⟩ := resL1 r
    obtain ⟨a, ws, rfl, _, h1, h2⟩ := h.lst hp
    exact ⟨a, ws, rfl, .inl ⟨.inl (.inl h1), fun l o nl ho => q _ _ (same_upd nl) (rep_tup nt nl ho h2) (fun _ z => by cases z)⟩⟩
  · obtain ⟨v, rfl, h⟩ := resL1 r
    have rr := h.imm1 (fun _ z => by cases z) (fun _ z => by cases z)
    obtain ⟨a, ws, rfl, h1, h2⟩ := h.tup
    exact ⟨a, ws, rfl, .inr ⟨h1.sq, q _ _ (Same.refl _) rr (fun _ z => by cases z)⟩⟩
/-! ### all, any -/
def boolsOf : List D → Option (List Bool)
  | [] => some []
  | .bool i :: r => (boolsOf r).map (i :: ·)
  | _ => none
theorem boolsOf_rep {H : Hp} : ∀ {ds : List D} {ns : List Bool} {vs : List V}, boolsOf ds = some ns → RepL K p ds H vs → vs = ns.map V.bl
  | [], _, _, e, r => by cases e; exact r
  | d :: ds, ns, _, e, r => by
    obtain ⟨v, vr, rfl, h1, h2⟩ := r
    cases d with
    | bool i =>
      have e' : (boolsOf ds).map (i :: ·) = some ns := e
      cases z : boolsOf ds with
      | none => rw [z] at e'; cases e'
      | some ms =>
        rw [z] at e'; cases e'
        rw [show v = V.bl i from h1, boolsOf_rep z h2]; rfl
    | _ => cases e
def allD : List D → Option D
  | [.list ds] => (boolsOf ds).map fun bs => .bool (bs.all id)
  | _ => none
def anyD : List D → Option D
  | [.list ds] => (boolsOf ds).map fun bs => .bool (bs.any id)
  | _ => none
theorem boolsD_some {h : List Bool → Bool} {ds : List D} {d : D} (e : (match ds with | [.list ds] => (boolsOf ds).map fun bs => PyData.bool (h bs) | _ => none) = some d) : ∃ xs bs, ds = [.list xs] ∧ boolsOf xs = some bs ∧ d = .bool (h bs) := by
  split at e
  · rename_i xs
    cases z : boolsOf xs with
    | none => rw [z] at e; cases e
    | some bs => rw [z] at e; cases e; exact ⟨xs, bs, rfl, z, rfl⟩
  · cases e
theorem ok_all : OkN X.K p (rAll X.K) allD fr := fun F vs H B ds d Q hp nt hl r e q => by
  obtain ⟨xs, bs, rfl, z, rfl⟩ := boolsD_some (h := fun bs => bs.all id) e
  obtain ⟨v, rfl, h⟩ := resL1 r
  obtain ⟨a, ws, rfl, _, h1, h2⟩ := h.lst hp
  have e1 := boolsOf_rep z h2
  subst e1
  exact ⟨a, bs, rfl, .inl (.inl h1), q _ _ (Same.refl _) rfl (fun _ z => by cases z)⟩
theorem ok_any : OkN X.K p (rAny X.K) anyD fr := fun F vs H B ds d Q hp nt hl r e q => by
  obtain ⟨xs, bs, rfl, z, rfl⟩ := boolsD_some (h := fun bs => bs.any id) e
  obtain ⟨v, rfl, h⟩ := resL1 r
  obtain ⟨a, ws, rfl, _, h1, h2⟩ := h.lst hp
  have e1 := boolsOf_rep z h2
  subst e1
  exact ⟨a, bs, rfl, .inl (.inl h1), q _ _ (Same.refl _) rfl (fun _ z => by cases z)⟩
/-! ### subscripts -/
def atD (ds : List D) (i : Int) : Option D := atI ds i
def ixD (d i : D) : Option D := match items d, i with
  | some ds, .int k => atI ds k
  | _, _ => none
theorem RepL.atI {H : Hp} {ds : List D} {vs : List V} {i : Int} {d : D} (r : RepL K p ds H vs) (h : L2.atI ds i = some d) : ∃ v, L2.atI vs i = some v ∧ Rep K p d H v := by
  unfold L2.atI at h ⊢
  rw [r.length]
  cases z : ixN ds.length i with
  | none => rw [z] at h; cases h
  | some j =>
    rw [z] at h
    obtain ⟨v, h1, h2⟩ := r.get (show ds[j]? = some d from h)
    exact ⟨v, h1, h2⟩
theorem ok_ix : Ok2 X.K p (fun x y H Q => rIxL X.K x y H Q ∨ rIxT X.K x y H Q) ixD false := fun F x y H B d1 d2 d Q hp nt hl r1 r2 e q => by
  unfold ixD at e
  cases d2 with
  | int k =>
    cases d1 with
    | list ds =>
      obtain ⟨a, vs, rfl, _, h1, h2⟩ := r1.lst hp
      obtain ⟨v, g1, g2⟩ := h2.atI (show L2.atI ds k = some d from e)
      exact .inl ⟨a, vs, k, v, rfl, r2.int, .inl (.inl h1), g1, q _ _ (Same.refl _) g2 (fun z => by cases z)⟩
    | tuple ds =>
      obtain ⟨a, vs, rfl, h1, h2⟩ := r1.tup
      obtain ⟨v, g1, g2⟩ := h2.atI (show L2.atI ds k = some d from e)
      exact .inr ⟨a, vs, k, v, rfl, r2.int, h1.sq, g1, q _ _ (Same.refl _) g2 (fun z => by cases z)⟩
    | _ => cases e
  | _ => cases d1 <;> cases e
theorem d_ix {a b : Expr} {fa fb : Env → M D} {ca cb f1 f2 : Bool} {pos : Pos} (ha : DE X p a fa ca f1) (hb : DE X p b fb cb f2) (hs : PlainIx b := by exact fun _ _ => rfl) : DE X p (.Subscript a b pos) (ap2 ixD fa fb) false false := d_2 ok_ix ha hb fun x y => pe_ix (ix_list.or ix_tup) x y hs
/-- a slice -/
def cutD (xs : List D) (lo hi : Option Int) : List D := (xs.drop (HT.sIx xs.length 0 lo)).take (HT.sIx xs.length xs.length hi - HT.sIx xs.length 0 lo)
def slD (d : D) (lo hi : Option Int) : Option D := match d with
  | .list ds => some (.list (cutD ds lo hi))
  | .tuple ds => some (.tuple (cutD ds lo hi))
  | _ => none
theorem RepL.cut {H : Hp} {ds : List D} {vs : List V} (r : RepL K p ds H vs) (lo hi : Option Int) : RepL K p (cutD ds lo hi) H (cutV vs lo hi) := by
  unfold cutD cutV
  rw [r.length]
  exact RepL.take _ (RepL.drop _ r)
/-- an end of a slice: left out, or a number -/
abbrev OE := Env → M (Option Int)
def noO : OE := fun _ => M.pure none
def soO (f : Env → M D) : OE := fun ρ => M.bind (f ρ) fun d => match d with
  | .int i => M.pure (some i)
  | _ => M.fail
def tO (K : PySem.W.Frag) (p : Addr) (f : OE) : TO := fun σ H Q => HL H → ∃ (F : Addr → Prop) (ρ : Env) (B : List Addr) (q : Pot) (o : Option Int) (q' : Pot), Pre K p F H B σ ρ q ∧ f ρ q = some (o, q') ∧ ∀ H', HL H' → Stp p H H' → H' p = some (potV q') → Q o H'
structure DO (X : Cx) (p : Addr) (e : Option Expr) (f : OE) : Prop where
  po : PO X e (tO X.K p f)
theorem poHL {e : Option Expr} {t t' : TO} (h : PO X e t) (imp : ∀ σ H Q, HL H → t' σ H Q → t σ H (fun v H' => HL H' → Q v H')) : PO X e t' :=
  ⟨fun pins s σ H Q I hw => thn (h.run pins s σ H _ I (imp σ H Q (HL_of I.hok) hw)) fun _ _ ⟨v, H', I', r, q⟩ => ⟨v, H', I', r, q (HL_of I'.hok)⟩⟩
theorem do_none : DO X p none noO := ⟨poHL po_none fun σ H Q hl t => by
  obtain ⟨F, ρ, B, q, o, q', k1, k2, k3⟩ := t hl
  obtain ⟨rfl, rfl⟩ := M.pure_some k2
  exact fun l => k3 H l Stp.refl k1.pot⟩
theorem do_some (h : DE X p e f c fr) : DO X p (some e) (soO f) := ⟨poHL (po_some h.pe) fun σ H Q hl t => by
  obtain ⟨F, ρ, B, q, o, q', k1, k2, k3⟩ := t hl
  obtain ⟨d, q1, e1, k2⟩ := M.bind_some k2
  cases d with
  | int i =>
    obtain ⟨rfl, rfl⟩ := M.pure_some k2
    exact fun _ => ⟨F, ρ, B, q, _, _, k1, e1, fun v H1 l1 s1 p1 r1 _ => ⟨i, r1.cons.int, fun l => k3 H1 l s1 p1⟩⟩
  | _ => cases k2⟩
def sliE (f : Env → M D) (lo hi : OE) : Env → M D := fun ρ => M.bind (f ρ) fun d => M.bind (lo ρ) fun l => M.bind (hi ρ) fun h => M.of (slD d l h)
theorem d_sl {a : Expr} {lo hi : Option Expr} {fl fh : OE} {p2 pos : Pos} (ha : DE X p a f c fr) (hl : DO X p lo fl) (hh : DO X p hi fh) : DE X p (.Subscript a (.Slice lo hi none p2) pos) (sliE f fl fh) false false :=
  ⟨peHL (pe_slice (sl_list.or sl_tupO) ha.pe hl.po hh.po) fun σ H Q hl t => by
    obtain ⟨F, ρ, B, q, d, q', k1, k2, k3⟩ := t hl
    obtain ⟨d1, q1, e1, k2⟩ := M.bind_some k2
    obtain ⟨l, q2, e2, k2⟩ := M.bind_some k2
    obtain ⟨h, q3, e3, k2⟩ := M.bind_some k2
    obtain ⟨e4, rfl⟩ := M.of_some k2
    refine fun _ => ⟨F, ρ, B, q, d1, q1, k1, e1, fun x H1 l1 s1 p1 r1 _ _ => ⟨F, ρ, B, q1, l, q2, k1.stp s1 p1, e2, fun H2 l2 s2 p2 _ => ⟨F, ρ, B, q2, h, _, (k1.stp s1 p1).stp s2 p2, e3, fun H3 l3 s3 p3 => ?_⟩⟩⟩
    have nt := (((k1.stp s1 p1).stp s2 p2).stp s3 p3).nt
    have s13 := (s1.trans s2).trans s3
    have rc := RepC.stp (s2.trans s3) k1.pB r1.cons
    cases d1 with
    | list ds =>
      cases e4
      obtain ⟨a, vs, rfl, _, h1, h2⟩ := rc.lst k1.pB
      exact .inl ⟨a, vs, rfl, .inl (.inl h1), fun b nb l' => k3 _ _ l' (s13.trans (Stp.of (same_upd nb))) (same_upd nb _ _ p3) (rep_lst nt nb (h2.cut l h)) (fun z => by cases z)⟩
    | tuple ds =>
      cases e4
      have rr := rc.imm1 (fun _ z => by cases z) (fun _ z => by cases z)
      obtain ⟨a, vs, rfl, h1, h2⟩ := rc.tup
      refine .inr ⟨a, vs, rfl, h1.sq, fun w l' => k3 _ _ l' s13 p3 ?_ (fun z => by cases z), fun w b o nb ho l' => k3 _ _ l' (s13.trans (Stp.of (same_upd nb))) (same_upd nb _ _ p3) (rep_tup nt nb ho (h2.cut l h)) (fun z => by cases z)⟩
      have e : cutD ds l h = ds := by
        unfold cutD
        rw [h2.length] at w
        rw [w.1, w.2, List.drop_zero, Nat.sub_zero, List.take_length]
      rw [e]
      exact rr
    | _ => cases e4⟩
/-! ### a <= b <= c -/
def chainE (g1 g2 : D → D → Option D) (f1 f2 f3 : Env → M D) : Env → M D := fun ρ => M.bind (f1 ρ) fun x => M.bind (f2 ρ) fun y => M.bind (M.of (g1 x y)) fun z => match z with
  | .bool true => M.bind (f3 ρ) fun w => M.of (g2 y w)
  | .bool false => M.pure (.bool false)
  | _ => M.fail
theorem chain_read {r1 r2 : R2} {g1 g2 : D → D → Option D} {f1 f2 f3 : Env → M D} {c1 c2 c3 b1 b2 b3 : Bool} (ok1 : Ok2 X.K p r1 g1 true) (ok2 : Ok2 X.K p r2 g2 true) {σ : L2.St} {H : Hp} {Q Q' : VK}
    (t : ∃ (F : Addr → Prop) (ρ : Env) (B : List Addr) (q : Pot) (d : D) (q' : Pot), Pre X.K p F H B σ ρ q ∧ chainE g1 g2 f1 f2 f3 ρ q = some (d, q') ∧ ∀ v H', Stp p H H' → H' p = some (potV q') → Rep X.K p d (hide H' B) v → Q v H') :
    tChain r1 r2 (tE X.K p f1 c1 b1) (tE X.K p f2 c2 b2) (tE X.K p f3 c3 b3) σ H Q := by
  obtain ⟨F, ρ, B, q, d, q', k1, k2, k3⟩ := t
  obtain ⟨x, q1, e1, k2⟩ := M.bind_some k2
  obtain ⟨y, q2, e2, k2⟩ := M.bind_some k2
  obtain ⟨z, q3, e0, k4⟩ := M.bind_some k2
  clear k2
  obtain ⟨e3, rfl⟩ := M.of_some e0
  clear e0
  refine fun _ => ⟨F, ρ, B, q, x, q1, k1, e1, fun vx H1 l1 s1 p1 rx _ _ => ⟨F, ρ, B, q1, y, _, k1.stp s1 p1, e2, fun vy H2 l2 s2 p2 ry _ => ?_⟩⟩
  have K2 := (k1.stp s1 p1).stp s2 p2
  refine ok1 F vx vy H2 B x y z _ k1.pB K2.nt l2 (RepC.stp s2 k1.pB rx.cons) ry.cons e3 fun v H3 s3 rz _ => ?_
  have p3 : H3 p = some (potV _) := s3 _ _ p2
  have st : Stp p H H3 := (s1.trans s2).trans (Stp.of s3)
  cases z with
  | bool b =>
    refine ⟨b, rz, ?_⟩
    cases b with
    | false =>
      obtain ⟨rfl, rfl⟩ := M.pure_some k4
      rw [if_neg Bool.false_ne_true]
      exact k3 _ H3 st p3 rfl
    | true =>
      obtain ⟨w, q4, e4, k4⟩ := M.bind_some k4
      obtain ⟨e5, rfl⟩ := M.of_some k4
      rw [if_pos rfl]
      refine fun _ => ⟨F, ρ, B, _, w, _, K2.stp (Stp.of s3) p3, e4, fun vw H4 l4 s4 p4 rw4 _ => ?_⟩
      refine ok2 F vy vw H4 B y w d _ k1.pB ((K2.stp (Stp.of s3) p3).stp s4 p4).nt l4 (RepC.stp ((Stp.of s3).trans s4) k1.pB ry.cons) rw4.cons e5 fun v5 H5 s5 r5 _ => ?_
      exact k3 _ H5 (st.trans (s4.trans (Stp.of s5))) (s5 _ _ p4) r5
  | _ => cases k4
theorem d_chain {op op' : CmpOp} {r1 r2 : R2} {g1 g2 : D → D → Option D} {a b d : Expr} {f1 f2 f3 : Env → M D} {c1 c2 c3 b1 b2 b3 : Bool} {pos : Pos} (ok1 : Ok2 X.K p r1 g1 true) (ok2 : Ok2 X.K p r2 g2 true) (ha : DE X p a f1 c1 b1) (hb : DE X p b f2 c2 b2) (hc : DE X p d f3 c3 b3)
    (t : ∀ {ta tb tc : TE}, PE X a ta → PE X b tb → PE X d tc → PE X (.Compare a [op, op'] [b, d] pos) (tChain r1 r2 ta tb tc)) : DE X p (.Compare a [op, op'] [b, d] pos) (chainE g1 g2 f1 f2 f3) false false :=
  ⟨peHL (t ha.pe hb.pe hc.pe) fun σ H Q hl t => by
    obtain ⟨F, ρ, B, q, d, q', k1, k2, k3⟩ := t hl
    exact chain_read (Q' := Q) ok1 ok2 ⟨F, ρ, B, q, d, q', k1, k2, fun v H' s hq r l => k3 v H' l s hq r (fun z => by cases z)⟩⟩
theorem d_lele {a b d : Expr} {f1 f2 f3 : Env → M D} {c1 c2 c3 b1 b2 b3 : Bool} {pos : Pos} (ha : DE X p a f1 c1 b1) (hb : DE X p b f2 c2 b2) (hc : DE X p d f3 c3 b3) (hm : lastMarks [.LtE, .LtE] [b, d] = false := by rfl) : DE X p (.Compare a [.LtE, .LtE] [b, d] pos) (chainE leD leD f1 f2 f3) false false :=
  d_chain ok_cmp ok_cmp ha hb hc fun x y z => pe_chain op_le op_le x y z hm
theorem d_lelt {a b d : Expr} {f1 f2 f3 : Env → M D} {c1 c2 c3 b1 b2 b3 : Bool} {pos : Pos} (hu : X.A.units < cLine) (ha : DE X p a f1 c1 b1) (hb : DE X p b f2 c2 b2) (hc : DE X p d f3 c3 b3) (hm : lastMarks [.LtE, .Lt] [b, d] = false := by rfl) : DE X p (.Compare a [.LtE, .Lt] [b, d] pos) (chainE leD ltD f1 f2 f3) false false :=
  d_chain ok_cmp ok_lt ha hb hc fun x y z => pe_chain op_le (op_lt.or (op_ltT hu)) x y z hm
/-! ### isinstance -/
def tyD : D → String
  | .none => "NoneType"
  | .bool _ => "bool"
  | .int _ => "int"
  | .str _ => "str"
  | .list _ => "list"
  | .tuple _ => "tuple"
  | .dict _ => "dict"
def notPot : D → Bool
  | .dict kvs => !isPot kvs && kvs.all fun z => match z.1 with
    | .tuple _ => false
    | _ => true
  | _ => true
def isiD (n : String) (d : D) : Option D := if notPot d = true then (kitB (tyD d) n).map .bool else none
theorem RepC.ty {F : Addr → Prop} {H : Hp} {B : List Addr} {d : D} {v : V} (hp : p ∈ B) (hd : notPot d = true) (h : RepC K p F H B d v) : TyX K H v (.type (tyD d)) := by
  cases d with
  | none => rw [h.none]; exact .base .non
  | bool b => rw [h.bool]; exact .base (.bl b)
  | int b => rw [h.int]; exact .base (.int b)
  | str b => rw [h.str]; exact .base (.str b)
  | list ds => obtain ⟨a, vs, rfl, _, h1, _⟩ := h.lst hp; exact .base (.lst h1)
  | tuple ds =>
    obtain ⟨a, vs, rfl, h1, _⟩ := h.tup
    rcases h1.two with h1 | ⟨o, h1⟩
    · exact .base (.tup h1)
    · exact .fTuple h1
  | dict kvs =>
    simp only [notPot, Bool.and_eq_true, Bool.not_eq_true'] at hd
    obtain ⟨a, vs, rfl, h1, _⟩ := h.dic hd.1
    rcases h1 with ⟨_, _, _, h1⟩ | ⟨xs, ⟨ek, _⟩, ⟨ne, _⟩, _, _⟩
    · exact .base (.dK h1)
    · exfalso
      cases xs with
      | nil => exact ne rfl
      | cons x xs =>
        cases kvs with
        | nil => cases ek
        | cons z kvs =>
          have e1 : z.1 = itupD x.1 := (List.cons.inj ek).1
          have := hd.2
          rw [List.all_cons, e1] at this
          cases this
theorem isiD_some {n : String} {d r : D} (h : isiD n d = some r) : notPot d = true ∧ ∃ b, kitB (tyD d) n = some b ∧ r = .bool b := by
  unfold isiD at h
  by_cases z : notPot d = true
  · rw [if_pos z] at h
    cases y : kitB (tyD d) n with
    | none => rw [y] at h; cases h
    | some b => rw [y] at h; cases h; exact ⟨z, b, rfl, rfl⟩
  · rw [if_neg z] at h; cases h
theorem d_isi {e1 e2 : Expr} {np pos : Pos} (n : String) (hg : Gl X "isinstance") (hm : X.mg "isinstance" = none) (h1 : DE X p e1 f c fr) (h2 : PE X e2 (tC (.ty n)))
    (s1 : starEach [e1, e2] X.env = (false, eval e1 X.env) :: starEach [e2] X.env := by rfl) (s2 : starEach [e2] X.env = (false, eval e2 X.env) :: starEach [] X.env := by rfl) (hpl : (backTo pos (starEach [e2] X.env)).any (·.1) = false := by rfl) :
    DE X p (.Call (.Name "isinstance" np) [e1, e2] [] pos) (ap1 (isiD n) f) false true :=
  ⟨peHL (pe_callB call_isi hg hm (by decide +kernel) (pa_cons h1.pe (pa_cons h2 pa_nil s2) s1) (by decide) (by decide) s1 hpl) fun σ H Q hl t => by
    obtain ⟨F, ρ, B, q, d, q', k1, k2, k3⟩ := t hl
    obtain ⟨d1, q1, e3, k2⟩ := M.bind_some k2
    obtain ⟨e4, rfl⟩ := M.of_some k2
    obtain ⟨np, b, kb, rfl⟩ := isiD_some e4
    exact fun _ => ⟨F, ρ, B, q, d1, _, k1, e3, fun v H1 l1 s1 p1 r1 _ => ⟨v, .ty n, _, _, b, rfl, .ty n, r1.cons.ty k1.pB np, kit_ty kb, fun l => k3 _ H1 l s1 p1 (Res.of rfl) (fun _ z => by cases z)⟩⟩⟩
/-- isinstance(x, (S, T)) -/
def isiD2 (n m : String) (d : D) : Option D := if notPot d = true then (match kitB (tyD d) n, kitB (tyD d) m with
  | some a, some b => some (.bool (a || b))
  | _, _ => none) else none
theorem d_isi2 {e1 e2 e3 : Expr} {np pos tpos : Pos} {tk : Nat} (n m : String) (hg : Gl X "isinstance") (hm : X.mg "isinstance" = none) (h1 : DE X p e1 f c fr) (h2 : PE X e2 (tC (.ty n))) (h3 : PE X e3 (tC (.ty m)))
    (s1 : starEach [e1, .Tuple [e2, e3] tk tpos] X.env = (false, eval e1 X.env) :: starEach [.Tuple [e2, e3] tk tpos] X.env := by rfl) (s2 : starEach [.Tuple [e2, e3] tk tpos] X.env = (false, eval (.Tuple [e2, e3] tk tpos) X.env) :: starEach [] X.env := by rfl)
    (s3 : starEach [e2, e3] X.env = (false, eval e2 X.env) :: starEach [e3] X.env := by rfl) (s4 : starEach [e3] X.env = (false, eval e3 X.env) :: starEach [] X.env := by rfl) (hpl : (backTo pos (starEach [.Tuple [e2, e3] tk tpos] X.env)).any (·.1) = false := by rfl) :
    DE X p (.Call (.Name "isinstance" np) [e1, .Tuple [e2, e3] tk tpos] [] pos) (ap1 (isiD2 n m) f) false true :=
  ⟨peHL (pe_callB call_isiT hg hm (by decide +kernel) (pa_cons h1.pe (pa_cons (pe_tup (pa_cons h2 (pa_cons h3 pa_nil s4) s3)) pa_nil s2) s1) (by decide) (by decide) s1 hpl) fun σ H Q hl t => by
    obtain ⟨F, ρ, B, q, d, q', k1, k2, k3⟩ := t hl
    obtain ⟨d1, q1, e3, k2⟩ := M.bind_some k2
    obtain ⟨e4, rfl⟩ := M.of_some k2
    unfold isiD2 at e4
    by_cases z : notPot d1 = true
    · rw [if_pos z] at e4
      cases y1 : kitB (tyD d1) n with
      | none => rw [y1] at e4; cases e4
      | some a =>
        cases y2 : kitB (tyD d1) m with
        | none => rw [y1, y2] at e4; cases e4
        | some b =>
          rw [y1, y2] at e4
          cases e4
          refine fun _ => ⟨F, ρ, B, q, d1, _, k1, e3, fun v H1 l1 s1 p1 r1 _ => ⟨by show 2 ≤ sizeLine; decide, fun t nt => ?_⟩⟩
          have K1 := k1.stp s1 p1
          have st := same_upd (o := .tup [.ty n, .ty m]) nt
          have K2 := K1.stp (Stp.of st) (st _ _ p1)
          have rc := RepC.stp (Stp.of st) k1.pB r1.cons
          have kk : PySem.W.kitAny X.K (.type (tyD d1)) [.type n, .type m] = some (a || b) := by
            refine kitAny_cons (kit_ty y1) (fun ea => ?_) (fun ea => by rw [ea]; rfl)
            rw [ea, Bool.false_or]
            refine kitAny_cons (kit_ty y2) (fun eb => ?_) (fun eb => eb)
            rw [eb]; exact kitAny_nil
          exact ⟨v, t, [.ty n, .ty m], _, _, _, rfl, upd_same, .cons (.ty n) (.cons (.ty m) .nil), rc.ty k1.pB z, kk, fun l => k3 _ _ l (s1.trans (Stp.of st)) (st _ _ p1) (Res.of rfl) (fun _ z => by cases z)⟩
    · rw [if_neg z] at e4; cases e4⟩
/-! ### is -/
def rIs (neg : Bool) : R2 := fun x y H Q => (y = .non ∧ Q (.bl (neg != decide (x = .non))) H) ∨ ∃ a b, x = .bl a ∧ y = .bl b ∧ Q (.bl (neg != decide (a = b))) H
theorem op_isS : OpR X (compareOp .Is) (rIs false) := by
  intro pins s σ H x y v u Q I rx ry h
  rcases h with ⟨h1, h2⟩ | ⟨a, b, h1, h2, h3⟩
  · exact op_isN pins s σ H x y v u Q I rx ry ⟨h1, by simpa using h2⟩
  · exact op_is_bl pins s σ H x y v u Q I rx ry ⟨a, b, h1, h2, by simpa using h3⟩
theorem op_isnotS : OpR X (compareOp .IsNot) (rIs true) := by
  intro pins s σ H x y v u Q I rx ry h
  rcases h with ⟨h1, h2⟩ | ⟨a, b, h1, h2, h3⟩
  · exact op_notN pins s σ H x y v u Q I rx ry ⟨h1, by simpa using h2⟩
  · exact op_isnot_bl pins s σ H x y v u Q I rx ry ⟨a, b, h1, h2, by simpa using h3⟩
def isNone : D → Bool
  | .none => true
  | _ => false
def isG (neg : Bool) (d e : D) : Option D := match e with
  | .none => some (.bool (neg != isNone d))
  | .bool b => match d with
    | .bool a => some (.bool (neg != decide (a = b)))
    | _ => none
  | _ => none
theorem RepC.isN {F : Addr → Prop} {H : Hp} {B : List Addr} {d : D} {v : V} (h : RepC K p F H B d v) : decide (v = .non) = isNone d := by
  cases d with
  | none => rw [h.none]; rfl
  | bool b => rw [h.bool]; rfl
  | int b => rw [h.int]; rfl
  | str b => rw [h.str]; rfl
  | list ds => rcases h with ⟨a, vs, rfl, _⟩ | ⟨a, rfl, _⟩ <;> rfl
  | tuple ds => obtain ⟨a, vs, rfl, _⟩ := h.tup; rfl
  | dict kvs => rcases h with (⟨_, rfl⟩ | ⟨_, a, vs, rfl, _⟩) | ⟨a, rfl, _⟩ <;> rfl
theorem ok_is {neg : Bool} : Ok2 X.K p (rIs neg) (isG neg) fr := fun F x y H B d1 d2 d Q hp nt hl r1 r2 e q => by
  cases d2 with
  | none =>
    cases e
    exact .inl ⟨r2.none, q _ _ (Same.refl _) (by rw [r1.isN]; rfl) (fun _ z => by cases z)⟩
  | bool b =>
    cases d1 with
    | bool a => cases e; exact .inr ⟨a, b, r1.bool, r2.bool, q _ _ (Same.refl _) rfl (fun _ z => by cases z)⟩
    | _ => cases e
  | _ => cases e
theorem d_is {a b : Expr} {fa fb : Env → M D} {ca cb f1 f2 : Bool} {pos : Pos} (ha : DE X p a fa ca f1) (hb : DE X p b fb cb f2) : DE X p (.Compare a [.Is] [b] pos) (ap2 (isG false) fa fb) false true := d_2 ok_is ha hb fun x y => pe_cmpR op_isS x y (nomark _)
theorem dt_is {a b : Expr} {fa fb : Env → M D} {ca cb f1 f2 : Bool} {pos : Pos} (ha : DE X p a fa ca f1) (hb : DE X p b fb cb f2) : DT X p (.Compare a [.Is] [b] pos) (ap2 (isG false) fa fb) := dt_2 (fr := true) ok_is ha hb fun x y => pt_cmpR op_isS x y (nomark _)
theorem d_isnot {a b : Expr} {fa fb : Env → M D} {ca cb f1 f2 : Bool} {pos : Pos} (ha : DE X p a fa ca f1) (hb : DE X p b fb cb f2) : DE X p (.Compare a [.IsNot] [b] pos) (ap2 (isG true) fa fb) false true := d_2 ok_is ha hb fun x y => pe_cmpR op_isnotS x y (nomark _)
theorem dt_isnot {a b : Expr} {fa fb : Env → M D} {ca cb f1 f2 : Bool} {pos : Pos} (ha : DE X p a fa ca f1) (hb : DE X p b fb cb f2) : DT X p (.Compare a [.IsNot] [b] pos) (ap2 (isG true) fa fb) := dt_2 (fr := true) ok_is ha hb fun x y => pt_cmpR op_isnotS x y (nomark _)
/-! ### index -/
def firstAt (d : D) : List D → Nat → Option Nat
  | [], _ => none
  | x :: xs, i => if PyData.eqv x d = true then some i else firstAt d xs (i + 1)
def indexD (l d : D) : Option D := match items l with
  | some ds => if (SeqAt.shaped l && SeqAt.shaped d && (nod l && nod d)) = true then (firstAt d ds 0).map fun i => .int (i : Nat) else none
  | none => none
/-! ### repr -/
end
end Sd
/-! tuples are sorted, empty ones among them -/
namespace Sd
open PySem PySem.Spec PyProof.Rows PySem.SeqAt
open PySem.W (AllAlike Sortable EachIs dataLe alike alikeAll dataLt dataKind dataKind_some dataKind_inv SortsAt dataType)
section
variable {prog : Program} {w : World} {A : Around} {s : Shared} {E : Value → Shared → Prop}
theorem call_tuple_ltX {Q : Value → Shared → Prop} {l b : Addr} {items items2 : Array Value} {e r : Nat → Bool} (hl : s.heap.IsTuple l items) (hb : s.heap.IsTuple b items2)
    (he : ∀ j (h1 : j < items.size) (h2 : j < items2.size), EqAt A.in1 s items[j] items2[j] (e j)) (hr : ∀ j (h1 : j < items.size) (h2 : j < items2.size), e j = false → RcLt A.in1 s items[j] items2[j] (r j))
    (h : Q (.bool (firstLt e r (decide (items.size < items2.size)) (List.range (min items.size items2.size)))) s) : wpAny (model prog w) A (call (.builtin "tuple.__lt__") [.ref l, .ref b]) Q E s := by
  obtain ⟨⟨cls, dd, data, sl⟩, ho, hc, n, hd⟩ := id hl
  obtain ⟨⟨cls2, dd2, data2, sl2⟩, ho2, hc2, n2, hd2⟩ := id hb
  simp only at hc hd hc2 hd2
  subst hc hd hc2 hd2
  exact call_meets F.slot_tuple_lt ⟨_, ho, rfl⟩ F.entry_tuple_lt (F.args_tuple_lt_2 _ _) (tuple_ltAt l b items items2 n n2 dd dd2 sl sl2 e r) ⟨ho, ho2, he, hr, h⟩
theorem oneLt_tup {f : Bool} {xs ys : List PyData} {a b : Value} {as bs : List Addr} {Q : Bool → Shared → Prop} (ra : Reads s.heap a (.tuple xs) as) (rb : Reads s.heap b (.tuple ys) bs) (h : alike (.tuple xs) (.tuple ys) = true)
    (hu : A.units + min (PyData.tuple xs).depth (PyData.tuple ys).depth < cLine) (hq : Q (dataLt (.tuple xs) (.tuple ys)) s) : wpAny (model prog w) A (oneLt' f a b) Q E s := by
  cases f with
  | false => exact PySem.W.oneLt_alike (fun z => by cases z) ra rb h (fun z => by cases z) hu hq
  | true =>
    have hal : alikeAll xs ys = true := by simpa [PySem.W.alike] using h
    cases ra with
    | @tuple l o vs n _ as₁ h1 h2 h3 h4 =>
      cases rb with
      | @tuple l' o' vs' n' _ bs₁ k1 k2 k3 k4 =>
        have n1 : vs.size = xs.length := by simpa using ReadsAll.length _ _ _ h4
        have n2 : vs'.size = ys.length := by simpa using ReadsAll.length _ _ _ k4
        rw [PySem.W.dataLt_tuple, ← PySem.W.firstLt_toks xs ys hal, ← n1, ← n2] at hq
        rw [oneLt'_eq]
        simp only [if_true]
        refine wpAny_bind (wpAny_cRoomFor (room_here hu) ?_)
        refine wpAny_bind (wpAny_callSpecialIfBound?_slot (T := "tuple") ⟨_, h1, h2⟩ F.slot_tuple_lt (call_tuple_ltX (e := pairEq xs ys) (r := fun j => dataLt (xs.getD j .none) (ys.getD j .none)) ⟨_, h1, h2, _, h3⟩ ⟨_, k1, k2, _, k3⟩ (fun j j1 j2 => ?_) (fun j j1 j2 hj => ?_) ?_))
        · have := PySem.W.eqAt_alikeAll xs ys A.in1 s vs.toList vs'.toList _ _ h4 k4 hal (room_in hu) j (by simpa using j1) (by simpa using j2)
          simpa using this
        · have := PySem.W.rcLt_alikeAll xs ys A.in1 s vs.toList vs'.toList _ _ h4 k4 hal (room_in hu) j (by simpa using j1) (by simpa using j2) hj
          simpa using this
        · exact wpAny_truthy_bool hq
end
section
variable {M : Model} {A : Around} {E : Value → Shared → Prop} {s : Shared}
/-- values that are tuples of these items -/
def TupIs (h : Heap) (v : Value) (xs : Array Value) : Prop := ∃ a o n, v = .ref a ∧ h.get? a = some o ∧ o.cls = .type "tuple" ∧ o.data = .seq xs n
theorem fst_tups : ∀ {vs : List Value} {xss : List (Array Value)} {Q : List (Option Value) → Shared → Prop}, EachIs (TupIs s.heap) vs xss → Q (xss.map fun xs => xs[0]?) s → wpAny M A (vs.mapM firstOfTuple') Q E s
  | _, _, _, .nil, h => by rw [List.mapM_nil]; exact wpAny_pure h
  | v :: vs, xs :: xss, Q, .cons ⟨a, o, n, e, ho, hc, hd⟩ t, h => by
    subst e
    rw [List.mapM_cons]
    refine wpAny_bind ?_
    rw [PySem.W.kas_first_eq]
    refine wpAny_bind (PySem.W.Looks.here (show PySem.W.Looks M s.heap (typeOf (.ref a)) o.cls from (PySem.W.Looks.ld ho).andThen .now) ?_)
    rw [hc, if_neg (by first | decide | simp)]
    refine wpAny_bind (listItems_at ho hd (wpAny_pure ?_))
    exact wpAny_bind (fst_tups (Q := fun bs s' => wpAny M A (pure (xs[0]? :: bs)) Q E s') t (wpAny_pure h))
theorem kind_tups {vs : List Value} {xss : List (Array Value)} (e : EachIs (TupIs s.heap) vs xss) (hn : ∃ xs ∈ xss, xs[0]? = none) : ∃ kd, (kd = oneType' ∨ kd = general') ∧ (2 ≤ vs.length → ∀ (E : Value → Shared → Prop) {Q : SortKind → Shared → Prop}, Q kd s → wpAny M A (keyKind' vs.toArray) Q E s) := by
  have hall : ¬ ((xss.map fun xs => xs[0]?).toArray.all fun x => x.isSome) = true := by
    obtain ⟨xs, h1, h2⟩ := hn
    simp only [List.all_toArray, List.all_map, List.all_eq_true]
    intro z
    have := z xs h1
    simp only [Function.comp, h2] at this
    cases this
  by_cases c : (((xss.map fun xs => xs[0]?).toArray)[0]?.bind id).isSome = true
  · refine ⟨_, .inr rfl, fun h2 E Q h => ?_⟩
    rw [keyKind'_eq, List.mapM_toArray, map_eq_pure_bind]
    refine wpAny_bind (wpAny_bind (fst_tups e (wpAny_pure ?_)))
    rw [if_neg hall, if_pos c]; exact wpAny_pure h
  · refine ⟨_, .inl rfl, fun h2 E Q h => ?_⟩
    rw [keyKind'_eq, List.mapM_toArray, map_eq_pure_bind]
    refine wpAny_bind (wpAny_bind (fst_tups e (wpAny_pure ?_)))
    rw [if_neg hall, if_neg c]
    rw [oneTypeOnly'_eq, List.mapM_toArray, map_eq_pure_bind]
    have tys : ∀ v ∈ vs, PySem.W.Looks M s.heap (typeOf v) (Value.type "tuple") := fun v hv => by
      obtain ⟨xs, _, a, o, n, e, ho, hc, hd⟩ := e.left v hv
      subst e
      exact hc ▸ (show PySem.W.Looks M s.heap (typeOf (.ref a)) o.cls from (PySem.W.Looks.ld ho).andThen .now)
    refine wpAny_bind (wpAny_bind (wpAny_bind (PySem.W.kas_mapM (r := Value.type "tuple") _ (fun v hv Q' hq => (tys v hv).here hq) (wpAny_pure ?_))))
    have hall : ((List.map (fun _ => Value.type "tuple") vs).toArray.all fun x => x == Value.type "tuple") = true := by
      simp only [List.all_toArray, List.all_map, List.all_eq_true]
      intro _ _
      rfl
    have h0 : (List.map (fun _ => Value.type "tuple") vs).toArray[0]? = some (Value.type "tuple") := by
      match vs, h2 with
      | v :: vs, _ => simp
    rw [h0]
    simp only [hall, if_true]
    exact wpAny_pure (wpAny_pure h)
end
section
variable {prog : Program} {w : World} {A : Around} {s : Shared}
theorem each_tups {h : Heap} : ∀ {vs : List Value} {ds : List PyData}, EachIs (fun v d => ∃ as, Reads h v d as) vs ds → (∀ d ∈ ds, ∃ xs, d = .tuple xs) → ∃ xss, EachIs (TupIs h) vs xss ∧ ((∃ d ∈ ds, d = .tuple []) → ∃ xs ∈ xss, xs[0]? = none)
  | _, _, .nil, _ => ⟨[], .nil, fun ⟨d, z, _⟩ => by cases z⟩
  | _, _, .cons (b := d) ⟨as, r⟩ t, ht => by
    obtain ⟨xss, h1, h2⟩ := each_tups t fun d hd => ht d (List.mem_cons_of_mem _ hd)
    obtain ⟨ys, rfl⟩ := ht d (List.mem_cons_self ..)
    cases r with
    | @tuple a o xs n _ _ ho hc hd hr =>
      refine ⟨xs :: xss, .cons ⟨a, o, n, rfl, ho, hc, hd⟩ h1, fun ⟨d, hm, e⟩ => ?_⟩
      rcases List.mem_cons.mp hm with z | z
      · rw [e] at z
        cases z
        have := ReadsAll.length _ _ _ hr
        refine ⟨xs, List.mem_cons_self .., ?_⟩
        rw [← Array.getElem?_toList, List.getElem?_eq_none]
        simpa using this
      · obtain ⟨x, g1, g2⟩ := h2 ⟨d, z, e⟩
        exact ⟨x, List.mem_cons_of_mem _ g1, g2⟩
/-- tuples, an empty one among them -/
theorem sortsAt_tups {vs : List Value} {ds : List PyData} (e : EachIs (fun v d => ∃ as, Reads s.heap v d as) vs ds) (hal : AllAlike ds) (ht : ∀ d ∈ ds, ∃ xs, d = .tuple xs) (hn : ∃ d ∈ ds, d = .tuple []) (hu : ∀ d, d ∈ ds → A.units + d.depth < cLine) : SortsAt prog w A s (dataKind s.heap ds) vs := by
  have room : ∀ {d d' : PyData}, d ∈ ds → A.units + min d.depth d'.depth < cLine := fun {d d'} hd => Nat.lt_of_le_of_lt (Nat.add_le_add_left (Nat.min_le_left _ _) _) (hu d hd)
  obtain ⟨xss, h1, h2⟩ := each_tups e ht
  have lt : ∀ f : Bool, ∀ kd : SortKind, (∀ x y, keyLt' kd x y = oneLt' f x y) → H.LtAt prog w A s (dataKind s.heap ds) kd := by
    intro f kd hk E x y a b Q ha hb hq
    obtain ⟨d, as, hd, ra, rfl⟩ := dataKind_inv ha
    obtain ⟨d', as', hd', rb, rfl⟩ := dataKind_inv hb
    rw [hk]
    obtain ⟨xs, rfl⟩ := ht d hd
    obtain ⟨ys, rfl⟩ := ht d' hd'
    exact oneLt_tup ra rb (hal _ hd _ hd') (room hd) hq
  refine ⟨fun v hv => ?_, ?_⟩
  · obtain ⟨d, hd, as, r⟩ := e.left v hv
    exact ⟨_, dataKind_some hal hd r⟩
  · obtain ⟨kd, z, k⟩ := kind_tups (M := model prog w) (A := A) h1 (h2 hn)
    refine ⟨kd, ?_, k⟩
    rcases z with rfl | rfl
    · exact lt true _ fun _ _ => rfl
    · exact lt false _ fun _ _ => rfl
end
end Sd
/-! repr, sorted, index, ranges as values, lists that grow -/
namespace Sd
open PySem PySem.Spec PyProof.Rows L2
section
variable {X : Cx} {p : Addr} {K : PySem.W.Frag} {c fr : Bool} {f g : Env → M D} {e : Expr}
/-! ### repr -/
mutual
theorem nod_nodict : ∀ {d : D}, nod d = true → d.hasDict = false
  | .none, _ => by simp [PyData.hasDict]
  | .bool _, _ => by simp [PyData.hasDict]
  | .int _, _ => by simp [PyData.hasDict]
  | .str _, _ => by simp [PyData.hasDict]
  | .list ds, h => by simp only [PyData.hasDict]; exact nodL_nodict (by simpa [nod] using h)
  | .tuple ds, h => by simp only [PyData.hasDict]; exact nodL_nodict (by simpa [nod] using h)
  | .dict _, h => by simp [nod] at h
theorem nodL_nodict : ∀ {ds : List D}, nodL ds = true → PyData.hasDictAll ds = false
  | [], _ => by simp [PyData.hasDictAll]
  | d :: ds, h => by
    simp only [nodL, Bool.and_eq_true] at h
    simp only [PyData.hasDictAll, nod_nodict h.1, nodL_nodict h.2, Bool.or_false]
end
def okR (d : D) : Bool := (isLT d && nod d) && (d.showable && (decide (d.depth ≤ 60) && decide (d.shown.length ≤ 1000000)))
where isLT : D → Bool
  | .list _ => true
  | .tuple _ => true
  | _ => false
def reprD : List D → Option D
  | [d] => if okR d = true then some (.str d.shown) else none
  | _ => none
def rReprD (K : PySem.W.Frag) : List V → Hp → VK → Prop := fun xs H Q => ∃ x d, xs = [x] ∧ Dp K H x d ∧ okR d = true ∧ Q (.str d.shown) H
theorem cr_repr (hg : X.A.guards = some []) (hu : X.A.units + 64 < cLine) : CallR X (.builtin "repr") (rReprD X.K) := by
  intro pins s σ H xs us Q I r h
  obtain ⟨x, d, rfl, hd, ok, q⟩ := h
  obtain ⟨u, rfl, ru⟩ := vals1 r
  obtain ⟨as, rd⟩ := Dp.reads I d x u hd ru
  unfold okR at ok
  simp only [Bool.and_eq_true, decide_eq_true_eq] at ok
  obtain ⟨⟨lt, nd⟩, sh, dp, ln⟩ := ok
  have go : ∀ a, u = .ref a → wpAny (model X.prog X.w) X.A (call (.builtin "repr") [u]) (EP X pins σ Q) X.xe s := fun a ea => by
    subst ea
    refine repr_of_reads' (h₀ := s.heap) rd sh (fun z => by rw [nod_nodict nd] at z; cases z) hg (by omega) (fun _ _ z => z) (fun h' t tk hk => ?_) (by have := sz6; omega)
    exact ⟨.str d.shown, H, I.kept hk, ⟨_, rfl⟩, q⟩
  cases d with
  | list ds => cases hd with | lst _ _ => cases ru; exact go _ rfl
  | tuple ds => cases hd with | tup _ _ => cases ru; exact go _ rfl
  | _ => cases lt
theorem ok_repr : OkN X.K p (rReprD X.K) reprD fr := fun F vs H B ds d Q hp nt hl r e q => by
  match ds with
  | [d1] =>
    have e' : (if okR d1 = true then some (PyData.str d1.shown) else none) = some d := e
    by_cases z : okR d1 = true
    · rw [if_pos z] at e'
      cases e'
      obtain ⟨v, rfl, h⟩ := resL1 r
      have nd : nod d1 = true := by
        unfold okR at z
        simp only [Bool.and_eq_true] at z
        exact z.1.2
      exact ⟨v, d1, rfl, h.dp hp nd, z, q _ _ (Same.refl _) rfl (fun _ z => by cases z)⟩
    · rw [if_neg z] at e'; cases e'
  | [] => cases e
  | _ :: _ :: _ => cases e
/-! ### sorted -/
open PySem.W (AllAlike Sortable EachIs dataLe alike)
def alikeB (ds : List D) : Bool := ds.all fun d => ds.all fun e => PySem.W.alike d e
def sortB (ds : List D) : Bool := (ds.all fun d => match d with | .tuple (_ :: _) => true | _ => false) || ((ds.all fun d => match d with | .none => false | .tuple _ => false | _ => true) || ((ds.all fun d => match d with | .tuple _ => true | _ => false) && ds.any fun d => match d with | .tuple [] => true | _ => false))
def okS (ds : List D) : Bool := alikeB ds && (sortB ds && (nodL ds && ds.all fun d => decide (d.depth ≤ 60)))
def leS : D → D → Bool := dataLe false (fun d : D => d)
/-- tuples, an empty one among them -/
def SortE (ds : List D) : Prop := (∀ d ∈ ds, ∃ xs, d = .tuple xs) ∧ ∃ d ∈ ds, d = .tuple []
theorem okS_some {ds : List D} (h : okS ds = true) : AllAlike ds ∧ (Sortable ds ∨ SortE ds) ∧ nodL ds = true ∧ ∀ d ∈ ds, d.depth ≤ 60 := by
  unfold okS at h
  simp only [Bool.and_eq_true] at h
  obtain ⟨h1, h2, h3, h4⟩ := h
  refine ⟨fun d hd e he => ?_, ?_, h3, fun d hd => by simpa using List.all_eq_true.mp h4 d hd⟩
  · exact List.all_eq_true.mp (List.all_eq_true.mp h1 d hd) e he
  · unfold sortB at h2
    rw [Bool.or_eq_true, Bool.or_eq_true] at h2
    rcases h2 with h2 | h2 | h2
    · refine .inl (.inl fun d hd => ?_)
      have z := List.all_eq_true.mp h2 d hd
      cases d with
      | tuple xs =>
        cases xs with
        | nil => cases z
        | cons x r => exact ⟨x, r, rfl⟩
      | _ => cases z
    · refine .inl (.inr fun d hd => ?_)
      have z := List.all_eq_true.mp h2 d hd
      cases d with
      | none => cases z
      | tuple _ => cases z
      | _ => exact ⟨fun z => (by cases z), fun xs z => (by cases z)⟩
    · rw [Bool.and_eq_true] at h2
      refine .inr ⟨fun d hd => ?_, ?_⟩
      · have z := List.all_eq_true.mp h2.1 d hd
        cases d with
        | tuple xs => exact ⟨xs, rfl⟩
        | _ => cases z
      · obtain ⟨d, hd, z⟩ := List.any_eq_true.mp h2.2
        refine ⟨d, hd, ?_⟩
        cases d with
        | tuple xs =>
          cases xs with
          | nil => rfl
          | cons x r => cases z
        | _ => cases z
def srt (ds : List D) : List D := ds.mergeSort leS
def sortedD : List D → Option D
  | [.list ds] => if okS ds = true then some (.list (srt ds)) else none
  | _ => none
/-- the values beside what they stand for -/
def srtV (xs : List V) (ds : List D) : List V := ((xs.zip ds).mergeSort (dataLe false (fun z : V × D => z.2))).map (·.1)
theorem srtV_data (xs : List V) (ds : List D) (h : xs.length = ds.length) : ((xs.zip ds).mergeSort (dataLe false (fun z : V × D => z.2))).map (·.2) = srt ds := by
  unfold srt leS
  rw [PySem.W.sort_maps (r := dataLe false (fun z : V × D => z.2)) (s := dataLe false (fun d : D => d)) (·.2) (fun _ _ _ _ => rfl), List.map_snd_zip (Nat.le_of_eq h.symm)]
def rSortedD (K : PySem.W.Frag) : List V → Hp → VK → Prop := fun vs H Q => ∃ (a : Addr) (xs : List V) (ds : List D), vs = [.ref a] ∧ SqL K H a xs ∧ DpAll K H xs ds ∧ okS ds = true ∧ ∀ l, H l = none → Q (.ref l) (upd H l (.lst (srtV xs ds)))
theorem dpAll_length : ∀ {xs : List V} {ds : List D} {H : Hp}, DpAll K H xs ds → xs.length = ds.length
  | _, _, _, .nil => rfl
  | _, _, _, .cons _ t => by rw [List.length_cons, List.length_cons, dpAll_length t]
theorem each_dp {pins : List (Addr × Obj)} {σ : L2.St} {H : Hp} {s : Shared} (I : Inv X pins σ H s) : ∀ {xs : List V} {ds : List D} {us : List Value}, DpAll X.K H xs ds → Vals xs us →
    EachIs (fun u (z : V × D) => RelV z.1 u ∧ ∃ as, Reads s.heap u z.2 as) us (xs.zip ds)
  | _, _, _, .nil, .nil => .nil
  | _, _, _, .cons h t, .cons r rt => .cons ⟨r, Dp.reads I _ _ _ h r⟩ (each_dp I t rt)
theorem each_vals {R : Value → V × D → Prop} (hR : ∀ u z, R u z → RelV z.1 u) : ∀ {us : List Value} {zs : List (V × D)}, EachIs R us zs → Vals (zs.map (·.1)) us
  | _, _, .nil => .nil
  | _, _, .cons h t => .cons (hR _ _ h) (each_vals hR t)
theorem sorted_data2 {β : Type} {prog : Program} {w : World} {A : Around} {s : Shared} {E : Value → Shared → Prop} {R : Value → β → Prop} {enc : β → PyData} {bs : List β} {vs : List Value} {l : Addr} {Q : Value → Shared → Prop} (hl : s.heap.IsList l vs.toArray) (e : EachIs R vs bs) (er : EachIs (fun v b => ∃ as, Reads s.heap v (enc b) as) vs bs) (hal : AllAlike (bs.map enc)) (hk : Sortable (bs.map enc) ∨ SortE (bs.map enc)) (hL : bs.length ≤ sizeLine)
    (hu : ∀ b, b ∈ bs → A.units + 2 + (enc b).depth < cLine) (h : ∀ out, out.length = bs.length → EachIs R out (bs.mergeSort (dataLe false enc)) → Q (.ref (s.heap.objs.size + 1)) { s with heap := sortedAll s.heap vs (List.toArray out) }) :
    wpAny (model prog w) A (call (.builtin "sorted") [.ref l]) Q E s := by
  rcases hk with hk | hk
  · exact PySem.W.sorted_data hl e er hal hk hL hu h
  · have er' : EachIs (fun v b => ∃ as, Reads (PySem.W.sortingHeap (PySem.W.copyHeap s.heap vs) (s.heap.objs.size + 1) vs) v (enc b) as) vs bs := er.mono fun _ _ ⟨as, r⟩ => ⟨as, PyProof.Rows.Reads.keeps (fun _ _ => PySem.W.sorting_copy_old) r⟩
    exact PySem.W.sorted_vals hl (sortsAt_tups (s := { s with heap := PySem.W.sortingHeap (PySem.W.copyHeap s.heap vs) (s.heap.objs.size + 1) vs }) (PySem.W.each_map (R := fun v d => ∃ as, Reads (PySem.W.sortingHeap (PySem.W.copyHeap s.heap vs) (s.heap.objs.size + 1) vs) v d as) enc er') hal hk.1 hk.2 (PySem.W.bound_map hu)) (by rw [e.length]; exact hL)
      (h _ (by rw [PySem.W.sortVals_length false rfl]; exact e.length) (PySem.W.sortVals_data false e er' hal))
theorem list_sort_data2 {β : Type} {prog : Program} {w : World} {A : Around} {s : Shared} {E : Value → Shared → Prop} {R : Value → β → Prop} {enc : β → PyData} {bs : List β} {vs : List Value} {a : Addr} {n : Nat} {Q : Value → Shared → Prop} (ho : s.heap.get? a = some (seqObj "list" vs.toArray n)) (e : EachIs R vs bs) (er : EachIs (fun v b => ∃ as, Reads s.heap v (enc b) as ∧ a ∉ as) vs bs) (hal : AllAlike (bs.map enc)) (hk : Sortable (bs.map enc) ∨ SortE (bs.map enc)) (hL : bs.length ≤ sizeLine)
    (hu : ∀ b, b ∈ bs → A.units + 1 + (enc b).depth < cLine) (h : ∀ out, out.length = bs.length → EachIs R out (bs.mergeSort (dataLe false enc)) → Q .none { s with heap := sortedHeap s.heap a vs (List.toArray out) }) :
    wpAny (model prog w) A (call (.builtin "list.sort") [.ref a]) Q E s := by
  rcases hk with hk | hk
  · exact PySem.W.list_sort_data ho e er hal hk hL hu h
  · have er' : EachIs (fun v b => ∃ as, Reads (PySem.W.sortingHeap s.heap a vs) v (enc b) as) vs bs := PySem.W.each_keepBut (h' := PySem.W.sortingHeap s.heap a vs) (fun _ _ hb q => PySem.W.sortingHeap_old hb q) (fun o q => by rw [ho] at q; rw [← Option.some.inj q]) hal er
    refine wpAny_call_entry slot_list_sort ⟨_, ho, rfl⟩ entry_list_sort (PySem.W.list_sort_vals (κ := PySem.W.dataKind (PySem.W.sortingHeap s.heap a vs) (bs.map enc)) ho (sortsAt_tups (s := { s with heap := PySem.W.sortingHeap s.heap a vs }) (PySem.W.each_map (R := fun v d => ∃ as, Reads (PySem.W.sortingHeap s.heap a vs) v d as) enc er') hal hk.1 hk.2 (PySem.W.bound_map hu)) (by rw [e.length]; exact hL) ⟨.none, rfl, ?_⟩) (args_list_sort _)
    exact h _ (by rw [PySem.W.sortVals_length false rfl]; exact e.length) (PySem.W.sortVals_data false e er' hal)
theorem cr_sortedD (hu : X.A.units + 70 < cLine) : CallR X (.builtin "sorted") (rSortedD X.K) := by
  intro pins s σ H vs us Q I r h
  obtain ⟨a, xs, ds, rfl, hs, hd, ok, q⟩ := h
  obtain ⟨hal, hso, nd, dp⟩ := okS_some ok
  obtain ⟨its, rv, pl, hz⟩ := I.list hs
  rw [Vals.ref1 r]
  have ln := dpAll_length hd
  have mm : (xs.zip ds).map (·.2) = ds := List.map_snd_zip (Nat.le_of_eq ln.symm)
  have ee := each_dp I hd rv
  refine sorted_data2 (R := fun u (z : V × D) => RelV z.1 u) (enc := (·.2)) (bs := xs.zip ds) (vs := its) pl.isList (ee.mono fun _ _ z => z.1) (ee.mono fun _ _ z => z.2) (by rw [mm]; exact hal) (by rw [mm]; exact hso)
    (by rw [List.length_zip]; omega) (fun b hb => by have := dp b.2 (by rw [← mm]; exact List.mem_map.mpr ⟨b, hb, rfl⟩); omega) fun out hlen eo => ?_
  obtain ⟨ep, he⟩ := PyProof.Rows.sortedAll_at s.heap its out.toArray
  have rl : Vals (srtV xs ds) out := each_vals (fun _ _ z => z) eo
  refine ⟨.ref _, upd H (s.heap.objs.size + 1) (.lst (srtV xs ds)), I.laid (t' := s.toks) (fun _ _ => PyProof.Rows.sortedAll_old) (Nat.le_succ _) ⟨?_, out, ep, rl, he⟩, rfl, q _ (I.hok.fresh (Nat.le_succ _))⟩
  rw [rl.length, hlen, List.length_zip]
  omega
theorem repL_zip {H : Hp} : ∀ {ds : List D} {xs : List V}, RepL K p ds H xs → ∀ z ∈ xs.zip ds, Rep K p z.2 H z.1
  | [], _, h, z, hz => by rw [show _ = [] from h] at hz; cases hz
  | d :: ds, _, h, z, hz => by
    obtain ⟨v, r, rfl, h1, h2⟩ := h
    rcases List.mem_cons.mp hz with e | e
    · rw [e]; exact h1
    · exact repL_zip h2 z e
theorem repL_of {H : Hp} : ∀ {zs : List (V × D)}, (∀ z ∈ zs, Rep K p z.2 H z.1) → RepL K p (zs.map (·.2)) H (zs.map (·.1))
  | [], _ => rfl
  | z :: zs, h => ⟨z.1, _, rfl, h z List.mem_cons_self, repL_of fun y hy => h y (List.mem_cons_of_mem _ hy)⟩
theorem rep_srt {H : Hp} {ds : List D} {xs : List V} (r : RepL K p ds H xs) : RepL K p (srt ds) H (srtV xs ds) := by
  rw [← srtV_data xs ds r.length]
  exact repL_of fun z hz => repL_zip r z ((List.mergeSort_perm _ _).mem_iff.mp hz)
theorem ok_sorted : OkN X.K p (rSortedD X.K) sortedD true := fun F vs H B ds d Q hp nt hl r e q => by
  unfold sortedD at e
  split at e
  · rename_i xs
    by_cases z : okS xs = true
    · rw [if_pos z] at e
      cases e
      obtain ⟨v, rfl, h⟩ := resL1 r
      obtain ⟨a, ws, rfl, _, h1, h2⟩ := h.lst hp
      exact ⟨a, ws, xs, rfl, .inl (.inl h1), RepL.dp (okS_some z).2.2.1 h2.out, z, fun l nl => q _ _ (same_upd nl) (rep_lst nt nl (rep_srt h2)) (fun _ => new_at nl)⟩
    · rw [if_neg z] at e; cases e
  · cases e
/-! ### tuple(range(..)), list(range(..)) -/
def rgD (a b : Int) : List D := (List.range (b - a).toNat).map fun i => .int (a + (i : Nat))
theorem rg_rep {H : Hp} (a b : Int) : RepL K p (rgD a b) H (rgV a b) := by
  refine RepL.of_get (by simp [rgD, rgV]) fun i d v e1 e2 => ?_
  unfold rgD at e1
  unfold rgV at e2
  rw [List.getElem?_map] at e1 e2
  cases z : (List.range (b - a).toNat)[i]? with
  | none => rw [z] at e1; cases e1
  | some j =>
    rw [z] at e1 e2
    cases e1; cases e2
    rfl
def rgT (f : Env → M D) : Env → M D := fun ρ => M.bind (f ρ) fun d => match d with
  | .int j => if 0 ≤ j ∧ j ≤ 1000000 then M.pure (.tuple (rgD 0 j)) else M.fail
  | _ => M.fail
def rgL (f : Env → M D) : Env → M D := fun ρ => M.bind (f ρ) fun d => match d with
  | .int j => if 0 ≤ j ∧ j ≤ 1000000 then M.pure (.list (rgD 0 j)) else M.fail
  | _ => M.fail
theorem rgT_some {mk : List D → D} {ρ : Env} {q q' : Pot} {d : D} (h : M.bind (f ρ) (fun d => match d with
  | .int j => if 0 ≤ j ∧ j ≤ 1000000 then M.pure (mk (rgD 0 j)) else M.fail
  | _ => M.fail) q = some (d, q')) : ∃ j, f ρ q = some (.int j, q') ∧ (0 ≤ j ∧ j ≤ 1000000) ∧ d = mk (rgD 0 j) := by
  obtain ⟨d1, q1, e1, h1⟩ := M.bind_some h
  clear h
  cases d1 with
  | int j =>
    dsimp only at h1
    by_cases c : 0 ≤ j ∧ j ≤ 1000000
    · rw [if_pos c] at h1
      obtain ⟨rfl, rfl⟩ := M.pure_some h1
      exact ⟨j, e1, c, rfl⟩
    · rw [if_neg c] at h1; cases h1
  | _ => cases h1
theorem d_tupRg {a : Expr} {np rp pos rpos : Pos} (hc : X.calm = true) (hg : Gl X "tuple") (hm : X.mg "tuple" = none) (hg2 : Gl X "range") (hm2 : X.mg "range" = none) (ha : DE X p a f c fr)
    (na : starEach [a] X.env = (false, eval a X.env) :: starEach [] X.env := by rfl) (nb : starEach [.Call (.Name "range" rp) [a] [] rpos] X.env = (false, eval (.Call (.Name "range" rp) [a] [] rpos) X.env) :: starEach [] X.env := by rfl) :
    DE X p (.Call (.Name "tuple" np) [.Call (.Name "range" rp) [a] [] rpos] [] pos) (rgT f) false true :=
  ⟨peHL (pe_tupRgO hc hg hm (prg_1 hg2 hm2 ha.pe na) nb) fun σ H Q hl t => by
    obtain ⟨F, ρ, B, q, d, q', k1, k2, k3⟩ := t hl
    obtain ⟨j, e1, ⟨h0, h1⟩, rfl⟩ := rgT_some (mk := .tuple) k2
    exact fun _ => ⟨F, ρ, B, q, _, q', k1, e1, fun v H1 l1 s1 p1 r1 _ => ⟨j, r1.cons.int, RgOk.of_le (by omega) (by omega) (by omega) h0, fun l o nl ho l' => k3 _ _ l' (s1.trans (Stp.of (same_upd nl))) (same_upd nl _ _ p1) (Res.of (rep_tup (k1.stp s1 p1).nt nl ho (rg_rep 0 j))) (fun _ z => by cases z)⟩⟩⟩
theorem d_lstRg {a : Expr} {np rp pos rpos : Pos} (hc : X.calm = true) (hg : Gl X "list") (hm : X.mg "list" = none) (hg2 : Gl X "range") (hm2 : X.mg "range" = none) (ha : DE X p a f c fr)
    (na : starEach [a] X.env = (false, eval a X.env) :: starEach [] X.env := by rfl) (nb : starEach [.Call (.Name "range" rp) [a] [] rpos] X.env = (false, eval (.Call (.Name "range" rp) [a] [] rpos) X.env) :: starEach [] X.env := by rfl) :
    DE X p (.Call (.Name "list" np) [.Call (.Name "range" rp) [a] [] rpos] [] pos) (rgL f) false true :=
  ⟨peHL (pe_listRg hc hg hm (prg_1 hg2 hm2 ha.pe na) nb) fun σ H Q hl t => by
    obtain ⟨F, ρ, B, q, d, q', k1, k2, k3⟩ := t hl
    obtain ⟨j, e1, ⟨h0, h1⟩, rfl⟩ := rgT_some (mk := .list) k2
    exact fun _ => ⟨F, ρ, B, q, _, q', k1, e1, fun v H1 l1 s1 p1 r1 _ => ⟨j, r1.cons.int, RgOk.of_le (by omega) (by omega) (by omega) h0, fun l nl l' => k3 _ _ l' (s1.trans (Stp.of (same_upd nl))) (same_upd nl _ _ p1) (Res.of (rep_lst (k1.stp s1 p1).nt nl (rg_rep 0 j))) (fun _ => new_of s1 p1 nl)⟩⟩⟩
end
end Sd
/-! sets of tuples of ints, up to 76 of them -/
namespace Sd
open PySem PySem.Spec PyProof.Rows L2
section
variable {pg : Program} {wd : World} {A : Around} {E : Value → Shared → Prop} {s : Shared}
/-- a set of tuples of ints: its table has at most 128 places -/
structure St8 (pg : Program) (wd : World) (h : Heap) (a : Addr) (L : List (Addr × List Int)) (es : Array (Int × Value)) (ep : Nat) (t : SetTable) : Prop where
  lies : ∃ o, h.get? a = some o ∧ o.ExactSet ∧ o.data = .set es ep t
  row : es.toList = rowsOf pg wd L
  tab : TabOk t (L.map fun z => thash pg wd z.2)
  once : (L.map (·.2)).Nodup
  tups : ∀ z ∈ L, IsT pg wd h z.2 z.1
  pln : t.plain = true
  ledd : wd.params.followText "set-order" = true ∨ t.led = true
  roomy : L.length * 5 < t.mask * 3
variable {a : Addr} {L : List (Addr × List Int)} {es : Array (Int × Value)} {ep : Nat} {t : SetTable}
theorem row_len {es : Array (Int × Value)} {L : List (Addr × List Int)} (h : es.toList = rowsOf pg wd L) : es.size = L.length := by
  have z := congrArg List.length h
  simpa [rowsOf] using z
theorem St8.size (R : St8 pg wd s.heap a L es ep t) : es.size = L.length := row_len R.row
theorem St8.places (R : St8 pg wd s.heap a L es ep t) : t.place.size = L.length := by simpa using R.tab.sz
theorem St8.few (R : St8 pg wd s.heap a L es ep t) : L.length ≤ 76 := by
  have z := R.roomy
  rcases R.tab.mok with e | e | e <;> rw [e] at z <;> omega
theorem fits_of (dm : t.dummies = #[]) (h1 : t.place.size = es.size) (h2 : es.size ≤ t.mask) : t.fits es.size = true := by
  have e : t.fill = t.place.size + 0 := by unfold SetTable.fill; rw [dm] <;> rfl
  unfold SetTable.fits
  simp only [Bool.and_eq_true, beq_iff_eq, decide_eq_true_eq]
  omega
theorem St8.fits (R : St8 pg wd s.heap a L es ep t) : t.fits es.size = true := fits_of R.tab.dm (by rw [R.places, R.size]) (by have := R.roomy; rw [R.size]; omega)
theorem St8.at_ (R : St8 pg wd s.heap a L es ep t) {i : Nat} {z : Addr × List Int} (h : L[i]? = some z) : es[i]? = some (thash pg wd z.2, Value.ref z.1) := by
  have e : es.toList[i]? = some (thash pg wd z.2, Value.ref z.1) := by
    rw [R.row]; unfold rowsOf; simp [List.getElem?_map, h]
  simpa using e
theorem St8.kept {h h' : Heap} (R : St8 pg wd h a L es ep t) (ka : ∀ o, h.get? a = some o → h'.get? a = some o) (kt : ∀ z ∈ L, IsT pg wd h' z.2 z.1) : St8 pg wd h' a L es ep t := by
  obtain ⟨o, ho, hx⟩ := R.lies
  exact ⟨⟨o, ka o ho, hx⟩, R.row, R.tab, R.once, kt, R.pln, R.ledd, R.roomy⟩
/-- where a search for the hash stands after n steps -/
abbrev pr (t : SetTable) (h : Int) (n : Nat) : SetTable.Probe := nth t.mask (t.probeStart h) n
theorem pr_way (t : SetTable) (h : Int) (n : Nat) : (pr t h n).j = way t.mask h n := rfl
theorem pr_add (t : SetTable) (h : Int) (n m : Nat) : nth t.mask (pr t h n) m = pr t h (n + m) := (nth_add t.mask n _ m).symm
theorem pr_dummy (t : SetTable) (h : Int) : ∀ n, (pr t h n).dummy = none
  | 0 => rfl
  | n + 1 => by
    have e : pr t h (n + 1) = adv t.mask (pr t h n) := nth_succ t.mask _ n
    rw [e]; unfold adv
    split
    · exact pr_dummy t h n
    · exact pr_dummy t h n
/-- the hashes as the model asks for them -/
abbrev hsh (es : Array (Int × Value)) : Nat → Int := fun i => (es[i]?.map (·.1)).getD 0
theorem seek (R : St8 pg wd s.heap a L es ep t) {x : Addr} {k : List Int} (hx : IsT pg wd s.heap k x) (hu : A.units < cLine) {n : Nat} (hn : n < 10 * SetTable.turns t.mask)
    (hfree : way t.mask (thash pg wd k) n ∉ t.place.toList) (hbusy : ∀ c, c < n → way t.mask (thash pg wd k) c ∈ t.place.toList) {Q : SetFound → Shared → Prop}
    (yes : k ∈ L.map (·.2) → Q (.there none) s) (no : k ∉ L.map (·.2) → Q (.free (way t.mask (thash pg wd k) n) false) s) :
    ∀ (fuel c : Nat) (from_ : Option SetTable.Probe), from_.getD (t.probeStart (thash pg wd k)) = pr t (thash pg wd k) c → c ≤ n → n - c < fuel →
      (∀ (i : Nat) z, L[i]? = some z → z.2 = k → ∃ m, c ≤ m ∧ m < n ∧ t.place.toList[i]? = some (way t.mask (thash pg wd k) m)) →
      wpAny (model pg wd) A (setSearchFrom a (.ref x) (thash pg wd k) true fuel from_) Q E s := by
  intro fuel
  induction fuel with
  | zero => exact fun c _ _ _ hf _ => absurd hf (Nat.not_lt_zero _)
  | succ fuel ih =>
    intro c from_ hst hc hf pend
    obtain ⟨o, ho, _, hd⟩ := R.lies
    have gaveNot : ¬ t.gaveWay = true := by unfold SetTable.gaveWay; rw [mask_odd R.tab.mok]; decide
    rw [setSearchFrom_succ]
    refine wpAny_bind (wpAny_setState_of ho hd R.fits ?_); dsimp only
    refine wp_if_neg gaveNot ?_
    try refine wpAny_bind (wpAny_pure ?_)
    have step : ∀ m, (nth t.mask (pr t (thash pg wd k) c) m).j = way t.mask (thash pg wd k) (c + m) := fun m => by rw [pr_add]; rfl
    have back : c + (n - c) = n := by omega
    have look := go_spec t R.tab.ris R.tab.dm (hsh es) (thash pg wd k) (10 * SetTable.turns t.mask) (n - c) (pr t (thash pg wd k) c) (pr_dummy t _ c) (by omega)
      (fun m hm => by rw [step]; exact hbusy _ (by omega)) (by rw [step, back]; exact hfree)
    have hshAt : ∀ (i : Nat) z, L[i]? = some z → hsh es i = thash pg wd z.2 := fun i z hz => by
      show (es[i]?.map (·.1)).getD 0 = _
      rw [R.at_ hz] <;> rfl
    have prob : t.probe (hsh es) (thash pg wd k) (from_.getD (t.probeStart (thash pg wd k))) = SetTable.probe.go t (hsh es) (thash pg wd k) (10 * SetTable.turns t.mask) (pr t (thash pg wd k) c) := by rw [hst] <;> rfl
    have passed : ∀ m i z, m < n - c ∨ True → L[i]? = some z → z.2 = k → hsh es i = thash pg wd k := fun _ i z _ hz e => by rw [hshAt i z hz, e]
    rcases look with ⟨m, i, hm, hi, hh, hno, hgo⟩ | ⟨hno, hgo⟩
    · rw [show t.probe (fun i => (es[i]?.map (·.1)).getD 0) (thash pg wd k) (from_.getD (t.probeStart (thash pg wd k))) = _ from prob.trans hgo]
      dsimp only
      rw [step] at hi
      have lt : i < L.length := by
        have z := (List.getElem?_eq_some_iff.mp hi).1
        rw [Array.length_toList, R.places] at z
        exact z
      obtain ⟨z, hz⟩ : ∃ z, L[i]? = some z := ⟨_, List.getElem?_eq_getElem lt⟩
      have hzL : z ∈ L := List.mem_of_getElem? hz
      have live : t.slot (way t.mask (thash pg wd k) (c + m)) = .live i := slot_live R.tab.ris hi
      have go2 : wpAny (model pg wd) A (searchRest a (.ref x) (thash pg wd k) true fuel es t (way t.mask (thash pg wd k) (c + m)) i (pr t (thash pg wd k) (c + (m + 1)))) Q E s := by
        unfold searchRest
        rw [R.at_ hz]
        refine wpAny_bind (wpAny_holding (wpAny_eqBool_tuple hu (R.tups z hzL) hx (wpAny_bind (wpAny_setState_of ho hd R.fits ?_))))
        dsimp only
        by_cases same : z.2 = k
        · exact wp_if_pos (by simp [same]) (wpAny_pure (yes (List.mem_map.mpr ⟨z, hzL, same⟩)))
        · refine wp_if_neg (by simp [same]) ?_
          try refine wpAny_bind (wpAny_pure ?_)
          rw [L2.sameMem]; dsimp only
          simp only [if_true, live, R.at_ hz]
          refine wpAny_bind (wpAny_isSame_ref_self (wpAny_bind (wpAny_pure ?_)))
          simp only [if_true]
          refine wp_if_neg (by simp [same]) (ih (c + (m + 1)) _ rfl (by omega) (by omega) fun j y hy ey => ?_)
          obtain ⟨r, r1, r2, r3⟩ := pend j y hy ey
          refine ⟨r, ?_, r2, r3⟩
          have ne1 : ¬ r < c + m := fun lt' => hno (r - c) j (by omega) (by rw [step, show c + (r - c) = r by omega]; exact r3) (passed 0 j y (.inr trivial) hy ey)
          have ne2 : r ≠ c + m := fun e => by
            rw [e] at r3
            have l2 := slot_live R.tab.ris r3
            rw [live] at l2
            cases l2
            rw [hz] at hy
            cases hy
            exact same ey
          omega
      have go3 : wpAny (model pg wd) A (searchRest a (.ref x) (thash pg wd k) true fuel es t (nth t.mask (pr t (thash pg wd k) c) m).j i (nth t.mask (pr t (thash pg wd k) c) (m + 1))) Q E s := by
        rw [step, pr_add]; exact go2
      by_cases hl : t.led = true
      · refine wp_if_neg (by simp [hl]) ?_
        try refine wpAny_bind (wpAny_pure ?_)
        exact go3
      · refine wp_if_pos (by simp [hl]) (wpAny_bind (seen_tup hx (fun y hy => ?_) ?_))
        · obtain ⟨e, he, rfl⟩ := List.mem_map.mp hy
          have he2 : e ∈ es.toList := by
            have z : e ∈ es ∧ e.1 = thash pg wd k := by simpa using he
            simpa using z.1
          rw [R.row] at he2
          obtain ⟨z2, hz2, rfl⟩ := List.mem_map.mp he2
          exact ⟨z2.2, z2.1, rfl, R.tups z2 hz2⟩
        · refine wp_if_neg (by decide) ?_
          try refine wpAny_bind (wpAny_pure ?_)
          exact go3
    · rw [show t.probe (fun i => (es[i]?.map (·.1)).getD 0) (thash pg wd k) (from_.getD (t.probeStart (thash pg wd k))) = _ from prob.trans hgo]
      dsimp only
      rw [step, back]
      refine wpAny_pure (no fun mem => ?_)
      obtain ⟨z, hz, ez⟩ := List.mem_map.mp mem
      obtain ⟨i, hi, e⟩ := List.getElem_of_mem hz
      have hi' : L[i]? = some z := by rw [List.getElem?_eq_getElem hi, e]
      obtain ⟨r, r1, r2, r3⟩ := pend i z hi' ez
      exact hno (r - c) i (by omega) (by rw [step, show c + (r - c) = r by omega]; exact r3) (passed 0 i z (.inr trivial) hi' ez)
theorem seek_add (R : St8 pg wd s.heap a L es ep t) {x : Addr} {k : List Int} (hx : IsT pg wd s.heap k x) (hu : A.units < cLine) {Q : SetFound → Shared → Prop} (yes : k ∈ L.map (·.2) → Q (.there none) s)
    (no : ∀ n, k ∉ L.map (·.2) → way t.mask (thash pg wd k) n ∉ t.place.toList → (∀ c, c < n → way t.mask (thash pg wd k) c ∈ t.place.toList) → Q (.free (way t.mask (thash pg wd k) n) false) s) :
    wpAny (model pg wd) A (setSearch a (.ref x) (thash pg wd k) true) Q E s := by
  have rm := R.roomy
  obtain ⟨n, h1, h2, h3⟩ := R.tab.first (by rw [List.length_map]; omega) (thash pg wd k)
  have small : n < 100000 := by
    have z : 10 * SetTable.turns t.mask ≤ 1420 := by unfold SetTable.turns; rcases R.tab.mok with e | e | e <;> rw [e] <;> decide
    omega
  refine seek R hx hu h1 h2 h3 yes (fun z => no n z h2 h3) 100000 0 none rfl (Nat.zero_le _) (by omega) fun i z hz e => ?_
  have lt : i < t.place.toList.length := by rw [Array.length_toList, R.places]; exact (List.getElem?_eq_some_iff.mp hz).1
  obtain ⟨m, m1, m2⟩ := R.tab.before h2 (i := i) (j := t.place.toList[i]) (by rw [List.getElem?_map, hz, ← e] <;> rfl) (List.getElem?_eq_getElem lt)
  exact ⟨m, Nat.zero_le _, m1, by rw [m2]; exact List.getElem?_eq_getElem lt⟩
/-- the table is laid anew -/
theorem relay8 {o : Obj} (ho : s.heap.get? a = some o) (hx : o.ExactSet) (hd : o.data = .set es ep t) (row : es.toList = rowsOf pg wd L) (hp : t.place.size = es.size) (dm : t.dummies = #[]) (hm : es.size ≤ t.mask) (once : (L.map (·.2)).Nodup)
    (tups : ∀ z ∈ L, IsT pg wd s.heap z.2 z.1) (pln : t.plain = true) (ledd : wd.params.followText "set-order" = true ∨ t.led = true) {want M : Nat} (hw : SetTable.sizeAbove want - 1 = M) (hM : MaskOk M) (h128 : SetTable.sizeAbove want ≤ 128)
    (roomy : L.length * 5 < M * 3) {Q : Unit → Shared → Prop} (k : ∀ h' L' es' ep' t', Heap.SameBut a s.heap h' → St8 pg wd h' a L' es' ep' t' → L'.Perm L → Q () { s with heap := h' }) : wpAny (model pg wd) A (setRelay a want) Q E s := by
  have len := row_len row
  obtain ⟨t', order, e, pm, tb, em, el, ep', ed⟩ := relaid_ok t (hs := es.map (·.1)) hw hM (by rw [Array.size_map]; omega)
  have pm' : order.toList.Perm (List.range L.length) := by rw [Array.size_map, len] at pm; exact pm
  obtain ⟨L', q1, q2, q3⟩ := order_rows L es order row pm'
  have hes : (order.filterMap (es[·]?)).size = es.size := by rw [row_len (pg := pg) (wd := wd) q1, q2.length_eq, len]
  have sb : Heap.SameBut a s.heap (s.heap.update a (Obj.putSet (order.filterMap (es[·]?)) t')) := Heap.SameBut.update ..
  have small : es.size ≤ sizeLine := by
    have z1 := sz6
    have z2 : L.length ≤ 76 := by rcases hM with c | c | c <;> rw [c] at roomy <;> omega
    omega
  rw [setRelay_eq]
  refine wpAny_bind (wpAny_setState_of ho hd (fits_of dm hp hm) ?_); dsimp only
  refine wp_if_neg (by have z := sz6; omega) ?_
  try refine wpAny_bind (wpAny_pure ?_)
  rw [e]; dsimp only
  refine wpAny_bind (wp_if_neg (by rw [hes]; simp) ?_)
  try refine wpAny_bind (wpAny_pure ?_)
  refine wpAny_pure ?_
  dsimp only
  refine wpAny_storeSet_of ho hd (k _ L' _ (ep + 1) t' sb ⟨⟨_, store_at ho hd, ⟨hx.1, hx.2.1, hx.2.2⟩, rfl⟩, q1, by rw [q3]; exact tb, (q2.map (·.2)).nodup_iff.mpr once, fun z hz => isT_same (tups z (q2.mem_iff.mp hz)) ho hd sb,
    by rw [ep']; exact pln, by rw [el]; exact ledd, by rw [q2.length_eq, em]; exact roomy⟩ q2) (by rw [hes]; exact small)
/-- one more -/
theorem add8 (R : St8 pg wd s.heap a L es ep t) {x : Addr} {k : List Int} (hx : IsT pg wd s.heap k x) (hu : A.units < cLine) (hfew : k ∉ L.map (·.2) → L.length < 76) {Q : Bool → Shared → Prop}
    (fin : ∀ b h' L' es' ep' t', Heap.SameBut a s.heap h' → St8 pg wd h' a L' es' ep' t' → (k ∈ L.map (·.2) → L' = L) → (k ∉ L.map (·.2) → L'.Perm ((x, k) :: L)) → Q b { s with heap := h' }) :
    wpAny (model pg wd) A (setAddHashed a (.ref x) (thash pg wd k)) Q E s := by
  obtain ⟨o, ho, hex, hd⟩ := R.lies
  have len := R.size
  have rm := R.roomy
  unfold setAddHashed
  refine wpAny_holding ?_
  rw [show (100000 : Nat) = 99999 + 1 from rfl, setAddHashedIn_succ]
  refine wpAny_bind (wpAny_setState_of ho hd R.fits ?_); dsimp only
  refine wp_if_neg (by simp [byScan, Value.scannable]) ?_
  try refine wpAny_bind (wpAny_pure ?_)
  refine wpAny_bind (seek_add R hx hu (fun mem => ?_) fun n nmem hn hb => ?_)
  · dsimp only
    exact wpAny_pure (fin false s.heap L es ep t (Heap.SameBut.refl a s.heap) R (fun _ => rfl) fun z => absurd mem z)
  · have hfew := hfew nmem
    dsimp only
    refine wpAny_bind (wpAny_setState_of ho hd R.fits ?_); dsimp only
    obtain ⟨q1, q2, q3, q4, q5, q6, q7, q8, q9⟩ := R.tab.put hn hb
    have pl1 : (t.put (way t.mask (thash pg wd k) n)).1.plain = true := by rw [q6]; exact R.pln
    generalize hput : t.put (way t.mask (thash pg wd k) n) = put at q1 q3 q4 q5 q6 q7 q8 q9 pl1 ⊢
    obtain ⟨t1, i⟩ := put
    dsimp only at q1 q3 q4 q5 q6 q7 q8 q9 pl1 ⊢
    subst q1
    first
      | (refine wpAny_bind ?_; refine wp_if_pos pl1 ?_; refine hashBy_tup hx ?_)
      | refine wp_if_pos pl1 (wpAny_bind (hashBy_tup hx ?_))
    simp only [if_true]
    generalize SetTable.below t.place (way t.mask (thash pg wd k) n) = i at q2 q3 ⊢
    have row1 : (SetTable.insertAt es i (thash pg wd k, Value.ref x)).toList = rowsOf pg wd (L.take i ++ (x, k) :: L.drop i) := by rw [SetTable.toList_insertAt, rows_put, R.row]
    have pm := put_perm L i (x, k)
    have len1 : (L.take i ++ (x, k) :: L.drop i).length = L.length + 1 := pm.length_eq
    have tab1 : TabOk t1 ((L.take i ++ (x, k) :: L.drop i).map fun z => thash pg wd z.2) := by
      rw [List.map_append, List.map_cons, List.map_take, List.map_drop]
      exact q3
    have once1 : ((L.take i ++ (x, k) :: L.drop i).map (·.2)).Nodup := (pm.map (·.2)).nodup_iff.mpr (by rw [List.map_cons]; exact List.nodup_cons.mpr ⟨nmem, R.once⟩)
    have es1 := row_len row1
    generalize SetTable.insertAt es i (thash pg wd k, Value.ref x) = es1' at row1 es1 ⊢
    generalize L.take i ++ (x, k) :: L.drop i = L1 at row1 pm len1 tab1 once1 es1
    have z6 := sz6
    refine wpAny_bind (wpAny_storeSet_of ho hd ?_ (by omega))
    have sb : Heap.SameBut a s.heap (s.heap.update a (Obj.putSet es1' t1)) := Heap.SameBut.update ..
    have ho1 := store_at (es' := es1') (t' := t1) ho hd
    generalize s.heap.update a (Obj.putSet es1' t1) = h1 at sb ho1 ⊢
    have tups1 : ∀ z ∈ L1, IsT pg wd h1 z.2 z.1 := fun z hz => by
      rcases List.mem_cons.mp (pm.mem_iff.mp hz) with c | c
      · rw [c]; exact isT_same hx ho hd sb
      · exact isT_same (R.tups z c) ho hd sb
    have led1 : wd.params.followText "set-order" = true ∨ t1.led = true := by rw [q5]; exact R.ledd
    have full_iff : t1.tooFull = decide ((L.length + 1) * 5 ≥ t1.mask * 3) := by unfold SetTable.tooFull; rw [q9, List.length_map]
    by_cases hf : t1.tooFull = true
    · first
        | (refine wpAny_bind ?_; refine wp_if_pos (by simp [hf]) ?_)
        | (refine wp_if_pos (by simp [hf]) ?_; refine wpAny_bind ?_)
      rw [full_iff, decide_eq_true_eq, q4] at hf
      have which : (t.mask = 7 ∧ L.length = 4) ∨ (t.mask = 31 ∧ L.length = 18) := by rcases R.tab.mok with c | c | c <;> rw [c] at hf rm ⊢ <;> omega
      have pl := tab1.sz
      rw [List.length_map, len1] at pl
      have anew : ∀ M, SetTable.sizeAbove (SetTable.grown (L.length + 1)) - 1 = M → MaskOk M → SetTable.sizeAbove (SetTable.grown (L.length + 1)) ≤ 128 → (L.length + 1) * 5 < M * 3 →
          wpAny (model pg wd) A (setRelay a (SetTable.grown (es.size + 1))) (fun _ s' => wpAny (model pg wd) A (pure true) Q E s') E { s with heap := h1 } := fun M e1 e2 e3 e4 => by
        rw [len]
        exact relay8 (s := { s with heap := h1 }) ho1 ⟨hex.1, hex.2.1, hex.2.2⟩ rfl row1 (by rw [pl, es1, len1]) tab1.dm (by rw [q4]; rcases which with ⟨c1, c2⟩ | ⟨c1, c2⟩ <;> omega) once1 tups1 pl1 led1 e1 e2 e3 (by rw [len1]; exact e4)
          fun h2 L2 es2 ep2 t2 sb2 R2 pm2 => wpAny_pure (fin true h2 L2 es2 ep2 t2 (sb.trans sb2) R2 (fun z => absurd z nmem) fun _ => pm2.trans pm)
      rcases which with ⟨_, c⟩ | ⟨_, c⟩
      · exact anew 31 (by rw [c, size_20]) (.inr (.inl rfl)) (by rw [c, size_20]; decide) (by omega)
      · exact anew 127 (by rw [c, size_76]) (.inr (.inr rfl)) (by rw [c, size_76]; decide) (by omega)
    · first
        | refine wp_if_neg (by simp [hf]) ?_
        | (refine wpAny_bind ?_; refine wp_if_neg (by simp [hf]) ?_; refine wpAny_pure ?_)
      refine wpAny_pure (fin true h1 L1 es1' (ep + 1) t1 sb ⟨⟨_, ho1, ⟨hex.1, hex.2.1, hex.2.2⟩, rfl⟩, row1, tab1, once1, tups1, pl1, led1, ?_⟩ (fun z => absurd z nmem) fun _ => pm)
      rw [full_iff, decide_eq_true_eq] at hf
      omega
/-- the keys are few -/
def Few (ks : List (Addr × List Int)) : Prop := ∀ l : List (List Int), l.Nodup → (∀ x ∈ l, x ∈ ks.map (·.2)) → l.length ≤ 76
theorem none_past {h : Heap} {b : Addr} (hb : h.objs.size ≤ b) : h.get? b = none := by
  cases e : h.get? b with
  | none => rfl
  | some o => exact absurd (Heap.lt_size e) (Nat.not_lt.mpr hb)
/-- the rest of the list goes in -/
theorem fill8 {I S : Addr} {fp wr : List Addr} {G : Array GenState → Array GenState → Prop} {n : Nat} {Y : Nat → Value → Prop} {St : Nat → Shared → Prop} {R : Result → Shared → Prop} (W : WalksS pg wd A.in1 I fp wr G n Y St) (hS : S ∉ fp)
    (ks : List (Addr × List Int)) (hn : n = ks.length) (hfew : Few ks) (items : ∀ i v, Y i v → ∃ z, ks[i]? = some z ∧ v = .ref z.1) (h0 : Heap) (h0t : ∀ z ∈ ks, IsT pg wd h0 z.2 z.1) (h0S : h0.get? S = none) (h0w : ∀ b ∈ wr, h0.get? b = none) (hu : A.in1.units < cLine)
    (done : ∀ s' L es ep t, Moved (S :: wr) G s s' → St8 pg wd s'.heap S L es ep t → Got ks n L → (∀ b o, h0.get? b = some o → s'.heap.get? b = some o) → R (.ok (.ret .none)) s') :
    ∀ (m i : Nat) (s1 : Shared), n - i = m → i ≤ n → St i s1 → Moved (S :: wr) G s s1 → (∀ b o, h0.get? b = some o → s1.heap.get? b = some o) → (∃ L es ep t, St8 pg wd s1.heap S L es ep t ∧ Got ks i L) →
      codeAny (model pg wd) A (.builtin "set.update.loop" ⟨[.ref S, .ref I], []⟩) R s1 := by
  have wide : ∀ b ∈ wr, b ∈ S :: wr := fun b hb => List.mem_cons_of_mem _ hb
  have Swr : S ∉ wr := fun c => hS (W.sub _ c)
  have old : ∀ {x y : Shared}, Moved wr G x y → (∀ b o, h0.get? b = some o → x.heap.get? b = some o) → ∀ b o, h0.get? b = some o → y.heap.get? b = some o := fun mv k b o e => mv.heap b o (fun c => by rw [h0w b c] at e; cases e) (k b o e)
  intro m
  induction m with
  | zero =>
    rintro i s1 e hi hst mv kp ⟨L, es, ep, t, hL, g⟩
    obtain rfl : i = n := by omega
    refine codeAny_builtin F.entry_set_update_loop ?_
    rw [Around.under_plainId F.plain_set_update_loop _]
    show wpAny _ A.in1 (pyNext (.ref I) >>= _) _ _ s1
    refine wpAny_bind (W.done s1 _ _ hst fun s2 mv2 => ?_)
    show wpAny _ A.in1 (ret Value.none) _ _ s2
    have kp2 := old mv2 kp
    exact wpAny_pure (done s2 L es ep t (Moved.trans W.gtrans mv (mv2.mono wide)) (hL.kept (fun o e => mv2.heap S o Swr e) fun z hz => isT_keep (h0t z (List.mem_of_mem_take (g.sub z hz))) kp2) g kp2)
  | succ m ih =>
    rintro i s1 e hi hst mv kp ⟨L, es, ep, t, hL, g⟩
    have lt : i < n := by omega
    refine codeAny_builtin F.entry_set_update_loop ?_
    rw [Around.under_plainId F.plain_set_update_loop _]
    show wpAny _ A.in1 (pyNext (.ref I) >>= _) _ _ s1
    refine wpAny_bind (W.item i s1 _ _ lt hst fun v s2 hv hst2 mv2 => ?_)
    obtain ⟨z, hz, rfl⟩ := items i v hv
    have kp2 := old mv2 kp
    have hL2 : St8 pg wd s2.heap S L es ep t := hL.kept (fun o e => mv2.heap S o Swr e) fun y hy => isT_keep (h0t y (List.mem_of_mem_take (g.sub y hy))) kp2
    have hx : IsT pg wd s2.heap z.2 z.1 := isT_keep (h0t z (List.mem_of_getElem? hz)) kp2
    show wpAny _ A.in1 (holding [Value.ref z.1] (setAdd S (.ref z.1)) >>= _) _ _ s2
    refine wpAny_bind (wpAny_holding ?_)
    unfold setAdd
    refine wpAny_holding (wpAny_bind (wpAny_pyHash_tuple hu hx (add8 (s := { s2 with toks := s2.toks + (z.2.length + 1) }) hL2 hx hu (fun c => ?_) fun b h3 L' es' ep' t' sb hL3 c1 c2 => ?_)))
    · have e := hfew (z.2 :: L.map (·.2)) (List.nodup_cons.mpr ⟨c, hL2.once⟩) fun x hx => by
        rcases List.mem_cons.mp hx with y | y
        · rw [y]; exact List.mem_map.mpr ⟨z, List.mem_of_getElem? hz, rfl⟩
        · obtain ⟨q, hq, rfl⟩ := List.mem_map.mp y
          exact List.mem_map.mpr ⟨q, List.mem_of_mem_take (g.sub q hq), rfl⟩
      rw [List.length_cons, List.length_map] at e
      exact e
    · have g' : Got ks (i + 1) L' := by
        by_cases c : z.2 ∈ L.map (·.2)
        · rw [c1 c]; exact g.same hz c
        · exact g.more hz (c2 c)
      have kp3 : ∀ b o, h0.get? b = some o → h3.get? b = some o := fun b o e => by
        rw [sb.2 b fun c => by rw [c, h0S] at e; cases e]
        exact kp2 b o e
      refine wpAny_pure ⟨plainId_quiet F.plain_set_update_loop _, ih (i + 1) _ (by omega) lt (W.frame _ s2 _ _ hst2 (Nat.le_add_right _ _) fun b hb o e => ?_) ?_ kp3 ⟨L', es', ep', t', hL3, g'⟩⟩
      · rw [sb.2 b fun c => hS (c ▸ hb)]; exact e
      · refine Moved.trans W.gtrans mv ((mv2.mono wide).then_heap (Nat.le_add_right _ _) fun b o hb e => ?_)
        rw [sb.2 b fun c => hb (by rw [c]; exact List.mem_cons_self)]; exact e
/-- an empty set's object -/
abbrev emptyS (wd : World) : Obj := { cls := .type "set", dict := none, data := .set #[] 0 (.fresh 0 0 (!wd.params.followText "set-order")) }
theorem st8_new {h : Heap} (ha : h.get? a = some (emptyS wd)) : St8 pg wd h a [] #[] 0 (.fresh 0 0 (!wd.params.followText "set-order")) := by
  refine ⟨⟨_, ha, ⟨rfl, rfl, rfl⟩, rfl⟩, rfl, ⟨.nil, rfl, rfl, .inl rfl, fun _ z => (by cases z), fun _ _ _ z => (by simp at z)⟩, .nil, fun _ z => (by cases z), rfl, ?_, (by show 0 * 5 < 7 * 3; decide)⟩
  show _ ∨ (!wd.params.followText "set-order") = true
  cases wd.params.followText "set-order" with
  | true => exact .inl rfl
  | false => exact .inr rfl
end
end Sd
/-! set(xs) -/
namespace Sd
open PySem PySem.Spec PyProof.Rows L2
section
variable {pg : Program} {wd : World} {A : Around} {E : Value → Shared → Prop} {s : Shared}
variable {a : Addr} {L : List (Addr × List Int)} {es : Array (Int × Value)} {ep : Nat} {t : SetTable}
/-- set(xs), xs a list, by what the loop leaves -/
theorem call_setG {l : Addr} {its : Array Value} {Z : Heap → Prop} {Q : Value → Shared → Prop} (hh : A.handled = none) (hl : s.heap.IsList l its) (hu : A.units + 3 < cLine)
    (loop : ∀ (A1 : Around) (I : Addr) (fp wr : List Addr) (G : Array GenState → Array GenState → Prop) (St : Nat → Shared → Prop) (s0 : Shared), WalksS pg wd A1.in1 I fp wr G its.size (fun i v => its[i]? = some v) St → s.heap.objs.size ∉ fp → (∀ b ∈ wr, s.heap.get? b = none) → A1.in1.units < cLine →
      St 0 s0 → s0.heap.get? s.heap.objs.size = some (emptyS wd) → (∀ b o, s.heap.get? b = some o → s0.heap.get? b = some o) → ∀ R : Result → Shared → Prop, (∀ s', Moved (s.heap.objs.size :: wr) G s0 s' → Z s'.heap → R (.ok (.ret .none)) s') →
      codeAny (model pg wd) A1 (.builtin "set.update.loop" ⟨[.ref s.heap.objs.size, .ref I], []⟩) R s0)
    (fin : ∀ (h' : Heap) (tk : Nat), Z h' → (∀ b o, s.heap.get? b = some o → h'.get? b = some o) → Q (.ref s.heap.objs.size) { s with heap := h', toks := tk }) :
    wpAny (model pg wd) A (call (.type "set") [.ref l]) Q E s := by
  obtain ⟨c, tl, hmro⟩ := F.called_set.mro
  have hmade := F.called_set.made
  have hsub := F.called_set.sub
  refine wpAny_call (codeAny_of_tree ?_)
  show wpAny _ _ (callAny (.type "set") _) _ _ _
  refine wpAny_pure ⟨Code.quiet_builtin _ (by decide +kernel), codeAny_builtin F.entry_type_call ?_⟩
  rw [Around.under_plain (weight_type_call_type "set" [.ref l] []) rfl]
  have h1 := F.called_set.notType
  have h2 := F.called_set.canCreate
  have h3 := F.typeCall_set_1 (.ref l)
  repeat (any_goals (first | assumption | wp_step))
  refine codeAny_mono (code_set_led1 (.ref l) (E := E) (Q₁ := fun u s1 => u = .ref s.heap.objs.size ∧ s1 = { s with heap := s.heap.push (emptyS wd) }) ⟨rfl, rfl⟩) fun r s1 hr => ?_
  match r, hr with
  | .error e, hr => exact hr
  | .ok .next, hr => exact hr.elim
  | .ok .brk, hr => exact hr.elim
  | .ok .cont, hr => exact hr.elim
  | .ok (.ret u), hr =>
    obtain ⟨rfl, rfl⟩ := hr
    have hS : (s.heap.push (emptyS wd)).get? s.heap.objs.size = some (emptyS wd) := Heap.get?_push_size _ rfl
    have hT : Shared.TypeIs { s with heap := s.heap.push (emptyS wd) } (.ref s.heap.objs.size) "set" := ⟨_, hS, rfl⟩
    have h4 := F.called_set.init.lookup
    have h5 := F.called_set.init.bind (.ref s.heap.objs.size)
    repeat (any_goals (first | assumption | wp_step))
    refine codeAny_mono (codeAny_call_builtin (R := wants (fun r s2 => r = .none ∧ ∃ h' tk, s2 = { s with heap := h', toks := tk } ∧ Z h' ∧ (∀ b o, s.heap.get? b = some o → h'.get? b = some o)) E)
      F.called_set.init.plain F.entry_set_init (check_set_init_1 hT ?_)) fun r2 s2 hr2 => ?_
    · obtain ⟨ob, hob, hcl, nl, hdl⟩ := hl
      obtain ⟨ocls, odict, odata, oslots⟩ := ob
      simp only at hcl hdl
      subst hcl; subst hdl
      have hob1 := Heap.get?_push_of_some (emptyS wd) hob
      have hls := F.sub_list_set
      have hlf := F.sub_list_frozenset
      have hne : (Value.type "list" == Value.type "dict") = false := by decide
      have hl1 : (s.heap.push (emptyS wd)).IsList l its := ⟨_, hob1, rfl, nl, rfl⟩
      unfold Builtin.«set.__init__» noKeywords Builtin.Frozenset.updateFrom
      generalize hPI : pyIter = PI
      wp_walk
      subst hPI
      refine wpAny_pyIter_list hl1 (wpAny_bind (wpAny_runValue ?_))
      have lS : l < s.heap.objs.size := Heap.lt_size hob
      have hh3 : A.in1.in1.in1.handled = none := by simp [hh]
      have sz : (s.heap.push (emptyS wd)).objs.size = s.heap.objs.size + 1 := Heap.size_push ..
      have nI : l ≠ (s.heap.push (emptyS wd)).objs.size := fun e => by rw [sz] at e; exact absurd lS (by rw [e]; exact Nat.not_lt.mpr (Nat.le_succ _))
      have nS : s.heap.objs.size ∉ [(s.heap.push (emptyS wd)).objs.size, l] := fun e => by
        rw [sz] at e
        rcases List.mem_cons.mp e with c | c
        · exact absurd c (Nat.ne_of_lt (Nat.lt_succ_self _))
        · exact absurd (List.mem_singleton.mp c) (Nat.ne_of_gt lS)
      have wrN : ∀ b ∈ [(s.heap.push (emptyS wd)).objs.size], s.heap.get? b = none := fun b hb => none_past (by rw [List.mem_singleton.mp hb, sz]; exact Nat.le_succ _)
      refine loop _ _ _ _ _ _ _ ((Walks.list hh3 _ l nI its).toS) nS wrN hu ⟨⟨_, Heap.get?_push_size _ rfl, rfl, rfl⟩, hl1.push _⟩ (Heap.get?_push_of_some _ hS) (fun b o e => Heap.get?_push_of_some _ (Heap.get?_push_of_some _ e)) _ fun s3 mv hz => ?_
      · obtain ⟨h', g2, d', tk', os'⟩ := s3
        have eg : g2 = s.gens := mv.gens
        have ed : d' = s.drawn := mv.drawn
        have eo : os' = s.os := mv.os
        subst eg; subst ed; subst eo
        refine wpAny_pure ?_
        show wpAny _ _ (ret Value.none) _ _ _
        refine wpAny_pure ⟨rfl, h', tk', rfl, hz, fun b o e => ?_⟩
        refine mv.heap b o (fun c => ?_) (Heap.get?_push_of_some _ (Heap.get?_push_of_some _ e))
        rcases List.mem_cons.mp c with c | c
        · rw [c, none_past (Nat.le_refl _)] at e; cases e
        · rw [wrN b c] at e; cases e
    · match r2, hr2 with
      | .error e, hr2 => exact hr2
      | .ok .next, hr2 => exact hr2.elim
      | .ok .brk, hr2 => exact hr2.elim
      | .ok .cont, hr2 => exact hr2.elim
      | .ok (.ret u), hr2 =>
        obtain ⟨rfl, h', tk, rfl, hz, kp⟩ := hr2
        repeat (any_goals (first | assumption | wp_step))
        exact fin _ _ hz kp
theorem call_set8 {l : Addr} {its : Array Value} (ks : List (Addr × List Int)) {Q : Value → Shared → Prop} (hh : A.handled = none) (hl : s.heap.IsList l its) (eits : its.toList = ks.map fun z => Value.ref z.1) (hk : ∀ z ∈ ks, IsT pg wd s.heap z.2 z.1) (hfew : Few ks) (hu : A.units + 3 < cLine)
    (fin : ∀ (h' : Heap) (tk : Nat) L es ep t, St8 pg wd h' s.heap.objs.size L es ep t → Got ks ks.length L → (∀ b o, s.heap.get? b = some o → h'.get? b = some o) → Q (.ref s.heap.objs.size) { s with heap := h', toks := tk }) :
    wpAny (model pg wd) A (call (.type "set") [.ref l]) Q E s := by
  have size : its.size = ks.length := by
    have z := congrArg List.length eits
    simpa using z
  refine call_setG (Z := fun h' => ∃ L es ep t, St8 pg wd h' s.heap.objs.size L es ep t ∧ Got ks ks.length L) hh hl hu (fun A1 I fp wr G St s0 W nS wrN hu1 st0 hS kp R hR => ?_) fun h' tk ⟨L, es, ep, t, h8, g⟩ kp => fin h' tk L es ep t h8 g kp
  refine fill8 (s := s0) W nS ks size hfew (fun i v hv => ?_) s.heap hk (none_past (Nat.le_refl _)) wrN hu1 (fun s3 L es ep t mv h8 g _ => hR s3 mv ⟨L, es, ep, t, h8, by rw [← size]; exact g⟩) (its.size - 0) 0 _ (by omega) (Nat.zero_le _) st0 ⟨fun b o _ e => e, W.grefl _, rfl, rfl, Nat.le_refl _⟩ kp ⟨[], #[], 0, _, st8_new hS, Got.zero ks⟩
  have q : its.toList[i]? = some v := by rw [Array.getElem?_toList]; exact hv
  rw [eits, List.getElem?_map] at q
  cases hq : ks[i]? with
  | none => rw [hq] at q; cases q
  | some z => rw [hq] at q; cases q; exact ⟨z, rfl, rfl⟩
/-- set(xs), xs a list of ints -/
theorem call_setI {l : Addr} {its : Array Value} (ns : List Int) {Q : Value → Shared → Prop} (hh : A.handled = none) (hl : s.heap.IsList l its) (hi : IntsAre its.toList ns) (hb : ns.length + 1 < scanBound) (hu : A.units + 3 < cLine)
    (fin : ∀ (h' : Heap) (tk c : Nat), SetR wd h' s.heap.objs.size (fun j => decide (j ∈ ns)) c → (∀ b o, s.heap.get? b = some o → h'.get? b = some o) → Q (.ref s.heap.objs.size) { s with heap := h', toks := tk }) :
    wpAny (model pg wd) A (call (.type "set") [.ref l]) Q E s := by
  have size : its.size = ns.length := by
    have z := IntsAre.length hi
    rwa [Array.length_toList] at z
  refine call_setG (Z := fun h' => ∃ c, SetR wd h' s.heap.objs.size (fun j => decide (j ∈ ns)) c) hh hl hu (fun A1 I fp wr G St s0 W nS wrN hu1 st0 hS kp R hR => ?_) fun h' tk ⟨c, h8⟩ kp => fin h' tk c h8 kp
  refine set_update_ints W s.heap.objs.size nS ns size hb (fun i v hv => ?_) (its.size - 0) 0 _ (by omega) (Nat.zero_le _) st0 ⟨0, Nat.le_refl 0, setR_new_at hS⟩ fun s3 c mv _ h8 => hR s3 mv ⟨c, h8⟩
  have lt : i < ns.length := by rw [← size]; exact (Array.getElem?_eq_some_iff.mp hv).1
  obtain ⟨t, e⟩ := PyProof.Rows.IntsAre.int_at hi i v (by rw [Array.getElem?_toList]; exact hv)
  exact ⟨ns[i], t, List.getElem?_eq_getElem lt, by rw [e, List.getD_eq_getElem?_getD, List.getElem?_eq_getElem lt] <;> rfl⟩
/-- set(xs), xs a tuple, by what the loop leaves -/
theorem call_setGT {l : Addr} {its : Array Value} {Z : Heap → Prop} {Q : Value → Shared → Prop} (hh : A.handled = none) (hl : s.heap.IsTuple l its) (hu : A.units + 3 < cLine)
    (loop : ∀ (A1 : Around) (I : Addr) (fp wr : List Addr) (G : Array GenState → Array GenState → Prop) (St : Nat → Shared → Prop) (s0 : Shared), WalksS pg wd A1.in1 I fp wr G its.size (fun i v => its[i]? = some v) St → s.heap.objs.size ∉ fp → (∀ b ∈ wr, s.heap.get? b = none) → A1.in1.units < cLine →
      St 0 s0 → s0.heap.get? s.heap.objs.size = some (emptyS wd) → (∀ b o, s.heap.get? b = some o → s0.heap.get? b = some o) → ∀ R : Result → Shared → Prop, (∀ s', Moved (s.heap.objs.size :: wr) G s0 s' → Z s'.heap → R (.ok (.ret .none)) s') →
      codeAny (model pg wd) A1 (.builtin "set.update.loop" ⟨[.ref s.heap.objs.size, .ref I], []⟩) R s0)
    (fin : ∀ (h' : Heap) (tk : Nat), Z h' → (∀ b o, s.heap.get? b = some o → h'.get? b = some o) → Q (.ref s.heap.objs.size) { s with heap := h', toks := tk }) :
    wpAny (model pg wd) A (call (.type "set") [.ref l]) Q E s := by
  obtain ⟨c, tl, hmro⟩ := F.called_set.mro
  have hmade := F.called_set.made
  have hsub := F.called_set.sub
  refine wpAny_call (codeAny_of_tree ?_)
  show wpAny _ _ (callAny (.type "set") _) _ _ _
  refine wpAny_pure ⟨Code.quiet_builtin _ (by decide +kernel), codeAny_builtin F.entry_type_call ?_⟩
  rw [Around.under_plain (weight_type_call_type "set" [.ref l] []) rfl]
  have h1 := F.called_set.notType
  have h2 := F.called_set.canCreate
  have h3 := F.typeCall_set_1 (.ref l)
  repeat (any_goals (first | assumption | wp_step))
  refine codeAny_mono (code_set_led1 (.ref l) (E := E) (Q₁ := fun u s1 => u = .ref s.heap.objs.size ∧ s1 = { s with heap := s.heap.push (emptyS wd) }) ⟨rfl, rfl⟩) fun r s1 hr => ?_
  match r, hr with
  | .error e, hr => exact hr
  | .ok .next, hr => exact hr.elim
  | .ok .brk, hr => exact hr.elim
  | .ok .cont, hr => exact hr.elim
  | .ok (.ret u), hr =>
    obtain ⟨rfl, rfl⟩ := hr
    have hS : (s.heap.push (emptyS wd)).get? s.heap.objs.size = some (emptyS wd) := Heap.get?_push_size _ rfl
    have hT : Shared.TypeIs { s with heap := s.heap.push (emptyS wd) } (.ref s.heap.objs.size) "set" := ⟨_, hS, rfl⟩
    have h4 := F.called_set.init.lookup
    have h5 := F.called_set.init.bind (.ref s.heap.objs.size)
    repeat (any_goals (first | assumption | wp_step))
    refine codeAny_mono (codeAny_call_builtin (R := wants (fun r s2 => r = .none ∧ ∃ h' tk, s2 = { s with heap := h', toks := tk } ∧ Z h' ∧ (∀ b o, s.heap.get? b = some o → h'.get? b = some o)) E)
      F.called_set.init.plain F.entry_set_init (check_set_init_1 hT ?_)) fun r2 s2 hr2 => ?_
    · obtain ⟨ob, hob, hcl, nl, hdl⟩ := hl
      obtain ⟨ocls, odict, odata, oslots⟩ := ob
      simp only at hcl hdl
      subst hcl; subst hdl
      have hob1 := Heap.get?_push_of_some (emptyS wd) hob
      have hls := F.sub_tuple_set
      have hlf := F.sub_tuple_frozenset
      have hne : (Value.type "tuple" == Value.type "dict") = false := by decide
      have hl1 : (s.heap.push (emptyS wd)).IsTuple l its := ⟨_, hob1, rfl, nl, rfl⟩
      unfold Builtin.«set.__init__» noKeywords Builtin.Frozenset.updateFrom
      generalize hPI : pyIter = PI
      wp_walk
      subst hPI
      refine wpAny_pyIter_tuple hl1 (wpAny_bind (wpAny_runValue ?_))
      have lS : l < s.heap.objs.size := Heap.lt_size hob
      have hh3 : A.in1.in1.in1.handled = none := by simp [hh]
      have sz : (s.heap.push (emptyS wd)).objs.size = s.heap.objs.size + 1 := Heap.size_push ..
      have nI : l ≠ (s.heap.push (emptyS wd)).objs.size := fun e => by rw [sz] at e; exact absurd lS (by rw [e]; exact Nat.not_lt.mpr (Nat.le_succ _))
      have nS : s.heap.objs.size ∉ [(s.heap.push (emptyS wd)).objs.size, l] := fun e => by
        rw [sz] at e
        rcases List.mem_cons.mp e with c | c
        · exact absurd c (Nat.ne_of_lt (Nat.lt_succ_self _))
        · exact absurd (List.mem_singleton.mp c) (Nat.ne_of_gt lS)
      have wrN : ∀ b ∈ [(s.heap.push (emptyS wd)).objs.size], s.heap.get? b = none := fun b hb => none_past (by rw [List.mem_singleton.mp hb, sz]; exact Nat.le_succ _)
      refine loop _ _ _ _ _ _ _ ((Walks.tuple hh3 _ l nI its).toS) nS wrN hu ⟨⟨_, Heap.get?_push_size _ rfl, rfl, rfl⟩, hl1.push _⟩ (Heap.get?_push_of_some _ hS) (fun b o e => Heap.get?_push_of_some _ (Heap.get?_push_of_some _ e)) _ fun s3 mv hz => ?_
      · obtain ⟨h', g2, d', tk', os'⟩ := s3
        have eg : g2 = s.gens := mv.gens
        have ed : d' = s.drawn := mv.drawn
        have eo : os' = s.os := mv.os
        subst eg; subst ed; subst eo
        refine wpAny_pure ?_
        show wpAny _ _ (ret Value.none) _ _ _
        refine wpAny_pure ⟨rfl, h', tk', rfl, hz, fun b o e => ?_⟩
        refine mv.heap b o (fun c => ?_) (Heap.get?_push_of_some _ (Heap.get?_push_of_some _ e))
        rcases List.mem_cons.mp c with c | c
        · rw [c, none_past (Nat.le_refl _)] at e; cases e
        · rw [wrN b c] at e; cases e
    · match r2, hr2 with
      | .error e, hr2 => exact hr2
      | .ok .next, hr2 => exact hr2.elim
      | .ok .brk, hr2 => exact hr2.elim
      | .ok .cont, hr2 => exact hr2.elim
      | .ok (.ret u), hr2 =>
        obtain ⟨rfl, h', tk, rfl, hz, kp⟩ := hr2
        repeat (any_goals (first | assumption | wp_step))
        exact fin _ _ hz kp
theorem call_set8T {l : Addr} {its : Array Value} (ks : List (Addr × List Int)) {Q : Value → Shared → Prop} (hh : A.handled = none) (hl : s.heap.IsTuple l its) (eits : its.toList = ks.map fun z => Value.ref z.1) (hk : ∀ z ∈ ks, IsT pg wd s.heap z.2 z.1) (hfew : Few ks) (hu : A.units + 3 < cLine)
    (fin : ∀ (h' : Heap) (tk : Nat) L es ep t, St8 pg wd h' s.heap.objs.size L es ep t → Got ks ks.length L → (∀ b o, s.heap.get? b = some o → h'.get? b = some o) → Q (.ref s.heap.objs.size) { s with heap := h', toks := tk }) :
    wpAny (model pg wd) A (call (.type "set") [.ref l]) Q E s := by
  have size : its.size = ks.length := by
    have z := congrArg List.length eits
    simpa using z
  refine call_setGT (Z := fun h' => ∃ L es ep t, St8 pg wd h' s.heap.objs.size L es ep t ∧ Got ks ks.length L) hh hl hu (fun A1 I fp wr G St s0 W nS wrN hu1 st0 hS kp R hR => ?_) fun h' tk ⟨L, es, ep, t, h8, g⟩ kp => fin h' tk L es ep t h8 g kp
  refine fill8 (s := s0) W nS ks size hfew (fun i v hv => ?_) s.heap hk (none_past (Nat.le_refl _)) wrN hu1 (fun s3 L es ep t mv h8 g _ => hR s3 mv ⟨L, es, ep, t, h8, by rw [← size]; exact g⟩) (its.size - 0) 0 _ (by omega) (Nat.zero_le _) st0 ⟨fun b o _ e => e, W.grefl _, rfl, rfl, Nat.le_refl _⟩ kp ⟨[], #[], 0, _, st8_new hS, Got.zero ks⟩
  have q : its.toList[i]? = some v := by rw [Array.getElem?_toList]; exact hv
  rw [eits, List.getElem?_map] at q
  cases hq : ks[i]? with
  | none => rw [hq] at q; cases q
  | some z => rw [hq] at q; cases q; exact ⟨z, rfl, rfl⟩
/-- set(xs), xs a tuple of ints -/
theorem call_setIT {l : Addr} {its : Array Value} (ns : List Int) {Q : Value → Shared → Prop} (hh : A.handled = none) (hl : s.heap.IsTuple l its) (hi : IntsAre its.toList ns) (hb : ns.length + 1 < scanBound) (hu : A.units + 3 < cLine)
    (fin : ∀ (h' : Heap) (tk c : Nat), SetR wd h' s.heap.objs.size (fun j => decide (j ∈ ns)) c → (∀ b o, s.heap.get? b = some o → h'.get? b = some o) → Q (.ref s.heap.objs.size) { s with heap := h', toks := tk }) :
    wpAny (model pg wd) A (call (.type "set") [.ref l]) Q E s := by
  have size : its.size = ns.length := by
    have z := IntsAre.length hi
    rwa [Array.length_toList] at z
  refine call_setGT (Z := fun h' => ∃ c, SetR wd h' s.heap.objs.size (fun j => decide (j ∈ ns)) c) hh hl hu (fun A1 I fp wr G St s0 W nS wrN hu1 st0 hS kp R hR => ?_) fun h' tk ⟨c, h8⟩ kp => fin h' tk c h8 kp
  refine set_update_ints W s.heap.objs.size nS ns size hb (fun i v hv => ?_) (its.size - 0) 0 _ (by omega) (Nat.zero_le _) st0 ⟨0, Nat.le_refl 0, setR_new_at hS⟩ fun s3 c mv _ h8 => hR s3 mv ⟨c, h8⟩
  have lt : i < ns.length := by rw [← size]; exact (Array.getElem?_eq_some_iff.mp hv).1
  obtain ⟨t, e⟩ := PyProof.Rows.IntsAre.int_at hi i v (by rw [Array.getElem?_toList]; exact hv)
  exact ⟨ns[i], t, List.getElem?_eq_getElem lt, by rw [e, List.getD_eq_getElem?_getD, List.getElem?_eq_getElem lt] <;> rfl⟩
theorem call_set8A {l : Addr} {its : Array Value} (ks : List (Addr × List Int)) {Q : Value → Shared → Prop} (hh : A.handled = none) (hl : s.heap.IsList l its ∨ s.heap.IsTuple l its) (eits : its.toList = ks.map fun z => Value.ref z.1) (hk : ∀ z ∈ ks, IsT pg wd s.heap z.2 z.1) (hfew : Few ks) (hu : A.units + 3 < cLine)
    (fin : ∀ (h' : Heap) (tk : Nat) L es ep t, St8 pg wd h' s.heap.objs.size L es ep t → Got ks ks.length L → (∀ b o, s.heap.get? b = some o → h'.get? b = some o) → Q (.ref s.heap.objs.size) { s with heap := h', toks := tk }) :
    wpAny (model pg wd) A (call (.type "set") [.ref l]) Q E s := by
  rcases hl with hl | hl
  · exact call_set8 ks hh hl eits hk hfew hu fin
  · exact call_set8T ks hh hl eits hk hfew hu fin
theorem call_setIA {l : Addr} {its : Array Value} (ns : List Int) {Q : Value → Shared → Prop} (hh : A.handled = none) (hl : s.heap.IsList l its ∨ s.heap.IsTuple l its) (hi : IntsAre its.toList ns) (hb : ns.length + 1 < scanBound) (hu : A.units + 3 < cLine)
    (fin : ∀ (h' : Heap) (tk c : Nat), SetR wd h' s.heap.objs.size (fun j => decide (j ∈ ns)) c → (∀ b o, s.heap.get? b = some o → h'.get? b = some o) → Q (.ref s.heap.objs.size) { s with heap := h', toks := tk }) :
    wpAny (model pg wd) A (call (.type "set") [.ref l]) Q E s := by
  rcases hl with hl | hl
  · exact call_setI ns hh hl hi hb hu fin
  · exact call_setIT ns hh hl hi hb hu fin
end
end Sd
/-! sorted(set(xs)) -/
namespace Sd
open PySem PySem.Spec PyProof.Rows L2
/-! ### orders of keys -/
def ded : List (List Int) → List (List Int)
  | [] => []
  | x :: r => if x ∈ r then ded r else x :: ded r
theorem mem_ded {x : List Int} : ∀ {l : List (List Int)}, x ∈ ded l ↔ x ∈ l
  | [] => Iff.rfl
  | y :: r => by
    unfold ded
    by_cases c : y ∈ r
    · rw [if_pos c, mem_ded]
      exact ⟨fun h => List.mem_cons_of_mem _ h, fun h => (List.mem_cons.mp h).elim (fun e => e ▸ c) id⟩
    · rw [if_neg c]
      simp only [List.mem_cons, mem_ded (l := r)]
theorem nodup_ded : ∀ l : List (List Int), (ded l).Nodup
  | [] => .nil
  | y :: r => by
    unfold ded
    by_cases c : y ∈ r
    · rw [if_pos c]; exact nodup_ded r
    · rw [if_neg c]; exact List.nodup_cons.mpr ⟨fun h => c (mem_ded.mp h), nodup_ded r⟩
def dedI : List Int → List Int
  | [] => []
  | x :: r => if x ∈ r then dedI r else x :: dedI r
theorem mem_dedI {x : Int} : ∀ {l : List Int}, x ∈ dedI l ↔ x ∈ l
  | [] => Iff.rfl
  | y :: r => by
    unfold dedI
    by_cases c : y ∈ r
    · rw [if_pos c, mem_dedI]
      exact ⟨fun h => List.mem_cons_of_mem _ h, fun h => (List.mem_cons.mp h).elim (fun e => e ▸ c) id⟩
    · rw [if_neg c]
      simp only [List.mem_cons, mem_dedI (l := r)]
theorem nodup_dedI : ∀ l : List Int, (dedI l).Nodup
  | [] => .nil
  | y :: r => by
    unfold dedI
    by_cases c : y ∈ r
    · rw [if_pos c]; exact nodup_dedI r
    · rw [if_neg c]; exact List.nodup_cons.mpr ⟨fun h => c (mem_dedI.mp h), nodup_dedI r⟩
def sortK (l : List (List Int)) : List (List Int) := l.mergeSort fun a b => decide (a ≤ b)
def sortI (l : List Int) : List Int := l.mergeSort fun a b => decide (a ≤ b)
theorem sortK_perm (l : List (List Int)) : (sortK l).Perm l := List.mergeSort_perm _ _
theorem sortI_perm (l : List Int) : (sortI l).Perm l := List.mergeSort_perm _ _
theorem sortK_pw (l : List (List Int)) : (sortK l).Pairwise (· ≤ ·) := by
  have h := List.pairwise_mergeSort (le := fun a b : List Int => decide (a ≤ b)) (fun a b c h1 h2 => by simp only [decide_eq_true_eq] at *; exact List.le_trans h1 h2) (fun a b => by
    simp only [Bool.or_eq_true, decide_eq_true_eq]; exact List.le_total a b) l
  exact h.imp fun h => by simpa using h
theorem sortI_pw (l : List Int) : (sortI l).Pairwise (· ≤ ·) := by
  have h := List.pairwise_mergeSort (le := fun a b : Int => decide (a ≤ b)) (fun a b c h1 h2 => by simp only [decide_eq_true_eq] at *; omega) (fun a b => by
    simp only [Bool.or_eq_true, decide_eq_true_eq]; omega) l
  exact h.imp fun h => by simpa using h
theorem sortK_of_perm {a b : List (List Int)} (h : a.Perm b) : sortK a = sortK b :=
  List.Perm.eq_of_pairwise (le := (· ≤ ·)) (fun _ _ _ _ h1 h2 => List.le_antisymm h1 h2) (sortK_pw a) (sortK_pw b) (((sortK_perm a).trans h).trans (sortK_perm b).symm)
theorem perm_of_mem {α : Type} [BEq α] [LawfulBEq α] {a b : List α} (ha : a.Nodup) (hb : b.Nodup) (h : ∀ x, x ∈ a ↔ x ∈ b) : a.Perm b := (List.perm_ext_iff_of_nodup ha hb).mpr h
theorem sortI_eq {a b : List Int} (ha : a.Pairwise (· < ·)) (h : ∀ x, x ∈ a ↔ x ∈ b) : a = sortI (dedI b) := by
  have na : a.Nodup := ha.imp fun h e => by omega
  exact List.Perm.eq_of_pairwise (le := (· ≤ ·)) (fun _ _ _ _ h1 h2 => by omega) (ha.imp fun h => by omega) (sortI_pw _) ((perm_of_mem na (nodup_dedI b) fun x => by rw [h, mem_dedI]).trans (sortI_perm _).symm)
/-! ### as data -/
def tupOf (k : List Int) : D := .tuple (k.map .int)
def keysOf : List D → Option (List (List Int))
  | [] => some []
  | .tuple ds :: r => match intsOf ds, keysOf r with
    | some k, some ks => some (k :: ks)
    | _, _ => none
  | _ => none
theorem leS_tup (a b : List Int) : leS (tupOf a) (tupOf b) = decide (a ≤ b) := by
  have e := PySem.W.dataLt_ints b a
  show (!PySem.W.dataLt (.tuple (b.map .int)) (.tuple (a.map .int))) = _
  rw [PySem.W.dataLt_tuple]
  unfold PySem.W.rowLt at e
  rw [e]
  by_cases h : b < a
  · have h' : ¬ a ≤ b := fun r => List.not_lt.mpr r h
    simp [h, h']
  · have h' : a ≤ b := List.not_lt.mp h
    simp [h, h']
theorem srt_tups (l : List (List Int)) : srt (l.map tupOf) = (sortK l).map tupOf := by
  unfold srt sortK
  rw [List.map_mergeSort fun a _ b _ => (leS_tup a b).symm]
theorem nodL_all : ∀ l : List D, nodL l = l.all nod
  | [] => rfl
  | x :: l => by simp only [nodL, List.all_cons, nodL_all l]
theorem okS_perm {a b : List D} (h : a.Perm b) (ok : okS b = true) : okS a = true := by
  unfold okS alikeB sortB at ok ⊢
  have e : ∀ f : D → Bool, a.all f = b.all f := fun f => List.Perm.all_eq h
  have e2 : ∀ f : D → Bool, a.any f = b.any f := fun f => List.Perm.any_eq h
  rw [nodL_all] at ok ⊢
  simp only [e, e2]
  exact ok
section
variable {pg : Program} {wd : World} {A : Around} {E : Value → Shared → Prop} {s : Shared}
variable {a : Addr} {L : List (Addr × List Int)} {es : Array (Int × Value)} {ep : Nat} {t : SetTable}
open PySem.W (AllAlike Sortable EachIs dataLe alike)
theorem each_refs {R : Value → Addr × List Int → Prop} : ∀ {L : List (Addr × List Int)}, (∀ z ∈ L, R (.ref z.1) z) → EachIs R (L.map fun z => Value.ref z.1) L
  | [], _ => .nil
  | z :: L, h => .cons (h z List.mem_cons_self) (each_refs fun y hy => h y (List.mem_cons_of_mem _ hy))
theorem refs_each : ∀ {us : List Value} {L : List (Addr × List Int)}, EachIs (fun u (z : Addr × List Int) => u = Value.ref z.1) us L → us = L.map fun z => Value.ref z.1
  | _, _, .nil => rfl
  | _, _, .cons h t => by rw [h, refs_each t] <;> rfl
/-- sorted(set) -/
theorem sorted8 (R : St8 pg wd s.heap a L es ep t) (hh : A.handled = none) (hu : A.units + 70 < cLine) (ok : okS ((L.map (·.2)).map tupOf) = true) {Q : Value → Shared → Prop}
    (fin : ∀ s' p (out : Array Value) (c : Nat) (L' : List (Addr × List Int)), (∀ b o, s.heap.get? b = some o → s'.heap.get? b = some o) → s'.gens = s.gens → s'.os = s.os → s.heap.objs.size ≤ p → s'.heap.get? p = some (seqObj "list" out c) → out.toList = L'.map (fun z => Value.ref z.1) →
      L'.Perm L → L'.map (·.2) = sortK (L.map (·.2)) → Q (.ref p) s') : wpAny (model pg wd) A (call (.builtin "sorted") [.ref a]) Q E s := by
  obtain ⟨o, ho, hex, hd⟩ := R.lies
  have few := R.few
  have z6 := sz6
  have es_len := R.size
  refine Calls.call_function_entry kind_sorted plain_sorted entry_sorted (args_sorted1 _) ?_
  unfold Builtin.«sorted»
  refine wpAny_bind (m := checkCount "sorted" 1 1 _) (wpAny_pure (wpAny_bind (collect_set (A := A.in1) hh ⟨o, ho, hex.1, hd⟩ R.fits (by unfold scanBound; omega) R.tab.ris R.ledd fun s1 vs kp hz g1 o1 pm => ?_)))
  rw [R.row, show (rowsOf pg wd L).map (·.2) = L.map fun z => Value.ref z.1 by unfold rowsOf; rw [List.map_map]; rfl] at pm
  obtain ⟨L1, e1, pm1⟩ : ∃ L1 : List (Addr × List Int), vs = L1.map (fun z => Value.ref z.1) ∧ L1.Perm L := by
    have key : ∀ (vs : List Value) (L : List (Addr × List Int)), vs.Perm (L.map fun z => Value.ref z.1) → ∃ L1 : List (Addr × List Int), vs = L1.map (fun z => Value.ref z.1) ∧ L1.Perm L := by
      intro vs
      induction vs with
      | nil =>
        intro L h
        have e : L = [] := by have := h.length_eq; simpa using this.symm
        exact ⟨[], rfl, by rw [e]⟩
      | cons v vs ih =>
        intro L h
        have hv : v ∈ L.map fun z => Value.ref z.1 := h.mem_iff.mp List.mem_cons_self
        obtain ⟨z, hz, rfl⟩ := List.mem_map.mp hv
        obtain ⟨L1, L2, rfl⟩ := List.append_of_mem hz
        have h2 : (Value.ref z.1 :: vs).Perm (Value.ref z.1 :: (L1 ++ L2).map fun z => Value.ref z.1) := h.trans (by
          rw [List.map_append, List.map_cons, List.map_append]; exact List.perm_middle)
        obtain ⟨L3, e3, p3⟩ := ih _ h2.cons_inv
        exact ⟨z :: L3, by rw [e3] <;> rfl, (p3.cons z).trans List.perm_middle.symm⟩
    exact key vs L pm
  subst e1
  have len1 : L1.length = L.length := pm1.length_eq
  refine wpAny_bind (wpAny_newList ?_ (by rw [List.length_map]; omega))
  have hl : (s1.heap.push (seqObj "list" (L1.map fun z => Value.ref z.1).toArray 0)).get? s1.heap.objs.size = some (seqObj "list" (L1.map fun z => Value.ref z.1).toArray 0) := Heap.get?_push_size _ rfl
  have rd : ∀ z ∈ L1, Reads (s1.heap.push (seqObj "list" (L1.map fun z => Value.ref z.1).toArray 0)) (.ref z.1) (tupOf z.2) [] := fun z hz => by
    obtain ⟨b, its, e, hT, hI⟩ := tupInts_of (isT_keep (R.tups z (pm1.mem_iff.mp hz)) fun b u e => Heap.get?_push_of_some _ (kp b u e))
    cases e
    exact reads_tuple_ints (vr := its.toList) (by simpa using hT) hI
  have eqm : L1.map (fun z => tupOf z.2) = (L1.map (·.2)).map tupOf := by rw [List.map_map]; rfl
  have ok1 : okS (L1.map fun z => tupOf z.2) = true := by rw [eqm]; exact okS_perm ((pm1.map _).map _) ok
  obtain ⟨hal, hso, _, dp⟩ := okS_some ok1
  refine wpAny_bind (wpAny_holding (list_sort_data2 (s := { s1 with heap := s1.heap.push (seqObj "list" (L1.map fun z => Value.ref z.1).toArray 0) }) (R := fun u (z : Addr × List Int) => u = Value.ref z.1) (enc := fun z => tupOf z.2) (bs := L1) hl (each_refs fun _ _ => rfl)
    (each_refs fun z hz => ⟨[], rd z hz, fun c => by cases c⟩) hal hso (by omega) (fun z hz => by have := dp (tupOf z.2) (List.mem_map.mpr ⟨z, hz, rfl⟩); show A.units + 1 + 1 + _ < _; omega) fun out hlen eo => ?_))
  have eo' := refs_each eo
  obtain ⟨c, hc⟩ := sortedHeap_at (vs := L1.map fun z => Value.ref z.1) (out := out.toArray) hl
  have pmS : (L1.mergeSort (dataLe false fun z : Addr × List Int => tupOf z.2)).Perm L1 := List.mergeSort_perm _ _
  refine wpAny_pure ⟨_, rfl, fin _ s1.heap.objs.size out.toArray c _ (fun b u e => ?_) g1 o1 hz hc (by simpa using eo') (pmS.trans pm1) ?_⟩
  · have z := kp b u e
    show (sortedHeap (s1.heap.push (seqObj "list" (L1.map fun z => Value.ref z.1).toArray 0)) s1.heap.objs.size (L1.map fun z => Value.ref z.1) out.toArray).get? b = some u
    rw [sortedHeap_old (Nat.ne_of_lt (Heap.lt_size z)) (by rw [size_push']; exact Nat.lt_succ_of_lt (Heap.lt_size z))]
    exact Heap.get?_push_of_some _ z
  · rw [← sortK_of_perm (pm1.map (·.2))]
    exact List.map_mergeSort (s := fun a b : List Int => decide (a ≤ b)) fun a _ b _ => leS_tup a.2 b.2
end
end Sd

namespace Sd
open PySem PySem.Spec PyProof.Rows L2
section
variable {X : Cx} {p : Addr} {K : PySem.W.Frag} {c fr : Bool} {f g : Env → M D} {e : Expr}
theorem few_of {ks : List (Addr × List Int)} (h : (ded (ks.map (·.2))).length ≤ 76) : Few ks := fun l nd sub => Nat.le_trans (List.Nodup.length_le_of_subset nd fun x hx => mem_ded.mpr (sub x hx)) h
where List.Nodup.length_le_of_subset : ∀ {a b : List (List Int)}, a.Nodup → (∀ x ∈ a, x ∈ b) → a.length ≤ b.length
  | [], _, _, _ => Nat.zero_le _
  | x :: a, b, h, s => by
    obtain ⟨h1, h2⟩ := List.nodup_cons.mp h
    have z := List.Nodup.length_le_of_subset (b := b.erase x) h2 fun y hy => (List.mem_erase_of_ne (fun e : y = x => h1 (e ▸ hy))).mpr (s y (List.mem_cons_of_mem _ hy))
    have hx := s x List.mem_cons_self
    rw [List.length_erase_of_mem hx] at z
    have hp : 0 < b.length := List.length_pos_of_mem hx
    rw [List.length_cons]
    omega
/-- a list or a tuple that is read -/
def SqA (K : PySem.W.Frag) (H : Hp) (a : Addr) (xs : List V) : Prop := SqL K H a xs ∨ SqT K H a xs
theorem inv_seqA {X : Cx} {pins : List (Addr × Obj)} {σ : L2.St} {H : Hp} {s : Shared} {a : Addr} {xs : List V} (I : L2.Inv X pins σ H s) (h : SqA X.K H a xs) : ∃ its, Vals xs its ∧ (s.heap.IsList a its.toArray ∨ s.heap.IsTuple a its.toArray) ∧ xs.length ≤ sizeLine := by
  rcases h with h | h
  · obtain ⟨its, r, pl, hz⟩ := I.list h
    exact ⟨its, r, .inl pl.isList, hz⟩
  · obtain ⟨its, r, pl, hz⟩ := I.tuple h
    exact ⟨its, r, .inr pl, hz⟩
/-- sorted(set(xs)), xs a list of ints, of tuples of ints -/
def tSrtSet (K : PySem.W.Frag) (ta : TE) : TE := fun σ H Q => ta σ H fun x H1 => ∃ l, x = V.ref l ∧
  ((∃ ns : List Int, SqA K H1 l (ns.map V.int) ∧ ns.length ≤ 4000 ∧ (dedI ns).length < 64 ∧ ∀ b, H1 b = none → Q (.ref b) (upd H1 b (.lst ((sortI (dedI ns)).map V.int)))) ∨
   (∃ ks : List (Addr × List Int), SqA K H1 l (ks.map fun z => V.ref z.1) ∧ (∀ z ∈ ks, SqT K H1 z.1 (z.2.map V.int)) ∧ (ded (ks.map (·.2))).length ≤ 76 ∧ okS ((ded (ks.map (·.2))).map tupOf) = true ∧
     ∀ (b : Addr) (L : List (Addr × List Int)), H1 b = none → (∀ z ∈ L, z ∈ ks) → L.map (·.2) = sortK (ded (ks.map (·.2))) → Q (.ref b) (upd H1 b (.lst (L.map fun z => V.ref z.1)))))
theorem same_shared {s s' : Shared} (o : s'.os = s.os) : s' = { s with heap := s'.heap, gens := s'.gens, drawn := s'.drawn, toks := s'.toks } := by
  cases s'
  cases s
  cases o
  rfl
theorem pe_srtSet {a : Expr} {ta : TE} {p1 p2 p3 pos : Pos} (hc : X.calm = true) (hu : X.A.units + 80 < cLine) (hg : Gl X "sorted") (hm : X.mg "sorted" = none) (hg2 : Gl X "set") (hm2 : X.mg "set" = none) (ha : PE X a ta)
    (na : starEach [a] X.env = (false, eval a X.env) :: starEach [] X.env := by rfl) : PE X (.Call (.Name "sorted" p1) [.Call (.Name "set" p2) [a] [] p3] [] pos) (tSrtSet X.K ta) := by
  constructor
  intro pins s σ H Q I h
  refine Call_ (ld_blt I hg hm PyProof.Rows.boot_sorted ?_)
  refine PyProof.Rows.callWith_builtin1 (PyProof.Rows.args_cons ?_ rfl) rfl rfl
  refine Call_ (ld_blt I hg2 hm2 PyProof.Rows.boot_set ?_)
  refine PyProof.Rows.callWith_type1 (PyProof.Rows.args_cons (thn (ha.run pins s σ H _ I h) fun v s1 ⟨x, H1, I1, r1, q1⟩ => PyProof.Rows.args_nil ?_) na) na rfl
  obtain ⟨l, rfl, q1⟩ := q1
  cases r1
  have fin : ∀ (h' : Heap) (tk : Nat) (s2 : Shared) (b : Addr) (xs : List V) (its : Array Value) (ep : Nat), (∀ b o, s1.heap.get? b = some o → h'.get? b = some o) → (∀ b o, h'.get? b = some o → s2.heap.get? b = some o) → s2.gens = s1.gens → s2.os = s1.os → h'.objs.size ≤ b →
      s2.heap.get? b = some (seqObj "list" its ep) → Vals xs its.toList → xs.length ≤ sizeLine → (∀ b, H1 b = none → Q (.ref b) (upd H1 b (.lst xs))) → EP X pins σ Q (.ref b) s2 := by
    intro h' tk s2 b xs its ep k1 k2 g2 o2 hb hl rv hz q
    have I2 : Inv X pins σ H1 { s1 with heap := h', toks := tk } := I1.kept k1
    have hn : H1 b = none := I2.hok.fresh hb
    have J : Inv X pins σ (upd H1 b (.lst xs)) { ({ s1 with heap := h', toks := tk } : Shared) with heap := s2.heap, gens := s2.gens, drawn := s2.drawn, toks := s2.toks } :=
      I2.call (ch := []) (Un.laid (h := h') k2 hb hn) (I2.hok.laid k2 hb ⟨hz, its.toList, ep, rv, hl⟩) (by rw [g2]; exact I2.bare) (fun _ z => nomatch z)
    rw [same_shared o2]
    exact ⟨.ref b, _, J, rfl, q b hn⟩
  rcases q1 with ⟨ns, hq, hlen, hded, q⟩ | ⟨ks, hq, ht, h76, hok, q⟩
  · obtain ⟨its, r, pl, hz⟩ := inv_seqA I1 hq
    refine call_setIA ns (I1.ok.hd hc) pl (by simpa using ints_of_vals r) (by unfold scanBound; omega) (by omega) fun h' tk c R kp => PyProof.Rows.args_nil ?_
    have mem : ∀ (l : List Int), l.Pairwise (· < ·) → (∀ k, k ∈ l ↔ decide (k ∈ ns) = true) → l = sortI (dedI ns) := fun l pw hk => sortI_eq pw fun x => by rw [hk]; simp
    have small : c < 64 := by
      obtain ⟨o, es, ep, t, ho, hex, hd, gd, nd, hm, hb, hf, hn, hr, hl⟩ := R
      have e : (es.toList.map keyOf).length = c := by rw [List.length_map, Array.length_toList, hn]
      rw [← e]
      have pp : (es.toList.map keyOf).Perm (dedI ns) := perm_of_mem nd (nodup_dedI ns) fun x => by rw [← hm, mem_dedI]; simp
      rw [pp.length_eq]
      exact hded
    refine sorted_set (s := { s1 with heap := h', toks := tk }) R (I1.ok.hd hc) small fun s2 b out ep l k2 g2 o2 hb hl hi pw hk hn => ?_
    have e := mem l pw hk
    refine fin h' tk s2 b (l.map V.int) out ep kp k2 g2 o2 hb hl (L2.vals_of_ints hi) (by have := sz6; rw [List.length_map, hn]; omega) ?_
    rw [e]; exact q
  · obtain ⟨its, r, pl, hz⟩ := inv_seqA I1 hq
    refine call_set8A (pg := X.prog) (wd := X.w) ks (I1.ok.hd hc) pl (by simpa using refs_of_vals r) (fun z hz => I1.isT (ht z hz)) (few_of h76) (by omega) fun h' tk L es ep t R g kp => PyProof.Rows.args_nil ?_
    have sub : ∀ z ∈ L, z ∈ ks := fun z hz => List.mem_of_mem_take (g.sub z hz)
    have pm : (L.map (·.2)).Perm (ded (ks.map (·.2))) := perm_of_mem R.once (nodup_ded _) fun x => by
      rw [mem_ded]
      constructor
      · intro hx
        obtain ⟨z, hz, rfl⟩ := List.mem_map.mp hx
        exact List.mem_map.mpr ⟨z, sub z hz, rfl⟩
      · intro hx
        obtain ⟨z, hz, rfl⟩ := List.mem_map.mp hx
        exact g.all z (by rw [List.take_length]; exact hz)
    refine sorted8 (s := { s1 with heap := h', toks := tk }) R (I1.ok.hd hc) (by show X.A.units + 70 < _; omega) (okS_perm (pm.map tupOf) hok) fun s2 b out ep L' k2 g2 o2 hb hl eo pL eK => ?_
    refine fin h' tk s2 b (L'.map fun z => V.ref z.1) out ep kp k2 g2 o2 hb hl (by rw [eo]; exact vals_of_refs L') (by have := sz6; have := St8.few (s := { s1 with heap := h', toks := tk }) R; rw [List.length_map, pL.length_eq]; omega) fun b hb => q b L' hb (fun z hz => sub z (pL.mem_iff.mp hz)) (by rw [eK]; exact sortK_of_perm pm)
/-! over data -/
def srtSetD : D → Option D
  | .list ds => match intsOf ds with
    | some ns => if ns.length ≤ 4000 ∧ (dedI ns).length < 64 then some (.list ((sortI (dedI ns)).map .int)) else none
    | none => match keysOf ds with
      | some ks => if (ded ks).length ≤ 76 ∧ okS ((ded ks).map tupOf) = true then some (.list ((sortK (ded ks)).map tupOf)) else none
      | none => none
  | .tuple ds => match intsOf ds with
    | some ns => if ns.length ≤ 4000 ∧ (dedI ns).length < 64 then some (.list ((sortI (dedI ns)).map .int)) else none
    | none => match keysOf ds with
      | some ks => if (ded ks).length ≤ 76 ∧ okS ((ded ks).map tupOf) = true then some (.list ((sortK (ded ks)).map tupOf)) else none
      | none => none
  | _ => none
theorem srtSetD_tup (ds : List D) : srtSetD (.tuple ds) = srtSetD (.list ds) := rfl
theorem rep_ints {H : Hp} : ∀ ns : List Int, RepL K p (ns.map .int) H (ns.map V.int)
  | [] => rfl
  | n :: ns => ⟨.int n, _, rfl, rfl, rep_ints ns⟩
theorem ints_map : ∀ {ds : List D} {ns : List Int}, intsOf ds = some ns → ds = ns.map .int
  | [], _, e => by cases e; rfl
  | d :: ds, ns, e => by
    cases d with
    | int i =>
      have e' : (intsOf ds).map (i :: ·) = some ns := e
      cases z : intsOf ds with
      | none => rw [z] at e'; cases e'
      | some ms => rw [z] at e'; cases e'; rw [ints_map z]; rfl
    | _ => cases e
theorem keys_rep {H : Hp} : ∀ {ds : List D} {kk : List (List Int)} {ws : List V}, keysOf ds = some kk → RepL K p ds H ws → ∃ ks : List (Addr × List Int), ks.map (·.2) = kk ∧ ws = ks.map (fun z => V.ref z.1) ∧ ∀ z ∈ ks, Rep K p (tupOf z.2) H (.ref z.1)
  | [], _, _, e, r => by cases e; exact ⟨[], rfl, r, fun _ z => by cases z⟩
  | d :: ds, kk, _, e, r => by
    obtain ⟨v, vr, rfl, h1, h2⟩ := r
    cases d with
    | tuple xs =>
      have e' : (match intsOf xs, keysOf ds with
        | some k, some ks => some (k :: ks)
        | _, _ => none) = some kk := e
      cases z1 : intsOf xs with
      | none => rw [z1] at e'; cases e'
      | some k =>
        cases z2 : keysOf ds with
        | none => rw [z1, z2] at e'; cases e'
        | some ks =>
          rw [z1, z2] at e'; cases e'
          obtain ⟨L, e1, e2, e3⟩ := keys_rep z2 h2
          have h1' := h1
          obtain ⟨a, vs, rfl, _, _⟩ := h1
          refine ⟨(a, k) :: L, by rw [List.map_cons, e1], by rw [List.map_cons, e2], fun z hz => ?_⟩
          rcases List.mem_cons.mp hz with c | c
          · rw [c]; unfold tupOf; rw [← ints_map z1]; exact h1'
          · exact e3 z c
    | _ => cases e
theorem repL_refs {H : Hp} : ∀ {L : List (Addr × List Int)}, (∀ z ∈ L, Rep K p (tupOf z.2) H (.ref z.1)) → RepL K p ((L.map (·.2)).map tupOf) H (L.map fun z => V.ref z.1)
  | [], _ => rfl
  | z :: L, h => ⟨.ref z.1, _, rfl, h z List.mem_cons_self, repL_refs fun y hy => h y (List.mem_cons_of_mem _ hy)⟩
theorem d_srtSet {a : Expr} {c1 f1 : Bool} {p1 p2 p3 pos : Pos} (hc : X.calm = true) (hu : X.A.units + 80 < cLine) (hg : Gl X "sorted") (hm : X.mg "sorted" = none) (hg2 : Gl X "set") (hm2 : X.mg "set" = none) (ha : DE X p a f c1 f1)
    (na : starEach [a] X.env = (false, eval a X.env) :: starEach [] X.env := by rfl) : DE X p (.Call (.Name "sorted" p1) [.Call (.Name "set" p2) [a] [] p3] [] pos) (ap1 srtSetD f) false true :=
  ⟨peHL (pe_srtSet hc hu hg hm hg2 hm2 ha.pe na) fun σ H Q hl t => by
    obtain ⟨F, ρ, B, q, d, q', k1, k2, k3⟩ := t hl
    obtain ⟨d1, q1, e1, k2⟩ := M.bind_some k2
    obtain ⟨e2, rfl⟩ := M.of_some k2
    refine fun _ => ⟨F, ρ, B, q, d1, _, k1, e1, fun x H1 l1 s1 p1 r1 _ => ?_⟩
    have nt := (k1.stp s1 p1).nt
    obtain ⟨ds, l, ws, e2, rfl, h1, h2⟩ : ∃ ds l ws, srtSetD (.list ds) = some d ∧ x = .ref l ∧ SqA X.K H1 l ws ∧ RepL X.K p ds (hide H1 B) ws := by
      cases d1 with
      | list ds =>
        obtain ⟨l, ws, rfl, _, h1, h2⟩ := r1.cons.lst k1.pB
        exact ⟨ds, l, ws, e2, rfl, .inl (.inl (.inl h1)), h2⟩
      | tuple ds =>
        obtain ⟨l, ws, rfl, h1, h2⟩ := r1.cons.tup
        exact ⟨ds, l, ws, e2, rfl, .inr h1.sq, h2⟩
      | _ => cases e2
    · refine ⟨l, rfl, ?_⟩
      unfold srtSetD at e2
      dsimp only at e2
      cases z : intsOf ds with
      | some ns =>
        rw [z] at e2
        dsimp only at e2
        by_cases ok : ns.length ≤ 4000 ∧ (dedI ns).length < 64
        · rw [if_pos ok] at e2
          cases e2
          have ew := intsOf_rep z h2
          subst ew
          exact .inl ⟨ns, h1, ok.1, ok.2, fun b nb l' => k3 _ _ l' (s1.trans (Stp.of (same_upd nb))) (same_upd nb _ _ p1) (rep_lst nt nb (rep_ints _)) (fun _ => new_of s1 p1 nb)⟩
        · rw [if_neg ok] at e2; cases e2
      | none =>
        rw [z] at e2
        dsimp only at e2
        cases z2 : keysOf ds with
        | none => rw [z2] at e2; cases e2
        | some kk =>
          rw [z2] at e2
          dsimp only at e2
          by_cases ok : (ded kk).length ≤ 76 ∧ okS ((ded kk).map tupOf) = true
          · rw [if_pos ok] at e2
            cases e2
            obtain ⟨ks, rfl, rfl, h3⟩ := keys_rep z2 h2
            refine .inr ⟨ks, h1, fun z hz => ?_, ok.1, ok.2, fun b L nb sub eL l' => k3 _ _ l' (s1.trans (Stp.of (same_upd nb))) (same_upd nb _ _ p1) ?_ (fun _ => new_of s1 p1 nb)⟩
            · obtain ⟨a, vs, ea, g1, g2⟩ := Rep.out (h3 z hz)
              cases ea
              have ev := intsOf_rep (ns := z.2) (by
                have key : ∀ l : List Int, intsOf (l.map .int) = some l := fun l => by
                  induction l with
                  | nil => rfl
                  | cons n l ih => show (intsOf (l.map .int)).map (n :: ·) = _; rw [ih]; rfl
                exact key z.2) g2
              rw [ev] at g1
              exact g1.sq
            · have r := repL_refs (L := L) fun z hz => h3 z (sub z hz)
              rw [eL] at r
              exact rep_lst nt nb r
          · rw [if_neg ok] at e2; cases e2⟩
end
end Sd
/-! sum(lists, []) -/
namespace Sd
open PySem PySem.Spec PyProof.Rows L2
section
variable {pg : Program} {wd : World} {A : Around} {E : Value → Shared → Prop} {s : Shared}
abbrev lstO (vs : List Value) (n : Nat) : Obj := { cls := .type "list", data := .seq vs.toArray n }
/-- the items of the lists, one list behind another -/
def catV (ls : List (Addr × List Value)) : List Value := (ls.map (·.2)).flatten
theorem catV_snoc {ls : List (Addr × List Value)} {i : Nat} {z : Addr × List Value} (h : ls[i]? = some z) : catV (ls.take (i + 1)) = catV (ls.take i) ++ z.2 := by
  unfold catV
  rw [List.take_succ, h]
  simp
theorem catV_le {ls : List (Addr × List Value)} (i : Nat) : (catV (ls.take i)).length ≤ (catV ls).length := by
  conv => rhs; rw [← List.take_append_drop i ls]
  unfold catV
  rw [List.map_append, List.flatten_append, List.length_append]
  omega
theorem sumL_loop {I S : Addr} {fp wr : List Addr} {G : Array GenState → Array GenState → Prop} {n : Nat} {Y : Nat → Value → Prop} {St : Nat → Shared → Prop} {R : Result → Shared → Prop} (W : WalksS pg wd A.in1 I fp wr G n Y St) (hS : S ∉ fp)
    (ls : List (Addr × List Value)) (hn : n = ls.length) (hY : ∀ i v, Y i v → ∃ z, ls[i]? = some z ∧ v = .ref z.1) (h0 : Heap) (h0l : ∀ z ∈ ls, ∃ c, h0.get? z.1 = some (lstO z.2 c)) (h0S : h0.get? S = none) (h0w : ∀ b ∈ wr, h0.get? b = none) (wS : ∀ b ∈ wr, b < S) (S0 : h0.objs.size ≤ S)
    (small : (catV ls).length ≤ sizeLine) (s0 : Shared) (T0 : Addr) (done : ∀ s' T c, Moved (S :: wr) G s0 s' → s'.heap.get? T = some (lstO (catV ls) c) → (ls = [] → T = T0) → (ls ≠ [] → h0.objs.size ≤ T) → R (.ok (.ret (.ref T))) s') :
    ∀ (m i : Nat) (s1 : Shared) (T : Addr) (c c1 : Nat), n - i = m → i ≤ n → St i s1 → Moved (S :: wr) G s0 s1 → (∀ b o, h0.get? b = some o → s1.heap.get? b = some o) → s1.heap.get? S = some { cls := .type "list", dict := none, data := .seq #[.ref T] c, slots := #[] } →
      s1.heap.get? T = some (lstO (catV (ls.take i)) c1) → T ∉ S :: wr → (i = 0 → T = T0) → (i ≠ 0 → h0.objs.size ≤ T) → (∀ b o, s1.heap.get? b = some o → b < s1.heap.objs.size) →
      codeAny (model pg wd) A (.builtin "sum.loop" ⟨[.ref I, .ref S, rawInt 2, rawInt 0], []⟩) R s1 := by
  have wide : ∀ b ∈ wr, b ∈ S :: wr := fun b hb => List.mem_cons_of_mem _ hb
  have Swr : S ∉ wr := fun c => hS (W.sub _ c)
  intro m
  induction m with
  | zero =>
    intro i s1 T c c1 e hi hst mv kp hSl hT nT t0 t1 _
    obtain rfl : i = n := by omega
    refine codeAny_builtin F.entry_sum_loop ?_
    rw [Around.under_plainId F.plain_sum_loop _]
    show wpAny _ A.in1 (seqItems? (.ref S) >>= _) _ _ s1
    refine wpAny_bind (wpAny_seqItems hSl rfl ?_)
    show wpAny _ A.in1 (tryCatch (pyNext (.ref I)) _ >>= _) _ _ s1
    refine wpAny_bind (wpAny_tryCatch (W.done s1 _ _ hst fun s2 mv2 => ?_))
    rw [hn, List.take_length] at hT
    exact wpAny_pure (done s2 T c1 (Moved.trans W.gtrans mv (mv2.mono wide)) (mv2.heap T _ (fun z => nT (wide _ z)) hT) (fun z => t0 (by rw [hn, z] <;> rfl)) fun z => t1 (by rw [hn]; exact fun y => z (List.length_eq_zero_iff.mp y)))
  | succ m ih =>
    intro i s1 T c c1 e hi hst mv kp hSl hT nT t0 t1 _
    have lt : i < n := by omega
    refine codeAny_builtin F.entry_sum_loop ?_
    rw [Around.under_plainId F.plain_sum_loop _]
    show wpAny _ A.in1 (seqItems? (.ref S) >>= _) _ _ s1
    refine wpAny_bind (wpAny_seqItems hSl rfl ?_)
    show wpAny _ A.in1 (tryCatch (pyNext (.ref I)) _ >>= _) _ _ s1
    refine wpAny_bind (wpAny_tryCatch (W.item i s1 _ _ lt hst fun v s2 hv hst2 mv2 => ?_))
    obtain ⟨z, hz, rfl⟩ := hY i v hv
    have kp2 : ∀ b o, h0.get? b = some o → s2.heap.get? b = some o := fun b o e => mv2.heap b o (fun y => by rw [h0w b y] at e; cases e) (kp b o e)
    have hS2 := mv2.heap S _ Swr hSl
    have hT2 := mv2.heap T _ (fun y => nT (wide _ y)) hT
    obtain ⟨c2, hz2⟩ := h0l z (List.mem_of_getElem? hz)
    have hz3 := kp2 _ _ hz2
    have len := catV_snoc hz
    have le := catV_le (ls := ls) (i + 1)
    rw [len, List.length_append] at le
    show wpAny _ A.in1 ((holding [Value.ref z.1] (binaryOp .Add (.ref T) (.ref z.1))).attempt >>= _) _ _ _
    refine wpAny_bind (wpAny_attempt (wpAny_holding (PySem.P.add_list hT2 hz3 ?_ (by rw [List.size_toArray, List.size_toArray]; omega))))
    rw [show (catV (ls.take i)).toArray ++ z.2.toArray = (catV (ls.take (i + 1))).toArray by rw [len]; simp]
    have ltS : S < s2.heap.objs.size := Heap.lt_size hS2
    have hS3 : (s2.heap.push (lstO (catV (ls.take (i + 1))) 0)).get? S = some { cls := .type "list", dict := none, data := .seq #[.ref T] c, slots := #[] } := Heap.get?_push_of_some _ hS2
    show wpAny _ A.in1 (updateSeq S (fun _ => #[.ref s2.heap.objs.size]) >>= _) _ _ { s2 with heap := s2.heap.push (lstO (catV (ls.take (i + 1))) 0) }
    refine wpAny_bind (wpAny_updateSeq hS3 rfl (wpAny_bind (wpAny_letGo ?_)))
    have hS4 := Heap.get?_update_self (Obj.mapSeq fun _ => #[Value.ref s2.heap.objs.size]) hS3 rfl
    refine wpAny_bind (wpAny_updateSeq hS4 rfl ?_)
    have hS5 := Heap.get?_update_self (Obj.mapSeq fun _ => #[Value.ref s2.heap.objs.size]) hS4 rfl
    have other : ∀ b, b ≠ S → ∀ o, (s2.heap.push (lstO (catV (ls.take (i + 1))) 0)).get? b = some o → (((s2.heap.push (lstO (catV (ls.take (i + 1))) 0)).update S (Obj.mapSeq fun _ => #[Value.ref s2.heap.objs.size])).update S (Obj.mapSeq fun _ => #[Value.ref s2.heap.objs.size])).get? b = some o := fun b nb o e =>
      (Heap.get?_update_other _ _ (Ne.symm nb)).trans ((Heap.get?_update_other _ _ (Ne.symm nb)).trans e)
    have wrlt : ∀ b ∈ wr, b ≠ s2.heap.objs.size := fun b hb y => absurd (Nat.lt_trans (wS b hb) ltS) (by rw [y]; exact Nat.lt_irrefl _)
    refine wpAny_pure ⟨plainId_quiet F.plain_sum_loop _, ih (i + 1) _ s2.heap.objs.size _ 0 (by omega) lt (W.frame _ s2 _ _ hst2 (Nat.le_refl _) fun b hb o e => ?_) ?_ (fun b o e => ?_) hS5 (other _ (Nat.ne_of_gt ltS) _ (Heap.get?_push_size _ rfl)) (fun y => ?_) (fun y => by omega) (fun _ => ?_) (fun b o e => Heap.lt_size e)⟩
    · exact other b (fun y => hS (y ▸ hb)) o (Heap.get?_push_of_some _ e)
    · exact Moved.trans W.gtrans mv ((mv2.mono wide).then_heap (Nat.le_refl _) fun b o hb e => other b (fun y => hb (by rw [y]; exact List.mem_cons_self)) o (Heap.get?_push_of_some _ e))
    · exact other b (fun y => by rw [y, h0S] at e; cases e) o (Heap.get?_push_of_some _ (kp2 b o e))
    · rcases List.mem_cons.mp y with y | y
      · exact absurd ltS (by rw [y]; exact Nat.lt_irrefl _)
      · exact wrlt _ y rfl
    · exact Nat.le_of_lt (Nat.lt_of_le_of_lt S0 ltS)
theorem args_sum2 (a b : Value) : argsOk "sum" ⟨[a, b], []⟩ := by unfold argsOk; kernel_rfl
/-- sum(xs, []), xs a list of lists -/
theorem call_sumL {l b : Addr} {c0 cb : Nat} (ls : List (Addr × List Value)) {Q : Value → Shared → Prop} (hh : A.handled = none) (hl : s.heap.get? l = some (lstO (ls.map fun z => Value.ref z.1) c0)) (hb : s.heap.get? b = some (lstO [] cb)) (hls : ∀ z ∈ ls, ∃ c, s.heap.get? z.1 = some (lstO z.2 c))
    (small : (catV ls).length ≤ sizeLine) (fin : ∀ (h' : Heap) (tk : Nat) (T : Addr) (c : Nat), (∀ b o, s.heap.get? b = some o → h'.get? b = some o) → h'.get? T = some (lstO (catV ls) c) → (ls = [] → T = b) → (ls ≠ [] → s.heap.objs.size ≤ T) → Q (.ref T) { s with heap := h', toks := tk }) :
    wpAny (model pg wd) A (call (.builtin "sum") [.ref l, .ref b]) Q E s := by
  refine call_function_tree F.kind_sum F.plain_sum F.entry_sum (args_sum2 _ _) ?_
  unfold Builtin.«sum»
  simp only [List.length_cons, List.length_nil]
  rw [if_neg (by decide)]
  refine wpAny_bind (wpAny_of_eq (show Builtin.Builtins.bindParams "sum" ["start"] 0 ⟨[.ref b], []⟩ = pure [some (.ref b)] from rfl) ?_)
  have hL : s.heap.IsList l (ls.map fun z => Value.ref z.1).toArray := ⟨_, hl, rfl, c0, rfl⟩
  refine wpAny_bind (wpAny_pyIter_list hL ?_)
  have TI : ∀ h' : Heap, (∀ b o, s.heap.get? b = some o → h'.get? b = some o) → Shared.TypeIs { s with heap := h' } (.ref b) "list" := fun h' k => ⟨_, k _ _ hb, rfl⟩
  have hb1 := Heap.get?_push_of_some { cls := .type "list_iterator", data := .fields #[.ref l, .int 0 0] } hb
  refine wpAny_bind (wpAny_pure ?_)
  simp only [List.forIn_cons, List.forIn_nil]
  refine wpAny_bind (wpAny_bind (wpAny_bind (wpAny_isInstance (T := "list") (b := false) ⟨_, hb1, rfl⟩ F.sub_list_str ?_)))
  simp only [Bool.false_eq_true, if_false]
  refine wpAny_pure (wpAny_bind (wpAny_bind (wpAny_isInstance (T := "list") (b := false) ⟨_, hb1, rfl⟩ F.sub_list_bytes ?_)))
  simp only [Bool.false_eq_true, if_false]
  refine wpAny_pure (wpAny_bind (wpAny_bind (wpAny_isInstance (T := "list") (b := false) ⟨_, hb1, rfl⟩ F.sub_list_bytearray ?_)))
  simp only [Bool.false_eq_true, if_false]
  refine wpAny_pure (wpAny_pure (wpAny_bind (wpAny_newObj_type ?_)))
  have nI : l ≠ s.heap.objs.size := Nat.ne_of_lt (Heap.lt_size hl)
  have sz : (s.heap.push { cls := .type "list_iterator", data := .fields #[.ref l, .int 0 0] }).objs.size = s.heap.objs.size + 1 := Heap.size_push ..
  have W := (Walks.list (prog := pg) (w := wd) (A := A.in1) (by simp [hh]) s.heap.objs.size l nI (ls.map fun z => Value.ref z.1).toArray).toS
  have old : ∀ b o, s.heap.get? b = some o → ((s.heap.push { cls := .type "list_iterator", data := .fields #[.ref l, .int 0 0] }).push { cls := .type "list", data := .seq #[.ref b] }).get? b = some o := fun b o e => Heap.get?_push_of_some _ (Heap.get?_push_of_some _ e)
  have hit : ∀ {d : Addr}, d < s.heap.objs.size → d ∈ (s.heap.push { cls := .type "list_iterator", data := .fields #[.ref l, .int 0 0] }).objs.size :: [s.heap.objs.size] → False := fun {d} lt y => by
    rw [sz] at y
    rcases List.mem_cons.mp y with y | y
    · rw [y] at lt; exact absurd lt (Nat.not_lt.mpr (Nat.le_succ _))
    · rw [List.mem_singleton.mp y] at lt; exact Nat.lt_irrefl _ lt
  have hsize : (ls.map fun z => Value.ref z.1).toArray.size = ls.length := by simp
  refine wpAny_pure ⟨plainId_quiet F.plain_sum_loop _, sumL_loop (W := W) (S := (s.heap.push { cls := .type "list_iterator", data := .fields #[.ref l, .int 0 0] }).objs.size) (fun y => ?_) ls hsize (fun i v hv => ?_) s.heap hls (none_past (by rw [sz]; exact Nat.le_succ _)) (fun b hb => none_past (by rw [List.mem_singleton.mp hb]; exact Nat.le_refl _)) (fun b hb => by rw [List.mem_singleton.mp hb, sz]; exact Nat.lt_succ_self _) (by rw [sz]; exact Nat.le_succ _) small
    { s with heap := (s.heap.push { cls := .type "list_iterator", data := .fields #[.ref l, .int 0 0] }).push { cls := .type "list", data := .seq #[.ref b] } } b (fun s3 T c mv hT t0 t1 => ?_) _ 0 _ b 0 cb rfl (Nat.zero_le _) ?_ ⟨fun b o _ e => e, rfl, rfl, rfl, Nat.le_refl _⟩ (fun b o e => Heap.get?_push_of_some _ (Heap.get?_push_of_some _ e)) (Heap.get?_push_size _ rfl) (Heap.get?_push_of_some _ (by simpa [catV] using hb1)) (fun y => ?_) (fun _ => rfl) (fun y => absurd rfl y) (fun b o e => Heap.lt_size e)⟩
  · rw [sz] at y
    have lt := Heap.lt_size hl
    rcases List.mem_cons.mp y with y | y
    · exact absurd y (Nat.succ_ne_self _)
    · rw [← List.mem_singleton.mp y] at lt; exact absurd lt (Nat.not_lt.mpr (Nat.le_succ _))
  · have q : (ls.map fun z => Value.ref z.1)[i]? = some v := by simpa using hv
    rw [List.getElem?_map] at q
    cases hq : ls[i]? with
    | none => rw [hq] at q; cases q
    | some z => rw [hq] at q; cases q; exact ⟨z, rfl, rfl⟩
  · obtain ⟨h', g2, d', tk', os'⟩ := s3
    have eg : g2 = s.gens := mv.gens
    have ed : d' = s.drawn := mv.drawn
    have eo : os' = s.os := mv.os
    subst eg; subst ed; subst eo
    refine fin h' tk' T c (fun d o e => ?_) hT t0 t1
    have lt := Heap.lt_size e
    refine mv.heap d o (fun y => ?_) (Heap.get?_push_of_some _ (Heap.get?_push_of_some _ e))
    exact hit lt y
  · exact ⟨⟨_, Heap.get?_push_of_some _ (Heap.get?_push_size _ rfl), rfl, rfl⟩, (hL.push _).push _⟩
  · exact hit (Heap.lt_size hb) y
end
end Sd

namespace Sd
open PySem PySem.Spec PyProof.Rows L2
section
variable {X : Cx} {p : Addr} {K : PySem.W.Frag} {c fr : Bool} {f g : Env → M D} {e : Expr}
/-- sum(xs, []): xs holds lists -/
def rSumL (K : PySem.W.Frag) : List V → Hp → VK → Prop := fun vs H Q => ∃ (l b : Addr) (ls : List (Addr × List V)), vs = [.ref l, .ref b] ∧ H l = some (.lst (ls.map fun z => V.ref z.1)) ∧ H b = some (.lst []) ∧ (∀ z ∈ ls, H z.1 = some (.lst z.2)) ∧ ((ls.map (·.2)).flatten).length ≤ sizeLine ∧
  (ls = [] → Q (.ref b) H) ∧ (ls ≠ [] → ∀ t, H t = none → Q (.ref t) (upd H t (.lst (ls.map (·.2)).flatten)))
theorem raw_lists {pins : List (Addr × Obj)} {σ : L2.St} {H : Hp} {s : Shared} (I : Inv X pins σ H s) : ∀ {ls : List (Addr × List V)}, (∀ z ∈ ls, H z.1 = some (.lst z.2)) →
    ∃ rs : List (Addr × List Value), rs.map (·.1) = ls.map (·.1) ∧ (∀ z ∈ rs, ∃ c, s.heap.get? z.1 = some (lstO z.2 c)) ∧ Vals ((ls.map (·.2)).flatten) (catV rs)
  | [], _ => ⟨[], rfl, fun _ h => (by cases h), .nil⟩
  | z :: ls, h => by
    obtain ⟨rs, h1, h2, h3⟩ := raw_lists I (ls := ls) fun y hy => h y (List.mem_cons_of_mem _ hy)
    obtain ⟨_, its, n, r, _, e⟩ := I.lstM (h z List.mem_cons_self)
    refine ⟨(z.1, its) :: rs, by simp [h1], fun y hy => ?_, ?_⟩
    · rcases List.mem_cons.mp hy with c | c
      · rw [c]; exact ⟨n, e⟩
      · exact h2 y c
    · show Vals (z.2 ++ (ls.map (·.2)).flatten) (its ++ catV rs)
      exact r.append h3
theorem refs_map : ∀ {ls : List (Addr × List V)} {us : List Value}, Vals (ls.map fun z => V.ref z.1) us → us = (ls.map (·.1)).map Value.ref
  | [], _, .nil => rfl
  | z :: ls, _, .cons r t => by
    cases r
    rw [refs_map t] <;> rfl
theorem cr_sumL (hc : X.calm = true) : CallR X (.builtin "sum") (rSumL X.K) := by
  intro pins s σ H vs us Q I r h
  obtain ⟨l, b, ls, rfl, hl, hb, hls, small, q0, q1⟩ := h
  obtain ⟨u, v, rfl, ru, rv⟩ := r.two
  cases ru
  cases rv
  obtain ⟨rs, e1, e2, e3⟩ := raw_lists I hls
  obtain ⟨_, its, n, ri, _, e4⟩ := I.lstM hl
  obtain ⟨_, its2, n2, ri2, _, e5⟩ := I.lstM hb
  cases ri2
  have ei := refs_map ri
  rw [← e1, List.map_map] at ei
  have len := e3.length
  refine call_sumL (s := s) rs (I.ok.hd hc) (c0 := n) (cb := n2) (by rw [e4, ei]; rfl) e5 e2 (by rw [← len]; exact small) fun h' tk T c kp hT t0 t1 => ?_
  have nil_iff : rs = [] ↔ ls = [] := by
    constructor
    · intro z; rw [z] at e1; exact List.map_eq_nil_iff.mp e1.symm
    · intro z; rw [z] at e1; exact List.map_eq_nil_iff.mp e1
  by_cases z : ls = []
  · rw [t0 (nil_iff.mpr z)]
    exact ⟨.ref b, H, I.kept kp, rfl, q0 z⟩
  · have hn : s.heap.objs.size ≤ T := t1 fun y => z (nil_iff.mp y)
    exact ⟨.ref T, upd H T (.lst (ls.map (·.2)).flatten), I.laid (t' := tk) kp hn ⟨small, catV rs, c, e3, hT⟩, rfl, q1 z T (I.hok.fresh hn)⟩
end
end Sd
/-! more statements, methods, walks -/
namespace Sd
open PySem PySem.Spec PyProof.Rows L2
section
variable {X : Cx} {p : Addr} {K : PySem.W.Frag} {H0 H H' H1 : Hp} {Ext own B : List Addr} {σ : L2.St} {ρ : Env} {q q' : Pot} {E : Ends} {F : Addr → Prop} {c fr : Bool} {f g : Env → M D} {e : Expr}
/-! ### sum(lists, []) -/
def listsOf : List D → Option (List (List D))
  | [] => some []
  | .list xs :: r => (listsOf r).map (xs :: ·)
  | _ => none
def sumLD : List D → Option D
  | [.list ds, .list []] => match listsOf ds with
    | some xs => if xs.flatten.length ≤ 1000000 then some (.list xs.flatten) else none
    | none => none
  | _ => none
theorem lists_rep {R : Hp} : ∀ {ds : List D} {xs : List (List D)} {ws : List V}, listsOf ds = some xs → RepL K p ds R ws → ∃ ls : List (Addr × List V), ws = ls.map (fun z => V.ref z.1) ∧ (∀ z ∈ ls, R z.1 = some (.lst z.2)) ∧ RepL K p xs.flatten R (ls.map (·.2)).flatten ∧ (ls = [] ↔ xs = [])
  | [], _, _, e, r => by cases e; exact ⟨[], r, fun _ h => (by cases h), rfl, by simp⟩
  | d :: ds, xs, _, e, r => by
    obtain ⟨v, vr, rfl, h1, h2⟩ := r
    cases d with
    | list ys =>
      have e' : (listsOf ds).map (ys :: ·) = some xs := e
      cases z : listsOf ds with
      | none => rw [z] at e'; cases e'
      | some yss =>
        rw [z] at e'; cases e'
        obtain ⟨ls, e1, e2, e3, _⟩ := lists_rep z h2
        obtain ⟨a, vs, rfl, g1, g2⟩ := h1
        refine ⟨(a, vs) :: ls, by rw [e1] <;> rfl, fun y hy => ?_, ?_, by simp⟩
        · rcases List.mem_cons.mp hy with c | c
          · rw [c]; exact g1
          · exact e2 y c
        · show RepL K p (ys ++ yss.flatten) R (vs ++ (ls.map (·.2)).flatten)
          exact RepL.app (RepL.out g2) e3
    | _ => cases e
/-- values that are data, not changing -/
def OkC (K : PySem.W.Frag) (p : Addr) (r : List V → Hp → VK → Prop) (g : List D → Option D) (fr : Bool) : Prop :=
  ∀ (vs : List V) (H : Hp) (B : List Addr) (ds : List D) (d : D) (Q : VK), p ∈ B → (∀ a ∈ B, ∃ o, H a = some o ∧ nontup o = true) → HL H → RepL K p ds (hide H B) vs → g ds = some d →
    (∀ v H', Same H H' → Rep K p d (hide H' B) v → (fr = true → New H v d) → Q v H') → r vs H Q
theorem d_callR0 {es : List Expr} {fs : List (Env → M D)} {r : List V → Hp → VK → Prop} {g : List D → Option D} (t : ∀ {ta : TA}, PA X es ta → PE X e (tCB r ta)) (ok : OkC X.K p r g fr) (ha : DA X p es fs false) : DE X p e (ap g fs) false fr :=
  ⟨peHL (t ha.pa) fun σ H Q hl t => by
    obtain ⟨F, ρ, B, q, d, q', k1, k2, k3⟩ := t hl
    obtain ⟨ds, q1, e1, k2⟩ := M.bind_some k2
    obtain ⟨e2, rfl⟩ := M.of_some k2
    exact fun _ => ⟨F, ρ, B, q, ds, _, k1, e1, fun vs H1 l1 s1 p1 r1 => ok vs H1 B ds d _ k1.pB (k1.stp s1 p1).nt l1 r1.rep e2 fun v H' s' rep new l' =>
      k3 v H' l' (s1.trans (Stp.of s')) (s' _ _ p1) rep fun z y => by
        obtain ⟨a, ea, na⟩ := new z y
        refine ⟨a, ea, ?_⟩
        by_cases hp : a = p
        · subst hp; rw [na] at p1; cases p1
        · exact s1.free hp na⟩⟩
theorem ok_sumL : OkC X.K p (rSumL X.K) sumLD false := fun vs H B ds d Q hp nt hl r e q => by
  unfold sumLD at e
  split at e
  · rename_i ds
    cases z : listsOf ds with
    | none => rw [z] at e; cases e
    | some xs =>
      rw [z] at e
      dsimp only at e
      by_cases ok : xs.flatten.length ≤ 1000000
      · rw [if_pos ok] at e
        cases e
        obtain ⟨v, _, rfl, h1, w, _, rfl, h2, rfl⟩ := r
        obtain ⟨l, ws, rfl, g1, g2⟩ := h1
        have h2' := h2
        obtain ⟨b, us, rfl, b1, b2⟩ := h2
        rw [show us = [] from b2] at b1
        obtain ⟨ls, e1, e2, e3, e4⟩ := lists_rep z (RepL.out g2)
        have z6 := sz6
        refine ⟨l, b, ls, rfl, by rw [← e1]; exact (hide_some g1).2, (hide_some b1).2, fun y hy => (hide_some (e2 y hy)).2, by rw [e3.length]; omega, fun y => ?_, fun y t nt' => q _ _ (same_upd nt') (rep_lst nt nt' e3) (fun z => by cases z)⟩
        have ex : xs.flatten = [] := by rw [e4.mp y]; rfl
        rw [ex] at q
        exact q _ _ (Same.refl _) h2' (fun z => by cases z)
      · rw [if_neg ok] at e; cases e
  · cases e
/-! ### x = [.. for ..] -/
section
variable {x : Str} {elt tg iter : Expr} {ifs : List Expr} {scope : Scope} {pos pos' spos : Pos} {it : IE} {ci cr pr tk : Bool} {gd : Gd} {ft fe : Env → M D}
theorem ds_setLc (i : Nat) (lcs : List (Str × Nat)) (hpt : pr = true → tk = true) (hc : X.calm = true) (hN : X.N.Nodup) (hi : X.N[i]? = some x) (hx : X.env.scope.names.lookup x = some .local)
    (hsw : swapsWith (.ListComp elt [⟨tg, iter, ifs, 0⟩] scope pos) (some (.Name x pos')) spos.line X.env = pure true) (ok : BlkOk X.N X.env.scope scope lcs) (hit : DI X p tg iter it ci pr)
    (hgo : Gin gd (lcs.map (·.2))) (hg : ∀ (s : Shared) (H : Hp) (C : Addr) (cl : List (Str × Addr)) (fp : List Addr), DG (X.blk s H scope (compEnvC scope cl C X.env) fp) p tk tg gd)
    (ht : ∀ (s : Shared) (H : Hp) (C : Addr) (cl : List (Str × Addr)) (fp : List Addr), DTs (X.blk s H scope (compEnvC scope cl C X.env) fp) p ifs ft)
    (he : ∀ (s : Shared) (H : Hp) (C : Addr) (cl : List (Str × Addr)) (fp : List Addr), DE (X.blk s H scope (compEnvC scope cl C X.env) fp) p elt fe false cr) (hs : ∀ x, foldedSetIterable iter X.env x = pure x := by intro _; rfl) :
    DS X p (.Assign [.Name x pos'] (.ListComp elt [⟨tg, iter, ifs, 0⟩] scope pos) spos) (setS i (lcE (lcs.map (·.2)) it gd ft fe)) :=
  ⟨psHL (ps_setLc hc hN hi hx hsw hit.pi ok (fun s H C cl fp => (hg s H C cl fp).pg) (fun s H C cl fp => (ht s H C cl fp).pts) (fun s H C cl fp => (he s H C cl fp).pe) hs) fun E σ H hl t => by
    obtain ⟨H0, Ext, own, ρ, q, r, q', S, e, a⟩ := t hl
    obtain ⟨d, q1, e1, e⟩ := M.bind_some e
    obtain ⟨rfl, rfl⟩ := M.pure_some e
    exact lc_read (cr := cr) (Q := fun v H' => E.nx (σ.set i (some v)) H') hpt hgo hl fun _ => ⟨_, ρ, _, q, d, _, S.pre, e1, fun v H1 l1 s1 p1 r1 _ => a _ H1 own l1 ((S.stp s1 p1).set i r1)⟩⟩
theorem ds_setLcB (i : Nat) (lcs : List (Str × Nat)) (hpt : pr = true → tk = true) (hc : X.calm = true) (hN : X.N.Nodup) (hi : X.N[i]? = some x) (hx : X.env.scope.names.lookup x = some .local)
    (hsw : swapsWith (.ListComp elt [⟨tg, iter, ifs, 0⟩] scope pos) (some (.Name x pos')) spos.line X.env = pure true) (ok : BlkOk X.N X.env.scope scope lcs) (hit : DI X p tg iter it ci pr)
    (hgo : Gin gd (lcs.map (·.2))) (hg : ∀ (s : Shared) (H : Hp) (C : Addr) (cl : List (Str × Addr)) (fp : List Addr), DG (X.blk s H scope (compEnvC scope cl C X.env) fp) p tk tg gd)
    (ht : ∀ (s : Shared) (H : Hp) (C : Addr) (cl : List (Str × Addr)) (fp : List Addr), DTs (X.blk s H scope (compEnvC scope cl C X.env) fp) p ifs ft)
    (he : ∀ (s : Shared) (H : Hp) (C : Addr) (cl : List (Str × Addr)) (fp : List Addr), DE (X.blk s H scope (compEnvC scope cl C X.env) fp) p elt fe false cr) (hs : ∀ x, foldedSetIterable iter X.env x = pure x := by intro _; rfl) :
    DS X p (.Assign [.Name x pos'] (.ListComp elt [⟨tg, iter, ifs, 0⟩] scope pos) spos) (setB i (lcE (lcs.map (·.2)) it gd ft fe)) :=
  ⟨psHL (ps_setLc hc hN hi hx hsw hit.pi ok (fun s H C cl fp => (hg s H C cl fp).pg) (fun s H C cl fp => (ht s H C cl fp).pts) (fun s H C cl fp => (he s H C cl fp).pe) hs) fun E σ H hl t => by
    obtain ⟨H0, Ext, own, ρ, q, r, q', S, e, a⟩ := t hl
    obtain ⟨d, q1, e1, e⟩ := M.bind_some e
    by_cases ld : isLD d = true
    · rw [if_pos ld] at e
      obtain ⟨rfl, rfl⟩ := M.pure_some e
      refine lc_read (cr := cr) (Q := fun v H' => E.nx (σ.set i (some v)) H') hpt hgo hl fun _ => ⟨_, ρ, _, q, d, _, S.pre, e1, fun v H1 l1 s1 p1 r1 n1 => ?_⟩
      obtain ⟨b, S'⟩ := S.setB s1 p1 i (n1 rfl) ld r1
      exact a _ H1 _ l1 S'
    · rw [if_neg ld] at e; cases e⟩
end
/-! ### a changing list is written -/
theorem hide_put {H : Hp} {a : Addr} {o : HO} (h : a ∈ B) : hide (upd H a o) B = hide H B := funext fun b => by
  unfold hide
  by_cases c : b ∈ B
  · rw [if_pos c, if_pos c]
  · rw [if_neg c, if_neg c, upd_ne (fun e : b = a => c (e ▸ h))]
theorem StR.put {i : Nat} {ds ds' : List D} {a : Addr} {vs : List V} (S : StR K p H0 Ext own H σ ρ q) (e : ρ[i]? = some (some (true, .list ds))) (es : σ[i]? = some (some (.ref a))) (r : RepL K p ds' (hide H (own ++ Ext)) vs) :
    StR K p H0 Ext own (upd H a (.lst vs)) σ (ρ.set i (some (true, .list ds'))) q := by
  obtain ⟨w, g1, _, g3⟩ := S.pre.env i true _ e
  rw [es] at g1; cases g1
  obtain ⟨a', ea, hB, hne, hF, _⟩ := g3 rfl
  cases ea
  have hid : hide (upd H a (.lst vs)) (own ++ Ext) = hide H (own ++ Ext) := hide_put hB
  refine ⟨fun b o eb nb => ?_, ⟨?_, S.pre.pB, fun b hb => ?_, fun j b d ej => ?_, by simp [S.len]⟩, S.pX, S.own0, S.ext0, fun j k d1 d2 c h1 h2 h3 h4 => ?_, by simp [S.len]⟩
  · rw [upd_ne (fun z => by rw [z, hF] at eb; cases eb)]; exact S.keep b o eb nb
  · rw [upd_ne (Ne.symm hne)]; exact S.pre.pot
  · by_cases z : b = a
    · rw [z]; exact ⟨_, upd_same, rfl⟩
    · rw [upd_ne z]; exact S.pre.nt b hb
  · rcases set_get ej with ⟨rfl, e1, hj⟩ | ⟨ne, ej⟩
    · cases e1
      refine ⟨.ref a, es, fun z => (by cases z), fun _ => ⟨a, rfl, hB, hne, hF, .inl ⟨ds', vs, rfl, upd_same, by rw [hid]; exact r⟩⟩⟩
    · obtain ⟨w, h1, h2, h3⟩ := S.pre.env j b d ej
      refine ⟨w, h1, fun z => by rw [hid]; exact h2 z, fun z => ?_⟩
      subst z
      obtain ⟨c, ec, cB, cne, cF, z⟩ := h3 rfl
      subst ec
      have nc : c ≠ a := fun y => ne (S.uniq i j _ d a e ej es (y ▸ h1))
      refine ⟨c, rfl, cB, cne, cF, ?_⟩
      rw [hid]
      rcases z with ⟨xs, us, e1, z1, z2⟩ | ⟨kvs, us, e1, z0, z1, z2⟩
      · exact .inl ⟨xs, us, e1, by rw [upd_ne nc]; exact z1, z2⟩
      · exact .inr ⟨kvs, us, e1, z0, z1.imp (fun o h => by rw [upd_ne nc]; exact h) (fun _ _ h => h), z2⟩
  · rcases set_get h1 with ⟨i1, _, _⟩ | ⟨n1, h1⟩
    · rcases set_get h2 with ⟨i2, _, _⟩ | ⟨n2, h2⟩
      · rw [← i1, ← i2]
      · subst i1
        exact S.uniq _ _ _ _ c e h2 h3 h4
    · rcases set_get h2 with ⟨i2, _, _⟩ | ⟨n2, h2⟩
      · subst i2
        exact S.uniq _ _ _ _ c h1 e h3 h4
      · exact S.uniq j k d1 d2 c h1 h2 h3 h4
/-- what a changing list becomes, by the value given -/
def bldS (i : Nat) (h : List D → D → Option (List D)) (f : Env → M D) : SE := fun ρ => M.bind (f ρ) fun d => match ρ[i]? with
  | some (some (true, .list ds)) => match h ds d with
    | some ds' => if ds'.length ≤ 1000000 then M.pure (.nx, ρ.set i (some (true, .list ds'))) else M.fail
    | none => M.fail
  | _ => M.fail
theorem bldS_some {i : Nat} {h : List D → D → Option (List D)} {ρ : Env} {r : Fl × Env} (e : bldS i h f ρ q = some (r, q')) : ∃ d ds ds', f ρ q = some (d, q') ∧ ρ[i]? = some (some (true, .list ds)) ∧ h ds d = some ds' ∧ ds'.length ≤ 1000000 ∧ r = (.nx, ρ.set i (some (true, .list ds'))) := by
  obtain ⟨d, q1, e1, e2⟩ := M.bind_some e
  clear e
  cases hr : ρ[i]? with
  | none => rw [hr] at e2; cases e2
  | some o =>
    rw [hr] at e2
    match o, e2 with
    | none, e2 => cases e2
    | some (false, _), e2 => cases e2
    | some (true, .none), e2 => cases e2
    | some (true, .bool _), e2 => cases e2
    | some (true, .int _), e2 => cases e2
    | some (true, .str _), e2 => cases e2
    | some (true, .tuple _), e2 => cases e2
    | some (true, .dict _), e2 => cases e2
    | some (true, .list ds), e2 =>
      dsimp only at e2
      cases z : h ds d with
      | none => rw [z] at e2; cases e2
      | some ds' =>
        rw [z] at e2
        dsimp only at e2
        by_cases c : ds'.length ≤ 1000000
        · rw [if_pos c] at e2
          obtain ⟨rfl, rfl⟩ := M.pure_some e2
          exact ⟨d, ds, ds', e1, rfl, z, c, rfl⟩
        · rw [if_neg c] at e2; cases e2
def appH : List D → D → Option (List D) := fun ds d => some (ds ++ [d])
def extL (ds : List D) (d : D) : Option (List D) := match d with
  | .list xs => some (ds ++ xs)
  | _ => none
theorem extL_some {ds : List D} {d : D} {ds' : List D} (h : extL ds d = some ds') : ∃ xs, d = .list xs ∧ ds' = ds ++ xs := by
  cases d with
  | list xs => cases h; exact ⟨xs, rfl, rfl⟩
  | _ => cases h
section
variable {x : Str} {np ap cp pos : Pos}
/-- x.append(e) -/
theorem ds_append (i : Nat) (hi : X.N[i]? = some x) (hv : Vis X.env.scope x) (he : DE X p e f false fr) (hd : (x == ("__debug__" : Str)) = false := by decide) (hcd : (x == ("__classdict__" : Str)) = false := by decide)
    (hbase : attributeBase (.Name x np) "append" X.env (eval (.Name x np) X.env) = eval (.Name x np) X.env := by rfl)
    (hfew : ((backTo cp (starEach [e] X.env)).all (fun x => !x.1) && (backToKw cp (keywordEach [] X.env)).all (fun x => x.1.isSome) && decide ([e].length + ([] : List Keyword).length + (if ([] : List Keyword).isEmpty then 0 else 1) < 30)) = true := by rfl)
    (hline : (ap.endLine == cp.line) = true := by rfl) (hs : starEach [e] X.env = (false, eval e X.env) :: starEach [] X.env := by rfl)
    (hw : swapsWith (.Call (.Attribute (.Name x np) "append" ap) [e] [] cp) none pos.line X.env = pure false := by rfl) :
    DS X p (.Expr (.Call (.Attribute (.Name x np) "append" ap) [e] [] cp) pos) (bldS i appH f) :=
  ⟨psHL (ps_expr (pe_bm PySem.F.plainAttrs_list PySem.F.slot_list_append PySem.F.type_list_append mt_append (pe_var hi hv hd hcd) (pa_cons he.pe pa_nil hs) hbase hfew hline hs) hw) fun E σ H hl t => by
    obtain ⟨H0, Ext, own, ρ, q, r, q', S, e, a⟩ := t hl
    obtain ⟨d, ds, ds', e1, hr, eh, small, rfl⟩ := bldS_some e
    cases eh
    obtain ⟨v, g1, _, g3⟩ := S.pre.env i true _ hr
    obtain ⟨b, rfl, hB, hne, hF, z⟩ := g3 rfl
    have here : ∀ {H' : Hp}, Bld X.K p (fun a => H0 a = none) H' (own ++ Ext) (.list ds) (.ref b) → ∃ vs, H' b = some (.lst vs) ∧ RepL X.K p ds (hide H' (own ++ Ext)) vs := fun h => by
      obtain ⟨c, ec, _, _, _, ⟨xs, vs, e1, z1, z2⟩ | ⟨_, _, e1, _⟩⟩ := h
      · cases ec; cases e1; exact ⟨vs, z1, z2⟩
      · cases e1
    obtain ⟨vs0, h0, _⟩ := here (g3 rfl)
    refine ⟨.ref b, g1, .inl ⟨rfl, vs0, .inl (.inl h0)⟩, fun _ => ⟨_, ρ, _, q, d, _, S.pre, e1, fun w H1 l1 s1 p1 r1 _ => ?_⟩⟩
    obtain ⟨vs, h1, h2⟩ := here ((g3 rfl).stp s1 S.pre.pB)
    have z6 := sz6
    rw [List.length_append, List.length_singleton] at small
    refine ⟨b, vs, w, rfl, rfl, h1, by rw [h2.length]; omega, fun l2 => a _ _ own l2 ((S.stp s1 p1).put hr g1 (RepL.app h2 (RepL.one r1)))⟩⟩
/-- x.extend(e), e a list -/
theorem ds_extend (i : Nat) (hi : X.N[i]? = some x) (hv : Vis X.env.scope x) (he : DE X p e f c fr) (hd : (x == ("__debug__" : Str)) = false := by decide) (hcd : (x == ("__classdict__" : Str)) = false := by decide)
    (hbase : attributeBase (.Name x np) "extend" X.env (eval (.Name x np) X.env) = eval (.Name x np) X.env := by rfl)
    (hfew : ((backTo cp (starEach [e] X.env)).all (fun x => !x.1) && (backToKw cp (keywordEach [] X.env)).all (fun x => x.1.isSome) && decide ([e].length + ([] : List Keyword).length + (if ([] : List Keyword).isEmpty then 0 else 1) < 30)) = true := by rfl)
    (hline : (ap.endLine == cp.line) = true := by rfl) (hs : starEach [e] X.env = (false, eval e X.env) :: starEach [] X.env := by rfl)
    (hw : swapsWith (.Call (.Attribute (.Name x np) "extend" ap) [e] [] cp) none pos.line X.env = pure false := by rfl) :
    DS X p (.Expr (.Call (.Attribute (.Name x np) "extend" ap) [e] [] cp) pos) (bldS i extL f) :=
  ⟨psHL (ps_expr (pe_bm PySem.F.plainAttrs_list PySem.F.slot_list_extend PySem.F.type_list_extend mt_extend (pe_var hi hv hd hcd) (pa_cons he.pe pa_nil hs) hbase hfew hline hs) hw) fun E σ H hl t => by
    obtain ⟨H0, Ext, own, ρ, q, r, q', S, e, a⟩ := t hl
    obtain ⟨d, ds, ds', e1, hr, eh, small, rfl⟩ := bldS_some e
    obtain ⟨xs, rfl, rfl⟩ := extL_some eh
    obtain ⟨v, g1, _, g3⟩ := S.pre.env i true _ hr
    obtain ⟨b, rfl, hB, hne, hF, z⟩ := g3 rfl
    have here : ∀ {H' : Hp}, Bld X.K p (fun a => H0 a = none) H' (own ++ Ext) (.list ds) (.ref b) → ∃ vs, H' b = some (.lst vs) ∧ RepL X.K p ds (hide H' (own ++ Ext)) vs := fun h => by
      obtain ⟨c, ec, _, _, _, ⟨xs, vs, e1, z1, z2⟩ | ⟨_, _, e1, _⟩⟩ := h
      · cases ec; cases e1; exact ⟨vs, z1, z2⟩
      · cases e1
    obtain ⟨vs0, h0, _⟩ := here (g3 rfl)
    refine ⟨.ref b, g1, .inl ⟨rfl, vs0, .inl (.inl h0)⟩, fun _ => ⟨_, ρ, _, q, _, _, S.pre, e1, fun w H1 l1 s1 p1 r1 _ => ?_⟩⟩
    obtain ⟨vs, h1, h2⟩ := here ((g3 rfl).stp s1 S.pre.pB)
    obtain ⟨b2, us, rfl, _, h3, h4⟩ := r1.cons.lst S.pre.pB
    have z6 := sz6
    rw [List.length_append] at small
    refine ⟨b, b2, vs, us, rfl, rfl, h1, h3, by rw [h2.length, h4.length]; omega, fun l2 => a _ _ own l2 ((S.stp s1 p1).put hr g1 (RepL.app h2 h4))⟩⟩
end
end
end Sd
/-! .index, zip -/
namespace Sd
open PySem PySem.Spec PyProof.Rows L2 RZ
section
variable {X : Cx} {p : Addr} {K : PySem.W.Frag} {H0 H H' H1 : Hp} {Ext own B : List Addr} {σ : L2.St} {ρ : Env} {q q' : Pot} {E : Ends} {F : Addr → Prop} {c fr : Bool} {f g : Env → M D} {e : Expr}
/-! ### xs.index(k) -/
def Ixd (b : Bool) (H : Hp) (a : Addr) (xs : List V) : Prop := if b = true then H a = some (.lst xs) else ∃ o, H a = some (.frz o (.tup xs)) ∧ o.dict = none
def tIdx (to : TE) (t : TA) : TE := fun σ H Q => to σ H fun x H1 => ∃ (b : Bool) (a : Addr) (xs : List V), x = .ref a ∧ Ixd b H1 a xs ∧ t σ H1 fun ys H2 => ∃ (ns : List Int) (k : Int), ys = [.int k] ∧ Ixd b H2 a (ns.map V.int) ∧ k ∈ ns ∧ Q (.int (ns.idxOf k : Nat)) H2
theorem Ixd.rawL {pins : List (Addr × Obj)} {s : Shared} {a : Addr} {xs : List V} (I : Inv X pins σ H s) (h : Ixd true H a xs) : ∃ (o : Obj) (its : List Value), s.heap.IsList a its.toArray ∧ s.heap.get? a = some o ∧ o.cls = .type "list" ∧ o.dict = none ∧ Vals xs its := by
  obtain ⟨_, its, n, r, _, e⟩ := I.lstM (show H a = some (.lst xs) from h)
  exact ⟨_, its, ⟨_, e, rfl, n, rfl⟩, e, rfl, rfl, r⟩
theorem Ixd.rawT {pins : List (Addr × Obj)} {s : Shared} {a : Addr} {xs : List V} (I : Inv X pins σ H s) (h : Ixd false H a xs) : ∃ (o : Obj) (its : List Value), s.heap.IsTuple a its.toArray ∧ s.heap.get? a = some o ∧ o.cls = .type "tuple" ∧ o.dict = none ∧ Vals xs its := by
  obtain ⟨o, h, hd⟩ := h
  obtain ⟨e, _, its, r, ht⟩ := (show ObjOk X.prog X.w H s.heap a (.frz o (.tup xs)) from I.hok a _ h)
  have ht' := ht
  obtain ⟨o', e', hc, _⟩ := ht'
  rw [e] at e'; cases e'
  exact ⟨o, its, ht, e, hc, hd, r⟩
theorem pe_idx {o : Expr} {to : TE} {t : TA} {ap cp : Pos} (ho : PE X o to) (ha : PA X [e] t) (hbase : attributeBase o "index" X.env (eval o X.env) = eval o X.env := by rfl)
    (hfew : ((backTo cp (starEach [e] X.env)).all (fun x => !x.1) && (backToKw cp (keywordEach [] X.env)).all (fun x => x.1.isSome) && decide ([e].length + ([] : List Keyword).length + (if ([] : List Keyword).isEmpty then 0 else 1) < 30)) = true := by rfl)
    (hline : (ap.endLine == cp.line) = true := by rfl) (hs : starEach [e] X.env = (false, eval e X.env) :: starEach [] X.env := by rfl) : PE X (.Call (.Attribute o "index" ap) [e] [] cp) (tIdx to t) := by
  constructor
  intro pins s σ H Q I h
  refine wpAny_Call_method_late hbase hfew hline rfl (thn (ho.run pins s σ H _ I h) fun v s1 ⟨x, H1, I1, r1, b, a, xs, ex, hx, q1⟩ => ?_)
  subst ex
  cases r1
  have hA := ha.run cp pins s1 σ H1 _ I1 q1
  rw [hs] at hA ⊢
  cases b with
  | true =>
    obtain ⟨ob, its, hl, ho1, hc, hd, r⟩ := hx.rawL I1
    refine ⟨"list", "list.index", PySem.F.plainAttrs_list, PySem.F.slot_list_index, PySem.F.type_list_index, ⟨ob, ho1, hc⟩, fun b eb => (by cases eb; exact ⟨ob, ho1, hd⟩), Calls.callWith_builtin rfl (Calls.evalArgs_plain (thn hA fun us s2 ⟨ys, H2, I2, r2, ns, k, ey, hn, hk, q2⟩ => ?_))⟩
    subst ey
    obtain ⟨u, rfl, ru⟩ := r2.one
    obtain ⟨tk, rfl⟩ := ru
    obtain ⟨_, its2, hl2, _, _, _, r3⟩ := hn.rawL I2
    have small := (HL_of I2.hok).lst (show H2 a = some (.lst (ns.map V.int)) from hn)
    rw [List.length_map] at small
    exact SeqAt.list_index_ints hl2 (ints_of_vals r3) small hk ⟨.int _, H2, I2.tok _, ⟨_, rfl⟩, q2⟩
  | false =>
    obtain ⟨ob, its, hl, ho1, hc, hd, r⟩ := hx.rawT I1
    refine ⟨"tuple", "tuple.index", PySem.F.plainAttrs_tuple, PySem.F.slot_tuple_index, PySem.F.type_tuple_index, ⟨ob, ho1, hc⟩, fun b eb => (by cases eb; exact ⟨ob, ho1, hd⟩), Calls.callWith_builtin rfl (Calls.evalArgs_plain (thn hA fun us s2 ⟨ys, H2, I2, r2, ns, k, ey, hn, hk, q2⟩ => ?_))⟩
    subst ey
    obtain ⟨u, rfl, ru⟩ := r2.one
    obtain ⟨tk, rfl⟩ := ru
    obtain ⟨_, its2, hl2, _, _, _, r3⟩ := hn.rawT I2
    exact SeqAt.tuple_index_ints hl2 (ints_of_vals r3) hk ⟨.int _, H2, I2.tok _, ⟨_, rfl⟩, q2⟩
/-- by data -/
def idxD (d e : D) : Option D := match items d, e with
  | some ds, .int k => match intsOf ds with
    | some ns => if k ∈ ns ∧ (match d with | .tuple _ => frzOk | _ => true) = true then some (.int (ns.idxOf k : Nat)) else none
    | none => none
  | _, _ => none
theorem TupAt.frz (hf : frzOk = true) {a : Addr} {vs : List V} (h : TupAt H a vs) : ∃ o, H a = some (.frz o (.tup vs)) ∧ o.dict = none := by
  obtain ⟨o, ⟨z, _⟩ | ⟨_, ob, rfl, hd⟩, e⟩ := h
  · rw [hf] at z; cases z
  · exact ⟨ob, e, hd⟩
theorem d_idx {a b : Expr} {fa fb : Env → M D} {ca cb f1 f2 : Bool} {ap cp : Pos} (ha : DE X p a fa ca f1) (hb : DE X p b fb cb f2) (hbase : attributeBase a "index" X.env (eval a X.env) = eval a X.env := by rfl)
    (hfew : ((backTo cp (starEach [b] X.env)).all (fun x => !x.1) && (backToKw cp (keywordEach [] X.env)).all (fun x => x.1.isSome) && decide ([b].length + ([] : List Keyword).length + (if ([] : List Keyword).isEmpty then 0 else 1) < 30)) = true := by rfl)
    (hline : (ap.endLine == cp.line) = true := by rfl) (hs : starEach [b] X.env = (false, eval b X.env) :: starEach [] X.env := by rfl) : DE X p (.Call (.Attribute a "index" ap) [b] [] cp) (ap2 idxD fa fb) false true :=
  ⟨peHL (pe_idx ha.pe (pa_cons hb.pe pa_nil hs) hbase hfew hline hs) fun σ H Q hl t => by
    obtain ⟨F, ρ, B, q, d, q', k1, k2, k3⟩ := t hl
    obtain ⟨d1, q1, e1, k2⟩ := M.bind_some k2
    obtain ⟨d2, q2, e2, k2⟩ := M.bind_some k2
    obtain ⟨e3, rfl⟩ := M.of_some k2
    refine fun _ => ⟨F, ρ, B, q, d1, q1, k1, e1, fun x H1 l1 s1 p1 r1 _ => ?_⟩
    have K1 := k1.stp s1 p1
    unfold idxD at e3
    have fin : ∀ (b : Bool) (a : Addr) (ns : List Int) (k : Int), d2 = .int k → d = .int (ns.idxOf k : Nat) → k ∈ ns → Ixd b H1 a (ns.map V.int) → (∀ H2, Stp p H1 H2 → Ixd b H2 a (ns.map V.int)) → x = .ref a →
        ∃ (b : Bool) (a : Addr) (xs : List V), x = .ref a ∧ Ixd b H1 a xs ∧ (tCons (tE X.K p fb cb f2) tNil) σ H1 fun ys H2 => ∃ (ns : List Int) (k : Int), ys = [.int k] ∧ Ixd b H2 a (ns.map V.int) ∧ k ∈ ns ∧ (HL H2 → Q (.int (ns.idxOf k : Nat)) H2) := by
      rintro b a ns k rfl rfl hk h1 h2 ex
      refine ⟨b, a, _, ex, h1, fun _ => ⟨F, ρ, B, q1, _, _, K1, e2, fun y H2 l2 s2 p2 r2 _ => ⟨ns, k, by rw [r2.cons.int], h2 H2 s2, hk, fun l => k3 _ H2 l (s1.trans s2) p2 rfl (fun _ z => by cases z)⟩⟩⟩
    cases d1 with
    | list ds =>
      cases d2 with
      | int k =>
        dsimp only [items] at e3
        cases z : intsOf ds with
        | none => rw [z] at e3; cases e3
        | some ns =>
          rw [z] at e3
          dsimp only at e3
          by_cases ok : k ∈ ns ∧ true = true
          · rw [if_pos ok] at e3
            cases e3
            obtain ⟨a, vs, ex, hne, h1, h2⟩ := r1.cons.lst k1.pB
            have ev := intsOf_rep z h2
            subst ev
            exact fin true a ns k rfl rfl ok.1 h1 (fun H2 s2 => s2 _ _ h1 hne) ex
          · rw [if_neg ok] at e3; cases e3
      | _ => cases e3
    | tuple ds =>
      cases d2 with
      | int k =>
        dsimp only [items] at e3
        cases z : intsOf ds with
        | none => rw [z] at e3; cases e3
        | some ns =>
          rw [z] at e3
          dsimp only at e3
          by_cases ok : k ∈ ns ∧ frzOk = true
          · rw [if_pos ok] at e3
            cases e3
            obtain ⟨a, vs, ex, h1, h2⟩ := r1.cons.tup
            have ev := intsOf_rep z h2
            subst ev
            refine fin false a ns k rfl rfl ok.1 (h1.frz ok.2) (fun H2 s2 => ?_) ex
            obtain ⟨o, g1, g2⟩ := h1.frz ok.2
            exact ⟨o, s2 _ _ g1 (fun y => by rw [y, p1] at g1; cases g1), g2⟩
          · rw [if_neg ok] at e3; cases e3
      | _ => cases e3
    | _ => cases e3⟩
/-! ### zip(xs, ys) -/
def zipD : List D → Option (List D)
  | [.list a, .list b] => some ((a.zip b).map fun z => .tuple [z.1, z.2])
  | [.tuple a, .tuple b] => some ((a.zip b).map fun z => .tuple [z.1, z.2])
  | _ => none
def zipE (fs : List (Env → M D)) : IE := fun ρ => M.bind (seqE fs ρ) fun ds => M.of (zipD ds)
theorem walk_zipT {a b : Addr} {xs ys : List V} {n : Nat} (hn : n = min xs.length ys.length) : Walk (ItzT K a b) n (fun H => SqT K H a xs ∧ SqT K H b ys) (YPair (fun i => xs[i]?) (fun i => ys[i]?)) := by
  subst hn
  refine ⟨fun i H hi h => ?_, fun H h => ⟨xs, ys, h.1, h.2, by omega⟩, fun i H v H' hi h y => ?_⟩
  · obtain ⟨h1, h2⟩ : i < xs.length ∧ i < ys.length := by omega
    exact ⟨xs, ys, xs[i], ys[i], h.1, h.2, List.getElem?_eq_getElem h1, List.getElem?_eq_getElem h2⟩
  · obtain ⟨T, x, y, e1, e2, e3, e4, e5⟩ := y
    exact ⟨T, x, y, e1, e2, e3, e4 _ h.1, e5 _ h.2⟩
/-- pairs of what stands -/
theorem wk_pair {J : It} {G : Hp → Prop} {xs ys : List V} {a b : List D} (hW : Walk J (min xs.length ys.length) G (YPair (fun i => xs[i]?) (fun i => ys[i]?))) (hG : ∀ H, Lt p c B H1 H → G H) (ra : RepL K p a (hide H1 B) xs) (rb : RepL K p b (hide H1 B) ys) :
    WkD K p c true J ((a.zip b).map fun z => .tuple [z.1, z.2]) B H1 := by
  have len : ((a.zip b).map fun z => (.tuple [z.1, z.2] : D)).length = min xs.length ys.length := by rw [List.length_map, List.length_zip, ra.length, rb.length]
  refine ⟨G, _, by rw [len]; exact hW, hG, fun i H v H' d lt y e => ?_⟩
  obtain ⟨T, x, y, rfl, nT, rfl, e1, e2⟩ := y
  refine ⟨same_upd nT, fun B' s hB => .inr ⟨rfl, ?_⟩⟩
  rw [List.getElem?_map] at e
  cases z : (a.zip b)[i]? with
  | none => rw [z] at e; cases e
  | some w =>
    rw [z] at e; cases e
    obtain ⟨z1, z2⟩ := List.getElem?_zip_eq_some.mp z
    have up : Same (hide H1 B) (hide (upd H T (.tup [x, y])) B') := fun b o e => hide_same B' (same_upd nT) _ _ (s _ _ e)
    exact ⟨_, T, [x, y], rfl, rfl, .inl (.inl upd_same), x, _, rfl, Rep.mono up (ra.nth z1 e1), y, _, rfl, Rep.mono up (rb.nth z2 e2), rfl⟩
theorem lst_stays {d : List D} {a : Addr} {vs : List V} (h1 : H1 a = some (.lst vs)) (hne : a ≠ p) (r1 : Res K p F c H1 B (.list d) (.ref a)) (lt : Lt p c B H1 H') : H' a = some (.lst vs) := by
  unfold Lt at lt
  cases c with
  | true => rw [if_pos rfl] at lt; exact lt _ _ h1 hne
  | false =>
    rw [if_neg Bool.false_ne_true] at lt
    unfold Res at r1
    rw [if_neg Bool.false_ne_true] at r1
    obtain ⟨a', _, ea, g1, _⟩ := r1
    cases ea
    exact lt _ _ (hide_some g1).1 h1
theorem di_zip {a b : Expr} {fs : List (Env → M D)} {np pos tpos : Pos} {elts : List Expr} {kk : Nat} (hg : Gl X "zip") (hm : X.mg "zip" = none) (ha : DA X p [a, b] fs c) (hs : starEach [a, b] X.env = (false, eval a X.env) :: starEach [b] X.env := by rfl)
    (hpl : (backTo pos (starEach [b] X.env)).any (·.1) = false := by rfl) : DI X p (.Tuple elts kk tpos) (.Call (.Name "zip" np) [a, b] [] pos) (zipE fs) c true :=
  ⟨piHL (pi_zipA hg hm ha.pa hs hpl) fun σ H R hl t => by
    obtain ⟨F, ρ, B, q, xs, q', k1, k2, k3⟩ := t hl
    obtain ⟨ds, q1, e1, k2⟩ := M.bind_some k2
    obtain ⟨e2, rfl⟩ := M.of_some k2
    refine fun _ => ⟨F, ρ, B, q, ds, _, k1, e1, fun vs H1 l1 s1 p1 r1 => ?_⟩
    have nt := (k1.stp s1 p1).nt
    unfold zipD at e2
    split at e2
    · rename_i a b
      cases e2
      obtain ⟨v, _, rfl, ra, w, _, rfl, rb, rfl⟩ := r1
      obtain ⟨l1', us, rfl, n1, h1, h2⟩ := ra.cons.lst k1.pB
      obtain ⟨l2', ws, rfl, n2, g1, g2⟩ := rb.cons.lst k1.pB
      refine ⟨l1', l2', us, ws, rfl, .inl ⟨.inl (.inl h1), .inl (.inl g1), fun l => k3 _ H1 l s1 p1 ?_ (wk_pair (walk_zip rfl) (fun H' lt => ?_) h2 g2)⟩⟩
      · have z := l1.lst h1
        rw [List.length_map, List.length_zip, ← h2.length]; omega
      · refine ⟨.inl (.inl (lst_stays h1 n1 ra lt)), .inl (.inl (lst_stays g1 n2 rb lt))⟩
    · rename_i a b
      cases e2
      obtain ⟨v, _, rfl, ra, w, _, rfl, rb, rfl⟩ := r1
      obtain ⟨l1', us, rfl, h1, h2⟩ := ra.cons.tup
      obtain ⟨l2', ws, rfl, g1, g2⟩ := rb.cons.tup
      refine ⟨l1', l2', us, ws, rfl, .inr ⟨h1.sq, g1.sq, fun l => k3 _ H1 l s1 p1 ?_ (wk_pair (walk_zipT rfl) (fun H' lt => ⟨(tup_nt X.K nt h1 (lt.le k1.pB)).sq, (tup_nt X.K nt g1 (lt.le k1.pB)).sq⟩) h2 g2)⟩⟩
      have z := l1.tup h1
      rw [List.length_map, List.length_zip, ← h2.length]; omega
    · cases e2⟩
end
end Sd
/-! enumerate(tuple), dicts -/
namespace Sd
open PySem PySem.Spec PyProof.Rows L2
section
variable {pg : Program} {wd : World} {A : Around} {E : Value → Shared → Prop} {s : Shared}
theorem meets_enumT (l : Addr) (its : Array Value) (n : Nat) (dct : Option Addr) (sl : Array (Option Value)) :
    Meets (Builtin.«enumerate.__new__» ⟨[.type "enumerate", .ref l], []⟩) (fun _ R s => s.heap.get? l = some { cls := .type "tuple", dict := dct, data := .seq its n, slots := sl } ∧
      R (.ok (.ret (.ref (s.heap.push { cls := .type "tuple_iterator", data := .fields #[.ref l, .int 0 0] }).objs.size)))
        { s with heap := (s.heap.push { cls := .type "tuple_iterator", data := .fields #[.ref l, .int 0 0] }).push { cls := .type "enumerate", data := .fields #[.none, .bool false, .ref s.heap.objs.size, rawInt 0, .none, .none] } }) :=
  .of_wp fun pg wd A R s h => by
    obtain ⟨hp, gg, dd, tk, os⟩ := s
    obtain ⟨hl, h⟩ := h
    have hsub := sub_enumerate
    have hT : Heap.IsTuple (Shared.heap ⟨hp, gg, dd, tk, os⟩) l its := ⟨_, hl, rfl, n, rfl⟩
    wp_walk using AutoSeq1.wpAny_loadPart' hl
    refine wpAny_stack_any fun st => wpAny_pure ?_
    split
    · rename_i c _ _ _ _ _
      cases (c == Value.type "enumerate")
      · wp_walk using AutoSeq1.wpAny_loadPart' hl, wpAny_pyIter_tuple hT
        exact ⟨_, rfl, h⟩
      · wp_walk using AutoSeq1.wpAny_loadPart' hl, wpAny_pyIter_tuple hT
        exact ⟨_, rfl, h⟩
    · wp_walk using AutoSeq1.wpAny_loadPart' hl, wpAny_pyIter_tuple hT
      exact ⟨_, rfl, h⟩
theorem call_enumT {l : Addr} {its : Array Value} {Q : Value → Shared → Prop} (hT : s.heap.IsTuple l its)
    (h : ∀ h', IsEnum h' (s.heap.objs.size + 1) s.heap.objs.size 0 .none → h'.IsTupleIter s.heap.objs.size l 0 → h'.objs.size = s.heap.objs.size + 2 → (∀ b o, s.heap.get? b = some o → h'.get? b = some o) → Q (.ref (s.heap.objs.size + 1)) { s with heap := h' }) :
    wpAny (model pg wd) A (call (.type "enumerate") [.ref l]) Q E s := by
  obtain ⟨⟨cl, dct, dt, sl⟩, hl, hc, n, hd⟩ := hT
  obtain rfl : cl = .type "tuple" := hc
  obtain rfl : dt = .seq its n := hd
  refine callType_new F.called_enumerate (by decide) (F.typeCall_enumerate_1 _) (F.newCall_enumerate_1 _) (fun u => F.args_object_init_2 u _) F.entry_enumerate_new (meets_enumT l its n dct sl) ⟨hl, ?_⟩
  have sz : (s.heap.push { cls := .type "tuple_iterator", data := .fields #[.ref l, .int 0 0] }).objs.size = s.heap.objs.size + 1 := Heap.size_push ..
  show _ ∧ _
  rw [sz]
  have en : IsEnum ((s.heap.push { cls := .type "tuple_iterator", data := .fields #[.ref l, .int 0 0] }).push { cls := .type "enumerate", data := .fields #[.none, .bool false, .ref s.heap.objs.size, rawInt 0, .none, .none] }) (s.heap.objs.size + 1) s.heap.objs.size 0 .none := by
    have z := Heap.get?_push_size (s.heap.push { cls := .type "tuple_iterator", data := .fields #[.ref l, .int 0 0] }) (o := { cls := .type "enumerate", data := .fields #[.none, .bool false, .ref s.heap.objs.size, rawInt 0, .none, .none] }) rfl
    rw [sz] at z
    exact z
  exact ⟨⟨_, en, rfl⟩, h _ en ⟨_, Heap.get?_push_of_some _ (Heap.get?_push_size _ rfl), rfl, rfl⟩ (by rw [Heap.size_push, sz]) fun b o e => Heap.get?_push_of_some _ (Heap.get?_push_of_some _ e)⟩
end
/-- the tuple at a at each turn, each item in a new pair -/
def IteT (K : PySem.W.Frag) (a : Addr) : It :=
  ⟨fun i H => ∃ (xs : List V) (x : V), SqT K H a xs ∧ xs[i]? = some x, fun i H v H' => ∃ T x, v = .ref T ∧ H T = none ∧ H' = upd H T (.tup [.int (i : Nat), x]) ∧ ∀ xs, SqT K H a xs → xs[i]? = some x, fun i H => ∃ xs : List V, SqT K H a xs ∧ xs.length = i⟩
theorem turn_enumT {P : Program} {w : World} {K : PySem.W.Frag} {elts : List Expr} {kk : Nat} {tpos : Pos} (a e it : Addr) :
    Turn P w K (.Tuple elts kk tpos) (IteT K a) [e, it] e (fun i h => (∃ old, IsEnum h e it ((i : Nat) : Int) old) ∧ h.IsTupleIter it a i ∧ e ≠ it ∧ a ≠ it ∧ a ≠ e) where
  mem := by simp
  obj := fun i h st b hb => by
    obtain ⟨⟨old, he⟩, ⟨o, ho, hc, hd⟩, _⟩ := st
    rcases List.mem_cons.mp hb with z | z
    · rw [z]; exact ⟨_, he, fun v q => nomatch q⟩
    · rw [List.mem_singleton.mp z]; exact ⟨o, ho, fun v q => by rw [hd] at q; cases q⟩
  keep := fun i h h' st k => let ⟨⟨old, he⟩, hi, hne⟩ := st; ⟨⟨old, k e (by simp) _ he⟩, hi.at fun o q => k it (by simp) o q, hne⟩
  item := by
    intro X hP hw hK hc i pins s σ H E I hf st hg
    subst hP hw hK
    obtain ⟨⟨old, he⟩, hit, hne, nit, nae⟩ := st
    obtain ⟨xs, x, hq, hx⟩ := hg
    obtain ⟨its, rv, pt, hz⟩ := I.tuple hq
    obtain ⟨u, hu, ru⟩ := rv.get hx
    have el : e < s.heap.objs.size := Heap.lt_size he
    have il : it < s.heap.objs.size := by obtain ⟨_, q, _⟩ := hit; exact Heap.lt_size q
    have lt : i < its.toArray.size := by rw [List.size_toArray]; exact (List.getElem?_eq_some_iff.mp hu).1
    refine wpAny_pyNext_enum_itemC (Draws.tuple (A := X.A.in1) (by simp [I.ok.hd hc]) it a nit its.toArray) he ⟨hit, pt⟩ lt hne (fun z => ?_) fun y h' tk hy ho st' hT hsz hk => ?_
    · rcases List.mem_cons.mp z with z | z
      · exact hne z
      · exact nae (List.mem_singleton.mp z).symm
    have ey : y = u := by
      have z : its[i]? = some y := by simpa using hy
      rw [hu] at z
      exact (Option.some.inj z).symm
    subst ey
    refine ⟨_, rfl, wpAny_letOwnedTupleGo_enum (s := { s with heap := h', toks := tk + 1 }) ho fun h2 he2 sb => ?_⟩
    have hT2 : h2.get? s.heap.objs.size = some { cls := .type "tuple", data := .seq #[.int i tk, y] } := (sb.2 _ (Nat.ne_of_gt el)).trans hT
    have new : ObjOk X.prog X.w (upd H s.heap.objs.size (.tup [.int (i : Nat), x])) h2 s.heap.objs.size (.tup [.int (i : Nat), x]) := ⟨by have := sz6; show 2 ≤ sizeLine; omega, [.int i tk, y], .cons ⟨_, rfl⟩ (.cons ru .nil), ⟨_, hT2, rfl, _, rfl⟩⟩
    have J : Inv X pins σ (upd H s.heap.objs.size (.tup [.int (i : Nat), x])) { s with heap := h2, toks := tk + 1 } :=
      I.turnedNew (ch := [e, it]) (fun b ob hb q => (sb.2 b (fun z => hb (by simp [z]))).trans (hk b ob (fun z => hb (by simp [z])) (fun z => hb (by simp [z])) q)) hf (Nat.le_refl _) new
    refine ⟨.ref s.heap.objs.size, _, J, rfl, ⟨_, x, rfl, I.hok.fresh (Nat.le_refl _), rfl, fun ys hy2 => by rw [I.tuple_inj hy2 hq]; exact hx⟩, ⟨⟨y, ?_⟩, st'.1.at fun o q => (sb.2 it (Ne.symm hne)).trans q, hne, nit, nae⟩, fun b hb => ?_⟩
    · have e1 : ((i + 1 : Nat) : Int) = (i : Int) + 1 := by omega
      rw [e1]; exact he2
    · have bl : b < s.heap.objs.size := by
        rcases List.mem_cons.mp hb with z | z
        · rw [z]; exact el
        · rw [List.mem_singleton.mp z]; exact il
      rw [upd_ne (Nat.ne_of_lt bl)]
      exact (hf b hb).1
  done := by
    intro X hP hw hK hc i pins s σ H E I hf st hg
    subst hP hw hK
    obtain ⟨⟨old, he⟩, hit, hne, nit, nae⟩ := st
    obtain ⟨xs, hq, hx⟩ := hg
    obtain ⟨its, rv, pt, hz⟩ := I.tuple hq
    obtain ⟨f0, f1, f2, f3, f4, f5⟩ := hf it (by simp)
    have len : its.toArray.size = i := by rw [List.size_toArray, ← rv.length, hx]
    exact wpAny_pyNext_enum_endD (Draws.tuple (A := X.A.in1) (by simp [I.ok.hd hc]) it a nit its.toArray) he (by rw [len]; exact ⟨hit, pt⟩) fun h' eb => ⟨rfl, I.turned (t' := s.toks) (fun b o hb q => eb b o hb q) f0 f1 f3 f4 f5⟩
  self := fun A i s Q E st h => let ⟨⟨_, he⟩, _⟩ := st; wpAny_pyIter_enum he h
section
variable {X : Cx} {p : Addr} {K : PySem.W.Frag} {H0 H H' H1 : Hp} {Ext own B : List Addr} {σ : L2.St} {ρ : Env} {q q' : Pot} {E : Ends} {F : Addr → Prop} {c fr : Bool} {f g : Env → M D} {e : Expr}
def iEnumO (K : PySem.W.Frag) (ta : TA) : TI := fun σ H R => ta σ H fun vs H1 => ∃ a xs, vs = [.ref a] ∧ ((SqL K H1 a xs ∧ R (Ite K a) H1) ∨ (SqT K H1 a xs ∧ R (IteT K a) H1))
theorem pi_enumO {ta : TA} {np pos tpos : Pos} {elts : List Expr} {kk : Nat} (hg : Gl X "enumerate") (hm : X.mg "enumerate" = none) (ha : PA X [e] ta) (hs : starEach [e] X.env = [(false, eval e X.env)] := by rfl) :
    PI X (.Tuple elts kk tpos) (.Call (.Name "enumerate" np) [e] [] pos) (iEnumO X.K ta) := by
  constructor
  intro pins s σ H R I h
  refine Call_ (ld_blt I hg hm boot_enumerate (PyProof.Rows.callWith_type1 (thn (ha.run pos pins s σ H _ I h) fun us s1 ⟨vs, H1, I1, r1, a, xs, ex, z⟩ => ?_) hs rfl))
  subst ex
  rw [Vals.ref1 r1]
  have fp : ∀ b ∈ [s1.heap.objs.size + 1, s1.heap.objs.size], s1.heap.objs.size ≤ b := fun b hb => by
    rcases List.mem_cons.mp hb with z | z
    · rw [z]; exact Nat.le_succ _
    · rw [List.mem_singleton.mp z]; exact Nat.le_refl _
  rcases z with ⟨hq, r⟩ | ⟨hq, r⟩
  · obtain ⟨its, rv, pl, hz⟩ := I1.list hq
    refine call_enumerate_list pl.isList fun h' he hit hsz hk => wpAny_pyIter_enum he ?_
    exact ⟨s1.heap.objs.size + 1, [s1.heap.objs.size + 1, s1.heap.objs.size], _, _, H1, rfl, I1.kept (t' := s1.toks) hk, turn_enum a (s1.heap.objs.size + 1) s1.heap.objs.size, ⟨⟨.none, he⟩, hit, Nat.succ_ne_self _⟩, fun b hb => I1.fpOk (fp b hb) (I1.hok.fresh (fp b hb)), r⟩
  · obtain ⟨its, rv, pl, hz⟩ := I1.tuple hq
    have al : a < s1.heap.objs.size := by obtain ⟨o, ho, _⟩ := pl; exact Heap.lt_size ho
    refine call_enumT pl fun h' he hit hsz hk => wpAny_pyIter_enum he ?_
    exact ⟨s1.heap.objs.size + 1, [s1.heap.objs.size + 1, s1.heap.objs.size], _, _, H1, rfl, I1.kept (t' := s1.toks) hk, turn_enumT a (s1.heap.objs.size + 1) s1.heap.objs.size, ⟨⟨.none, he⟩, hit, Nat.succ_ne_self _, Nat.ne_of_lt al, Nat.ne_of_lt (Nat.lt_succ_of_lt al)⟩, fun b hb => I1.fpOk (fp b hb) (I1.hok.fresh (fp b hb)), r⟩
theorem walk_enumT {a : Addr} {xs : List V} : Walk (IteT K a) xs.length (fun H => SqT K H a xs) (YPair (fun i => some (.int (i : Nat))) (fun i => xs[i]?)) := by
  refine ⟨fun i H hi h => ⟨xs, xs[i], h, List.getElem?_eq_getElem hi⟩, fun H h => ⟨xs, h, rfl⟩, fun i H v H' hi h y => ?_⟩
  obtain ⟨T, x, e1, e2, e3, e4⟩ := y
  exact ⟨T, .int (i : Nat), x, e1, e2, e3, rfl, e4 _ h⟩
def numFrom (i : Nat) : List D → List D
  | [] => []
  | d :: ds => .tuple [.int i, d] :: numFrom (i + 1) ds
theorem numFrom_get : ∀ (ds : List D) (i j : Nat), (numFrom i ds)[j]? = (ds[j]?).map fun d => .tuple [.int ((i + j : Nat)), d]
  | [], _, _ => by simp [numFrom]
  | d :: ds, i, 0 => by simp [numFrom]
  | d :: ds, i, j + 1 => by
    show (numFrom (i + 1) ds)[j]? = _
    rw [numFrom_get ds (i + 1) j, List.getElem?_cons_succ, show i + 1 + j = i + (j + 1) by omega]
theorem numFrom_len : ∀ (ds : List D) (i : Nat), (numFrom i ds).length = ds.length
  | [], _ => rfl
  | d :: ds, i => by simp [numFrom, numFrom_len ds]
def enuE (f : Env → M D) : IE := fun ρ => M.bind (f ρ) fun d => M.of ((items d).map (numFrom 0))
theorem wk_enum {J : It} {G : Hp → Prop} {xs : List V} {ds : List D} (hW : Walk J xs.length G (YPair (fun i => some (.int (i : Nat))) (fun i => xs[i]?))) (hG : ∀ H, Lt p c B H1 H → G H) (ra : RepL K p ds (hide H1 B) xs) : WkD K p c true J (numFrom 0 ds) B H1 := by
  refine ⟨G, _, by rw [numFrom_len, ← ra.length]; exact hW, hG, fun i H v H' d lt y e => ?_⟩
  obtain ⟨T, x, y, rfl, nT, rfl, e1, e2⟩ := y
  refine ⟨same_upd nT, fun B' s hB => .inr ⟨rfl, ?_⟩⟩
  rw [numFrom_get] at e
  cases z : ds[i]? with
  | none => rw [z] at e; cases e
  | some w =>
    rw [z] at e; cases e
    cases e1
    have up : Same (hide H1 B) (hide (upd H T (.tup [.int (i : Nat), y])) B') := fun b o e => hide_same B' (same_upd nT) _ _ (s _ _ e)
    exact ⟨_, T, [.int (i : Nat), y], rfl, rfl, .inl (.inl upd_same), .int (i : Nat), _, rfl, (by show V.int _ = V.int _; rw [Nat.zero_add]), y, _, rfl, Rep.mono up (ra.nth z e2), rfl⟩
theorem di_enum {np pos tpos : Pos} {elts : List Expr} {kk : Nat} (hg : Gl X "enumerate") (hm : X.mg "enumerate" = none) (ha : DE X p e f c fr) (hs : starEach [e] X.env = [(false, eval e X.env)] := by rfl) (hs2 : starEach [e] X.env = (false, eval e X.env) :: starEach [] X.env := by rfl) :
    DI X p (.Tuple elts kk tpos) (.Call (.Name "enumerate" np) [e] [] pos) (enuE f) c true :=
  ⟨piHL (pi_enumO hg hm (pa_cons ha.pe pa_nil hs2) hs) fun σ H R hl t => by
    obtain ⟨F, ρ, B, q, xs, q', k1, k2, k3⟩ := t hl
    obtain ⟨d, q1, e1, k2⟩ := M.bind_some k2
    obtain ⟨e2, rfl⟩ := M.of_some k2
    refine fun _ => ⟨F, ρ, B, q, d, _, k1, e1, fun v H1 l1 s1 p1 r1 _ => ?_⟩
    have nt := (k1.stp s1 p1).nt
    cases d with
    | list ds =>
      cases e2
      obtain ⟨a, vs, rfl, hne, h1, h2⟩ := r1.cons.lst k1.pB
      refine ⟨a, vs, rfl, .inl ⟨.inl (.inl h1), fun l => k3 _ H1 l s1 p1 ?_ (wk_enum walk_enum (fun H' lt => .inl (.inl (lst_stays h1 hne r1 lt))) h2)⟩⟩
      rw [numFrom_len, ← h2.length]; exact l1.lst h1
    | tuple ds =>
      cases e2
      obtain ⟨a, vs, rfl, h1, h2⟩ := r1.cons.tup
      refine ⟨a, vs, rfl, .inr ⟨h1.sq, fun l => k3 _ H1 l s1 p1 ?_ (wk_enum walk_enumT (fun H' lt => (tup_nt X.K nt h1 (lt.le k1.pB)).sq) h2)⟩⟩
      rw [numFrom_len, ← h2.length]; exact l1.tup h1
    | _ => cases e2⟩
end
end Sd
/-! dicts by int keys: comprehensions, reads, in -/
namespace Sd
open PySem PySem.Spec PyProof.Rows L2
section
variable {X : Cx} {p : Addr} {K : PySem.W.Frag} {H0 H H' H1 : Hp} {Ext own B : List Addr} {σ : L2.St} {ρ : Env} {q q' : Pot} {E : Ends} {F : Addr → Prop} {c fr : Bool} {f g : Env → M D} {e : Expr}
/-- a dict from ints to data -/
abbrev IDict := List (Int × D)
def dkD (l : IDict) : D := .dict (l.map fun z => (.int z.1, z.2))
theorem dk_pot (l : IDict) : isPot (l.map fun z => ((.int z.1 : D), z.2)) = false := by
  cases l with
  | nil => rfl
  | cons z l => cases l <;> rfl
theorem dk_keys (l : IDict) : (l.map fun z => ((.int z.1 : D), z.2)).map (·.1) = (l.map fun z => (Sum.inl z.1 : Key)).map keyD := by
  rw [List.map_map, List.map_map]; rfl
theorem repKV_iff {R : Hp} : ∀ {l : IDict} {vs : List V}, RepKV K p (l.map fun z => (.int z.1, z.2)) R vs ↔ RepL K p (l.map (·.2)) R vs
  | [], _ => Iff.rfl
  | z :: l, vs => by
    constructor
    · rintro ⟨v, r, e, h1, h2⟩; exact ⟨v, r, e, h1, repKV_iff.mp h2⟩
    · rintro ⟨v, r, e, h1, h2⟩; exact ⟨v, r, e, h1, repKV_iff.mpr h2⟩
/-- keys beside values -/
def kvsOf (l : IDict) (vs : List V) : List (Key × V) := (l.map fun z => (Sum.inl z.1 : Key)).zip vs
theorem kvsOf_any {l : IDict} {vs : List V} (h : vs.length = l.length) (k : Int) : ((kvsOf l vs).any fun kv => decide (kv.1 = Sum.inl k)) = l.any fun z => decide (z.1 = k) := by
  unfold kvsOf
  induction l generalizing vs with
  | nil => rfl
  | cons z l ih =>
    cases vs with
    | nil => simp at h
    | cons v vs =>
      rw [List.map_cons, List.zip_cons_cons, List.any_cons, List.any_cons, ih (by simpa using h)]
      congr 1
      by_cases c : z.1 = k
      · simp [c]
      · simp [c]
theorem kvsOf_put {l : IDict} {vs : List V} (h : vs.length = l.length) {k : Int} {d : D} {v : V} (nk : (l.any fun z => decide (z.1 = k)) = false) : putK (kvsOf l vs) (Sum.inl k) v = kvsOf (l ++ [(k, d)]) (vs ++ [v]) := by
  unfold putK
  rw [kvsOf_any h, nk, if_neg Bool.false_ne_true]
  unfold kvsOf
  rw [List.map_append, List.zip_append (by simpa using h.symm)]
  rfl
def dcGo (own : List Nat) (g : Gd) (tt tk tv : Env → M D) (ρ : Env) : List D → IDict → M IDict
  | [], acc => M.pure acc
  | x :: xs, acc => M.bind (M.of (g x)) fun as => M.bind (tt (sets (wipeD ρ own) (as.map (·.1)) (cl as))) fun b => match b with
    | .bool true => M.bind (tk (sets (wipeD ρ own) (as.map (·.1)) (cl as))) fun k => match k with
      | .int k => M.bind (tv (sets (wipeD ρ own) (as.map (·.1)) (cl as))) fun y => if (acc.any fun z => decide (z.1 = k)) = true then M.fail else dcGo own g tt tk tv ρ xs (acc ++ [(k, y)])
      | _ => M.fail
    | .bool false => dcGo own g tt tk tv ρ xs acc
    | _ => M.fail
def dcE (own : List Nat) (it : IE) (g : Gd) (tt tk tv : Env → M D) : Env → M D := fun ρ => M.bind (it ρ) fun xs => if own.all (fun i => decide (i < ρ.length)) = true then M.bind (dcGo own g tt tk tv ρ xs []) fun l => M.pure (dkD l) else M.fail
theorem dcGo_cons {own : List Nat} {g : Gd} {tt tk tv : Env → M D} {ρ : Env} {x : D} {xs : List D} {acc l : IDict} {q q' : Pot} (h : dcGo own g tt tk tv ρ (x :: xs) acc q = some (l, q')) : ∃ as b q1, g x = some as ∧ tt (sets (wipeD ρ own) (as.map (·.1)) (cl as)) q = some (.bool b, q1) ∧
    ((b = true ∧ ∃ k q2 y q3, tk (sets (wipeD ρ own) (as.map (·.1)) (cl as)) q1 = some (.int k, q2) ∧ tv (sets (wipeD ρ own) (as.map (·.1)) (cl as)) q2 = some (y, q3) ∧ (acc.any fun z => decide (z.1 = k)) = false ∧ dcGo own g tt tk tv ρ xs (acc ++ [(k, y)]) q3 = some (l, q')) ∨ (b = false ∧ dcGo own g tt tk tv ρ xs acc q1 = some (l, q'))) := by
  unfold dcGo at h
  obtain ⟨as, q0, e0, h1⟩ := M.bind_some h
  clear h
  obtain ⟨e1, rfl⟩ := M.of_some e0
  clear e0
  obtain ⟨b, q1, e2, h⟩ := M.bind_some h1
  clear h1
  cases b with
  | bool b =>
    refine ⟨as, b, q1, e1, e2, ?_⟩
    cases b with
    | true =>
      obtain ⟨kd, q2, e3, h2⟩ := M.bind_some h
      clear h
      cases kd with
      | int k =>
        obtain ⟨y, q3, e4, h3⟩ := M.bind_some h2
        clear h2
        refine .inl ⟨rfl, k, q2, y, q3, e3, e4, ?_⟩
        cases z : acc.any fun z => decide (z.1 = k) with
        | true => rw [z, if_pos rfl] at h3; cases h3
        | false => rw [z, if_neg Bool.false_ne_true] at h3; exact ⟨rfl, h3⟩
      | _ => cases h2
    | false => exact .inr ⟨rfl, h⟩
  | _ => cases h
/-- the walk of a dict comprehension -/
theorem dc_it {J : It} {n : Nat} {G : Hp → Prop} {Y : Nat → Hp → V → Hp → Prop} (w : Walk J n G Y) {g : TG} {tt : TT} {tk tv : TE} {vs : List Nat} {σ : L2.St} {H1 : Hp} {D : Addr} {Qd : Hp → Prop} (Pv : Nat → Hp → Prop) (h0 : Pv 0 (upd H1 D (.dK []))) (hG : ∀ i H, i ≤ n → Pv i H → G H)
    (hs : ∀ i x H H', i < n → Pv i H → Y i H x H' → g x (wipe σ vs) H' fun σ2 H2 => wipe σ2 vs = wipe σ vs ∧ tt σ2 H2 fun b H3 => if b = true then tk σ2 H3 fun y H4 => tv σ2 H4 fun z H5 => ∃ kvs k, y = kV k ∧ H5 D = some (.dK kvs) ∧ kvs.length < sizeLine ∧ Pv (i + 1) (upd H5 D (.dK (putK kvs k z))) else Pv (i + 1) H3)
    (hd : ∀ H, Pv n H → Qd H) : ∃ W : Nat → Nat → Hp → Prop, (∃ m, W 0 m (upd H1 D (.dK []))) ∧ ∀ i m H, W i m H →
      (J.stop i H ∧ Qd H) ∨ (J.go i H ∧ ∃ Nx : Hp → Prop, (∀ H', Nx H' → ∃ m', m' < m ∧ W (i + 1) m' H') ∧ ∀ x H', J.yld i H x H' → g x (wipe σ vs) H' fun σ2 H2 => wipe σ2 vs = wipe σ vs ∧ tt σ2 H2 fun b H3 =>
        if b = true then tk σ2 H3 fun y H4 => tv σ2 H4 fun z H5 => ∃ kvs k, y = kV k ∧ H5 D = some (.dK kvs) ∧ kvs.length < sizeLine ∧ Nx (upd H5 D (.dK (putK kvs k z))) else Nx H3) := by
  refine ⟨fun i m H => m = n - i ∧ i ≤ n ∧ Pv i H, ⟨n, rfl, Nat.zero_le _, h0⟩, ?_⟩
  rintro i m H ⟨rfl, hi, pv⟩
  have hg := hG i H hi pv
  rcases Nat.lt_or_ge i n with lt | ge
  · exact .inr ⟨w.goes i H lt hg, Pv (i + 1), fun H' pv' => ⟨n - (i + 1), by omega, rfl, lt, pv'⟩, fun x H' y => hs i x H H' lt pv (w.yields i H x H' lt hg y)⟩
  · obtain rfl : i = n := by omega
    exact .inl ⟨w.stops H hg, hd H pv⟩
theorem dc_read {own : List Nat} {it : IE} {ci ck cv pr tk' : Bool} {g : Gd} {ft fk fv : Env → M D} {Q : VK} (hpt : pr = true → tk' = true) (hgo : Gin g own) (hl : HL H) (t : tE X.K p (dcE own it g ft fk fv) false true σ H Q) :
    tDc (tI X.K p it ci pr) (tG X.K p tk' g) (tT X.K p ft) (tE X.K p fk false ck) (tE X.K p fv false cv) own σ H (fun v H' => HL H' → Q v H') := by
  obtain ⟨F, ρ, B, q, d, q', k1, k2, k3⟩ := t hl
  obtain ⟨xs, q1, e1, k2⟩ := M.bind_some k2
  by_cases hown : own.all (fun i => decide (i < ρ.length)) = true
  case neg => rw [if_neg hown] at k2; cases k2
  rw [if_pos hown] at k2
  obtain ⟨fin, q2, e2, k2⟩ := M.bind_some k2
  obtain ⟨rfl, rfl⟩ := M.pure_some k2
  refine fun _ => ⟨F, ρ, B, q, xs, q1, k1, e1, fun J H1 l1 s1 p1 hz wk L nL => ?_⟩
  obtain ⟨G, Y, W, hG, hY⟩ := wk.ex
  have pB := k1.pB
  have K1 := k1.stp s1 p1
  have hLp : L ≠ p := fun z => by rw [z, p1] at nL; cases nL
  have hLB : L ∉ B := new_nB K1.nt nL
  refine dc_it (Qd := fun H => HL H → Q (.ref L) H) W (fun i H' => ∃ (vs : List V) (acc : IDict) (qi : Pot), H' L = some (.dK (kvsOf acc vs)) ∧ vs.length ≤ i ∧ vs.length = acc.length ∧ RepL X.K p (acc.map (·.2)) (hide H' (L :: B)) vs ∧ Stp p H1 H' ∧ H' p = some (potV qi) ∧
    dcGo own g ft fk fv ρ (xs.drop i) acc qi = some (fin, q')) ?_ ?_ ?_ ?_
  · refine ⟨[], [], q1, upd_same, Nat.zero_le _, rfl, rfl, Stp.of (same_upd nL), ?_, e2⟩
    rw [upd_ne (Ne.symm hLp)]; exact p1
  · rintro i H' _ ⟨vs, acc, qi, _, _, _, _, st, _⟩
    exact hG H' (Lt.of_stp st pB)
  · rintro i x Ha Hb hi ⟨vs, acc, qi, hL, hlen, hla, racc, st, pq, ego⟩ y
    have hx : xs[i]? = some xs[i] := List.getElem?_eq_getElem hi
    obtain ⟨sab, rx⟩ := hY i Ha x Hb _ (Lt.of_stp st pB) y hx
    rw [show xs.drop i = xs[i] :: xs.drop (i + 1) from List.drop_eq_getElem_cons hi] at ego
    obtain ⟨as, b, q3, ea, et, ego2⟩ := dcGo_cons ego
    clear ego
    have stb : Stp p H1 Hb := st.trans (Stp.of sab)
    have hidA : Same (hide H1 B) (hide Ha (L :: B)) := hide_mono fun a o n e => ⟨fun z => by
      rcases List.mem_cons.mp z with z | z
      · rw [z, nL] at e; cases e
      · exact n z, st a o e fun z => n (z ▸ pB)⟩
    have hidB : Same (hide H1 B) (hide Hb (L :: B)) := fun a o e => hide_same _ sab _ _ (hidA _ _ e)
    have repx := rx (L :: B) hidA fun a ha => by
      rcases List.mem_cons.mp ha with z | z
      · rw [z, hL]; exact fun z => by cases z
      · by_cases hap : a = p
        · rw [hap, pq]; exact fun z => by cases z
        · obtain ⟨o, e, _⟩ := K1.nt a z
          rw [st a o e hap]; exact fun z => by cases z
    have hLb : Hb L = some (.dK (kvsOf acc vs)) := sab _ _ hL
    have pqb : Hb p = some (potV qi) := sab _ _ pq
    have Pb : Pre X.K p F Hb (L :: B) (wipe σ own) (wipeD ρ own) qi := by
      have P1 := (K1.stp stb pqb).wipe own
      refine ⟨pqb, List.mem_cons_of_mem _ pB, fun a ha => ?_, fun j b e h => ?_, P1.len⟩
      · rcases List.mem_cons.mp ha with z | z
        · rw [z]; exact ⟨_, hLb, rfl⟩
        · exact P1.nt a z
      · obtain ⟨w, h1, h2, h3⟩ := (K1.wipe own).env j b e h
        refine ⟨w, h1, fun z => Rep.mono hidB (h2 z), fun z => ?_⟩
        obtain ⟨a, ea, hB, hne, hF, z⟩ := h3 z
        refine ⟨a, ea, List.mem_cons_of_mem _ hB, hne, hF, ?_⟩
        rcases z with ⟨ds, ws, e1, z1, z2⟩ | ⟨kvs, ws, e1, z0, z1, z2⟩
        · exact .inl ⟨ds, ws, e1, stb _ _ z1 hne, RepL.mono hidB z2⟩
        · exact .inr ⟨kvs, ws, e1, z0, z1.imp (fun o z => stb _ o z hne) hidB, RepKV.mono hidB z2⟩
    refine ⟨xs[i], hide Hb (L :: B), as, RepG.up hpt repx, hide_le _ _, ea, fun ws rws => ⟨?_, ?_⟩⟩
    · rw [wipe_sets _ ws _ fun j hj => ?_, wipe_wipe]
      obtain ⟨a, ha, rfl⟩ := List.mem_map.mp hj
      exact hgo _ _ ea a ha
    · have Ps := Pb.setsC rws
      refine fun _ => ⟨F, _, L :: B, qi, b, q3, Ps, et, fun Hc lc sc pc => ?_⟩
      have stc : Stp p H1 Hc := stb.trans sc
      have hLc : Hc L = some (.dK (kvsOf acc vs)) := sc _ _ hLb hLp
      have raccC : RepL X.K p (acc.map (·.2)) (hide Hc (L :: B)) vs := RepL.mono (Stp.hid ((Stp.of sab).trans sc) (List.mem_cons_of_mem _ pB)) racc
      rcases ego2 with ⟨rfl, k, q4, yv, q5, ek, ev, nk, ego⟩ | ⟨rfl, ego⟩
      · dsimp only
        rw [if_pos rfl]
        refine fun _ => ⟨F, _, L :: B, q3, .int k, q4, Ps.stp sc pc, ek, fun u Hd ld sd pd ru _ _ => ⟨F, _, L :: B, q4, yv, q5, (Ps.stp sc pc).stp sd pd, ev, fun v He le se pe rv _ => ?_⟩⟩
        have hLe : He L = some (.dK (kvsOf acc vs)) := se _ _ (sd _ _ hLc hLp) hLp
        refine ⟨kvsOf acc vs, Sum.inl k, by rw [ru.cons.int]; rfl, hLe, by unfold kvsOf; rw [List.length_zip, List.length_map]; omega, vs ++ [v], acc ++ [(k, yv)], q5, ?_, by simp; omega, by simp [hla], ?_, fun a o e ne => ?_, ?_, ego⟩
        · rw [upd_same, kvsOf_put hla nk]
        · have hs : Same (hide He (L :: B)) (hide (upd He L (.dK (putK (kvsOf acc vs) (Sum.inl k) v))) (L :: B)) := hide_mono fun a o n e => ⟨n, by rw [upd_ne (fun z => n (by simp [z]))]; exact e⟩
          rw [List.map_append]
          exact RepL.mono hs (RepL.app (RepL.mono ((sd.trans se).hid (List.mem_cons_of_mem _ pB)) raccC) (RepL.one rv))
        · have hn : a ≠ L := fun z => by rw [z, nL] at e; cases e
          rw [upd_ne hn]
          exact ((stc.trans sd).trans se) a o e ne
        · rw [upd_ne (Ne.symm hLp)]; exact pe
      · dsimp only
        rw [if_neg Bool.false_ne_true]
        exact ⟨vs, acc, q3, hLc, by omega, hla, raccC, stc, pc, ego⟩
  · rintro Hn ⟨vs, acc, qn, hL, hlen, hla, racc, st, pq, ego⟩ ln
    rw [List.drop_length] at ego
    obtain ⟨rfl, rfl⟩ := M.pure_some ego
    refine k3 _ Hn ln (s1.trans st) pq ?_ fun _ => new_of s1 p1 nL
    have hk : hide Hn B L = some (.dK ((fin.map fun z : Int × D => (Sum.inl z.1 : Key)).zip vs)) := hide_of hLB hL
    refine .inr ⟨dk_pot fin, L, vs, rfl, .inl ⟨fin.map fun z : Int × D => (Sum.inl z.1 : Key), by rw [List.length_map, hla], dk_keys fin, hk⟩, repKV_iff.mpr (RepL.mono (fun a o e => ?_) racc)⟩
    obtain ⟨n, e⟩ := hide_some e
    exact hide_of (by simp only [List.mem_singleton]; exact fun z => n (by simp [z])) (hide_of (fun z => n (List.mem_cons_of_mem _ z)) e)
theorem d_dc {kx vx tg iter : Expr} {ifs : List Expr} {scope : Scope} {pos : Pos} (own : List (Str × Nat)) {it : IE} {ci ck cv pr tk : Bool} {g : Gd} {ft fk fv : Env → M D} (hpt : pr = true → tk = true) (hc : X.calm = true) (hN : X.N.Nodup) (ok : BlkOk X.N X.env.scope scope own) (hi : DI X p tg iter it ci pr)
    (hgo : Gin g (own.map (·.2))) (hg : ∀ (s : Shared) (H : Hp) (C : Addr) (cl : List (Str × Addr)) (fp : List Addr), DG (X.blk s H scope (compEnvC scope cl C X.env) fp) p tk tg g)
    (ht : ∀ (s : Shared) (H : Hp) (C : Addr) (cl : List (Str × Addr)) (fp : List Addr), DTs (X.blk s H scope (compEnvC scope cl C X.env) fp) p ifs ft)
    (hk : ∀ (s : Shared) (H : Hp) (C : Addr) (cl : List (Str × Addr)) (fp : List Addr), DE (X.blk s H scope (compEnvC scope cl C X.env) fp) p kx fk false ck)
    (hv : ∀ (s : Shared) (H : Hp) (C : Addr) (cl : List (Str × Addr)) (fp : List Addr), DE (X.blk s H scope (compEnvC scope cl C X.env) fp) p vx fv false cv) (hs : ∀ x, foldedSetIterable iter X.env x = pure x := by intro _; rfl) :
    DE X p (.DictComp kx vx [⟨tg, iter, ifs, 0⟩] scope pos) (dcE (own.map (·.2)) it g ft fk fv) false true :=
  ⟨peHL (pe_dc hc hN hi.pi ok (fun s H C cl fp => (hg s H C cl fp).pg) (fun s H C cl fp => (ht s H C cl fp).pts) (fun s H C cl fp => (hk s H C cl fp).pe) (fun s H C cl fp => (hv s H C cl fp).pe) hs) fun σ H Q hl t => dc_read hpt hgo hl t⟩
/-! ### d[k], k in d -/
def dkOf : List (D × D) → Option IDict
  | [] => some []
  | (.int k, d) :: r => (dkOf r).map ((k, d) :: ·)
  | _ => none
def findI (l : IDict) (k : Int) : Option D := (l.find? fun z => decide (z.1 = k)).map (·.2)
theorem dkOf_some : ∀ {kvs : List (D × D)} {l : IDict}, dkOf kvs = some l → kvs = l.map fun z => (.int z.1, z.2)
  | [], _, e => by cases e; rfl
  | (k, d) :: r, l, e => by
    cases k with
    | int k =>
      have e' : (dkOf r).map ((k, d) :: ·) = some l := e
      cases z : dkOf r with
      | none => rw [z] at e'; cases e'
      | some l' => rw [z] at e'; cases e'; rw [dkOf_some z]; rfl
    | _ => cases e
theorem find_kvs {R : Hp} : ∀ {l : IDict} {vs : List V} (k : Int), RepL K p (l.map (·.2)) R vs → (findI l k = none ∧ valV (kvsOf l vs) (Sum.inl k) = none) ∨ (∃ d v, findI l k = some d ∧ valV (kvsOf l vs) (Sum.inl k) = some v ∧ Rep K p d R v)
  | [], vs, k, r => .inl ⟨rfl, by rw [show vs = [] from r]; rfl⟩
  | z :: l, _, k, r => by
    obtain ⟨v, vr, rfl, h1, h2⟩ := r
    by_cases e : z.1 = k
    · refine .inr ⟨z.2, v, by simp [findI, List.find?_cons, e], ?_, h1⟩
      show valV ((Sum.inl z.1, v) :: kvsOf l vr) (Sum.inl k) = some v
      exact valV_pos (by rw [e])
    · rcases find_kvs k h2 with ⟨g1, g2⟩ | ⟨d, w, g1, g2, g3⟩
      · refine .inl ⟨by simp [findI, List.find?_cons, e] at g1 ⊢; exact g1, ?_⟩
        show valV ((Sum.inl z.1, v) :: kvsOf l vr) (Sum.inl k) = none
        rw [valV_neg (fun y => e (by cases y; rfl))]; exact g2
      · refine .inr ⟨d, w, by simp [findI, List.find?_cons, e] at g1 ⊢; exact g1, ?_, g3⟩
        show valV ((Sum.inl z.1, v) :: kvsOf l vr) (Sum.inl k) = some w
        rw [valV_neg (fun y => e (by cases y; rfl))]; exact g2
theorem RepC.dk {F : Addr → Prop} {H : Hp} {B : List Addr} {kvs : List (D × D)} {l : IDict} {v : V} (el : dkOf kvs = some l) (h : RepC K p F H B (.dict kvs) v) : ∃ a vs, v = .ref a ∧ H a = some (.dK (kvsOf l vs)) ∧ RepL K p (l.map (·.2)) (hide H B) vs := by
  have ek := dkOf_some el
  subst ek
  obtain ⟨a, vs, ea, h1, h2⟩ := h.dic (dk_pot l)
  refine ⟨a, vs, ea, ?_, repKV_iff.mp h2⟩
  rw [dk_keys] at h1
  rcases h1 with ⟨ks, k1, k2, k3⟩ | ⟨xs, ⟨k1, _⟩, ⟨ne, _⟩, k3⟩
  · have inj : ∀ {a b : List Key}, a.map keyD = b.map keyD → a = b := fun {a b} h => by
      refine List.map_inj_right (fun x y hxy => ?_) |>.mp h
      cases x <;> cases y <;> cases hxy <;> rfl
    rw [← inj k2] at k3
    exact k3
  · exfalso
    cases xs with
    | nil => exact ne rfl
    | cons x xs =>
      cases l with
      | nil => cases k1
      | cons k ks => cases k1
def getD' (d e : D) : Option D := match d, e with
  | .dict kvs, .int k => match dkOf kvs with
    | some l => findI l k
    | none => none
  | _, _ => none
/-- k in d -/
def inDk (neg : Bool) (e d : D) : Option D := match d, e with
  | .dict kvs, .int k => match dkOf kvs with
    | some l => some (.bool (neg != (findI l k).isSome))
    | none => none
  | _, _ => none
theorem d_dget {a b : Expr} {fa fb : Env → M D} {ca cb f1 f2 : Bool} {pos : Pos} (hu : X.A.units + 1 < cLine) (ha : DE X p a fa ca f1) (hb : DE X p b fb cb f2) (hs : NoSl b) : DE X p (.Subscript a b pos) (ap2 getD' fa fb) false false :=
  ⟨peHL (pe_dget hu ha.pe hb.pe hs) fun σ H Q hl t => by
    obtain ⟨F, ρ, B, q, d, q', k1, k2, k3⟩ := t hl
    obtain ⟨d1, q1, e1, k2⟩ := M.bind_some k2
    obtain ⟨d2, q2, e2, k2⟩ := M.bind_some k2
    obtain ⟨e3, rfl⟩ := M.of_some k2
    refine fun _ => ⟨F, ρ, B, q, d1, q1, k1, e1, fun x H1 l1 s1 p1 r1 _ _ => ⟨F, ρ, B, q1, d2, _, k1.stp s1 p1, e2, fun y H2 l2 s2 p2 r2 _ => ?_⟩⟩
    have rc := RepC.stp s2 k1.pB r1.cons
    unfold getD' at e3
    cases d1 with
    | dict kvs =>
      cases d2 with
      | int k =>
        dsimp only at e3
        cases z : dkOf kvs with
        | none => rw [z] at e3; cases e3
        | some l =>
          rw [z] at e3
          dsimp only at e3
          obtain ⟨a, vs, rfl, h1, h2⟩ := rc.dk z
          rcases find_kvs k h2 with ⟨g1, g2⟩ | ⟨d', w, g1, g2, g3⟩
          · rw [g1] at e3; cases e3
          · rw [g1] at e3; cases e3
            exact ⟨a, w, rfl, .inl ⟨_, Sum.inl k, .inl h1, by rw [r2.cons.int]; rfl, g2.symm⟩, fun l' => k3 w H2 l' (s1.trans s2) p2 g3 (fun z => by cases z)⟩
      | _ => cases e3
    | _ => cases e3⟩
theorem pc_dkin {i o : Expr} {ty td : TE} {neg : Bool} {op : CmpOp} (hop : (op = .In ∧ neg = false) ∨ (op = .NotIn ∧ neg = true)) (hu : X.A.units + 1 < cLine) (hi : PE X i ty) (ho : PE X o td) :
    PC X op i o (fun σ H Q => ty σ H fun y H1 => td σ H1 fun x H2 => ∃ a o, x = .ref a ∧ DGet H2 a y o ∧ Q (.bl (neg != o.isSome)) H2) := by
  rcases hop with ⟨rfl, rfl⟩ | ⟨rfl, rfl⟩
  · have z := pc_din hu hi ho
    unfold tDIn at z
    simpa using z
  · have z := pc_dnotin hu hi ho
    unfold tDNotIn at z
    simpa using z
theorem dk_in_read {a b : Expr} {fa fb : Env → M D} {ca cb f1 f2 : Bool} {neg : Bool} {Q : VK} (ha : DE X p a fa ca f1) (hb : DE X p b fb cb f2)
    (t : ∃ (F : Addr → Prop) (ρ : Env) (B : List Addr) (q : Pot) (d : D) (q' : Pot), Pre X.K p F H B σ ρ q ∧ ap2 (inDk neg) fa fb ρ q = some (d, q') ∧ ∀ v H', HL H' → Stp p H H' → H' p = some (potV q') → (∃ b, d = .bool b ∧ v = .bl b) → Q v H') :
    tE X.K p fa ca f1 σ H fun y H1 => tE X.K p fb cb f2 σ H1 fun x H2 => ∃ a o, x = .ref a ∧ DGet H2 a y o ∧ Q (.bl (neg != o.isSome)) H2 := by
  obtain ⟨F, ρ, B, q, d, q', k1, k2, k3⟩ := t
  obtain ⟨d1, q1, e1, k2⟩ := M.bind_some k2
  obtain ⟨d2, q2, e2, k2⟩ := M.bind_some k2
  obtain ⟨e3, rfl⟩ := M.of_some k2
  refine fun _ => ⟨F, ρ, B, q, d1, q1, k1, e1, fun x H1 l1 s1 p1 r1 _ _ => ⟨F, ρ, B, q1, d2, _, k1.stp s1 p1, e2, fun y H2 l2 s2 p2 r2 _ => ?_⟩⟩
  unfold inDk at e3
  cases d2 with
  | dict kvs =>
    cases d1 with
    | int k =>
      dsimp only at e3
      cases z : dkOf kvs with
      | none => rw [z] at e3; cases e3
      | some l =>
        rw [z] at e3
        dsimp only at e3
        cases e3
        obtain ⟨a, vs, rfl, h1, h2⟩ := r2.cons.dk z
        rcases find_kvs k h2 with ⟨g1, g2⟩ | ⟨d', w, g1, g2, g3⟩
        · exact ⟨a, none, rfl, .inl ⟨_, Sum.inl k, .inl h1, by rw [r1.cons.int]; rfl, g2.symm⟩, k3 _ H2 l2 (s1.trans s2) p2 ⟨_, rfl, by rw [g1]; rfl⟩⟩
        · exact ⟨a, some w, rfl, .inl ⟨_, Sum.inl k, .inl h1, by rw [r1.cons.int]; rfl, g2.symm⟩, k3 _ H2 l2 (s1.trans s2) p2 ⟨_, rfl, by rw [g1]; rfl⟩⟩
    | _ => cases e3
  | _ => cases e3
theorem d_dkin {a b : Expr} {fa fb : Env → M D} {ca cb f1 f2 : Bool} {pos : Pos} {neg : Bool} {op : CmpOp} (hop : (op = .In ∧ neg = false) ∨ (op = .NotIn ∧ neg = true)) (hu : X.A.units + 1 < cLine) (ha : DE X p a fa ca f1) (hb : DE X p b fb cb f2) (hm : behindInMarks op b = false := by rfl) :
    DE X p (.Compare a [op] [b] pos) (ap2 (inDk neg) fa fb) false true :=
  ⟨peHL (pe_cmp (pc_dkin hop hu ha.pe hb.pe) hm) fun σ H Q hl t => by
    obtain ⟨F, ρ, B, q, d, q', k1, k2, k3⟩ := t hl
    exact dk_in_read (Q := fun v H' => HL H' → Q v H') ha hb ⟨F, ρ, B, q, d, q', k1, k2, fun v H' l s hq ⟨b, eb, ev⟩ _ => by subst eb ev; exact k3 _ H' l s hq rfl (fun _ z => by cases z)⟩⟩
theorem dt_dkin {a b : Expr} {fa fb : Env → M D} {ca cb f1 f2 : Bool} {pos : Pos} {neg : Bool} {op : CmpOp} (hop : (op = .In ∧ neg = false) ∨ (op = .NotIn ∧ neg = true)) (hu : X.A.units + 1 < cLine) (ha : DE X p a fa ca f1) (hb : DE X p b fb cb f2) (hm : behindInMarks op b = false := by rfl) :
    DT X p (.Compare a [op] [b] pos) (ap2 (inDk neg) fa fb) :=
  ⟨ptHL (pt_cmp (pc_dkin hop hu ha.pe hb.pe) hm) fun σ H Q hl t => by
    obtain ⟨F, ρ, B, q, b, q', k1, k2, k3⟩ := t hl
    exact dk_in_read (Q := fun v H' => ∃ c, v = .bl c ∧ (HL H' → Q c H')) ha hb ⟨F, ρ, B, q, _, q', k1, k2, fun v H' l s hq ⟨b', eb, ev⟩ => by cases eb; exact ⟨_, ev, fun l' => k3 H' l' s hq⟩⟩⟩
end
end Sd
/-! the end: a law over FnG -/
namespace Sd
open PySem PySem.Spec PyProof.Rows L2
theorem call_law {P : Program} {w : World} {K : PySem.W.Frag} {mg mb : Str → Option Value} {k : Nat} {fa a : Addr} {fd : FuncData} {x : Str} {sp : List V → Hp → VK → Prop} {s1 : Shared} {vs : List Value} {ns : List Int}
    (KX : K.In s1.heap) (hns : s1.heap.Ns mainGlobals mg) (hb : s1.heap.Ns builtinsNs mb) (hbb : ∀ x : Str, x ≠ "__name__" → mb x = bootBuiltins x) (hlim : s1.heap.NoLimit) (hg : s1.gens = #[])
    (ha : s1.heap.get? a = some { cls := .type "list", data := .seq vs.toArray }) (hi : IntsAre vs ns) (hl : ns.length ≤ sizeLine) (hr : Room k callerA)
    (G : ∀ base : Heap, K.In base → base.Ns mainGlobals mg → FnG P w K mg base k fa fd [x] sp) (hbind : ∀ (s : Shared) (u : Value), BindsTo s fd ⟨[u], []⟩ [(x, u)])
    (hsp : ∀ H : Hp, Only H → SqL K H a (ns.map V.int) → sp [.ref a] H (fun v _ => v = .bl true)) :
    codeAny (model P w) callerA (.call (.ref fa) ⟨[.ref a], []⟩) (fun r s' => r = .ok (.ret (.bool true)) ∧ OldK s1.heap s'.heap ∧ s'.os = s1.os ∧ AllBare s'.gens) s1 := by
  have rv := vals_ints hi
  have len := hi.length
  -- a heap that tracks the script at most
  have main : ∀ H : Hp, Only H → SqL K H a (ns.map V.int) → HOk P w H s1.heap → (∀ b, H b ≠ none → b = a ∧ K.lookup a = none) → codeAny (model P w) callerA (.call (.ref fa) ⟨[.ref a], []⟩) (fun r s' => r = .ok (.ret (.bool true)) ∧ OldK s1.heap s'.heap ∧ s'.os = s1.os ∧ AllBare s'.gens) s1 := by
    intro H only sq hok alone
    have none_at : ∀ {b : Addr}, (b = a → K.lookup a = none → False) → H b = none := fun {b} h => by
      cases q : H b with
      | none => rfl
      | some u =>
        obtain ⟨e1, e2⟩ := alone b (by rw [q]; simp)
        exact absurd e2 (h e1)
    have keepNs : ∀ {b : Addr} {m : Str → Option Value}, s1.heap.Ns b m → (hidT s1.heap H).Ns b m := fun {b m} ⟨o, es, ep, e, d, r⟩ => by
      refine ⟨o, es, ep, hidT_get e (none_at fun eb _ => ?_), d, r⟩
      rw [eb, ha] at e
      cases e
      cases (show Data.seq vs.toArray _ = Data.dict es ep from d)
    have inK : K.In (hidT s1.heap H) := fun b o e => hidT_get (KX b o e) (none_at fun eb z => by rw [eb, z] at e; cases e)
    have mod : Mod K mg (hidT s1.heap H) := ⟨inK, keepNs hns, ⟨mb, keepNs hb, hbb⟩, let ⟨mc, h1, h2⟩ := hlim; ⟨mc, keepNs h1, h2⟩⟩
    have e0 : Env0 P w K mg (hidT s1.heap H) callerA [] s1 H := ⟨rfl, mod, fun b o e => of_hidT e, Nat.le_of_eq (hidT_size _ _), trivial, fun b hb => (nomatch hb), hok, .of_eq hg⟩
    refine codeAny_mono ((G _ inK (keepNs hns)).run callerA [] s1 H ⟨[.ref a], []⟩ [.ref a] [.ref a] _ hr rfl e0 (hbind s1 (.ref a)) rfl (.cons rfl .nil) (hsp H only sq)) fun r s' hq => ?_
    obtain ⟨u, rfl, v, H', os, bare, un, hok', rv', ev⟩ := hq
    subst ev
    obtain rfl : u = Value.bool true := rv'
    refine ⟨rfl, OldK.of_keep fun b o e => ?_, os, bare⟩
    cases q : H b with
    | none => exact un.keep b o e q (fun z => (nomatch z)) (by simp)
    | some u =>
      rcases only b with z | ⟨ob, xs, z⟩
      · rw [q] at z; cases z
      · obtain ⟨e1, _⟩ := hok b _ z
        obtain ⟨e2, _⟩ := hok' b _ (un.frzs b ob _ z)
        rw [e] at e1; cases e1
        exact e2
  cases hk : K.lookup a with
  | some o =>
    have e := KX a o hk
    rw [ha] at e
    cases e
    exact main (fun _ => none) (fun _ => .inl rfl) (.inr ⟨_, vs.toArray, _, hk, rfl, rfl, rfl, by rw [List.size_toArray, len]; exact hl, by simpa using rv⟩) (fun b u z => by cases (show (none : Option HO) = some u from z)) (fun b z => absurd rfl z)
  | none =>
    have at_ : ∀ b, (if b = a then some (HO.frz { cls := .type "list", data := .seq vs.toArray } (.lst (ns.map V.int))) else none) ≠ none → b = a := fun b z => by
      by_cases e : b = a
      · exact e
      · exact absurd (if_neg e) z
    refine main (fun b => if b = a then some (.frz { cls := .type "list", data := .seq vs.toArray } (.lst (ns.map V.int))) else none) (fun b => ?_) (.inl (.inr ⟨{ cls := .type "list", data := .seq vs.toArray }, if_pos rfl⟩)) (fun b u z => ?_) (fun b z => ⟨at_ b z, hk⟩)
    · by_cases e : b = a
      · exact .inr ⟨_, _, if_pos e⟩
      · exact .inl (if_neg e)
    · obtain rfl := at_ b (by rw [show (if b = a then some (HO.frz { cls := .type "list", data := .seq vs.toArray } (.lst (ns.map V.int))) else none) = some u from z]; simp)
      have z' : some (HO.frz { cls := .type "list", data := .seq vs.toArray } (.lst (ns.map V.int))) = some u := (if_pos rfl).symm.trans z
      cases z'
      exact ⟨ha, by rw [List.length_map]; exact hl, vs, _, rv, ha⟩
theorem walk_ofG {l : PySem.W.OpenLaw} {n k : Nat} {q : Program} {loose : List Str} {XP : (Str → Option Value) → Heap → Prop} {YP : World → Heap → Prop} {d : DefRec} {x : Str} (hn : l.most = some n) (hn2 : n ≤ sizeLine) (hdf : d.params.defaults = []) (hr : Room k callerA)
    (F : ∀ (w : World) (mg : Str → Option Value) (fa : Addr) (h : Heap), YP w h → h.Ns mainGlobals mg → mg d.name = some (.ref fa) →
      ∃ (K : PySem.W.Frag) (fd : FuncData) (sp : List V → Hp → VK → Prop), K.In h ∧ (∀ (s : Shared) (u : Value), BindsTo s fd ⟨[u], []⟩ [(x, u)]) ∧
        (∀ (H : Hp) (a : Addr) (ns : List Int), ns.length ≤ n → Only H → SqL K H a (ns.map V.int) → sp [.ref a] H (fun v _ => v = .bl true)) ∧
        ∀ base : Heap, K.In base → base.Ns mainGlobals mg → FnG l.prog w K mg base k fa fd [x] sp) :
    PySem.W.WalkO q loose XP YP l.row.toRowW d [] (fun f vs => PySem.call f vs) := by
  refine Att.attach_call hn hdf fun w s0 s1 mg mb fa o pm cd doc a vs ns G Y ho hd hcd hmg hobj hints hlen hg => ?_
  obtain ⟨K, fd, sp, KX, hb, hsp, hF⟩ := F w mg fa _ Y G.T.g hmg
  exact call_law KX G.T.g G.T.b G.T.builtins G.T.nolimit hg hobj hints (Nat.le_trans hlen hn2) hr hF hb fun H hO hS => hsp H a ns hlen hO hS
/-! ### the draws -/
def drawN (A B C : Int) (m : Int) (q : Pot) : Int × Pot := if 0 < q.1 then (q.1 % m, (q.1 / m, q.2)) else (((q.2 * A + B) % 2147483587 * ((q.2 * A + B) % 2147483587) % 2147483549 / C) % m, (q.1, (q.2 * A + B) % 2147483587))
def drawS (A B C : Int) (ds : List D) : M D := fun q => match ds with
  | [.dict kvs, .int m] => if isPot kvs = true ∧ (0 < m ∧ m < 1073741824) ∧ (0 ≤ q.2 ∧ q.2 < 4294967296) then some (.int (drawN A B C m q).1, (drawN A B C m q).2) else none
  | _ => none
theorem drawS_some {A B C : Int} {ds : List D} {q q' : Pot} {d : D} (h : drawS A B C ds q = some (d, q')) : ∃ kvs m, ds = [.dict kvs, .int m] ∧ isPot kvs = true ∧ (0 < m ∧ m < 1073741824) ∧ (0 ≤ q.2 ∧ q.2 < 4294967296) ∧ d = .int (drawN A B C m q).1 ∧ q' = (drawN A B C m q).2 := by
  unfold drawS at h
  split at h
  · rename_i kvs m
    by_cases c : isPot kvs = true ∧ (0 < m ∧ m < 1073741824) ∧ (0 ≤ q.2 ∧ q.2 < 4294967296)
    · rw [if_pos c] at h
      cases h
      exact ⟨kvs, m, rfl, c.1, c.2.1, c.2.2, rfl, rfl⟩
    · rw [if_neg c] at h; cases h
  · cases h
/-- what the def _law_draw keeps, in its own words -/
def spDraw (A B C : Int) (vs : List V) (H : Hp) (Q : VK) : Prop := ∃ (p : Addr) (m : Int) (q : Pot), vs = [.ref p, .int m] ∧ H p = some (potV q) ∧ (0 < m ∧ m < 1073741824) ∧ (0 ≤ q.2 ∧ q.2 < 4294967296) ∧
  ∀ H', Stp p H H' → H' p = some (potV (drawN A B C m q).2) → Q (.int (drawN A B C m q).1) H'
/-- a block's scope, looked at -/
def blkB (N : List Str) (sc scope : Scope) (own : List (Str × Nat)) : Bool := decide (scope.kind = .function) && (scope.names.all (fun y => decide (scope.names.lookup y.1 = some y.2)) && (own.all (fun p => decide (N[p.2]? = some p.1)) &&
  (scope.names.all (fun y => !decide (y.2 = .free) || (decide (sc.names.lookup y.1 = some .cell) || decide (sc.names.lookup y.1 = some .free))) && scope.names.all (fun y => !(decide (y.2 = .local) || decide (y.2 = .cell)) || (decide (y.1 ∈ own.map (·.1)) || decide (y.1 ∉ N))))))
theorem blk_of {N : List Str} {sc scope : Scope} {own : List (Str × Nat)} (h : blkB N sc scope own = true) : BlkOk N sc scope own := by
  unfold blkB at h
  simp only [Bool.and_eq_true, decide_eq_true_eq, List.all_eq_true, Bool.or_eq_true, Bool.not_eq_true', decide_eq_false_iff_not, Bool.or_eq_false_iff] at h
  obtain ⟨h1, h2, h3, h4, h5⟩ := h
  refine ⟨h1, h2, h3, fun y hy e => ?_, fun y hy e => ?_⟩
  · rcases h4 y hy with z | z
    · exact absurd e z
    · exact z
  · rcases h5 y hy with z | z
    · rcases e with e | e
      · exact absurd e z.1
      · exact absurd e z.2
    · exact z
theorem ite_read {b : Bool} {P Q : Prop} (h1 : b = true → P) (h2 : b = false → Q) : if b = true then P else Q := by
  cases b with
  | true => rw [if_pos rfl]; exact h1 rfl
  | false => rw [if_neg Bool.false_ne_true]; exact h2 rfl
theorem FnG.imp {P : Program} {w : World} {K : PySem.W.Frag} {mg : Str → Option Value} {base : Heap} {k : Nat} {f : Addr} {fd : FuncData} {ps : List Str} {sp sp' : List V → Hp → VK → Prop} (F : FnG P w K mg base k f fd ps sp) (h : ∀ vs H Q, HL H → sp' vs H Q → sp vs H (fun v H' => HL H' → Q v H')) : FnG P w K mg base k f fd ps sp' :=
  ⟨fun A outer s H args us vs Q hr hg e0 hb hl r hsp => codeAny_mono (F.run A outer s H args us vs _ hr hg e0 hb hl r (h vs H Q (HL_of e0.hok) hsp)) fun r s' hq => by
    obtain ⟨u, e, v, H', os, bare, un, hok', rv', q⟩ := hq
    exact ⟨u, e, v, H', os, bare, un, hok', rv', q (HL_of hok')⟩⟩
theorem fnG_draw {P : Program} {w : World} {K : PySem.W.Frag} {mg : Str → Option Value} {base : Heap} {k : Nat} {f : Addr} {fd : FuncData} {ps : List Str} {A B C : Int} (F : FnG P w K mg base k f fd ps (spDraw A B C)) : FnG P w K mg base k f fd ps (spD K 2 (drawS A B C)) :=
  F.imp fun vs H Q hl h => by
    obtain ⟨len, p, ds, B', q, d, q', r, hp, nt, hq, e, k⟩ := h
    obtain ⟨kvs, m, rfl, h1, h2, h3, rfl, rfl⟩ := drawS_some e
    obtain ⟨v, _, rfl, r1, v2, _, rfl, r2, rfl⟩ := r
    rcases r1 with ⟨_, rfl⟩ | ⟨z, _⟩
    · obtain rfl : v2 = V.int m := r2
      exact ⟨p, m, q, rfl, hq, h2, h3, fun H' s p' l => k _ H' l s p' rfl⟩
    · rw [h1] at z; cases z
end Sd
/-! a def over data from its body -/
namespace Sd
open PySem PySem.Spec PyProof.Rows L2
def startE (n : Nat) (ds : List D) : Env := ds.map (fun d => some (false, d)) ++ List.replicate (n - ds.length) none
/-- what a def with that body does: n slots -/
def defM (n : Nat) (f : SE) : List D → M D := fun ds => M.bind (f (startE n ds)) fun r => match r.1 with
  | .rt d => M.pure d
  | .nx => M.pure .none
  | _ => M.fail
theorem defM_some {n : Nat} {f : SE} {ds : List D} {q q' : Pot} {d : D} (h : defM n f ds q = some (d, q')) : ∃ r, f (startE n ds) q = some (r, q') ∧ (r.1 = .rt d ∨ (r.1 = .nx ∧ d = .none)) := by
  obtain ⟨⟨fl, ρ⟩, q1, e1, h2⟩ := M.bind_some h
  clear h
  cases fl with
  | rt e => obtain ⟨rfl, rfl⟩ := M.pure_some h2; exact ⟨_, e1, .inl rfl⟩
  | nx => obtain ⟨rfl, rfl⟩ := M.pure_some h2; exact ⟨_, e1, .inr ⟨rfl, rfl⟩⟩
  | bk => cases h2
  | ct => cases h2
theorem startE_get {n : Nat} {ds : List D} {i : Nat} {b : Bool} {d : D} (h : (startE n ds)[i]? = some (some (b, d))) : i < ds.length ∧ b = false ∧ ds[i]? = some d := by
  unfold startE at h
  by_cases c : i < (ds.map (fun d => some (false, d))).length
  · rw [List.getElem?_append_left c, List.getElem?_map] at h
    rw [List.length_map] at c
    cases z : ds[i]? with
    | none => rw [z] at h; cases h
    | some e => rw [z] at h; cases h; exact ⟨c, rfl, rfl⟩
  · rw [List.getElem?_append_right (by omega)] at h
    have m := List.mem_of_getElem? h
    rw [List.mem_replicate] at m
    cases m.2
theorem start_get {N : List Str} {vs : List V} {i : Nat} {v : V} (h : vs[i]? = some v) : (L2.start N vs)[i]? = some (some v) := by
  unfold L2.start
  have lt : i < (vs.map some).length := by rw [List.length_map]; exact (List.getElem?_eq_some_iff.mp h).1
  rw [List.getElem?_append_left lt, List.getElem?_map, h]; rfl
theorem fnG_def {P : Program} {w : World} {K : PySem.W.Frag} {mg : Str → Option Value} {base : Heap} {x qual : Str} {body : List Stmt} {scope : Scope} {f : Addr} {fd : FuncData} {N ps : List Str} {k : Nat} {params : Arguments} {fS : SE}
    (F : FunD K x qual params body scope [] [] f fd) (S : FnScope N ps scope) (hl : ps.length ≤ N.length)
    (hbody : ∀ (p : Addr) (cdv : Value) (A : Around) (outer : List PySem.Env) (s : Shared) (H : Hp), Room k (A.deeper (envOfC qual scope s.heap.objs.size f cdv)) → A.guards = some [] → DSs (cxB P w K mg base N qual scope f cdv A outer s H) p body fS) :
    FnG P w K mg base (k + 1) f fd ps (spD K ps.length (defM N.length fS)) := by
  refine FnG.imp (fnG_of (sp := fun vs H Q => HL H ∧ spD K ps.length (defM N.length fS) vs H Q) F S fun cdv A outer s H vs Q hr hg len h => ?_) fun vs H Q hl h => ⟨hl, ?_⟩
  · obtain ⟨hL, _, p, ds, B, q, d, q', r, hp, nt, hq, e, kk⟩ := h
    refine ⟨_, (hbody p cdv A outer s H hr hg).pss, fun _ => ?_⟩
    obtain ⟨rr, e1, e2⟩ := defM_some e
    have lv : vs.length = ds.length := r.length
    refine ⟨H, B, [], startE N.length ds, q, rr, q', ⟨fun _ _ h _ => h, ⟨hq, hp, nt, fun i b d' h => ?_, ?_⟩, hp, fun a ha => (nomatch ha), fun a ha => ?_, fun i j d1 d2 a h1 h2 => ?_, ?_⟩, e1, ?_⟩
    · obtain ⟨_, rfl, hd⟩ := startE_get h
      obtain ⟨v, h1, h2⟩ := r.get hd
      exact ⟨v, start_get h1, fun _ => h2, fun z => (by cases z)⟩
    · unfold L2.start startE; simp [lv]
    · obtain ⟨o, ho, _⟩ := nt a ha
      rw [ho]; exact fun z => by cases z
    · obtain ⟨_, z, _⟩ := startE_get h1; cases z
    · unfold L2.start startE; simp [lv]
    · obtain ⟨fl, ρ'⟩ := rr
      rcases e2 with e2 | ⟨e2, rfl⟩
      · obtain rfl : fl = .rt d := e2
        exact fun v H' l st pq rv => kk v H' l st pq rv
      · obtain rfl : fl = .nx := e2
        exact fun σ' H' own' l St => kk .non H' l St.stp0 St.pre.pot rfl
  · obtain ⟨len, p, ds, B, q, d, q', r, hp, nt, hq, e, kk⟩ := h
    exact ⟨len, p, ds, B, q, d, q', r, hp, nt, hq, e, fun v H' l s p' rep _ => kk v H' l s p' rep⟩
theorem room_u {k : Nat} {A : Around} (r : Room k A) {n : Nat} (h : n ≤ 200) : A.units + n < cLine := by have := r.un; omega
/-! ### builtins by data -/
section
variable {X : Cx} {p : Addr} {e : Expr} {f : Env → M D} {c fr : Bool} {np pos : Pos}
theorem d_len (hg : Gl X "len") (hm : X.mg "len" = none) (ha : DE X p e f c fr) (hs : starEach [e] X.env = (false, eval e X.env) :: starEach [] X.env := by rfl) (hpl : (backTo pos (starEach [] X.env)).any (·.1) = false := by rfl) : DE X p (.Call (.Name "len" np) [e] [] pos) (ap lenD [f]) false false :=
  d_callR (fun h => pe_callB call_len_seq hg hm (by decide +kernel) h (by decide) (by decide) hs hpl) ok_len (da_cons ha.weak da_nil hs)
theorem d_all (hc : X.calm = true) (hg : Gl X "all") (hm : X.mg "all" = none) (ha : DE X p e f c fr) (hs : starEach [e] X.env = (false, eval e X.env) :: starEach [] X.env := by rfl) (hpl : (backTo pos (starEach [] X.env)).any (·.1) = false := by rfl) : DE X p (.Call (.Name "all" np) [e] [] pos) (ap allD [f]) false false :=
  d_callR (fun h => pe_callB (cr_all hc) hg hm (by decide +kernel) h (by decide) (by decide) hs hpl) ok_all (da_cons ha.weak da_nil hs)
theorem d_any (hc : X.calm = true) (hg : Gl X "any") (hm : X.mg "any" = none) (ha : DE X p e f c fr) (hs : starEach [e] X.env = (false, eval e X.env) :: starEach [] X.env := by rfl) (hpl : (backTo pos (starEach [] X.env)).any (·.1) = false := by rfl) : DE X p (.Call (.Name "any" np) [e] [] pos) (ap anyD [f]) false false :=
  d_callR (fun h => pe_callB (cr_any hc) hg hm (by decide +kernel) h (by decide) (by decide) hs hpl) ok_any (da_cons ha.weak da_nil hs)
theorem d_list (hg : Gl X "list") (hm : X.mg "list" = none) (ha : DE X p e f c fr) (hs : starEach [e] X.env = (false, eval e X.env) :: starEach [] X.env := by rfl) (hpl : (backTo pos (starEach [] X.env)).any (·.1) = false := by rfl) : DE X p (.Call (.Name "list" np) [e] [] pos) (ap listD [f]) false true :=
  d_callR (fun h => pe_callTy call_list_of hg hm (by decide +kernel) h (by decide) (by decide) hs hpl) ok_list (da_cons ha.weak da_nil hs)
theorem d_tupC (hg : Gl X "tuple") (hm : X.mg "tuple" = none) (ha : DE X p e f c fr) (hs : starEach [e] X.env = (false, eval e X.env) :: starEach [] X.env := by rfl) (hpl : (backTo pos (starEach [] X.env)).any (·.1) = false := by rfl) : DE X p (.Call (.Name "tuple" np) [e] [] pos) (ap tupD [f]) false true :=
  d_callR (fun h => pe_callTy call_tupleO hg hm (by decide +kernel) h (by decide) (by decide) hs hpl) ok_tup (da_cons ha.weak da_nil hs)
theorem d_sorted (hu : X.A.units + 70 < cLine) (hg : Gl X "sorted") (hm : X.mg "sorted" = none) (ha : DE X p e f c fr) (hs : starEach [e] X.env = (false, eval e X.env) :: starEach [] X.env := by rfl) (hpl : (backTo pos (starEach [] X.env)).any (·.1) = false := by rfl) : DE X p (.Call (.Name "sorted" np) [e] [] pos) (ap sortedD [f]) false true :=
  d_callR (fun h => pe_callB (cr_sortedD hu) hg hm (by decide +kernel) h (by decide) (by decide) hs hpl) ok_sorted (da_cons ha.weak da_nil hs)
theorem d_repr (hgd : X.A.guards = some []) (hu : X.A.units + 64 < cLine) (hg : Gl X "repr") (hm : X.mg "repr" = none) (ha : DE X p e f c fr) (hs : starEach [e] X.env = (false, eval e X.env) :: starEach [] X.env := by rfl) (hpl : (backTo pos (starEach [] X.env)).any (·.1) = false := by rfl) : DE X p (.Call (.Name "repr" np) [e] [] pos) (ap reprD [f]) false false :=
  d_callR (fun h => pe_callB (cr_repr hgd hu) hg hm (by decide +kernel) h (by decide) (by decide) hs hpl) ok_repr (da_cons ha.weak da_nil hs)
theorem d_sumL {b : Expr} {g : Env → M D} {f1 f2 : Bool} (hc : X.calm = true) (hg : Gl X "sum") (hm : X.mg "sum" = none) (ha : DE X p e f false f1) (hb : DE X p b g false f2) (hs : starEach [e, b] X.env = (false, eval e X.env) :: starEach [b] X.env := by rfl) (hs2 : starEach [b] X.env = (false, eval b X.env) :: starEach [] X.env := by rfl) (hpl : (backTo pos (starEach [b] X.env)).any (·.1) = false := by rfl) :
    DE X p (.Call (.Name "sum" np) [e, b] [] pos) (ap sumLD [f, g]) false false :=
  d_callR0 (fun h => pe_callB (cr_sumL hc) hg hm (by decide +kernel) h (by decide) (by decide) hs hpl) ok_sumL (da_cons ha (da_cons hb da_nil hs2) hs)
end
end Sd

namespace Sd
open PySem PySem.Spec PyProof.Rows L2
/-! ### names, blocks: with their side facts -/
section
variable {X : Cx} {p : Addr}
theorem dv (i : Nat) {x : Str} {pos : Pos} (hN : X.N[i]? = some x := by rfl) (hv : Vis X.env.scope x := by first | exact Or.inl rfl | exact Or.inr (Or.inl rfl) | exact Or.inr (Or.inr rfl)) (hd : (x == ("__debug__" : Str)) = false := by decide) (hcd : (x == ("__classdict__" : Str)) = false := by decide) :
    DE X p (.Name x pos) (vr i) false false := d_var i hN hv hd hcd
theorem dvC (i : Nat) {x : Str} {pos : Pos} (hN : X.N[i]? = some x := by rfl) (hv : Vis X.env.scope x := by first | exact Or.inl rfl | exact Or.inr (Or.inl rfl) | exact Or.inr (Or.inr rfl)) (hd : (x == ("__debug__" : Str)) = false := by decide) (hcd : (x == ("__classdict__" : Str)) = false := by decide) :
    DE X p (.Name x pos) (vrC i) true false := d_varC i hN hv hd hcd
theorem dgS {x z : Str} {pos : Pos} {fr : Bool} (hm : ∃ t, X.mg x = some (.str z t)) (hg : Gl X x := by rfl) (hd : (x == ("__debug__" : Str)) = false := by decide) : DE X p (.Name x pos) (cst (.str z)) false fr := by
  obtain ⟨t, hm⟩ := hm
  exact d_glob (v := .str z) hm ⟨t, rfl⟩ (fun _ => rfl) rfl hg hd
theorem dgI {x : Str} {z : Int} {pos : Pos} {fr : Bool} (hm : ∃ t, X.mg x = some (.int z t)) (hg : Gl X x := by rfl) (hd : (x == ("__debug__" : Str)) = false := by decide) : DE X p (.Name x pos) (cst (.int z)) false fr := by
  obtain ⟨t, hm⟩ := hm
  exact d_glob (v := .int z) hm ⟨t, rfl⟩ (fun _ => rfl) rfl hg hd
end
/-! ### keywords -/
def permL (is : List Nat) {α : Type} (ws : List α) : List α := is.filterMap fun i => ws[i]?
theorem permL_len {is : List Nat} {α : Type} {ws : List α} (h : ∀ i ∈ is, i < ws.length) : (permL is ws).length = is.length := by
  unfold permL
  induction is with
  | nil => rfl
  | cons i is ih =>
    rw [List.filterMap_cons_some (List.getElem?_eq_getElem (h i List.mem_cons_self)), List.length_cons, List.length_cons, ih fun j hj => h j (List.mem_cons_of_mem _ hj)]
theorem permL_rep {is : List Nat} {K : PySem.W.Frag} {p : Addr} {H : Hp} {ds : List D} {vs : List V} (h : ∀ i ∈ is, i < ds.length) (r : RepL K p ds H vs) : RepL K p (permL is ds) H (permL is vs) := by
  unfold permL
  induction is with
  | nil => exact rfl
  | cons i is ih =>
    have hi := h i List.mem_cons_self
    obtain ⟨v, h1, h2⟩ := r.get (List.getElem?_eq_getElem hi)
    rw [List.filterMap_cons_some (List.getElem?_eq_getElem hi), List.filterMap_cons_some h1]
    exact ⟨v, _, rfl, h2, ih fun j hj => h j (List.mem_cons_of_mem _ hj)⟩
theorem permL_vals {is : List Nat} {vs : List V} {us : List Value} (h : ∀ i ∈ is, i < vs.length) (r : Vals vs us) : Vals (permL is vs) (permL is us) := by
  unfold permL
  induction is with
  | nil => exact .nil
  | cons i is ih =>
    have hi := h i List.mem_cons_self
    obtain ⟨u, h1, h2⟩ := r.get (List.getElem?_eq_getElem hi)
    rw [List.filterMap_cons_some (List.getElem?_eq_getElem hi), List.filterMap_cons_some h1]
    exact .cons h2 (ih fun j hj => h j (List.mem_cons_of_mem _ hj))
theorem kw_of {K : PySem.W.Frag} {x qual : Str} {params : Arguments} {body : List Stmt} {scope : Scope} {f : Addr} {fd : FuncData} {ps ks : List Str} (F : FunD K x qual params body scope [] [] f fd) (is : List Nat) (hi : is.all (fun i => decide (i < ks.length)) = true) (hl : is.length = ps.length)
    (h : ∀ (kV doc pm : Value) (an : Option Addr) (cdv ct : Value) (us : List Value), us.length = ks.length → bindArgs (PySem.W.fnOf x qual params body scope .none kV doc pm an cdv ct) ⟨[], ks.zip us⟩ = pure (ps.zip (permL is us))) : KwB K fd ps ks (permL is) := by
  have hi' : ∀ i ∈ is, i < ks.length := fun i m => by simpa using List.all_eq_true.mp hi i m
  refine ⟨fun s ws _ hw => ?_, fun ws hw => by rw [permL_len (fun i m => by rw [hw]; exact hi' i m), hl], fun hz r => permL_vals (fun i m => by rw [hz]; exact hi' i m) r⟩
  obtain ⟨oc, od, dV, kV, doc, pm, an, cdv, ct, osl, rfl, lk, hcd, hD, hK⟩ := F.ex
  rcases hD with ⟨_, rfl⟩ | ⟨e, _⟩
  · exact .of_eq (h kV doc pm an cdv ct ws hw)
  · exact absurd rfl e
end Sd

namespace Sd
open PySem PySem.Spec PyProof.Rows L2
section
variable {X : Cx} {p : Addr} {k : Nat} {f : Addr} {fd : FuncData} {ps ks : List Str} {x : Str} {np pos : Pos} {e : Expr} {es : List Expr} {kws : List Keyword} {φ : List D → M D} {fs : List (Env → M D)}
theorem d_call {n : Nat} (F : FnG X.prog X.w X.K X.mg X.base k f fd ps (spD X.K n φ)) (hr : Room k X.A) (hgd : X.A.guards = some []) (hm : X.mg x = some (.ref f)) (hk : PySem.W.keepIn X.K (.ref f) = true) (hb : Binds X.K fd ps []) (ha : DA X p (e :: es) fs false) (hl : ps.length = n := by rfl) (hn : fs.length = n := by rfl) (hg : Gl X x := by rfl)
    (hdb : (x == ("__debug__" : Str)) = false := by decide) (he : starEach (e :: es) X.env = (false, eval e X.env) :: starEach es X.env := by rfl) (hpl : (backTo pos (starEach es X.env)).any (·.1) = false := by rfl) : DE X p (.Call (.Name x np) (e :: es) [] pos) (callE φ fs) false false := by
  subst hl
  exact d_callG (fun h => pe_callG F hr hgd hg hm hk hb h hdb he hpl) hn ha
theorem d_callB {n : Nat} (F : FnG X.prog X.w X.K X.mg X.base k f fd ps (spD X.K n φ)) (hr : Room k X.A) (hgd : X.A.guards = some []) (hm : X.mg x = some (.ref f)) (hk : PySem.W.keepIn X.K (.ref f) = true) (hb : Binds X.K fd ps []) (ha : DA X p (e :: es) fs true) (hl : ps.length = n := by rfl) (hn : fs.length = n := by rfl) (hg : Gl X x := by rfl)
    (hdb : (x == ("__debug__" : Str)) = false := by decide) (he : starEach (e :: es) X.env = (false, eval e X.env) :: starEach es X.env := by rfl) (hpl : (backTo pos (starEach es X.env)).any (·.1) = false := by rfl) : DE X p (.Call (.Name x np) (e :: es) [] pos) (callC φ fs) false false := by
  subst hl
  exact d_callGC (fun h => pe_callG F hr hgd hg hm hk hb h hdb he hpl) hn ha
theorem d_callK {n : Nat} (is : List Nat) (F : FnG X.prog X.w X.K X.mg X.base k f fd ps (spD X.K n φ)) (hr : Room k X.A) (hgd : X.A.guards = some []) (hm : X.mg x = some (.ref f)) (hk : PySem.W.keepIn X.K (.ref f) = true) (hb : KwB X.K fd ps ks (permL is)) (ha : DK X p kws fs false) (hl : ps.length = n := by rfl) (hn : fs.length = ks.length := by rfl) (hi : is.all (fun i => decide (i < ks.length)) = true := by decide) (hil : is.length = n := by rfl) (hg : Gl X x := by rfl)
    (hall : (backToKw pos (keywordEach kws X.env)).all (·.1.isSome) = true := by rfl) (hks : (backToKw pos (keywordEach kws X.env)).filterMap (·.1) = ks := by rfl)
    (hpl : ((backTo pos (starEach [] X.env)).any (·.1) || (backToKw pos (keywordEach kws X.env)).any (·.1.isNone)) = false := by rfl) (hdb : (x == ("__debug__" : Str)) = false := by decide) : DE X p (.Call (.Name x np) [] kws pos) (callE (fun ds => φ (permL is ds)) fs) false false := by
  subst hl
  have hi' : ∀ i ∈ is, i < ks.length := fun i m => by simpa using List.all_eq_true.mp hi i m
  exact d_callGK (g := permL is) (fun h => pe_callGK F hr hgd hg hm hk hb h hall hks hpl hdb) hn (fun hm r => permL_rep (fun i m => by rw [hm]; exact hi' i m) r) (fun ws hw => by rw [permL_len (fun i m => by rw [hw]; exact hi' i m), hil]) ha
theorem d_isiT {e1 : Expr} {tp pos : Pos} {g : Env → M D} {c fr : Bool} {T : Str} (n : String) (hm : X.mg "isinstance" = none) (hT : X.mg T = none) (h1 : DE X p e1 g c fr) (hv : bootBuiltins T = some (.type n) := by decide +kernel) (hg : Gl X "isinstance" := by rfl) (hgT : Gl X T := by rfl) (hn : T ≠ "__name__" := by decide) (hd : (T == ("__debug__" : Str)) = false := by decide)
    (s1 : starEach [e1, .Name T tp] X.env = (false, eval e1 X.env) :: starEach [.Name T tp] X.env := by rfl) (s2 : starEach [.Name T tp] X.env = (false, eval (.Name T tp) X.env) :: starEach [] X.env := by rfl) (hpl : (backTo pos (starEach [.Name T tp] X.env)).any (·.1) = false := by rfl) :
    DE X p (.Call (.Name "isinstance" np) [e1, .Name T tp] [] pos) (ap1 (isiD n) g) false true := d_isi n hg hm h1 (pe_bltn hgT hT hv rfl hn hd) s1 s2 hpl
theorem tupAsg2 {i j : Nat} (ws : List V) (σ : L2.St) (H : Hp) (Q : L2.St → Hp → Prop) (hl : ws.length = 2) (hq : Q (sets σ [i, j] ws) H) : gCons (gName i) (gCons (gName j) gNil) ws σ H Q := by
  match ws, hl with
  | [a, b], _ => exact ⟨a, [b], rfl, b, [], rfl, rfl, hq⟩
theorem tupAsg3 {i j k : Nat} (ws : List V) (σ : L2.St) (H : Hp) (Q : L2.St → Hp → Prop) (hl : ws.length = 3) (hq : Q (sets σ [i, j, k] ws) H) : gCons (gName i) (gCons (gName j) (gCons (gName k) gNil)) ws σ H Q := by
  match ws, hl with
  | [a, b, c], _ => exact ⟨a, [b, c], rfl, b, [c], rfl, c, [], rfl, rfl, hq⟩
end
end Sd
/-! more: facts of tables, constant tuples, unpacking, dicts by tuples -/
namespace Sd
open PySem PySem.Spec PyProof.Rows L2
/-! ### a head's facts and one Bool more -/
abbrev AlE : Type := He.AlD × Bool
def obsE (n : Nat) (fa : List He.Fa) (fn : List He.DefD) (ex : PySem.W.Frag → Bool) (g : Addr → Option Obj) : AlE := (He.obsD fa fn (He.frG g (He.asD g n)), ex (He.frG g (He.asD g n)))
def SaysE (fa : List He.Fa) (fn : List He.DefD) (ex : PySem.W.Frag → Bool) (K : PySem.W.Frag) : Prop := He.SaysD fa fn K ∧ ex K = true
def hookE (n : Nat) (fa : List He.Fa) (fn : List He.DefD) (ex : PySem.W.Frag → Bool) : PySem.W.Hook where
  α := AlE
  obs := fun s => obsE n fa fn ex s.heap.get?
  val := fun _ => (He.valD fn, true)
  says := fun _ h => ∃ K : PySem.W.Frag, K.In h ∧ SaysE fa fn ex K
  of := fun _ _ e => ⟨_, He.frG_in, congrArg (fun z : AlE => z.1) e, congrArg (fun z : AlE => z.2) e⟩
  keeps := fun _ _ _ ⟨K, hK, c⟩ k => ⟨K, PySem.W.Frag.In.keeps hK k, c⟩
theorem obsE_eq {n : Nat} {fa : List He.Fa} {fn : List He.DefD} {ex : PySem.W.Frag → Bool} {g : Addr → Option Obj} {s : Shared} (h : ∀ a, g a = s.heap.get? a) : obsE n fa fn ex g = (hookE n fa fn ex).obs s := by
  have e : g = s.heap.get? := funext h
  rw [e] <;> rfl
/-! ### in a constant tuple of texts -/
section
variable {X : Cx} {p : Addr} {K : PySem.W.Frag} {H0 H H' H1 : Hp} {Ext own B : List Addr} {σ : L2.St} {ρ : Env} {q q' : Pot} {E : Ends} {F : Addr → Prop} {c fr : Bool} {f g : Env → M D} {e : Expr}
def strsD (xs : List Str) : D := .tuple (xs.map .str)
theorem strs_nod : ∀ xs : List Str, nodL (xs.map (.str : Str → D)) = true
  | [] => rfl
  | x :: xs => by simp only [List.map_cons, nodL, nod, strs_nod xs, Bool.and_self]
theorem strs_dp {a : Addr} {xs : List Str} (h : ∀ H, SqT K H a (xs.map V.str)) : ∀ H, Dp K H (.ref a) (strsD xs) := fun H => .tup (h H) (by
  have key : ∀ xs : List Str, DpAll K H (xs.map V.str) (xs.map .str) := fun xs => by
    induction xs with
    | nil => exact .nil
    | cons x xs ih => exact .cons (.str x) ih
  exact key xs)
theorem in_const {a : Expr} {t : Addr} {fa : Env → M D} {ca f1 : Bool} {xs : List Str} {neg : Bool} {Q : VK} (ha : DE X p a fa ca f1) (hT : ∀ H, Dp X.K H (.ref t) (strsD xs))
    (t' : ∃ (F : Addr → Prop) (ρ : Env) (B : List Addr) (q : Pot) (d : D) (q' : Pot), Pre X.K p F H B σ ρ q ∧ ap1 (fun d => inG neg d (strsD xs)) fa ρ q = some (d, q') ∧ ∀ v H', HL H' → Stp p H H' → H' p = some (potV q') → (∃ b, d = .bool b ∧ v = .bl b) → Q v H') :
    tOp (rInS X.K neg) (tE X.K p fa ca f1) (tC (.ref t)) σ H Q := by
  obtain ⟨F, ρ, B, q, d, q', k1, k2, k3⟩ := t'
  obtain ⟨d1, q1, e1, k2⟩ := M.bind_some k2
  obtain ⟨e3, rfl⟩ := M.of_some k2
  refine fun _ => ⟨F, ρ, B, q, d1, _, k1, e1, fun y H1 l1 s1 p1 r1 _ => ?_⟩
  unfold inG at e3
  have ei : items (strsD xs) = some (xs.map .str) := rfl
  rw [ei] at e3
  dsimp only at e3
  by_cases z : (SeqAt.shaped d1 && SeqAt.shaped (strsD xs) && (nod d1 && nod (strsD xs))) = true
  · rw [if_pos z] at e3
    cases e3
    simp only [Bool.and_eq_true] at z
    exact ⟨d1, strsD xs, _, r1.cons.dp k1.pB z.2.1, hT _, ei, z.1.1, z.1.2, k3 _ H1 l1 s1 p1 ⟨_, rfl, rfl⟩⟩
  · rw [if_neg z] at e3; cases e3
end
section
variable {X : Cx} {p : Addr} {a : Expr} {x : Str} {np pos : Pos} {t : Addr} {fa : Env → M D} {ca f1 : Bool} {xs : List Str}
theorem d_inC (hu : X.A.units + 65 < cLine) (hm : X.mg x = some (.ref t)) (hT : ∀ H, SqT X.K H t (xs.map V.str)) (ha : DE X p a fa ca f1) (hg : Gl X x := by rfl) (hb : behindInMarks .In (.Name x np) = false := by rfl) (hd : (x == ("__debug__" : Str)) = false := by decide) :
    DE X p (.Compare a [.In] [.Name x np] pos) (ap1 (fun d => inG false d (strsD xs)) fa) false true :=
  ⟨peHL (pe_cmpR (op_inS hu) ha.pe (pe_glob hg hm (v := .ref t) rfl hd) hb) fun σ H Q hl t => by
    obtain ⟨F, ρ, B, q, d, q', k1, k2, k3⟩ := t hl
    exact in_const ha (strs_dp hT) ⟨F, ρ, B, q, d, q', k1, k2, fun v H' l s hq ⟨b, eb, ev⟩ _ => by subst eb ev; exact k3 _ H' l s hq rfl (fun _ z => by cases z)⟩⟩
theorem dt_inC (hu : X.A.units + 65 < cLine) (hm : X.mg x = some (.ref t)) (hT : ∀ H, SqT X.K H t (xs.map V.str)) (ha : DE X p a fa ca f1) (hg : Gl X x := by rfl) (hb : behindInMarks .In (.Name x np) = false := by rfl) (hd : (x == ("__debug__" : Str)) = false := by decide) :
    DT X p (.Compare a [.In] [.Name x np] pos) (ap1 (fun d => inG false d (strsD xs)) fa) :=
  ⟨ptHL (pt_cmpR (op_inS hu) ha.pe (pe_glob hg hm (v := .ref t) rfl hd) hb) fun σ H Q hl t => by
    obtain ⟨F, ρ, B, q, b, q', k1, k2, k3⟩ := t hl
    exact in_const ha (strs_dp hT) ⟨F, ρ, B, q, _, q', k1, k2, fun v H' l s hq ⟨b', eb, ev⟩ => by cases eb; exact ⟨_, ev, fun l' => k3 H' l' s hq⟩⟩⟩
theorem d_ninC (hu : X.A.units + 65 < cLine) (hm : X.mg x = some (.ref t)) (hT : ∀ H, SqT X.K H t (xs.map V.str)) (ha : DE X p a fa ca f1) (hg : Gl X x := by rfl) (hb : behindInMarks .NotIn (.Name x np) = false := by rfl) (hd : (x == ("__debug__" : Str)) = false := by decide) :
    DE X p (.Compare a [.NotIn] [.Name x np] pos) (ap1 (fun d => inG true d (strsD xs)) fa) false true :=
  ⟨peHL (pe_cmpR (op_notInS hu) ha.pe (pe_glob hg hm (v := .ref t) rfl hd) hb) fun σ H Q hl t => by
    obtain ⟨F, ρ, B, q, d, q', k1, k2, k3⟩ := t hl
    exact in_const ha (strs_dp hT) ⟨F, ρ, B, q, d, q', k1, k2, fun v H' l s hq ⟨b, eb, ev⟩ _ => by subst eb ev; exact k3 _ H' l s hq rfl (fun _ z => by cases z)⟩⟩
theorem dt_ninC (hu : X.A.units + 65 < cLine) (hm : X.mg x = some (.ref t)) (hT : ∀ H, SqT X.K H t (xs.map V.str)) (ha : DE X p a fa ca f1) (hg : Gl X x := by rfl) (hb : behindInMarks .NotIn (.Name x np) = false := by rfl) (hd : (x == ("__debug__" : Str)) = false := by decide) :
    DT X p (.Compare a [.NotIn] [.Name x np] pos) (ap1 (fun d => inG true d (strsD xs)) fa) :=
  ⟨ptHL (pt_cmpR (op_notInS hu) ha.pe (pe_glob hg hm (v := .ref t) rfl hd) hb) fun σ H Q hl t => by
    obtain ⟨F, ρ, B, q, b, q', k1, k2, k3⟩ := t hl
    exact in_const ha (strs_dp hT) ⟨F, ρ, B, q, _, q', k1, k2, fun v H' l s hq ⟨b', eb, ev⟩ => by cases eb; exact ⟨_, ev, fun l' => k3 H' l' s hq⟩⟩⟩
end
/-! ### a, b = e -/
def asgS (f : Env → M D) (g : Gd) : SE := fun ρ => M.bind (f ρ) fun d => M.bind (M.of (g d)) fun as => M.pure (.nx, sets ρ (as.map (·.1)) (cl as))
theorem ds_asgT {X : Cx} {p : Addr} {tg e : Expr} {pos : Pos} {f : Env → M D} {g : Gd} {fr tk : Bool} (he : DE X p e f false fr) (hg : DG X p tk tg g) (hs : swapsWithSole [tg] e pos.line X.env = pure false := by rfl) (hw : swappedStores [tg] e X.env = pure none := by rfl)
    (h1 : (assignEach [tg] X.env).map (·.2) = [assign tg X.env] := by rfl) : DS X p (.Assign [tg] e pos) (asgS f g) := ⟨psHL (ps_asg he.pe hg.pg hs hw h1) fun E σ H hl t => by
  obtain ⟨H0, Ext, own, ρ, q, r, q', S, e, a⟩ := t hl
  obtain ⟨d, q1, e1, e4⟩ := M.bind_some e
  obtain ⟨as, q2, e5, e6⟩ := M.bind_some e4
  obtain ⟨e2, rfl⟩ := M.of_some e5
  obtain ⟨rfl, rfl⟩ := M.pure_some e6
  exact fun _ => ⟨_, ρ, _, q, d, _, S.pre, e1, fun v H1 l1 s1 p1 r1 _ => ⟨d, hide H1 (own ++ Ext), as, .inl r1, hide_le _ _, e2, fun ws rws l => a _ H1 own l ((S.stp s1 p1).setsC rws)⟩⟩⟩
end Sd
namespace Sd
open PySem PySem.Spec PyProof.Rows L2
theorem len3 {α : Type} {l : List α} (h : l.length = 3) : ∃ a b c, l = [a, b, c] := by
  match l, h with
  | [a, b, c], _ => exact ⟨a, b, c, rfl⟩
theorem ds_par3 {X : Cx} {p : Addr} {x y z : Str} {a b c : Expr} {px py pz pt : Pos} {kt k2 : Nat} {pt2 pos : Pos} {fs : List (Bool × (Env → M D))} (i j k : Nat) (hc : X.calm = true) (hN : X.N.Nodup) (hi : X.N[i]? = some x) (hj : X.N[j]? = some y) (hk : X.N[k]? = some z) (hij : i ≠ j ∧ i ≠ k ∧ j ≠ k)
    (hx : X.env.scope.names.lookup x = some .local) (hy : X.env.scope.names.lookup y = some .local) (hz : X.env.scope.names.lookup z = some .local) (ha : DP X p [a, b, c] fs) (hfs : fs.length = 3)
    (hw : swappedStores [.Tuple [.Name x px, .Name y py, .Name z pz] kt pt] (.Tuple [a, b, c] k2 pt2) X.env = pure (some [x, y, z]))
    (hs : swapsWithSole [.Tuple [.Name x px, .Name y py, .Name z pz] kt pt] (.Tuple [a, b, c] k2 pt2) pos.line X.env = pure false := by rfl) :
    DS X p (.Assign [.Tuple [.Name x px, .Name y py, .Name z pz] kt pt] (.Tuple [a, b, c] k2 pt2) pos) (parS [i, j, k] fs) := ⟨psHL (ps_par3 hc hN hi hj hk hij.1 hij.2.1 hij.2.2 hx hy hz ha.pa hw hs) fun E σ H hl t => by
  obtain ⟨H0, Ext, own, ρ, q, r, q', S, e, af⟩ := t hl
  obtain ⟨lt, xs, e1, rfl⟩ := parS_some e
  refine fun _ => ⟨H0, Ext, own, [], ρ, [], q, xs, q', S.len, by simpa using S, e1, fun vs H' own' l hv S' => ?_⟩
  have lx : xs.length = 3 := by rw [seqB_len e1, hfs]
  obtain ⟨v, w, u, rfl⟩ := len3 (hv.trans lx)
  obtain ⟨d1, d2, d3, rfl⟩ := len3 lx
  refine ⟨v, w, u, rfl, fun l' => af _ H' own' l' ?_⟩
  have S2 := StR.moves [i, j, k] [v, w, u] [d1, d2, d3] σ ρ rfl rfl (by simp [hij.1, hij.2.1, hij.2.2]) lt S.len (by simpa using S')
  exact S2⟩
theorem tupAsg4 {i j k m : Nat} (ws : List V) (σ : L2.St) (H : Hp) (Q : L2.St → Hp → Prop) (hl : ws.length = 4) (hq : Q (sets σ [i, j, k, m] ws) H) : gCons (gName i) (gCons (gName j) (gCons (gName k) (gCons (gName m) gNil))) ws σ H Q := by
  match ws, hl with
  | [a, b, c, d], _ => exact ⟨a, [b, c, d], rfl, b, [c, d], rfl, c, [d], rfl, d, [], rfl, rfl, hq⟩
end Sd
namespace Sd
open PySem PySem.Spec PyProof.Rows L2
theorem lookup_rel {env : PySem.Env} : ∀ {names : List (Str × NameKind)} {x : Str} {k : NameKind}, names.lookup x = some k →
    ∃ k', (names.map fun (n, k) => if (k == NameKind.free && env.scope.kind == .function && env.kindOf n == some .cell) then (n, NameKind.cell) else (n, k)).lookup x = some k' ∧ (k' = k ∨ (k = .free ∧ k' = .cell))
  | [], x, k, h => by cases h
  | (n, j) :: r, x, k, h => by
    rw [List.map_cons]
    by_cases c : x = n
    · subst c
      rw [List.lookup_cons_self] at h
      cases h
      by_cases z : (j == NameKind.free && env.scope.kind == .function && env.kindOf x == some .cell) = true
      · dsimp only
        rw [if_pos z]
        refine ⟨.cell, List.lookup_cons_self, .inr ⟨?_, rfl⟩⟩
        simp only [Bool.and_eq_true] at z
        exact by simpa using z.1.1
      · dsimp only
        rw [if_neg z]
        exact ⟨j, List.lookup_cons_self, .inl rfl⟩
    · have e : (x == n) = false := by simpa using c
      have h' : r.lookup x = some k := by rw [List.lookup_cons, e] at h; exact h
      obtain ⟨k', h1, h2⟩ := lookup_rel (env := env) h'
      refine ⟨k', ?_, h2⟩
      by_cases z : (j == NameKind.free && env.scope.kind == .function && env.kindOf n == some .cell) = true
      · dsimp only
        rw [if_pos z, List.lookup_cons, e]; exact h1
      · dsimp only
        rw [if_neg z, List.lookup_cons, e]; exact h1
/-- a block within a block -/
theorem blk_rel {N : List Str} {sc scope : Scope} {own : List (Str × Nat)} {env : PySem.Env} (h : BlkOk N sc scope own) : BlkOk N (relabel sc env) scope own := by
  refine ⟨h.kind, h.uniq, h.ix, fun y hy e => ?_, h.own⟩
  rcases h.free y hy e with z | z
  · obtain ⟨k', h1, h2⟩ := lookup_rel (env := env) z
    refine .inl (h1.trans ?_)
    rcases h2 with rfl | ⟨z, _⟩
    · rfl
    · cases z
  · obtain ⟨k', h1, h2⟩ := lookup_rel (env := env) z
    rcases h2 with rfl | ⟨_, rfl⟩
    · exact .inr h1
    · exact .inl h1
end Sd
namespace Sd
open PySem PySem.Spec PyProof.Rows L2
/-! ### list * int -/
def repLD (d e : D) : Option D := match d, e with
  | .list ds, .int k => if 0 ≤ k ∧ k ≤ 1000 ∧ ds.length * k.toNat ≤ 1000000 then some (.list (List.replicate k.toNat ds).flatten) else none
  | _, _ => none
theorem repL_rep {K : PySem.W.Frag} {p : Addr} {R : Hp} {ds : List D} {vs : List V} (h : RepL K p ds R vs) : ∀ k : Nat, RepL K p (List.replicate k ds).flatten R (List.replicate k vs).flatten
  | 0 => rfl
  | k + 1 => by
    rw [List.replicate_succ, List.replicate_succ, List.flatten_cons, List.flatten_cons]
    exact RepL.app h (repL_rep h k)
theorem ok_rep {X : Cx} {p : Addr} : Ok2 X.K p rRep repLD true := fun F x y H B d1 d2 d Q hp nt hl r1 r2 e q => by
  unfold repLD at e
  split at e
  · rename_i ds k
    by_cases c : 0 ≤ k ∧ k ≤ 1000 ∧ ds.length * k.toNat ≤ 1000000
    · rw [if_pos c] at e
      cases e
      obtain ⟨a, vs, rfl, _, h1, h2⟩ := r1.lst hp
      have z6 := sz6
      refine ⟨a, k, vs, rfl, r2.int, h1, by omega, by omega, by rw [h2.length]; omega, fun t nt' => q _ _ (same_upd nt') (rep_lst nt nt' (repL_rep h2 _)) fun _ _ => ⟨t, rfl, nt'⟩⟩
    · rw [if_neg c] at e; cases e
  · cases e
theorem d_rep {X : Cx} {p : Addr} {a b : Expr} {fa fb : Env → M D} {ca cb f1 f2 : Bool} {pos : Pos} (ha : DE X p a fa ca f1) (hb : DE X p b fb cb f2) : DE X p (.BinOp a .Mult b pos) (ap2 repLD fa fb) false true := d_2 ok_rep ha hb fun x y => pe_op op_rep x y
end Sd
/-! dicts with tuples of ints as keys: dict(pairs), in -/
namespace Sd
open PySem PySem.Spec PyProof.Rows L2
section
variable {X : Cx} {p : Addr} {K : PySem.W.Frag} {H0 H H' H1 : Hp} {Ext own B : List Addr} {σ : L2.St} {ρ : Env} {q q' : Pot} {E : Ends} {F : Addr → Prop} {c fr : Bool} {f g : Env → M D} {e : Expr}
theorem items_int {P : Program} {w : World} : ∀ {ks : List Int} {us : List Value}, Vals (ks.map V.int) us → PySem.ItemsAre (PySem.intKind P w) ks us
  | [], _, h => by cases h; exact .nil
  | k :: ks, _, h => by
    cases h with
    | cons h t => exact .cons (by obtain ⟨tk, rfl⟩ := h; simp [PySem.intKind, Value.isInt]) (items_int t)
theorem tkey_of {P : Program} {w : World} {h : Heap} {a : Addr} {ks : List Int} (ok : HOk P w H h) (e : TupAt H a (ks.map V.int)) : (tupleKind (PySem.intKind P w)).is h ks a := by
  have key : ObjOk P w H h a (.tup (ks.map V.int)) := by
    rcases e.two with e | ⟨o, e⟩
    · exact ok a _ e
    · exact (ok a _ e).2
  obtain ⟨_, its, r, o, h1, h2, n, h3⟩ := key
  exact ⟨o, its.toArray, n, h1, h2, h3, by simpa using items_int r⟩
/-- a dict by tuples stands at a: its object in H, its keys in R -/
def TkAt (H R : Hp) (a : Addr) (xs : List (List Int × Addr × Value)) : Prop := (xs = [] ∧ H a = some (.dK [])) ∨ ((xs ≠ [] ∧ xs.length ≤ sizeLine ∧ (a == sysModules) = false) ∧ H a = some (.ext (DTx a xs)) ∧ ∀ x ∈ xs, TupAt R x.2.1 (x.1.map V.int))
theorem TkAt.dict {pins : List (Addr × Obj)} {s : Shared} {a : Addr} {xs : List (List Int × Addr × Value)} (I : Inv X pins σ H s) (h : TkAt H H a xs) : (a == sysModules) = false ∧ s.heap.DictOfH (tupleKind (PySem.intKind X.prog X.w)) a xs := by
  rcases h with ⟨rfl, e⟩ | ⟨⟨_, _, h3⟩, e, ks⟩
  · obtain ⟨_, hd, vs, rel, o, es, ep, h1, h2, h4, h5, h6, h7⟩ := dk_rd I.hok (.inl e)
    have ev : vs = [] := by cases rel; rfl
    subst ev
    have ee : es.toList = [] := by
      generalize es.toList = l at h6 ⊢
      cases h6; rfl
    exact ⟨hd, o, es, ep, h1, h2, h4, by simpa using ee, (fun x hx => nomatch hx), by simp⟩
  · obtain ⟨⟨o, es, ep, h1, h2, h4, h5, h6⟩, _⟩ := (show ObjOk X.prog X.w H s.heap a (.ext (DTx a xs)) from I.hok a _ e)
    exact ⟨h3, o, es, ep, h1, h2, h4, h5, fun x hx => tkey_of I.hok (ks x hx), h6⟩
def rTkIn (neg : Bool) : R2 := fun x y H Q => ∃ a b xs ks, x = .ref b ∧ y = .ref a ∧ TkAt H H a xs ∧ TupAt H b (ks.map V.int) ∧ Q (.bl (neg != xs.any fun z => decide (z.1 = ks))) H
theorem atKey_any (xs : List (List Int × Addr × Value)) (ks : List Int) : (atKey xs ks).isSome = xs.any fun z => decide (z.1 = ks) := by
  unfold atKey
  rw [Option.isSome_map]
  induction xs with
  | nil => rfl
  | cons x xs ih =>
    rw [List.find?_cons, List.any_cons]
    cases decide (x.1 = ks) with
    | true => rfl
    | false => simpa using ih
theorem op_tkIn (hu : X.A.units + 1 < cLine) : OpR X (compareOp .In) (rTkIn false) := by
  intro pins s σ H x y v u Q I rx ry h
  obtain ⟨a, b, xs, ks, rfl, rfl, hd, hk, q⟩ := h
  cases rx
  cases ry
  obtain ⟨h1, h2⟩ := hd.dict I
  refine wpAny_in_heap (tupleKind_room_in1 hu) (tkey_of I.hok hk) h1 h2 ?_
  rw [atKey_any]
  exact ⟨.bl _, H, I.tok _, rfl, by simpa using q⟩
theorem op_tkNin (hu : X.A.units + 1 < cLine) : OpR X (compareOp .NotIn) (rTkIn true) := by
  intro pins s σ H x y v u Q I rx ry h
  obtain ⟨a, b, xs, ks, rfl, rfl, hd, hk, q⟩ := h
  cases rx
  cases ry
  obtain ⟨h1, h2⟩ := hd.dict I
  refine wpAny_notIn_heap (tupleKind_room_in1 hu) (tkey_of I.hok hk) h1 h2 ?_
  rw [atKey_any]
  exact ⟨.bl _, H, I.tok _, rfl, by simpa using q⟩
/-! ### over data -/
abbrev TDict := List (List Int × D)
def tkD (l : TDict) : D := .dict (l.map fun z => (itupD z.1, z.2))
theorem tk_pot (l : TDict) : isPot (l.map fun z => (itupD z.1, z.2)) = false := by
  cases l with
  | nil => rfl
  | cons z l => cases l <;> rfl
def intsD : D → Option (List Int)
  | .tuple ds => intsOf ds
  | _ => none
theorem intsOf_some : ∀ {ds : List D} {l : List Int}, intsOf ds = some l → ds = l.map .int
  | [], _, e => by cases e; rfl
  | d :: ds, l, e => by
    cases d with
    | int n =>
      have e' : (intsOf ds).map (n :: ·) = some l := e
      cases z : intsOf ds with
      | none => rw [z] at e'; cases e'
      | some l' => rw [z] at e'; cases e'; rw [intsOf_some z]; rfl
    | _ => cases e
theorem intsD_some {d : D} {l : List Int} (h : intsD d = some l) : d = itupD l := by
  cases d with
  | tuple ds => rw [intsOf_some h]; rfl
  | _ => cases h
def tkOf : List (D × D) → Option TDict
  | [] => some []
  | (k, d) :: r => match intsD k, tkOf r with
    | some k, some r => some ((k, d) :: r)
    | _, _ => none
theorem tkOf_some : ∀ {kvs : List (D × D)} {l : TDict}, tkOf kvs = some l → kvs = l.map fun z => (itupD z.1, z.2)
  | [], _, e => by cases e; rfl
  | (k, d) :: r, l, e => by
    have e' : (match intsD k, tkOf r with | some k, some r => some ((k, d) :: r) | _, _ => none) = some l := e
    cases z1 : intsD k with
    | none => rw [z1] at e'; cases e'
    | some k' =>
      cases z2 : tkOf r with
      | none => rw [z1, z2] at e'; cases e'
      | some r' => rw [z1, z2] at e'; cases e'; rw [tkOf_some z2, intsD_some z1]; rfl
theorem itup_inj {a b : List Int} (h : itupD a = itupD b) : a = b := by
  unfold itupD at h
  injection h with h
  exact (List.map_inj_right fun x y hxy => by cases hxy; rfl).mp h
theorem RepC.tk {F : Addr → Prop} {H : Hp} {B : List Addr} {kvs : List (D × D)} {l : TDict} {v : V} (el : tkOf kvs = some l) (h : RepC K p F H B (.dict kvs) v) : ∃ a xs, v = .ref a ∧ TkAt H H a xs ∧ xs.map (·.1) = l.map (·.1) := by
  have ek := tkOf_some el
  subst ek
  obtain ⟨a, vs, ea, h1, h2⟩ := h.dic (tk_pot l)
  have em : (l.map fun z => (itupD z.1, z.2)).map (·.1) = (l.map (·.1)).map itupD := by rw [List.map_map, List.map_map]; rfl
  rw [em] at h1
  rcases h1 with ⟨ks, k1, k2, k3⟩ | ⟨xs, ⟨k1, _⟩, k2, k3, k4⟩
  · cases l with
    | nil =>
      have : ks = [] := by cases ks with | nil => rfl | cons _ _ => cases k2
      subst this
      exact ⟨a, [], ea, .inl ⟨rfl, k3⟩, rfl⟩
    | cons z l =>
      cases ks with
      | nil => cases k2
      | cons k ks =>
        have e : itupD z.1 = keyD k := (List.cons.inj k2).1
        cases k <;> cases e
  · refine ⟨a, xs, ea, .inr ⟨k2, k3, fun x hx => (k4 x hx).mono (hide_le _ _)⟩, ?_⟩
    have e : (l.map (·.1)).map itupD = (xs.map (·.1)).map itupD := by rw [k1, List.map_map]; rfl
    exact ((List.map_inj_right fun x y hxy => itup_inj hxy).mp e).symm
/-- k in d -/
def inTk (neg : Bool) (e d : D) : Option D := match d with
  | .dict kvs => match tkOf kvs, intsD e with
    | some l, some k => some (.bool (neg != l.any fun z => decide (z.1 = k)))
    | _, _ => none
  | _ => none
theorem ok_tkIn {neg : Bool} : Ok2 X.K p (rTkIn neg) (inTk neg) fr := fun F x y H B d1 d2 d Q hp nt hl r1 r2 e q => by
  unfold inTk at e
  cases d2 with
  | dict kvs =>
    dsimp only at e
    cases z1 : tkOf kvs with
    | none => rw [z1] at e; cases e
    | some l =>
      cases z2 : intsD d1 with
      | none => rw [z1, z2] at e; cases e
      | some k =>
        rw [z1, z2] at e
        cases e
        have e1 := intsD_some z2
        subst e1
        obtain ⟨b, vs, rfl, t1, t2⟩ := r1.tup
        obtain ⟨a, xs, rfl, g1, g2⟩ := r2.tk z1
        have ev : vs = k.map V.int := by
          have key : ∀ {k : List Int} {vs : List V}, RepL X.K p (k.map .int) (hide H B) vs → vs = k.map V.int := by
            intro k
            induction k with
            | nil => intro vs h; exact h
            | cons i k ih =>
              intro vs h
              obtain ⟨v, r, rfl, h1, h2⟩ := h
              rw [show v = V.int i from h1, ih h2]; rfl
          exact key t2
        rw [ev] at t1
        refine ⟨a, b, xs, k, rfl, rfl, g1, t1, q _ _ (Same.refl _) ?_ (fun _ z => by cases z)⟩
        show V.bl _ = V.bl _
        have : (xs.any fun z => decide (z.1 = k)) = l.any fun z => decide (z.1 = k) := by
          have e1 : (xs.any fun z => decide (z.1 = k)) = (xs.map (·.1)).any fun y => decide (y = k) := by rw [List.any_map]; rfl
          have e2 : (l.any fun z => decide (z.1 = k)) = (l.map (·.1)).any fun y => decide (y = k) := by rw [List.any_map]; rfl
          rw [e1, e2, g2]
        rw [this]
  | _ => cases e
theorem d_tkIn {a b : Expr} {fa fb : Env → M D} {ca cb f1 f2 : Bool} {pos : Pos} (hu : X.A.units + 1 < cLine) (ha : DE X p a fa ca f1) (hb : DE X p b fb cb f2) (hm : behindInMarks .In b = false := by rfl) : DE X p (.Compare a [.In] [b] pos) (ap2 (inTk false) fa fb) false true := d_2 ok_tkIn ha hb fun x y => pe_cmpR (op_tkIn hu) x y hm
theorem dt_tkIn {a b : Expr} {fa fb : Env → M D} {ca cb f1 f2 : Bool} {pos : Pos} (hu : X.A.units + 1 < cLine) (ha : DE X p a fa ca f1) (hb : DE X p b fb cb f2) (hm : behindInMarks .In b = false := by rfl) : DT X p (.Compare a [.In] [b] pos) (ap2 (inTk false) fa fb) := dt_2 (fr := true) ok_tkIn ha hb fun x y => pt_cmpR (op_tkIn hu) x y hm
theorem d_tkNin {a b : Expr} {fa fb : Env → M D} {ca cb f1 f2 : Bool} {pos : Pos} (hu : X.A.units + 1 < cLine) (ha : DE X p a fa ca f1) (hb : DE X p b fb cb f2) (hm : behindInMarks .NotIn b = false := by rfl) : DE X p (.Compare a [.NotIn] [b] pos) (ap2 (inTk true) fa fb) false true := d_2 ok_tkIn ha hb fun x y => pe_cmpR (op_tkNin hu) x y hm
theorem dt_tkNin {a b : Expr} {fa fb : Env → M D} {ca cb f1 f2 : Bool} {pos : Pos} (hu : X.A.units + 1 < cLine) (ha : DE X p a fa ca f1) (hb : DE X p b fb cb f2) (hm : behindInMarks .NotIn b = false := by rfl) : DT X p (.Compare a [.NotIn] [b] pos) (ap2 (inTk true) fa fb) := dt_2 (fr := true) ok_tkIn ha hb fun x y => pt_cmpR (op_tkNin hu) x y hm
end
end Sd
/-! dict(pairs) with tuples of ints as keys -/
namespace Sd
open PySem PySem.Spec PyProof.Rows L2
section
variable {X : Cx} {p : Addr} {K : PySem.W.Frag} {H0 H H' H1 : Hp} {Ext own B : List Addr} {σ : L2.St} {ρ : Env} {q q' : Pot} {E : Ends} {F : Addr → Prop} {c fr : Bool} {f g : Env → M D} {e : Expr}
theorem tpairs_of {pins : List (Addr × Obj)} {s : Shared} (I : Inv X pins σ H s) : ∀ {ps : List Addr} {kxs : List (List Int × Addr × V)}, Paired (fun p kx => SqT X.K H p [V.ref kx.2.1, kx.2.2]) ps kxs →
    ∃ xs : List (List Int × Addr × Value), xs.map (fun x => (x.1, x.2.1)) = kxs.map (fun x => (x.1, x.2.1)) ∧ Vals (kxs.map (·.2.2)) (xs.map (·.2.2)) ∧ xs.length = ps.length ∧ ∀ (j : Nat) (x : List Int × Addr × Value), xs[j]? = some x → ∃ b, ps[j]? = some b ∧ IsTup s.heap b #[.ref x.2.1, x.2.2]
  | _, _, .nil => ⟨[], rfl, .nil, rfl, fun j q e => by simp at e⟩
  | _, _, .cons (a := p) (b := kx) h t => by
    obtain ⟨xs, e, r, hl, hp⟩ := tpairs_of I t
    obtain ⟨its, rv, ht, _⟩ := I.tuple h
    obtain ⟨u, y, ei, ru, ry⟩ := vals2 rv
    subst ei
    cases ru
    refine ⟨(kx.1, kx.2.1, y) :: xs, by rw [List.map_cons, List.map_cons, e], .cons ry r, by rw [List.length_cons, List.length_cons, hl], fun j q e => ?_⟩
    cases j with
    | zero =>
      have e' : (kx.1, kx.2.1, y) = q := Option.some.inj e
      subst e'
      exact ⟨p, rfl, ht⟩
    | succ j =>
      obtain ⟨b, e1, e2⟩ := hp j q (by simpa using e)
      exact ⟨b, by simpa using e1, e2⟩
def rDictT (K : PySem.W.Frag) : List V → Hp → VK → Prop := fun vs H Q => ∃ (a : Addr) (ps : List Addr) (kxs : List (List Int × Addr × V)), vs = [.ref a] ∧ SqL K H a (ps.map V.ref) ∧ Paired (fun p kx => SqT K H p [V.ref kx.2.1, kx.2.2]) ps kxs ∧ (∀ x ∈ kxs, TupAt H x.2.1 (x.1.map V.int)) ∧ (kxs.map (·.1)).Nodup ∧
  (kxs = [] → ∀ p, H p = none → Q (.ref p) (upd H p (.dK []))) ∧
  (kxs ≠ [] → ∀ p (xs : List (List Int × Addr × Value)), H p = none → xs.map (fun x => (x.1, x.2.1)) = kxs.map (fun x => (x.1, x.2.1)) → Vals (kxs.map (·.2.2)) (xs.map (·.2.2)) → xs.length ≤ sizeLine → (p == sysModules) = false → Q (.ref p) (upd H p (.ext (DTx p xs))))
theorem map_fst2 {α : Type} {xs : List (List Int × Addr × Value)} {kxs : List (List Int × Addr × α)} (e : xs.map (fun x => (x.1, x.2.1)) = kxs.map (fun x => (x.1, x.2.1))) : xs.map (·.1) = kxs.map (·.1) := by
  have := congrArg (List.map Prod.fst) e
  rw [List.map_map, List.map_map] at this
  exact this
theorem call_dictT (hu : X.A.units + 4 < cLine) (hcalm : X.calm = true) : CallR X (.type "dict") (rDictT X.K) := by
  intro pins s σ H xs us Q I r h
  obtain ⟨a, ps, kxs, rfl, hq, hp, hk, nd, q0, q1⟩ := h
  by_cases ne : kxs = []
  · have e : ps = [] := by rw [ne] at hp; cases hp; rfl
    subst e
    exact call_dictP hcalm pins s σ H _ us Q I r ⟨a, [], [], rfl, hq, .nil, fun p np => q0 ne p np⟩
  · obtain ⟨u, eu, rx⟩ := vals1 r
    subst eu
    cases rx
    obtain ⟨its, rv, pl, hz⟩ := I.list hq
    have ei := refs_at rv
    subst ei
    rw [List.length_map] at hz
    obtain ⟨xs, e1, e2, hl, hpr⟩ := tpairs_of I hp
    obtain ⟨o, n, ho, hc, hd, hdat⟩ := pl
    have len : xs.length = kxs.length := by have := congrArg List.length e1; simpa using this
    have keys : ∀ x ∈ xs, ∃ v, (x.1, x.2.1, v) ∈ kxs := fun x hx => by
      have : (x.1, x.2.1) ∈ kxs.map (fun x => (x.1, x.2.1)) := e1 ▸ List.mem_map.mpr ⟨x, hx, rfl⟩
      obtain ⟨y, hy, e⟩ := List.mem_map.mp this
      cases y with | mk y1 y2 => cases y2 with | mk y2 y3 => cases e; exact ⟨y3, hy⟩
    have nd' : (xs.map (·.1)).Nodup := by rw [map_fst2 e1]; exact nd
    have isk : ∀ x ∈ xs, (tupleKind (PySem.intKind X.prog X.w)).is s.heap x.1 x.2.1 := fun x hx => by
      obtain ⟨v, hv⟩ := keys x hx
      exact tkey_of I.hok (hk _ hv)
    have P := PySem.PairArg.list (prog := X.prog) (w := X.w) a (ps.map Value.ref).toArray (fun j => ps.getD j 0) (xs.map fun x => (Value.ref x.2.1, x.2.2))
    rw [List.length_map] at P
    refine PySem.call_dict_pairsH (knd := tupleKind (PySem.intKind X.prog X.w)) (ps := xs) P (I.ok.hd hcalm) (show X.A.units + 1 + 1 < cLine by omega) ⟨⟨o, n, ho, hc, hd, hdat⟩, by simp [hl], fun j k v e => ?_⟩ ⟨rfl, fun i key v e => ?_⟩ (fun h' hs x hx => ?_) (by rw [hl]; exact hz) fun h' tk hd' hs => ?_
    · rw [List.getElem?_map] at e
      cases ex : xs[j]? with
      | none => rw [ex] at e; cases e
      | some x =>
        rw [ex] at e; cases e
        obtain ⟨b, f1, f2⟩ := hpr j x ex
        have gd : ps.getD j 0 = b := by rw [List.getD_eq_getElem?_getD, f1]; rfl
        refine ⟨by simp [f1, gd], .inl ?_⟩
        show s.heap.IsTuple (ps.getD j 0) _
        rw [gd]; exact f2
    · rw [PySem.PairRel, List.getElem?_map] at e
      cases ex : xs[i]? with
      | none => rw [ex] at e; cases e
      | some x =>
        rw [ex] at e; cases e
        exact ⟨x.1, x.2.1, rfl, rfl⟩
    · have h0 := isk x hx
      obtain ⟨o', its, n', g1, g2, g3, g4⟩ := h0
      exact ⟨o', its, n', hs _ _ (Nat.ne_of_lt (Heap.lt_size g1)) (fun z => nomatch z) g1, g2, g3, g4⟩
    · rw [PySem.storedAllH_nil_of_nodup _ nd'] at hd'
      have hm : (s.heap.objs.size == sysModules) = false := beq_eq_false_iff_ne.mpr (Nat.ne_of_gt I.big)
      obtain ⟨o', es, ep, g1, g2, g3, g4, g5, g6⟩ := hd'
      have ob : ObjOk X.prog X.w (upd H s.heap.objs.size (.ext (DTx s.heap.objs.size xs))) h' s.heap.objs.size (.ext (DTx s.heap.objs.size xs)) := by
        refine ⟨⟨o', es, ep, g1, g2, g3, g4, g6⟩, ⟨o', g1⟩, fun h1 h2 ⟨o1, es1, ep1, k1, k2⟩ k => ⟨o1, es1, ep1, k _ k1, k2⟩⟩
      exact ⟨.ref s.heap.objs.size, _, I.laid (t' := tk) (fun b o e => hs b o (fun z => nomatch z) e) (Nat.le_refl _) ob, rfl, q1 ne _ xs (I.hok.fresh (Nat.le_refl _)) e1 e2 (by rw [hl]; exact hz) hm⟩
/-! ### over data -/
def tpairsD : List D → Option TDict
  | [] => some []
  | .tuple [k, d] :: r => match intsD k, tpairsD r with
    | some k, some r => some ((k, d) :: r)
    | _, _ => none
  | _ => none
def dictTD : List D → Option D
  | [.list L] => match tpairsD L with
    | some l => if (l.map (·.1)).Nodup then some (tkD l) else none
    | none => none
  | _ => none
theorem ints_rep {R : Hp} : ∀ {k : List Int} {vs : List V}, RepL K p (k.map .int) R vs → vs = k.map V.int
  | [], _, h => h
  | i :: k, _, h => by
    obtain ⟨v, r, rfl, h1, h2⟩ := h
    rw [show v = V.int i from h1, ints_rep h2]; rfl
theorem tpairs_rep {R : Hp} : ∀ {L : List D} {l : TDict} {ws : List V}, tpairsD L = some l → RepL K p L R ws → ∃ (ps : List Addr) (kxs : List (List Int × Addr × V)), ws = ps.map V.ref ∧ Paired (fun p kx => TupAt R p [V.ref kx.2.1, kx.2.2]) ps kxs ∧ (∀ x ∈ kxs, TupAt R x.2.1 (x.1.map V.int)) ∧ kxs.map (·.1) = l.map (·.1) ∧ RepL K p (l.map (·.2)) R (kxs.map (·.2.2))
  | [], _, _, e, h => by cases e; exact ⟨[], [], h, .nil, fun _ z => (nomatch z), rfl, rfl⟩
  | d :: L, l, _, e, h => by
    obtain ⟨v, r, rfl, h1, h2⟩ := h
    match d, e, h1 with
    | .tuple [k, x], e, h1 =>
      have e' : (match intsD k, tpairsD L with | some k, some r => some ((k, x) :: r) | _, _ => none) = some l := e
      cases z1 : intsD k with
      | none => rw [z1] at e'; cases e'
      | some ks =>
        cases z2 : tpairsD L with
        | none => rw [z1, z2] at e'; cases e'
        | some l' =>
          rw [z1, z2] at e'; cases e'
          obtain ⟨ps, kxs, e1, e2, e3, e4, e5⟩ := tpairs_rep z2 h2
          have ek := intsD_some z1
          subst ek
          obtain ⟨a, vs, rfl, g1, v1, _, rfl, g2, v2, _, rfl, g3, rfl⟩ := h1
          obtain ⟨b, us, rfl, g4, g5⟩ := g2
          rw [ints_rep g5] at g4
          refine ⟨a :: ps, (ks, b, v2) :: kxs, by rw [e1]; rfl, .cons g1 e2, fun y hy => ?_, by rw [List.map_cons, List.map_cons, e4], ⟨v2, _, rfl, g3, e5⟩⟩
          rcases List.mem_cons.mp hy with c | c
          · rw [c]; exact g4
          · exact e3 y c
theorem repKV_tk {R : Hp} : ∀ {l : TDict} {vs : List V}, RepL K p (l.map (·.2)) R vs → RepKV K p (l.map fun z => (itupD z.1, z.2)) R vs
  | [], _, h => h
  | z :: l, _, h => by
    obtain ⟨v, r, e, h1, h2⟩ := h
    exact ⟨v, r, e, h1, repKV_tk h2⟩
theorem paired_imp {α β : Type} {R S : α → β → Prop} (h : ∀ a b, R a b → S a b) : ∀ {xs : List α} {ys : List β}, Paired R xs ys → Paired S xs ys
  | _, _, .nil => .nil
  | _, _, .cons z t => .cons (h _ _ z) (paired_imp h t)
theorem ok_dictT : OkN X.K p (rDictT X.K) dictTD true := fun F vs H B ds d Q hp nt hl r e q => by
  unfold dictTD at e
  split at e
  · rename_i L
    cases z : tpairsD L with
    | none => rw [z] at e; cases e
    | some l =>
      rw [z] at e
      dsimp only at e
      by_cases nd : (l.map (·.1)).Nodup
      · rw [if_pos nd] at e
        cases e
        obtain ⟨v, rfl, h1⟩ := resL1 r
        obtain ⟨a, ws, rfl, _, g1, g2⟩ := h1.lst hp
        obtain ⟨ps, kxs, e1, e2, e3, e4, e5⟩ := tpairs_rep z g2
        subst e1
        have up : Same (hide H B) H := hide_le _ _
        refine ⟨a, ps, kxs, rfl, .inl (.inl g1), paired_imp (fun _ _ h => (h.mono up).sq) e2, fun x hx => (e3 x hx).mono up, by rw [e4]; exact nd, fun ne t nt' => ?_, fun ne t xs nt' f1 f2 f3 f4 => ?_⟩
        · have el : l = [] := by
            cases l with
            | nil => rfl
            | cons z l => rw [ne] at e4; cases e4
          subst el
          have tB : t ∉ B := new_nB nt nt'
          exact q _ _ (same_upd nt') (.inr ⟨rfl, t, [], rfl, .inl ⟨[], rfl, rfl, hide_of tB upd_same⟩, rfl⟩) fun _ _ => ⟨t, rfl, nt'⟩
        · have tB : t ∉ B := new_nB nt nt'
          have sm : Same (hide H B) (hide (hide (upd H t (.ext (DTx t xs))) B) [t]) := fun b o h => by
            obtain ⟨n1, h⟩ := hide_some h
            have bt : b ≠ t := fun z => by rw [z, nt'] at h; cases h
            exact hide_of (by simpa using bt) (hide_of n1 (by rw [upd_ne bt]; exact h))
          have nx : xs ≠ [] := fun y => ne (by
            rw [y] at f1
            cases kxs with
            | nil => rfl
            | cons _ _ => cases f1)
          have keys : ∀ x ∈ xs, ∃ v, (x.1, x.2.1, v) ∈ kxs := fun x hx => by
            have : (x.1, x.2.1) ∈ kxs.map (fun x => (x.1, x.2.1)) := f1 ▸ List.mem_map.mpr ⟨x, hx, rfl⟩
            obtain ⟨y, hy, e⟩ := List.mem_map.mp this
            cases y with | mk y1 y2 => cases y2 with | mk y2 y3 => cases e; exact ⟨y3, hy⟩
          refine q _ _ (same_upd nt') (.inr ⟨tk_pot l, t, kxs.map (·.2.2), rfl, .inr ⟨xs, ⟨?_, f2⟩, ⟨nx, f3, f4⟩, hide_of tB upd_same, fun x hx => ?_⟩, repKV_tk (RepL.mono sm e5)⟩) fun _ _ => ⟨t, rfl, nt'⟩
          · have : (l.map fun z => (itupD z.1, z.2)).map (·.1) = (l.map (·.1)).map itupD := by rw [List.map_map, List.map_map]; rfl
            rw [this, ← e4, ← map_fst2 f1, List.map_map]; rfl
          · obtain ⟨v, hv⟩ := keys x hx
            exact (e3 _ hv).mono sm
      · rw [if_neg nd] at e; cases e
  · cases e
theorem d_dictT {np pos : Pos} (hu : X.A.units + 4 < cLine) (hc : X.calm = true) (hg : Gl X "dict") (hm : X.mg "dict" = none) (ha : DE X p e f c fr) (hs : starEach [e] X.env = (false, eval e X.env) :: starEach [] X.env := by rfl) (hpl : (backTo pos (starEach [] X.env)).any (·.1) = false := by rfl) : DE X p (.Call (.Name "dict" np) [e] [] pos) (ap dictTD [f]) false true :=
  d_callR (fun h => pe_callTy (call_dictT hu hc) hg hm (by decide +kernel) h (by decide) (by decide) hs hpl) ok_dictT (da_cons ha.weak da_nil hs)
end
end Sd
/-! who strikes whom: a list of lists that grow -/
namespace Sd
open PySem PySem.Spec PyProof.Rows L2
def pairsD : List D → Option (List (Int × Int))
  | [] => some []
  | .tuple [.int a, .int b] :: r => (pairsD r).map ((a, b) :: ·)
  | _ => none
def rowsD (n : Nat) (P : List (Int × Int)) : List D := (List.range n).map fun (j : Nat) => .list ((P.filter fun z => decide (z.2 = (j : Int))).map fun z => .int z.1)
def strikersS : List D → M D := fun ds => match ds with
  | [.tuple [_, .int n, .tuple S]] => match pairsD S with
    | some P => if (0 ≤ n ∧ n ≤ 1000) ∧ (P.all fun z => decide (0 ≤ z.2 ∧ z.2 < n)) = true ∧ P.length ≤ 100000 then M.pure (.list (rowsD n.toNat P)) else M.fail
    | none => M.fail
  | _ => M.fail
section
variable {K : PySem.W.Frag} {p : Addr} {R H : Hp}
theorem pairs_rep : ∀ {S : List D} {P : List (Int × Int)} {us : List V}, pairsD S = some P → RepL K p S R us → us.length = P.length ∧ ∀ (i : Nat) (z : Int × Int), P[i]? = some z → ∃ c, us[i]? = some (.ref c) ∧ TupAt R c [.int z.1, .int z.2]
  | [], _, _, e, h => by
    cases e
    rw [show _ = [] from h]
    exact ⟨rfl, fun i z e => by simp at e⟩
  | d :: S, P, _, e, h => by
    obtain ⟨v, r, rfl, h1, h2⟩ := h
    match d, e, h1 with
    | .tuple [.int a, .int b], e, h1 =>
      have e' : (pairsD S).map ((a, b) :: ·) = some P := e
      cases z : pairsD S with
      | none => rw [z] at e'; cases e'
      | some P' =>
        rw [z] at e'; cases e'
        obtain ⟨g1, g2⟩ := pairs_rep z h2
        obtain ⟨c, vs, rfl, t1, v1, _, rfl, k1, v2, _, rfl, k2, rfl⟩ := h1
        rw [show v1 = V.int a from k1, show v2 = V.int b from k2] at t1
        refine ⟨by rw [List.length_cons, List.length_cons, g1], fun i z e => ?_⟩
        cases i with
        | zero =>
          cases e
          exact ⟨c, rfl, t1⟩
        | succ i => exact g2 i z (by simpa using e)
def rowV (P : List (Int × Int)) (j : Nat) : List V := (P.filter fun z => decide (z.2 = (j : Int))).map fun z => V.int z.1
theorem rowV_snoc (P : List (Int × Int)) (z : Int × Int) (j : Nat) : rowV (P ++ [z]) j = if z.2 = (j : Int) then rowV P j ++ [V.int z.1] else rowV P j := by
  unfold rowV
  rw [List.filter_append, List.map_append]
  by_cases e : z.2 = (j : Int)
  · simp [e]
  · simp [e]
theorem rowV_len (P : List (Int × Int)) (j : Nat) : (rowV P j).length ≤ P.length := by
  unfold rowV
  rw [List.length_map]
  exact List.length_filter_le _ _
theorem strikersS_some {ds : List D} {d : D} {q q' : Pot} (h : strikersS ds q = some (d, q')) : ∃ x n S P, ds = [.tuple [x, .int n, .tuple S]] ∧ pairsD S = some P ∧ (0 ≤ n ∧ n ≤ 1000) ∧ (∀ z ∈ P, 0 ≤ z.2 ∧ z.2 < n) ∧ P.length ≤ 100000 ∧ d = .list (rowsD n.toNat P) ∧ q' = q := by
  unfold strikersS at h
  split at h
  · rename_i x n S
    cases z : pairsD S with
    | none => rw [z] at h; cases h
    | some P =>
      rw [z] at h
      dsimp only at h
      by_cases c : (0 ≤ n ∧ n ≤ 1000) ∧ (P.all fun z => decide (0 ≤ z.2 ∧ z.2 < n)) = true ∧ P.length ≤ 100000
      · rw [if_pos c] at h
        obtain ⟨rfl, rfl⟩ := M.pure_some h
        exact ⟨x, n, S, P, rfl, z, c.1, fun z hz => by simpa using List.all_eq_true.mp c.2.1 z hz, c.2.2, rfl, rfl⟩
      · rw [if_neg c] at h; cases h
  · cases h
theorem atI_nat {α : Type} {xs : List α} {i : Int} {x : α} (h0 : 0 ≤ i) (h : xs[i.toNat]? = some x) : atI xs i = some x := by
  have lt := (List.getElem?_eq_some_iff.mp h).1
  unfold atI
  have ix : ixN xs.length i = some i.toNat := by
    unfold ixN
    rw [if_pos h0, if_pos (by omega)]
  rw [ix]
  exact h
theorem nodup_at {α : Type} {l : List α} (h : l.Nodup) {i j : Nat} {x : α} (hi : l[i]? = some x) (hj : l[j]? = some x) : i = j := by
  have key := List.pairwise_iff_getElem.mp h
  obtain ⟨li, ei⟩ := List.getElem?_eq_some_iff.mp hi
  obtain ⟨lj, ej⟩ := List.getElem?_eq_some_iff.mp hj
  rcases Nat.lt_trichotomy i j with c | c | c
  · exact absurd (ei.trans ej.symm) (key i j li lj c)
  · exact c
  · exact absurd (ej.trans ei.symm) (key j i lj li c)
/-- what a def over data promises, the line aside -/
def spD0 (K : PySem.W.Frag) (n : Nat) (sem : List D → M D) (vs : List V) (H : Hp) (Q : VK) : Prop := HL H ∧ vs.length = n ∧ ∃ (p : Addr) (ds : List D) (B : List Addr) (q : Pot) (d : D) (q' : Pot),
  RepL K p ds (hide H B) vs ∧ p ∈ B ∧ (∀ a ∈ B, ∃ o, H a = some o ∧ nontup o = true) ∧ H p = some (potV q) ∧ sem ds q = some (d, q') ∧
  ∀ v H', Stp p H H' → H' p = some (potV q') → Rep K p d (hide H' B) v → Q v H'
theorem fnG_0 {P : Program} {w : World} {K : PySem.W.Frag} {mg : Str → Option Value} {base : Heap} {k n : Nat} {f : Addr} {fd : FuncData} {ps : List Str} {sem : List D → M D} (F : FnG P w K mg base k f fd ps (spD0 K n sem)) : FnG P w K mg base k f fd ps (spD K n sem) :=
  F.imp fun vs H Q hl h => by
    obtain ⟨len, p, ds, B, q, d, q', r, hp, nt, hq, e, k⟩ := h
    exact ⟨hl, len, p, ds, B, q, d, q', r, hp, nt, hq, e, fun v H' s p' rep l => k v H' l s p' rep⟩
theorem strikers_read {vs : List V} {Q : VK} {iS : TI} (hi : ∀ (σ : L2.St) (H : Hp) (R : It → Hp → Prop), (tOp (rIxT K) (tVar 0) (tC (.int 2)) σ H fun x H1 => ∃ a xs, x = .ref a ∧ SqT K H1 a xs ∧ R (Itt K a) H1) → iS σ H R) (h : spD0 K 1 strikersS vs H Q) :
    tSeq (tAsg (tLc (iRng1 (tCons (tOp (rIxT K) (tVar 0) (tC (.int 1))) tNil)) (gName 2) tYes (tLst tNil) [2]) (gName 1))
      (tSeq (tFor iS (gTup K 2 (gCons (gName 2) (gCons (gName 3) gNil))) (tDrop (tBM K "list" rAppend (tOp (rIxL K) (tVar 1) (tVar 3)) (tCons (tVar 2) tNil)))) (tRet (tVar 1)))
      { nx := fun _ H' => Q .non H', rt := Q } (L2.start ["dispute", "found", "claim", "struck"] vs) H := by
  obtain ⟨hl, _, p, ds, B, q, d, q', r, hp, nt, hq, e, kk⟩ := h
  obtain ⟨x, n, S, P, rfl, hP, hn, hr, few, rfl, rfl⟩ := strikersS_some e
  obtain ⟨v0, _, rfl, r0, rfl⟩ := r
  obtain ⟨a, ws, rfl, t0, w0, _, rfl, k0, w1, _, rfl, k1, w2, _, rfl, k2, rfl⟩ := r0
  obtain rfl : w1 = V.int n := k1
  obtain ⟨b, us, rfl, tb, kS⟩ := k2
  obtain ⟨lenP, hus⟩ := pairs_rep hP kS
  have out := hide_le H B
  have sq0 : ∀ {H' : Hp}, (∀ c o, H c = some o → H' c = some o) → SqT K H' a [w0, .int n, .ref b] := fun {H'} s => ((t0.mono out).mono s).sq
  have sqb : ∀ {H' : Hp}, (∀ c o, H c = some o → H' c = some o) → SqT K H' b us := fun {H'} s => ((tb.mono out).mono s).sq
  have z6 := sz6
  -- the empty lists
  refine ⟨.ref a, rfl, a, _, 1, .int n, rfl, rfl, sq0 (fun _ _ h => h), rfl, n, rfl, by omega, by omega, fun L nL => ?_⟩
  have nB : ∀ c o, H c = some o → c ≠ L := fun c o e z => by rw [z, nL] at e; cases e
  refine lc_it (g := gName 2) (tt := tYes) (te := tLst tNil) (vs := [2]) (σ := L2.start ["dispute", "found", "claim", "struck"] [V.ref a]) (H1 := H) (D := L) walk_range
    (fun i H' => ∃ as : List Addr, as.length = i ∧ as.Nodup ∧ (∀ x ∈ as, H x = none ∧ x ≠ L ∧ H' x = some (.lst [])) ∧ H' L = some (.lst (as.map V.ref)) ∧ ∀ c o, H c = some o → H' c = some o)
    ⟨[], rfl, List.nodup_nil, (fun x hx => nomatch hx), upd_same, fun c o e => by rw [upd_ne (nB c o e)]; exact e⟩ (fun _ _ _ _ => trivial) ?_ ?_
  · rintro i x H1 H2 hi ⟨as, la, nd, hx, hL, keep⟩ ⟨rfl, rfl⟩
    refine ⟨rfl, ?_⟩
    unfold tYes
    dsimp only
    rw [if_pos rfl]
    refine ⟨Nat.zero_le _, fun t nt' => ?_⟩
    have tL : t ≠ L := fun z => by rw [z, hL] at nt'; cases nt'
    have tas : ∀ x ∈ as, x ≠ t := fun x h z => by rw [z] at h; rw [(hx t h).2.2] at nt'; cases nt'
    have tH : H t = none := by
      cases e : H t with
      | none => rfl
      | some o => rw [keep t o e] at nt'; cases nt'
    refine ⟨as.map V.ref, by rw [upd_ne (Ne.symm tL)]; exact hL, by rw [List.length_map]; omega, as ++ [t], by simp [la], ?_, fun x h => ?_, by rw [upd_same, List.map_append]; rfl, fun c o e => ?_⟩
    · rw [List.nodup_append]
      exact ⟨nd, by simp, fun x hx y hy z => tas x hx (by rw [z]; simpa using hy)⟩
    · rcases List.mem_append.mp h with h | h
      · obtain ⟨h1, h2, h3⟩ := hx x h
        exact ⟨h1, h2, by rw [upd_ne h2, upd_ne (tas x h)]; exact h3⟩
      · obtain rfl := List.mem_singleton.mp h
        exact ⟨tH, tL, by rw [upd_ne tL, upd_same]⟩
    · have h1 := keep c o e
      have ct : c ≠ t := fun z => by rw [z, tH] at e; cases e
      rw [upd_ne (nB c o e), upd_ne ct]; exact h1
  · rintro H1 ⟨as, la, nd, hx, hL, keep⟩
    have la' : as.length = n.toNat := la
    clear la
    -- the strikes
    refine hi _ _ _ ⟨.ref a, rfl, a, _, 2, .ref b, rfl, rfl, sq0 keep, rfl, b, us, rfl, sqb keep, ?_⟩
    refine for_it walk_tup (fun i σ H' => ∃ o2 o3, σ = [some (V.ref a), some (V.ref L), o2, o3] ∧ H' L = some (.lst (as.map V.ref)) ∧ (∀ (j : Nat) (x : Addr), as[j]? = some x → H' x = some (.lst (rowV (P.take i) j))) ∧ ∀ c o, H c = some o → H' c = some o)
      ⟨_, _, rfl, hL, fun j x ej => (hx x (List.mem_of_getElem? ej)).2.2, keep⟩ (fun i σ H' _ ⟨_, _, _, _, _, k⟩ => sqb k) ?_ ?_
    · rintro i x _ Ha Hb hi2 ⟨o2, o3, rfl, hLa, rows, ka⟩ ⟨rfl, hy⟩
      have hi3 : i < P.length := by rw [← lenP]; exact hi2
      obtain ⟨c, ec, tc⟩ := hus i P[i] (List.getElem?_eq_getElem hi3)
      have ex : x = .ref c := by
        have := hy.symm.trans ec
        simpa using this
      subst ex
      have hz := hr P[i] (List.getElem_mem hi3)
      have lt : P[i].2.toNat < as.length := by rw [la']; omega
      have ej : as[P[i].2.toNat]? = some as[P[i].2.toNat] := List.getElem?_eq_getElem lt
      refine ⟨c, _, rfl, ((tc.mono out).mono ka).sq, rfl, .int P[i].1, [.int P[i].2], rfl, .int P[i].2, [], rfl, rfl, ?_⟩
      refine ⟨.ref L, rfl, .int P[i].2, rfl, L, _, P[i].2, .ref as[P[i].2.toNat], rfl, rfl, .inl (.inl hLa), atI_nat hz.1 (by rw [List.getElem?_map, ej]; rfl), ?_⟩
      have rj := rows _ _ ej
      refine ⟨.inl ⟨rfl, _, .inl (.inl rj)⟩, .int P[i].1, rfl, as[P[i].2.toNat], rowV (P.take i) P[i].2.toNat, .int P[i].1, rfl, rfl, rj, ?_, _, _, rfl, ?_, fun j x e => ?_, fun c o e => ?_⟩
      · have := rowV_len (P.take i) P[i].2.toNat
        rw [List.length_take] at this
        omega
      · have := (hx _ (List.mem_of_getElem? ej)).2.1
        rw [upd_ne (Ne.symm this)]; exact hLa
      · rw [List.take_succ_eq_append_getElem hi3, rowV_snoc]
        by_cases c : P[i].2 = (j : Int)
        · have : P[i].2.toNat = j := by omega
          subst this
          rw [ej] at e; cases e
          rw [if_pos c, upd_same]
        · rw [if_neg c]
          have ne : x ≠ as[P[i].2.toNat] := fun z => c (by
            obtain ⟨lj, ej2⟩ := List.getElem?_eq_some_iff.mp e
            have : j = P[i].2.toNat := nodup_at nd e (by rw [ej, z])
            omega)
          rw [upd_ne ne]; exact rows j x e
      · have h0 := (hx _ (List.mem_of_getElem? ej)).1
        rw [upd_ne (fun z => by rw [z, h0] at e; cases e)]
        exact ka c o e
    · rintro _ Hn ⟨o2, o3, rfl, hLn, rows, kn⟩
      have stp : Stp p H Hn := fun c o e _ => kn c o e
      refine ⟨.ref L, rfl, ?_⟩
      refine kk _ Hn stp (kn _ _ hq) ⟨L, as.map V.ref, rfl, hide_of (new_nB nt nL) hLn, ?_⟩
      refine RepL.of_get (by rw [List.length_map]; unfold rowsD; rw [List.length_map, List.length_range, la']) fun j d v e1 e2 => ?_
      unfold rowsD at e1
      rw [List.getElem?_map] at e1 e2
      cases e3 : (List.range n.toNat)[j]? with
      | none => rw [e3] at e1; cases e1
      | some j' =>
        rw [e3] at e1; cases e1
        obtain ⟨lj, e4⟩ := List.getElem?_eq_some_iff.mp e3
        rw [List.getElem_range] at e4
        subst e4
        cases e5 : as[j]? with
        | none => rw [e5] at e2; cases e2
        | some x =>
          rw [e5] at e2; cases e2
          have hxx := hx x (List.mem_of_getElem? e5)
          have hj := rows j x e5
          rw [show us.length = P.length from lenP, List.take_length] at hj
          refine ⟨x, rowV P j, rfl, hide_of (by simpa using hxx.2.1) (hide_of (new_nB nt hxx.1) hj), ?_⟩
          have : (P.filter fun z => decide (z.2 = (j : Int))).map (fun z => (.int z.1 : D)) = ((P.filter fun z => decide (z.2 = (j : Int))).map (·.1)).map .int := by rw [List.map_map]; rfl
          rw [this]
          have : rowV P j = ((P.filter fun z => decide (z.2 = (j : Int))).map (·.1)).map V.int := by unfold rowV; rw [List.map_map]; rfl
          rw [this]
          exact rep_ints _
end
end Sd
/-! a law's own def: pots made of the script, what is asked of each -/
namespace Sd
open PySem PySem.Spec PyProof.Rows L2
def PotOk (q : Pot) : Prop := 0 ≤ q.1 ∧ 0 ≤ q.2 ∧ q.2 < 4294967296
def spPot (K : PySem.W.Frag) (vs : List V) (H : Hp) (Q : VK) : Prop := ∃ (a : Addr) (ns : List Int) (k : Int), vs = [.ref a, .int k] ∧ SqL K H a (ns.map V.int) ∧ 0 ≤ k ∧ k ≤ 10 ∧ ∀ p q, PotOk q → H p = none → Q (.ref p) (upd H p (potV q))
def spLaw (K : PySem.W.Frag) (vs : List V) (H : Hp) (Q : VK) : Prop := ∃ (a : Addr) (ns : List Int), vs = [.ref a] ∧ Only H ∧ SqL K H a (ns.map V.int) ∧ ∀ H', Q (.bl true) H'
def tCallV (t : TA) (n : Nat) (sp : List V → Hp → VK → Prop) : TE := fun σ H Q => t σ H fun vs H1 => vs.length = n ∧ sp vs H1 Q
section
variable {K : PySem.W.Frag} {H : Hp} {a : Addr} {ns : List Int} {sem : List D → M D} {σ : L2.St}
/-- one pot is right: what stood before stands -/
theorem one_right (good : ∀ q, PotOk q → ∃ q', sem [potD] q = some (.bool true, q')) {k : Int} (hk : 0 ≤ k ∧ k ≤ 10) (hs : SqL K H a (ns.map V.int)) {Q : VK} (hq : ∀ H', (∀ b o, H b = some o → H' b = some o) → Q (.bl true) H') :
    spPot K [.ref a, .int k] H fun v H1 => [v].length = 1 ∧ spD K 1 sem [v] H1 Q := by
  refine ⟨a, ns, k, rfl, hs, hk.1, hk.2, fun p q ok np => ?_⟩
  obtain ⟨q', eq⟩ := good q ok
  refine ⟨rfl, rfl, p, [potD], [p], q, .bool true, q', ⟨.ref p, [], rfl, .inl ⟨rfl, rfl⟩, rfl⟩, by simp, fun b hb => ?_, upd_same, eq, fun v H5 l5 st hq2 rv => ?_⟩
  · simp only [List.mem_singleton] at hb
    subst hb
    exact ⟨_, upd_same, rfl⟩
  · obtain rfl : v = V.bl true := rv
    refine hq H5 fun b o e => ?_
    have bp : b ≠ p := fun z => by rw [z, np] at e; cases e
    exact st _ _ (by rw [upd_ne bp]; exact e) bp
theorem sqL_keep {H' : Hp} (hs : SqL K H a (ns.map V.int)) (s : ∀ b o, H b = some o → H' b = some o) : SqL K H' a (ns.map V.int) := by
  rcases hs with (h | ⟨o, h⟩) | h
  · exact .inl (.inl (s _ _ h))
  · exact .inl (.inr ⟨o, s _ _ h⟩)
  · exact .inr h
/-- the number of turns: max(1, min(2, len(script))) -/
def turnsN (n : Int) : Int := if (if n < 2 then n else 2) > (1 : Int) then (if n < 2 then n else 2) else 1
theorem turnsN_le {n : Int} (h : 0 ≤ n) : turnsN n ≤ 2 ∧ 1 ≤ turnsN n := by
  unfold turnsN
  split
  · split <;> omega
  · omega
theorem lawA_read {vs : List V} {Q : VK} (good : ∀ q, PotOk q → ∃ q', sem [potD] q = some (.bool true, q')) (h : spLaw K vs H Q) {tn : TI}
    (htn : ∀ (H : Hp) (R : It → Hp → Prop) (a : Addr) (ns : List Int), SqL K H a (ns.map V.int) → R (Itr 0 (turnsN (ns.length : Int)).toNat) H → tn (L2.start ["script", "k"] [V.ref a]) H R)
    {te : TE} (hte : ∀ (o : V) (k : V) (H : Hp) (Q : VK), (spPot K [o, k] H fun v H1 => [v].length = 1 ∧ spD K 1 sem [v] H1 Q) → te [some o, some k] H Q) :
    tRet (tCB (rAll K) (tCons (tLc tn (gName 1) tYes te [1]) tNil)) { nx := fun _ H' => Q .non H', rt := Q } (L2.start ["script", "k"] vs) H := by
  obtain ⟨a, ns, rfl, only, hs, k⟩ := h
  obtain ⟨j2, j1⟩ := turnsN_le (n := (ns.length : Int)) (by omega)
  refine htn _ _ a ns hs fun L nL => ?_
  generalize turnsN (ns.length : Int) = j at j1 j2 ⊢
  refine lc_it (g := gName 1) (tt := tYes) (te := te) (vs := [1]) (σ := L2.start ["script", "k"] [V.ref a]) (H1 := H) (D := L) (Qd := fun Hn => rAll K [V.ref L] Hn Q) walk_range (fun i H' => H' L = some (.lst (List.replicate i (V.bl true))) ∧ ∀ b o, H b = some o → H' b = some o) ⟨upd_same, fun b o e => ?_⟩ (fun _ _ _ _ => trivial) ?_ ?_
  · rw [upd_ne (fun z => by rw [z, nL] at e; cases e)]; exact e
  · rintro i x H1 H2 hi ⟨hL, keep⟩ ⟨rfl, rfl⟩
    refine ⟨rfl, ?_⟩
    unfold tYes
    dsimp only
    rw [if_pos rfl]
    refine hte (V.ref a) (V.int (0 + (i : Int))) H2 _ (one_right good (by omega) (sqL_keep hs keep) fun H5 st => ?_)
    have hL5 := st _ _ hL
    refine ⟨_, hL5, by have := sz6; rw [List.length_replicate]; omega, ?_, fun b o e => ?_⟩
    · rw [upd_same, List.replicate_succ']
    · have bL : b ≠ L := fun z => by rw [z, nL] at e; cases e
      rw [upd_ne bL]
      exact st _ _ (keep b o e)
  · rintro Hn ⟨hL, keep⟩
    refine ⟨L, List.replicate j.toNat true, rfl, .inl (.inl (by rw [hL, List.map_replicate])), ?_⟩
    have e : (List.replicate j.toNat true).all id = true := by
      rw [List.all_eq_true]
      intro x hx
      rw [List.eq_of_mem_replicate hx]; rfl
    rw [e]
    exact k Hn
theorem lawC_read {vs : List V} {Q : VK} {sem2 : List D → M D} (good : ∀ q, PotOk q → ∃ q', sem [potD] q = some (.bool true, q')) (good2 : ∀ q, PotOk q → ∃ q', sem2 [potD] q = some (.bool true, q')) (h : spLaw K vs H Q) {tn : TI}
    (htn : ∀ (H : Hp) (R : It → Hp → Prop) (a : Addr) (ns : List Int), SqL K H a (ns.map V.int) → R (Itr 0 (turnsN (ns.length : Int)).toNat) H → tn (L2.start ["script", "k"] [V.ref a]) H R)
    {tb tr : TS} (htb : ∀ (o : V) (k : V) (E : Ends) (H : Hp), (∀ Qc : VK, (∀ H', E.nx [some o, some k] H' → Qc (.bl true) H') → spPot K [o, k] H fun v H1 => [v].length = 1 ∧ spD K 1 sem [v] H1 Qc) → tb E [some o, some k] H)
    (htr : ∀ (o : V) (k : Option V) (E : Ends) (H : Hp), (spPot K [o, .int 2] H fun v H1 => [v].length = 1 ∧ spD K 1 sem2 [v] H1 E.rt) → tr E [some o, k] H) :
    tSeq (tFor tn (gName 1) tb) tr { nx := fun _ H' => Q .non H', rt := Q } (L2.start ["script", "k"] vs) H := by
  obtain ⟨a, ns, rfl, only, hs, k⟩ := h
  obtain ⟨j2, j1⟩ := turnsN_le (n := (ns.length : Int)) (by omega)
  refine htn _ _ a ns hs ?_
  generalize turnsN (ns.length : Int) = j at j1 j2 ⊢
  refine for_it walk_range (fun i σ' H' => ∃ o, σ' = [some (V.ref a), o] ∧ ∀ b o, H b = some o → H' b = some o) ⟨none, rfl, fun _ _ h => h⟩ (fun _ _ _ _ _ => trivial) ?_ ?_
  · rintro i x _ Ha Hb hi ⟨o, rfl, keep⟩ ⟨rfl, rfl⟩
    exact htb (V.ref a) (V.int (0 + (i : Int))) _ _ fun Qc hc => one_right good (by omega) (sqL_keep hs keep) fun H5 st => hc _ ⟨_, rfl, fun b o e => st _ _ (keep b o e)⟩
  · rintro _ Hn ⟨o, rfl, keep⟩
    exact htr (V.ref a) o _ _ (one_right good2 (by omega) (sqL_keep hs keep) fun H5 _ => k H5)
end
end Sd
/-! sorted(tuple) -/
namespace Sd
open PySem PySem.Spec PyProof.Rows L2
open PySem.W (AllAlike Sortable EachIs dataLe alike)
section
variable {X : Cx} {p : Addr} {K : PySem.W.Frag} {c fr : Bool} {f g : Env → M D} {e : Expr}
def FlatV (H : Hp) (x : V) (d : D) : Prop := (∃ i, d = .int i ∧ x = .int i) ∨ ∃ ks b, d = itupD ks ∧ x = .ref b ∧ TupAt H b (ks.map V.int)
inductive FlatAll (H : Hp) : List V → List D → Prop where
  | nil : FlatAll H [] []
  | cons {x : V} {d : D} {xs : List V} {ds : List D} : FlatV H x d → FlatAll H xs ds → FlatAll H (x :: xs) (d :: ds)
theorem FlatAll.len {H : Hp} : ∀ {xs : List V} {ds : List D}, FlatAll H xs ds → xs.length = ds.length
  | _, _, .nil => rfl
  | _, _, .cons _ t => by rw [List.length_cons, List.length_cons, t.len]
theorem flat_reads {pins : List (Addr × Obj)} {σ : L2.St} {H : Hp} {s : Shared} (I : Inv X pins σ H s) {x : V} {d : D} {u : Value} (h : FlatV H x d) (r : RelV x u) : Reads s.heap u d [] := by
  rcases h with ⟨i, rfl, rfl⟩ | ⟨ks, b, rfl, rfl, ht⟩
  · obtain ⟨t, rfl⟩ := r
    exact .int i t
  · cases r
    obtain ⟨its, rv, ht, _⟩ := I.tuple ht.sq
    exact reads_tuple_ints ht (intsAre_of rv)
theorem each_flat {pins : List (Addr × Obj)} {σ : L2.St} {H : Hp} {s : Shared} (I : Inv X pins σ H s) : ∀ {xs : List V} {ds : List D} {us : List Value}, FlatAll H xs ds → Vals xs us →
    EachIs (fun u (z : V × D) => RelV z.1 u ∧ Reads s.heap u z.2 []) us (xs.zip ds)
  | _, _, _, .nil, .nil => .nil
  | _, _, _, .cons h t, .cons r rt => .cons ⟨r, flat_reads I h r⟩ (each_flat I t rt)
def rSortedT (K : PySem.W.Frag) : List V → Hp → VK → Prop := fun vs H Q => ∃ (a : Addr) (xs : List V) (ds : List D), vs = [.ref a] ∧ SqT K H a xs ∧ FlatAll H xs ds ∧ okS ds = true ∧ ∀ l, H l = none → Q (.ref l) (upd H l (.lst (srtV xs ds)))
theorem cr_sortedT (hu : X.A.units + 70 < cLine) : CallR X (.builtin "sorted") (rSortedT X.K) := by
  intro pins s σ H vs us Q I r h
  obtain ⟨a, xs, ds, rfl, hs, hd, ok, q⟩ := h
  obtain ⟨hal, hso, nd, dp⟩ := okS_some ok
  obtain ⟨its, rv, pl, hz⟩ := I.tuple hs
  rw [Vals.ref1 r]
  have ln := hd.len
  have rl0 := rv.length
  have mm : (xs.zip ds).map (·.2) = ds := List.map_snd_zip (Nat.le_of_eq ln.symm)
  have ee := each_flat I hd rv
  obtain ⟨o, ho, hc, n, hdat⟩ := pl
  refine Calls.call_function_entry kind_sorted plain_sorted entry_sorted (args_sorted1 _) ?_
  unfold Builtin.«sorted»
  refine wpAny_bind (m := checkCount "sorted" 1 1 _) (wpAny_pure (wpAny_bind (wpAny_collect_seq a (.inr rfl) ho hc hdat (fun h' kp => ?_) (by rw [List.size_toArray, ← rl0]; exact hz))))
  rw [show its.toArray.toList = its from rfl]
  refine wpAny_bind (wpAny_newList ?_ (by rw [← rl0]; exact hz))
  have hl : (h'.push (seqObj "list" its.toArray 0)).get? h'.objs.size = some (seqObj "list" its.toArray 0) := Heap.get?_push_size _ rfl
  have kp2 : ∀ b u, s.heap.get? b = some u → (h'.push (seqObj "list" its.toArray 0)).get? b = some u := fun b u e => Heap.get?_push_of_some _ (kp b u e)
  refine wpAny_bind (wpAny_holding (list_sort_data2 (s := { s with heap := h'.push (seqObj "list" its.toArray 0) }) (R := fun u (z : V × D) => RelV z.1 u) (enc := (·.2)) (bs := xs.zip ds) (vs := its) hl (ee.mono fun _ _ z => z.1) (ee.mono fun _ _ z => ⟨[], Reads.keeps kp2 z.2, fun c => by cases c⟩) (by rw [mm]; exact hal) (by rw [mm]; exact hso)
    (by rw [List.length_zip]; omega) (fun b hb => by have := dp b.2 (by rw [← mm]; exact List.mem_map.mpr ⟨b, hb, rfl⟩); show X.A.units + 1 + 1 + _ < _; omega) fun out hlen eo => ?_))
  obtain ⟨c, hc2⟩ := sortedHeap_at (vs := its) (out := out.toArray) hl
  have rl : Vals (srtV xs ds) out := each_vals (fun _ _ z => z) eo
  have old : ∀ b u, s.heap.get? b = some u → (sortedHeap (h'.push (seqObj "list" its.toArray 0)) h'.objs.size its out.toArray).get? b = some u := fun b u e => by
    have z := kp b u e
    rw [sortedHeap_old (Nat.ne_of_lt (Heap.lt_size z)) (by rw [size_push']; exact Nat.lt_succ_of_lt (Heap.lt_size z))]
    exact Heap.get?_push_of_some _ z
  have s0 : s.heap.get? h'.objs.size = none := by
    cases e : s.heap.get? h'.objs.size with
    | none => rfl
    | some u =>
      exact absurd (Heap.lt_size (kp _ _ e)) (Nat.lt_irrefl _)
  have hN : H h'.objs.size = none := by
    cases e : H h'.objs.size with
    | none => rfl
    | some u =>
      exact absurd ((I.hok.kept kp).lt e) (Nat.lt_irrefl _)
  exact wpAny_pure ⟨_, rfl, ⟨.ref h'.objs.size, upd H h'.objs.size (.lst (srtV xs ds)), I.laidN (t' := s.toks) old s0 hN (show ObjOk X.prog X.w _ _ _ (.lst (srtV xs ds)) from ⟨by rw [rl.length, hlen, List.length_zip]; omega, out, c, rl, hc2⟩), rfl, q _ hN⟩⟩
def flatD (ds : List D) : Bool := ds.all fun d => match d with
  | .int _ => true
  | .tuple ks => (intsOf ks).isSome
  | _ => false
def sortedTD : List D → Option D
  | [.tuple ds] => if (flatD ds && okS ds) = true then some (.list (srt ds)) else none
  | _ => none
theorem flat_rep {H R : Hp} (up : Same R H) : ∀ {ds : List D} {vs : List V}, flatD ds = true → RepL K p ds R vs → FlatAll H vs ds
  | [], _, _, h => by rw [show _ = [] from h]; exact .nil
  | d :: ds, _, f, h => by
    obtain ⟨v, r, rfl, h1, h2⟩ := h
    unfold flatD at f
    rw [List.all_cons, Bool.and_eq_true] at f
    refine .cons ?_ (flat_rep up f.2 h2)
    cases d with
    | int i => exact .inl ⟨i, rfl, h1⟩
    | tuple ks =>
      obtain ⟨a, vs, rfl, t1, t2⟩ := h1
      have f1 := f.1
      cases z : intsOf ks with
      | none => dsimp only at f1; rw [z] at f1; cases f1
      | some l =>
        have e := intsOf_some z
        subst e
        rw [ints_rep t2] at t1
        exact .inr ⟨l, a, rfl, rfl, t1.mono up⟩
    | _ => cases f.1
theorem ok_sortedT : OkN X.K p (rSortedT X.K) sortedTD true := fun F vs H B ds d Q hp nt hl r e q => by
  unfold sortedTD at e
  split at e
  · rename_i L
    by_cases c : (flatD L && okS L) = true
    · rw [if_pos c] at e
      cases e
      rw [Bool.and_eq_true] at c
      obtain ⟨v, rfl, h1⟩ := resL1 r
      obtain ⟨a, ws, rfl, t1, t2⟩ := h1.tup
      have up := hide_le H B
      refine ⟨a, ws, L, rfl, t1.sq, flat_rep up c.1 t2, c.2, fun t nt' => ?_⟩
      refine q _ _ (same_upd nt') (rep_lst nt nt' ?_) fun _ _ => ⟨t, rfl, nt'⟩
      exact rep_srt t2
    · rw [if_neg c] at e; cases e
  · cases e
/-- sorted of a list, a tuple -/
def sortedG : List D → Option D
  | [.tuple ds] => sortedTD [.tuple ds]
  | ds => sortedD ds
theorem cr_sortedG (hu : X.A.units + 70 < cLine) : CallR X (.builtin "sorted") (fun vs H Q => rSortedD X.K vs H Q ∨ rSortedT X.K vs H Q) := by
  intro pins s σ H vs us Q I r h
  rcases h with h | h
  · exact cr_sortedD hu pins s σ H vs us Q I r h
  · exact cr_sortedT hu pins s σ H vs us Q I r h
theorem ok_sortedG : OkN X.K p (fun vs H Q => rSortedD X.K vs H Q ∨ rSortedT X.K vs H Q) sortedG true := fun F vs H B ds d Q hp nt hl r e q => by
  unfold sortedG at e
  split at e
  · exact .inr (ok_sortedT F vs H B _ d Q hp nt hl r e q)
  · exact .inl (ok_sorted F vs H B _ d Q hp nt hl r e q)
theorem d_sortedG {np pos : Pos} (hu : X.A.units + 70 < cLine) (hg : Gl X "sorted") (hm : X.mg "sorted" = none) (ha : DE X p e f c fr) (hs : starEach [e] X.env = (false, eval e X.env) :: starEach [] X.env := by rfl) (hpl : (backTo pos (starEach [] X.env)).any (·.1) = false := by rfl) : DE X p (.Call (.Name "sorted" np) [e] [] pos) (ap sortedG [f]) false true :=
  d_callR (fun h => pe_callB (cr_sortedG hu) hg hm (by decide +kernel) h (by decide) (by decide) hs hpl) ok_sortedG (da_cons ha.weak da_nil hs)
end
end Sd
/-! calls whose list is new -/
namespace Sd
open PySem PySem.Spec PyProof.Rows L2
def HB (H : Hp) : Prop := ∃ n : Nat, ∀ a xs, H a = some (.lst xs) → a < n
theorem HB_of {P : Program} {w : World} {H : Hp} {h : Heap} (x : HOk P w H h) : HB H := ⟨h.objs.size, fun a xs e => by
  have := x a _ e
  unfold ObjOk at this
  obtain ⟨_, its, n, _, g⟩ := this
  unfold Heap.get? at g
  cases z : h.objs[a]? with
  | none => rw [z] at g; cases g
  | some o => exact (Array.getElem?_eq_some_iff.mp z).1⟩
section
variable {X : Cx} {p : Addr}
theorem paHB {es : List Expr} {T : TA} (h : PA X es T) : PA X es (fun σ H Q => T σ H fun vs H1 => HB H1 → Q vs H1) :=
  ⟨fun pos pins s σ H Q I hw => thn (h.run pos pins s σ H _ I hw) fun _ _ ⟨v, H', I', r, q⟩ => ⟨v, H', I', r, q (HB_of I'.hok)⟩⟩
def isL : D → Bool
  | .list _ => true
  | _ => false
def callN (φ : List D → M D) (fs : List (Env → M D)) : Env → M D := fun ρ => M.bind (seqE fs ρ) fun ds => if immL ds = true then M.bind (φ ds) fun d => if isL d = true then M.pure d else M.fail else M.fail
theorem callN_some {φ : List D → M D} {ds : List D} {q q' : Pot} {d : D} (h : (if immL ds = true then M.bind (φ ds) fun d => if isL d = true then M.pure d else M.fail else M.fail) q = some (d, q')) : immL ds = true ∧ φ ds q = some (d, q') ∧ isL d = true := by
  by_cases i : immL ds = true
  · rw [if_pos i] at h
    obtain ⟨d', q1, e1, h⟩ := M.bind_some h
    by_cases l : isL d' = true
    · rw [if_pos l] at h
      obtain ⟨rfl, rfl⟩ := M.pure_some h
      exact ⟨i, e1, l⟩
    · rw [if_neg l] at h; cases h
  · rw [if_neg i] at h; cases h
theorem new_call {K : PySem.W.Frag} {H H' : Hp} {B : List Addr} {d : D} {v : V} {n0 : Nat} (hb : ∀ a xs, H a = some (.lst xs) → a < n0) (hp : p ∈ B) (l : isL d = true) (s : Stp p H H') (r : Rep K p d (hide H' (B ++ (List.range n0).filter fun a => match H a with | some (.lst _) => true | _ => false)) v) : ∃ a, v = .ref a ∧ H a = none := by
  cases d with
  | list ds =>
    obtain ⟨a, vs, e, h1, _⟩ := r
    refine ⟨a, e, ?_⟩
    obtain ⟨na, h1⟩ := hide_some h1
    cases z : H a with
    | none => rfl
    | some o =>
      exfalso
      have ne : a ≠ p := fun y => na (List.mem_append_left _ (y ▸ hp))
      have := s a o z ne
      rw [this] at h1
      cases h1
      refine na (List.mem_append_right _ (List.mem_filter.mpr ⟨List.mem_range.mpr (hb _ _ z), ?_⟩))
      rw [z]
  | _ => cases l
theorem d_callGN {e : Expr} {es : List Expr} {n : Nat} {φ : List D → M D} {fs : List (Env → M D)} (t : ∀ {ta : TA}, PA X es ta → PE X e (fun σ H Q => ta σ H fun vs H1 => vs.length = n ∧ spD X.K n φ vs H1 Q)) (hn : fs.length = n) (ha : DA X p es fs false) : DE X p e (callN φ fs) false true :=
  ⟨peHL (t (paHB ha.pa)) fun σ H Q hl t => by
    obtain ⟨F, ρ, B, q, d, q', k1, k2, k3⟩ := t hl
    obtain ⟨ds, q1, e1, k2⟩ := M.bind_some k2
    obtain ⟨i, e2, li⟩ := callN_some k2
    refine fun _ => ⟨F, ρ, B, q, ds, q1, k1, e1, fun vs H1 l1 s1 p1 r1 ⟨n0, hb⟩ => ?_⟩
    have len : vs.length = n := by rw [r1.len, seqE_len e1, hn]
    have nt : ∀ a ∈ B ++ (List.range n0).filter (fun a => match H1 a with | some (.lst _) => true | _ => false), ∃ o, H1 a = some o ∧ nontup o = true := fun a ha => by
      rcases List.mem_append.mp ha with c | c
      · exact (k1.stp s1 p1).nt a c
      · have c := (List.mem_filter.mp c).2
        cases z : H1 a with
        | none => rw [z] at c; cases c
        | some o =>
          rw [z] at c
          refine ⟨o, rfl, ?_⟩
          cases o <;> first | rfl | (exact absurd c (by simp))
    refine ⟨len, len, p, ds, _, q1, d, q', RepL.imm i (TupS.trans (TupS.of (hide_le _ _)) (hide_tup nt)) r1.rep, List.mem_append_left _ k1.pB, nt, p1, e2, fun v H' l s' p' rep l' => k3 v H' l (s1.trans s') p' (Rep.mono (hide_mono fun a o na e => ⟨fun z => na (List.mem_append_left _ z), e⟩) rep) (fun z y => ?_)⟩
    obtain ⟨a, ea, hn⟩ := new_call hb k1.pB li s' rep
    refine ⟨a, ea, ?_⟩
    cases w : H a with
    | none => rfl
    | some o =>
      exfalso
      by_cases c : a = p
      · subst c; rw [p1] at hn; cases hn
      · rw [s1 a o w c] at hn; cases hn⟩
theorem d_callN {n k : Nat} {x : Str} {np pos : Pos} {f : Addr} {fd : FuncData} {ps : List Str} {φ : List D → M D} {e : Expr} {es : List Expr} {fs : List (Env → M D)} (F : FnG X.prog X.w X.K X.mg X.base k f fd ps (spD X.K n φ)) (hr : Room k X.A) (hgd : X.A.guards = some []) (hm : X.mg x = some (.ref f)) (hk : PySem.W.keepIn X.K (.ref f) = true) (hb : Binds X.K fd ps []) (ha : DA X p (e :: es) fs false) (hl : ps.length = n := by rfl) (hn : fs.length = n := by rfl) (hg : Gl X x := by rfl)
    (hdb : (x == ("__debug__" : Str)) = false := by decide) (he : starEach (e :: es) X.env = (false, eval e X.env) :: starEach es X.env := by rfl) (hpl : (backTo pos (starEach es X.env)).any (·.1) = false := by rfl) : DE X p (.Call (.Name x np) (e :: es) [] pos) (callN φ fs) false true := by
  subst hl
  exact d_callGN (fun h => pe_callG F hr hgd hg hm hk hb h hdb he hpl) hn ha
/-! ### a test that looks at lists that may be changed, as at data -/
def clr (ρ : Env) : Env := ρ.map fun o => o.map fun z => (false, z.2)
def opn {α : Type} (f : Env → α) : Env → α := fun ρ => f (clr ρ)
theorem _root_.Sd.Pre.opn {K : PySem.W.Frag} {F : Addr → Prop} {H : Hp} {B : List Addr} {σ : L2.St} {ρ : Env} {q : Pot} (h : Pre K p F H B σ ρ q) : Pre K p F H [p] σ (clr ρ) q := by
  have out : Same (hide H B) (hide H [p]) := hide_mono fun a o n e => ⟨fun z => n (by simp only [List.mem_singleton] at z; subst z; exact h.pB), e⟩
  refine ⟨h.pot, by simp, fun a ha => ?_, fun i b d e => ?_, by unfold clr; rw [List.length_map]; exact h.len⟩
  · rw [List.mem_singleton.mp ha]; exact h.nt p h.pB
  · unfold clr at e
    rw [List.getElem?_map] at e
    cases z : ρ[i]? with
    | none => rw [z] at e; cases e
    | some o =>
      cases o with
      | none => rw [z] at e; cases e
      | some bd =>
        obtain ⟨b', d'⟩ := bd
        rw [z] at e
        cases e
        obtain ⟨v, e1, e2, e3⟩ := h.env i b' _ z
        refine ⟨v, e1, fun _ => ?_, fun z => by cases z⟩
        have r : ResL K p F true H B [d'] [v] := ⟨v, [], rfl, by
          unfold Res
          rw [if_pos rfl]
          cases b' with
          | false => exact .inl (e2 rfl)
          | true => exact .inr (e3 rfl), rfl⟩
        obtain ⟨v', r', ee, h1, _⟩ := ResL.open_ h.pB r
        cases ee
        exact h1
theorem dw_opn {e : Expr} {f : Env → M D} (h : DW X p e f) : DW X p e (opn f) := ⟨pwHL h.pw fun σ H Q hl t => by
  obtain ⟨F, ρ, B, q, b, q', k1, k2, k3⟩ := t hl
  exact fun _ => ⟨F, clr ρ, [p], q, b, q', k1.opn, k2, fun H' l s hq l' => k3 H' l s hq⟩⟩
theorem dt_opn {e : Expr} {f : Env → M D} (h : DT X p e f) : DT X p e (opn f) := ⟨ptHL h.pt fun σ H Q hl t => by
  obtain ⟨F, ρ, B, q, b, q', k1, k2, k3⟩ := t hl
  exact fun _ => ⟨F, clr ρ, [p], q, b, q', k1.opn, k2, fun H' l s hq l' => k3 H' l s hq⟩⟩
end
end Sd
/-! two lists told, looked at, the first of them changed, never looked at again -/
namespace Sd
open PySem PySem.Spec PyProof.Rows L2
section
variable {K : PySem.W.Frag} {p : Addr} {H0 H : Hp} {Ext own : List Addr} {σ : L2.St} {ρ : Env} {q : Pot}
theorem StR.forget {i : Nat} {v w : V} {y : Option (Bool × D)} (S : StR K p H0 Ext own H (σ.set i (some v)) (ρ.set i y) q) : StR K p H0 Ext own H (σ.set i (some w)) (ρ.set i none) q := by
  have old : ∀ {j : Nat} {b : Bool} {d : D}, (ρ.set i none)[j]? = some (some (b, d)) → i ≠ j ∧ (ρ.set i y)[j]? = some (some (b, d)) := fun {j b d} h => by
    rcases set_get h with ⟨rfl, e1, _⟩ | ⟨ne, h⟩
    · cases e1
    · exact ⟨ne, by rw [List.getElem?_set_ne ne]; exact h⟩
  have len := S.len
  simp only [List.length_set] at len
  refine ⟨S.keep, ⟨S.pre.pot, S.pre.pB, S.pre.nt, fun j b d h => ?_, by simp [len]⟩, S.pX, S.own0, S.ext0, fun j k d1 d2 a h1 h2 h3 h4 => ?_, by simp [len]⟩
  · obtain ⟨ne, h⟩ := old h
    obtain ⟨u, h1, h2⟩ := S.pre.env j b d h
    exact ⟨u, by rw [List.getElem?_set_ne ne] at h1 ⊢; exact h1, h2⟩
  · obtain ⟨n1, h1⟩ := old h1
    obtain ⟨n2, h2⟩ := old h2
    rw [List.getElem?_set_ne n1] at h3
    rw [List.getElem?_set_ne n2] at h4
    exact S.uniq j k d1 d2 a h1 h2 (by rw [List.getElem?_set_ne n1]; exact h3) (by rw [List.getElem?_set_ne n2]; exact h4)
end
def toldS (i : Nat) (f1 f2 ft : Env → M D) (g : SE) : SE := fun ρ => M.bind (f1 ρ) fun d1 => M.bind (f2 ρ) fun d2 => match d1 with
  | .list xs => if i < ρ.length ∧ xs.length < 1000000 then M.bind (ft (ρ.set i (some (false, .list [.list xs, d2])))) fun b => match b with
    | .bool true => M.pure (.rt (.bool false), ρ)
    | .bool false => g (ρ.set i none)
    | _ => M.fail
    else M.fail
  | _ => M.fail
theorem toldS_some {i : Nat} {f1 f2 ft : Env → M D} {g : SE} {ρ : Env} {q q' : Pot} {r : Fl × Env} (h : toldS i f1 f2 ft g ρ q = some (r, q')) : ∃ xs q1 d2 q2 b q3, f1 ρ q = some (.list xs, q1) ∧ f2 ρ q1 = some (d2, q2) ∧ i < ρ.length ∧ xs.length < 1000000 ∧ ft (ρ.set i (some (false, .list [.list xs, d2]))) q2 = some (.bool b, q3) ∧
    ((b = true ∧ r = (.rt (.bool false), ρ) ∧ q' = q3) ∨ (b = false ∧ g (ρ.set i none) q3 = some (r, q'))) := by
  obtain ⟨d1, q1, e1, h⟩ := M.bind_some h
  obtain ⟨d2, q2, e2, h⟩ := M.bind_some h
  cases d1 with
  | list xs =>
    dsimp only at h
    by_cases c : i < ρ.length ∧ xs.length < 1000000
    · rw [if_pos c] at h
      obtain ⟨b, q3, e3, h⟩ := M.bind_some h
      cases b with
      | bool b =>
        refine ⟨xs, q1, d2, q2, b, q3, e1, e2, c.1, c.2, e3, ?_⟩
        cases b with
        | true => obtain ⟨rfl, rfl⟩ := M.pure_some h; exact .inl ⟨rfl, rfl, rfl⟩
        | false => exact .inr ⟨rfl, h⟩
      | _ => cases h
    · rw [if_neg c] at h; cases h
  | _ => cases h
section
variable {X : Cx} {p : Addr} {x : Str} {pos pos' lp np zp sp ap cnp cp ep p1 p2 p3 : Pos} {j1 j2 j3 : Nat} {e1 e2 t : Expr} {f1 f2 ft : Env → M D} {fr2 : Bool} {rest : List Stmt} {g : SE}
theorem dss_told (i : Nat) (hN : X.N.Nodup) (hi : X.N[i]? = some x) (hx : L2.Loc X.env.scope x) (hv : Vis X.env.scope x) (h1 : DE X p e1 f1 false true) (h2 : DE X p e2 f2 false fr2) (ht : DT X p t ft) (hg : DSs X p rest g)
    (hsw : swapsWith (.List [e1, e2] lp) (some (.Name x pos')) pos.line X.env = pure false := by rfl) (hf : X.fn x = true ∨ X.env.scope.names.lookup x = some .local := by first | exact .inl rfl | exact .inr rfl)
    (hs1 : starEach [e1, e2] X.env = (false, eval e1 X.env) :: starEach [e2] X.env := by rfl) (hs2 : starEach [e2] X.env = (false, eval e2 X.env) :: starEach [] X.env := by rfl)
    (hd : (x == ("__debug__" : Str)) = false := by decide) (hcd : (x == ("__classdict__" : Str)) = false := by decide)
    (hbase : attributeBase (.Subscript (.Name x np) (.Constant (.int 0) j2 zp) sp) "append" X.env (eval (.Subscript (.Name x np) (.Constant (.int 0) j2 zp) sp) X.env) = eval (.Subscript (.Name x np) (.Constant (.int 0) j2 zp) sp) X.env := by rfl)
    (hfew : ((backTo cp (starEach [.Constant .none j3 cnp] X.env)).all (fun x => !x.1) && (backToKw cp (keywordEach [] X.env)).all (fun x => x.1.isSome) && decide ([Expr.Constant .none j3 cnp].length + ([] : List Keyword).length + (if ([] : List Keyword).isEmpty then 0 else 1) < 30)) = true := by rfl)
    (hline : (ap.endLine == cp.line) = true := by rfl) (hs3 : starEach [.Constant .none j3 cnp] X.env = (false, eval (.Constant .none j3 cnp) X.env) :: starEach [] X.env := by rfl)
    (hw : swapsWith (.Call (.Attribute (.Subscript (.Name x np) (.Constant (.int 0) j2 zp) sp) "append" ap) [.Constant .none j3 cnp] [] cp) none ep.line X.env = pure false := by rfl) :
    DSs X p (.Assign [.Name x pos'] (.List [e1, e2] lp) pos :: .If t [.Return (some (.Constant (.bool false) j1 p1)) p2] [] p3 :: .Expr (.Call (.Attribute (.Subscript (.Name x np) (.Constant (.int 0) j2 zp) sp) "append" ap) [.Constant .none j3 cnp] [] cp) ep :: rest) (toldS i f1 f2 ft g) :=
  ⟨pssHL (pss_cons (ps_set hN hi hx (pe_lst (pa_cons h1.pe (pa_cons h2.pe pa_nil hs2) hs1)) hsw hf) (pss_cons (ps_if ht.pt (dss_one (ds_ret (d_bl (fr := false)))).pss pss_nil)
    (pss_cons (ps_expr (pe_bm PySem.F.plainAttrs_list PySem.F.slot_list_append PySem.F.type_list_append mt_append (pe_ix (ix_list.or ix_tup) (pe_var hi hv hd hcd) pe_int (fun _ _ => rfl)) (pa_cons pe_non pa_nil hs3) hbase hfew hline hs3) hw) hg.pss))) fun E σ H hl t => by
    obtain ⟨H0, Ext, own, ρ, q, r, q', S, e, af⟩ := t hl
    obtain ⟨xs, q1, d2, q2, b, q3, e1, e2, hlt, small, e3, e4⟩ := toldS_some e
    refine fun _ => ⟨_, ρ, _, q, _, q1, S.pre, e1, fun v1 Ha la sa pa ra na => ?_⟩
    refine fun _ => ⟨_, ρ, _, q1, d2, q2, (S.stp sa pa).pre, e2, fun v2 Hb lb sb pb rb _ => ?_⟩
    refine ⟨by show 2 ≤ sizeLine; decide, fun a nha => ?_⟩
    have Sb := (S.stp sa pa).stp sb pb
    have sc : Stp p Hb (upd Hb a (.lst [v1, v2])) := Stp.of (same_upd nha)
    have pc := same_upd (o := .lst [v1, v2]) nha _ _ pb
    have Sc := Sb.stp sc pc
    have ra2 : Rep X.K p (.list xs) (hide Hb (own ++ Ext)) v1 := Rep.mono (sb.hid S.pre.pB) ra
    have Sr := Sc.set i (rep_lst (a := a) Sb.pre.nt nha (ds := [.list xs, d2]) (vs := [v1, v2]) ⟨v1, [v2], rfl, ra2, v2, [], rfl, rb, rfl⟩)
    obtain ⟨a0, Sg⟩ := S.setB sa pa i (na rfl) rfl ra
    obtain ⟨b1, vs1, ev1, hb1, _⟩ := ra
    subst ev1
    refine fun _ => ⟨_, _, _, q2, b, q3, Sr.pre, e3, fun Hd ld sd pd => ?_⟩
    rcases e4 with ⟨rfl, rfl, rfl⟩ | ⟨rfl, e4⟩
    · rw [if_pos rfl]
      exact fun _ => ⟨H0, Ext, own, _, q', (.rt (.bool false), _), q', Sr.stp sd pd, rfl, fun v H' l s pp rr _ => af v H' l s pp rr⟩
    · rw [if_neg Bool.false_ne_true]
      have hla : i < σ.length := by rw [S.len]; exact hlt
      have nap : a ≠ p := fun z => by rw [z, pb] at nha; cases nha
      have hda : Hd a = some (.lst [.ref b1, v2]) := sd _ _ upd_same nap
      -- the list that is changed, as it is known to a name
      have Sg2 := ((Sg.stp sb pb).stp sc pc).stp sd pd
      have gi : (ρ.set i (some (true, (.list xs : D))))[i]? = some (some (true, .list xs)) := List.getElem?_set_self hlt
      have gs : (σ.set i (some (.ref b1)))[i]? = some (some (.ref b1)) := List.getElem?_set_self hla
      obtain ⟨w, g1, _, g3⟩ := Sg2.pre.env i true _ gi
      rw [gs] at g1; cases g1
      obtain ⟨c, ec, cB, cne, cF, hh⟩ := g3 rfl
      have hh : ∃ vs, Hd b1 = some (.lst vs) ∧ RepL X.K p xs (hide Hd (a0 :: own ++ Ext)) vs := by
        cases ec
        rcases hh with ⟨ys, vs, ey, hc, rc⟩ | ⟨_, _, ey, _⟩
        · cases ey; exact ⟨vs, hc, rc⟩
        · cases ey
      obtain ⟨vs, hc, rc⟩ := hh
      have Sp := Sg2.put (ds' := xs ++ [.none]) gi gs (RepL.app rc (RepL.one (d := .none) (v := .non) rfl))
      rw [List.set_set] at Sp
      have Sf := Sp.forget (w := .ref a)
      have z6 := sz6
      refine ⟨.ref a, List.getElem?_set_self hla, .inl ⟨a, [.ref b1, v2], 0, .ref b1, rfl, rfl, .inl (.inl hda), rfl, ?_⟩⟩
      refine ⟨.inl ⟨rfl, vs, .inl (.inl hc)⟩, ⟨b1, vs, .non, rfl, rfl, hc, by rw [rc.length]; omega, ?_⟩⟩
      exact fun _ => ⟨H0, Ext, _, _, q3, r, q', Sf, e4, af.hl⟩⟩
end
end Sd
namespace Hd
open PySem PySem.Spec PyProof.Rows L2
def top (i : Nat) : Stmt := PySem.Challenge.pw_stillsaid_k85_whole_splits_in_all_readin.main.body.getD i (.Pass ⟨0, 0, 0, 0⟩)
def d1 : He.DefD := ⟨("is_integer", none), "is_integer", "is_integer", defArgs (top 1), defBody (top 1), defScope (top 1), [], []⟩
def d2 : He.DefD := ⟨("is_within", none), "is_within", "is_within", defArgs (top 2), defBody (top 2), defScope (top 2), [], []⟩
def d3 : He.DefD := ⟨("is_tuple", none), "is_tuple", "is_tuple", defArgs (top 3), defBody (top 3), defScope (top 3), [], []⟩
def d4 : He.DefD := ⟨("are_rising", none), "are_rising", "are_rising", defArgs (top 4), defBody (top 4), defScope (top 4), [], []⟩
def d5 : He.DefD := ⟨("is_lot", none), "is_lot", "is_lot", defArgs (top 5), defBody (top 5), defScope (top 5), [], []⟩
def d20 : He.DefD := ⟨("is_strike_among", none), "is_strike_among", "is_strike_among", defArgs (top 20), defBody (top 20), defScope (top 20), [], []⟩
def d21 : He.DefD := ⟨("is_dispute_any", none), "is_dispute_any", "is_dispute_any", defArgs (top 21), defBody (top 21), defScope (top 21), [], []⟩
def d22 : He.DefD := ⟨("is_lot_of", none), "is_lot_of", "is_lot_of", defArgs (top 22), defBody (top 22), defScope (top 22), [], []⟩
def d23 : He.DefD := ⟨("is_reading_any", none), "is_reading_any", "is_reading_any", defArgs (top 23), defBody (top 23), defScope (top 23), [], []⟩
def d24 : He.DefD := ⟨("want_dispute", none), "want_dispute", "want_dispute", defArgs (top 24), defBody (top 24), defScope (top 24), [], []⟩
def d25 : He.DefD := ⟨("want_reading", none), "want_reading", "want_reading", defArgs (top 25), defBody (top 25), defScope (top 25), [], []⟩
def d27 : He.DefD := ⟨("strikers_of", none), "strikers_of", "strikers_of", defArgs (top 27), defBody (top 27), defScope (top 27), [], []⟩
def d28 : He.DefD := ⟨("struck_by", none), "struck_by", "struck_by", defArgs (top 28), defBody (top 28), defScope (top 28), [], []⟩
def d29 : He.DefD := ⟨("defended_by", none), "defended_by", "defended_by", defArgs (top 29), defBody (top 29), defScope (top 29), [], []⟩
def d30 : He.DefD := ⟨("is_quiet", none), "is_quiet", "is_quiet", defArgs (top 30), defBody (top 30), defScope (top 30), [], []⟩
def d31 : He.DefD := ⟨("plain_of", none), "plain_of", "plain_of", defArgs (top 31), defBody (top 31), defScope (top 31), [], []⟩
def d32 : He.DefD := ⟨("is_upheld", none), "is_upheld", "is_upheld", defArgs (top 32), defBody (top 32), defScope (top 32), [], []⟩
def d33 : He.DefD := ⟨("is_full", none), "is_full", "is_full", defArgs (top 33), defBody (top 33), defScope (top 33), [], []⟩
def d34 : He.DefD := ⟨("is_settled", none), "is_settled", "is_settled", defArgs (top 34), defBody (top 34), defScope (top 34), [], []⟩
def d35 : He.DefD := ⟨("quiet_lots", none), "quiet_lots", "quiet_lots", defArgs (top 35), defBody (top 35), defScope (top 35), [], []⟩
def d36 : He.DefD := ⟨("upheld_lots", none), "upheld_lots", "upheld_lots", defArgs (top 36), defBody (top 36), defScope (top 36), [], []⟩
def d37 : He.DefD := ⟨("is_within_lot", none), "is_within_lot", "is_within_lot", defArgs (top 37), defBody (top 37), defScope (top 37), [], []⟩
def d38 : He.DefD := ⟨("greatest_lots", none), "greatest_lots", "greatest_lots", defArgs (top 38), defBody (top 38), defScope (top 38), [], []⟩
def d39 : He.DefD := ⟨("lots_of", none), "lots_of", "lots_of", defArgs (top 39), defBody (top 39), defScope (top 39), [], []⟩
def d41 : He.DefD := ⟨("is_ahead_of", none), "is_ahead_of", "is_ahead_of", defArgs (top 41), defBody (top 41), defScope (top 41), [], []⟩
def d42 : He.DefD := ⟨("want_ahead", none), "want_ahead", "want_ahead", defArgs (top 42), defBody (top 42), defScope (top 42), [], []⟩
def d44 : He.DefD := ⟨("alone", none), "alone", "alone", defArgs (top 44), defBody (top 44), defScope (top 44), [], []⟩
def d45 : He.DefD := ⟨("told_by", none), "told_by", "told_by", defArgs (top 45), defBody (top 45), defScope (top 45), [], []⟩
def d46 : He.DefD := ⟨("rest_of", none), "rest_of", "rest_of", defArgs (top 46), defBody (top 46), defScope (top 46), [], []⟩
def d47 : He.DefD := ⟨("rest_lots", none), "rest_lots", "rest_lots", defArgs (top 47), defBody (top 47), defScope (top 47), [], []⟩
def d48 : He.DefD := ⟨("rows_of", none), "rows_of", "rows_of", defArgs (top 48), defBody (top 48), defScope (top 48), [], []⟩
def d49 : He.DefD := ⟨("together_of", none), "together_of", "together_of", defArgs (top 49), defBody (top 49), defScope (top 49), [], []⟩
def d50 : He.DefD := ⟨("split_rows", none), "split_rows", "split_rows", defArgs (top 50), defBody (top 50), defScope (top 50), [], []⟩
def d51 : He.DefD := ⟨("lots_by_split", none), "lots_by_split", "lots_by_split", defArgs (top 51), defBody (top 51), defScope (top 51), [], []⟩
def d53 : He.DefD := ⟨("_law_pot", none), "_law_pot", "_law_pot", defArgs (top 53), defBody (top 53), defScope (top 53), [], []⟩
def d54 : He.DefD := ⟨("_law_draw", none), "_law_draw", "_law_draw", defArgs (top 54), defBody (top 54), defScope (top 54), [], []⟩
def d55 : He.DefD := ⟨("_law_pick", none), "_law_pick", "_law_pick", defArgs (top 55), defBody (top 55), defScope (top 55), [], []⟩
def d56 : He.DefD := ⟨("_law_dispute", none), "_law_dispute", "_law_dispute", defArgs (top 56), defBody (top 56), defScope (top 56), [], []⟩
def d57 : He.DefD := ⟨("_law_is_int", none), "_law_is_int", "_law_is_int", defArgs (top 57), defBody (top 57), defScope (top 57), [], []⟩
def d58 : He.DefD := ⟨("_law_is_lot", none), "_law_is_lot", "_law_is_lot", defArgs (top 58), defBody (top 58), defScope (top 58), [], []⟩
def d59 : He.DefD := ⟨("_law_every", none), "_law_every", "_law_every", defArgs (top 59), defBody (top 59), defScope (top 59), [], []⟩
def d60 : He.DefD := ⟨("_law_is_ahead", none), "_law_is_ahead", "_law_is_ahead", defArgs (top 60), defBody (top 60), defScope (top 60), [], []⟩
def d61 : He.DefD := ⟨("_law_struck", none), "_law_struck", "_law_struck", defArgs (top 61), defBody (top 61), defScope (top 61), [], []⟩
def d62 : He.DefD := ⟨("_law_defends", none), "_law_defends", "_law_defends", defArgs (top 62), defBody (top 62), defScope (top 62), [], []⟩
def d63 : He.DefD := ⟨("_law_lots", none), "_law_lots", "_law_lots", defArgs (top 63), defBody (top 63), defScope (top 63), [], []⟩
def d64 : He.DefD := ⟨("_law_alone", none), "_law_alone", "_law_alone", defArgs (top 64), defBody (top 64), defScope (top 64), [], []⟩
def d65 : He.DefD := ⟨("_law_rest", none), "_law_rest", "_law_rest", defArgs (top 65), defBody (top 65), defScope (top 65), [], []⟩
def d66 : He.DefD := ⟨("_law_rows", none), "_law_rows", "_law_rows", defArgs (top 66), defBody (top 66), defScope (top 66), [], []⟩
def d67 : He.DefD := ⟨("_law_right", none), "_law_right", "_law_right", defArgs (top 67), defBody (top 67), defScope (top 67), [], []⟩
def d68 : He.DefD := ⟨("law", none), "law", "law", defArgs (top 68), defBody (top 68), defScope (top 68), [], []⟩
def fn : List He.DefD := ([d1, d2, d3, d4, d5, d20, d21, d22, d23, d24, d25, d27, d28, d29, d30, d31] : List He.DefD) ++ ([d32, d33, d34, d35, d36, d37, d38, d39, d41, d42, d44, d45, d46, d47, d48, d49] : List He.DefD) ++ ([d50, d51, d53, d54, d55, d56, d57, d58, d59, d60, d61, d62, d63, d64, d65, d66] : List He.DefD) ++ ([d67, d68] : List He.DefD)
def fa : List He.Fa := ([.glo "is_integer", .glo "is_within", .glo "is_tuple", .glo "are_rising", .glo "is_lot", .glo "is_strike_among", .glo "is_dispute_any", .glo "is_lot_of", .glo "is_reading_any", .glo "want_dispute", .glo "want_reading", .glo "strikers_of", .glo "struck_by", .glo "defended_by", .glo "is_quiet", .glo "plain_of"] : List He.Fa) ++ ([.glo "is_upheld", .glo "is_full", .glo "is_settled", .glo "quiet_lots", .glo "upheld_lots", .glo "is_within_lot", .glo "greatest_lots", .glo "lots_of", .glo "is_ahead_of", .glo "want_ahead", .glo "alone", .glo "told_by", .glo "rest_of", .glo "rest_lots", .glo "rows_of", .glo "together_of"] : List He.Fa) ++ ([.glo "split_rows", .glo "lots_by_split", .glo "_law_pot", .glo "_law_draw", .glo "_law_pick", .glo "_law_dispute", .glo "_law_is_int", .glo "_law_is_lot", .glo "_law_every", .glo "_law_is_ahead", .glo "_law_struck", .glo "_law_defends", .glo "_law_lots", .glo "_law_alone", .glo "_law_rest", .glo "_law_rows"] : List He.Fa) ++ ([.glo "_law_right", .glo "law", .free "len", .free "isinstance", .free "all", .free "any", .free "sorted", .free "set", .free "list", .free "tuple", .free "range", .free "repr", .free "abs", .free "max", .free "min", .free "int"] : List He.Fa) ++ ([.free "divmod", .free "zip", .free "enumerate", .free "dict", .free "bool", .free "str", .str "DISPUTE" "dispute", .str "UPHELD" "upheld", .str "FULL" "full", .str "GREATEST" "greatest", .str "SETTLED" "settled", .str "PLAIN" "plain", .int "MOST_CLAIMS" 10, .glo "READINGS"] : List He.Fa)
def ex (K : PySem.W.Frag) : Bool := (He.tupB K "READINGS" [.str "upheld", .str "full", .str "greatest", .str "settled", .str "plain"])
abbrev R : PySem.W.OpenRow := PySem.W.OpenLaw.row PySem.Challenge.rw_stillsaid_k85_whole_splits_in_all_readin
abbrev hk : PySem.W.Hook := Sd.hookE 4 fa fn ex
def ob (s : PySem.W.SharedT) : Sd.AlE := Sd.obsE 4 fa fn ex (HandSHeadRun.getT s)
theorem ob_eq (s : PySem.W.SharedT) : ob s = hk.obs s.abs := Sd.obsE_eq (HandSHeadRun.getT_eq s)
def loose : List PySem.Str := (["is_integer", "is_within", "is_tuple", "are_rising", "is_lot", "DisputeError", "InvalidDispute", "InvalidReading", "InvalidAhead", "DISPUTE", "UPHELD", "FULL", "GREATEST", "SETTLED", "PLAIN", "READINGS"] : List PySem.Str) ++ (["MOST_CLAIMS", "is_strike_among", "is_dispute_any", "is_lot_of", "is_reading_any", "want_dispute", "want_reading", "strikers_of", "struck_by", "defended_by", "is_quiet", "plain_of", "is_upheld", "is_full", "is_settled", "quiet_lots"] : List PySem.Str) ++ (["upheld_lots", "is_within_lot", "greatest_lots", "lots_of", "is_ahead_of", "want_ahead", "alone", "told_by", "rest_of", "rest_lots", "rows_of", "together_of", "split_rows", "lots_by_split", "_law_pot", "_law_draw"] : List PySem.Str) ++ (["_law_pick", "_law_dispute", "_law_is_int", "_law_is_lot", "_law_every", "_law_is_ahead", "_law_struck", "_law_defends", "_law_lots", "_law_alone", "_law_rest", "_law_rows", "_law_right"] : List PySem.Str)
theorem run (w : World) : HandSHeadRun.RunEq R (PySem.W.view R.prog [68]) hk ob 4000 loose w := by
  intro os
  kernel_rfl
end Hd
namespace Hd
open PySem PySem.Spec PyProof.Rows L2 Sd
variable {P : Program} {w : World} {K : PySem.W.Frag} {mg : Str → Option Value} {base : Heap} {f : Addr} {fd : FuncData}
theorem scDraw : FnScope ["pot", "many", "digit"] ["pot", "many"] (defScope (top 54)) := ⟨rfl, rfl, rfl, by decide +kernel, rfl, by decide +kernel, by decide +kernel⟩
theorem gDraw (F : FunD K "_law_draw" "_law_draw" (defArgs (top 54)) (defBody (top 54)) (defScope (top 54)) [] [] f fd) (m1 : mg "divmod" = none) (m2 : mg "int" = none) : FnG P w K mg base 1 f fd ["pot", "many"] (spDraw 40692 4831 17) := by
  refine fnG_of F scDraw fun cdv A outer s H vs Q hr hg len h => ⟨_, pss_cons (ps_if (pt_cmp (pc_gt (pe_ix ix_list (pv 0) pe_int (by exact fun _ _ => rfl)) pe_int))
    (pss_cons (ps_asg (pe_callB call_divmod rfl m1 (by decide +kernel) (pa_cons (pe_ix ix_list (pv 0) pe_int (by exact fun _ _ => rfl)) (pa_cons (pv 1) pa_nil))) (pg_tup rfl (pgs_cons (pg_sub (pv 0) pe_int set_list) (pgs_cons (pg_name (i := 2) scDraw.nd rfl (.inl rfl)) pgs_nil)))) (pss_one (ps_ret (pv 2)))) pss_nil)
    (pss_cons (ps_asg (pe_op op_mod (pe_callTy call_int1 rfl m2 (by decide +kernel) (pa_cons (pe_op op_add (pe_op op_mul (pe_ix ix_list (pv 0) pe_int (by exact fun _ _ => rfl)) pe_int) pe_int) pa_nil)) pe_int) (pg_sub (pv 0) pe_int set_list))
      (pss_one (ps_ret (pe_op op_mod (pe_callTy call_int1 rfl m2 (by decide +kernel) (pa_cons (pe_op op_fdiv (pe_op op_mod (pe_callTy call_int1 rfl m2 (by decide +kernel) (pa_cons (pe_op op_mul (pe_ix ix_list (pv 0) pe_int (by exact fun _ _ => rfl)) (pe_ix ix_list (pv 0) pe_int (by exact fun _ _ => rfl))) pa_nil)) pe_int) pe_int) pa_nil)) (pv 1))))), ?_⟩
  obtain ⟨p, m, q, rfl, hp, hm, hq, k⟩ := h
  refine ⟨.ref p, rfl, p, _, 0, .int q.1, rfl, rfl, .inl (.inl hp), rfl, q.1, 0, rfl, rfl, _, rfl, ?_⟩
  refine ite_read (fun c => ?_) (fun c => ?_)
  · have c : 0 < q.1 := by simpa using c
    refine ⟨.ref p, rfl, p, _, 0, .int q.1, rfl, rfl, .inl (.inl hp), rfl, .int m, rfl, q.1, m, rfl, hm, fun t nt => ?_⟩
    have ne : p ≠ t := fun z => by rw [z, nt] at hp; cases hp
    refine ⟨t, _, rfl, .inl (.inl upd_same), rfl, _, _, rfl, .ref p, rfl, p, _, 0, 0, rfl, rfl, (by rw [upd_ne ne]; exact hp), rfl, _, _, rfl, rfl, _, rfl, ?_⟩
    have e : drawN 40692 4831 17 m q = (q.1 % m, (q.1 / m, q.2)) := if_pos c
    rw [e] at k
    refine k _ (fun b o eb nb => ?_) upd_same
    rw [upd_ne nb, upd_ne (fun z => by rw [z, nt] at eb; cases eb)]
    exact eb
  · have c : ¬ 0 < q.1 := by simpa using c
    have e : drawN 40692 4831 17 m q = (((q.2 * 40692 + 4831) % 2147483587 * ((q.2 * 40692 + 4831) % 2147483587) % 2147483549 / 17) % m, (q.1, (q.2 * 40692 + 4831) % 2147483587)) := if_neg c
    rw [e] at k
    have b0 : 0 ≤ (q.2 * 40692 + 4831) % 2147483587 := by omega
    have b1 : (q.2 * 40692 + 4831) % 2147483587 < 2147483587 := by omega
    refine ⟨.ref p, rfl, p, _, 1, .int q.2, rfl, rfl, .inl (.inl hp), rfl, q.2, 40692, rfl, rfl, .inl (by omega), _, _, rfl, rfl, .inl ⟨_, rfl, _, _, rfl, rfl, (show (0 : Int) < 2147483587 by decide), .ref p, rfl, p, _, 1, 1, rfl, rfl, hp, rfl, ?_⟩⟩
    have hp2 : upd H p (HO.lst ([V.int q.1, V.int q.2].set 1 (V.int ((q.2 * 40692 + 4831) % 2147483587)))) p = some (.lst [V.int q.1, V.int ((q.2 * 40692 + 4831) % 2147483587)]) := upd_same
    refine ⟨.ref p, rfl, p, _, 1, .int ((q.2 * 40692 + 4831) % 2147483587), rfl, rfl, .inl (.inl hp2), rfl, .ref p, rfl, p, _, 1, .int ((q.2 * 40692 + 4831) % 2147483587), rfl, rfl, .inl (.inl hp2), rfl, _, _, rfl, rfl, .inl (by omega), .inl ⟨_, rfl, _, _, rfl, rfl, (show (0 : Int) < 2147483549 by decide), _, _, rfl, rfl, ⟨by decide, by decide⟩, .inl ⟨_, rfl, .int m, rfl, _, _, rfl, rfl, hm.1, ?_⟩⟩⟩
    exact k _ (fun c o eb nb => by rw [upd_ne nb]; exact eb) hp2

theorem scPot : FnScope ["script", "k", "cell"] ["script", "k"] (defScope (top 53)) := ⟨rfl, rfl, rfl, by decide +kernel, rfl, by decide +kernel, by decide +kernel⟩
theorem gPot (F : FunD K "_law_pot" "_law_pot" (defArgs (top 53)) (defBody (top 53)) (defScope (top 53)) [] [] f fd) (m1 : mg "len" = none) (m2 : mg "int" = none) (m3 : mg "abs" = none) (m4 : mg "max" = none) : FnG P w K mg base 1 f fd ["script", "k"] (spPot K) := by
  refine fnG_of F scPot fun cdv A outer s H vs Q hr hg len h => ⟨_, pss_cons (ps_set (i := 2) scPot.nd rfl (.inl rfl) (pe_ifExp (pt_cmp (pc_lt (pv 1) (pe_callB call_len_seq rfl m1 (by decide +kernel) (pa_cons (pv 0) pa_nil))))
      (pe_callB call_abs rfl m3 (by decide +kernel) (pa_cons (pe_ix ix_list (pv 0) (pv 1) (by exact fun _ _ => rfl)) pa_nil)) (pe_op op_add (pe_op op_mul pe_int (pv 1)) pe_int)))
    (pss_one (ps_ret (pe_lst (pa_cons (pe_callB (call_max2 rfl) rfl m4 (by decide +kernel) (pa_cons pe_int (pa_cons (pe_op op_sub (pv 2) (pe_op op_pow pe_int pe_int)) pa_nil)))
      (pa_cons (pe_op op_add (pe_op op_mod (pe_callTy call_int1 rfl m2 (by decide +kernel) (pa_cons (pe_op op_add (pe_op op_add (pe_op op_mul (pe_op op_mod (pe_callTy call_int1 rfl m2 (by decide +kernel) (pa_cons (pv 2) pa_nil)) pe_int) pe_int) (pe_op op_mul pe_int (pv 1))) pe_int) pa_nil)) pe_int) pe_int) pa_nil))))), ?_⟩
  obtain ⟨a, ns, k, rfl, hs, k0, k1, kk⟩ := h
  have fin : ∀ c : Int, PotOk (if c - 10 ^ 18 > 0 then c - 10 ^ 18 else 0, (c % 2147483549 * 40014 + 1229 * k + 4297) % 2147483563 + 1) := fun c => by
    refine ⟨?_, ?_, ?_⟩
    · show (0 : Int) ≤ if _ > (0 : Int) then _ else 0
      split
      · omega
      · omega
    · show (0 : Int) ≤ _ % 2147483563 + 1
      omega
    · show (_ : Int) % 2147483563 + 1 < 4294967296
      omega
  have lens : (ns.map V.int).length = ns.length := List.length_map ..
  refine ⟨.int k, rfl, .ref a, rfl, a, _, rfl, .inl hs, k, _, rfl, rfl, _, rfl, ?_⟩
  refine ite_read (fun c => ?_) (fun c => ?_)
  · have c : k < ((ns.map V.int).length : Int) := by simpa using c
    obtain ⟨j, hj⟩ : ∃ j : Nat, k = (j : Int) := ⟨k.toNat, by omega⟩
    have lt : j < ns.length := by rw [lens] at c; omega
    have at_ : atI (ns.map V.int) k = some (.int ns[j]) := by
      unfold atI
      have ix : ixN (ns.map V.int).length k = some j := by
        unfold ixN
        rw [if_pos k0, if_pos c, hj]; rfl
      rw [ix]
      show (ns.map V.int)[j]? = _
      rw [List.getElem?_map, List.getElem?_eq_getElem lt]; rfl
    refine ⟨.ref a, rfl, .int k, rfl, a, _, k, _, rfl, rfl, hs, at_, ns[j], rfl, ?_⟩
    refine ⟨_, rfl, 10, 18, rfl, rfl, ⟨by decide, by decide, by decide⟩, _, _, rfl, rfl, _, _, rfl, _, rfl, .inl ⟨_, rfl, _, _, rfl, rfl, (show (0 : Int) < 2147483549 by decide), _, _, rfl, rfl, .inr (by decide), .int k, rfl, _, _, rfl, rfl, .inl (by decide), _, _, rfl, rfl, _, _, rfl, rfl, .inl ⟨_, rfl, _, _, rfl, rfl, (show (0 : Int) < 2147483563 by decide), _, _, rfl, rfl, ?_, fun p np => kk p (_, _) (fin _) np⟩⟩⟩
    have := sz6; show 2 ≤ sizeLine; omega
  · refine ⟨.int k, rfl, _, _, rfl, rfl, .inl (by decide), _, _, rfl, rfl, ?_⟩
    refine ⟨_, rfl, 10, 18, rfl, rfl, ⟨by decide, by decide, by decide⟩, _, _, rfl, rfl, _, _, rfl, _, rfl, .inl ⟨_, rfl, _, _, rfl, rfl, (show (0 : Int) < 2147483549 by decide), _, _, rfl, rfl, .inr (by decide), .int k, rfl, _, _, rfl, rfl, .inl (by decide), _, _, rfl, rfl, _, _, rfl, rfl, .inl ⟨_, rfl, _, _, rfl, rfl, (show (0 : Int) < 2147483563 by decide), _, _, rfl, rfl, ?_, fun p np => kk p (_, _) (fin _) np⟩⟩⟩
    have := sz6; show 2 ≤ sizeLine; omega

theorem scStr : FnScope ["dispute", "found", "claim", "struck"] ["dispute"] (defScope (top 27)) := ⟨rfl, rfl, rfl, by decide +kernel, rfl, by decide +kernel, by decide +kernel⟩
theorem gStr (F : FunD K "strikers_of" "strikers_of" (defArgs (top 27)) (defBody (top 27)) (defScope (top 27)) [] [] f fd) (m1 : mg "range" = none) : FnG P w K mg base 1 f fd ["dispute"] (spD K 1 strikersS) := by
  refine fnG_0 (fnG_of F scStr fun cdv A outer s H vs Q hr hg len h => ⟨_, pss_cons (ps_setLc (i := 1) (own := [("claim", 2)]) rfl scStr.nd rfl rfl rfl (pi_range1 rfl m1 (pa_cons (pe_ix ix_tup (pv 0) pe_int (by exact fun _ _ => rfl)) pa_nil))
      (blk_of (N := ["dispute", "found", "claim", "struck"]) (sc := defScope (top 27)) (by decide +kernel)) (fun _ _ _ _ _ => pg_name (i := 2) scStr.nd rfl (.inl rfl)) (fun _ _ _ _ _ => pts_nil) (fun _ _ _ _ _ => pe_lst pa_nil))
    (pss_cons (ps_for PassesOwn.never rfl (pi_seq (pe_ix ix_tup (pv 0) pe_int (by exact fun _ _ => rfl))) (pg_tup rfl (pgs_cons (pg_name (i := 2) scStr.nd rfl (.inl rfl)) (pgs_cons (pg_name (i := 3) scStr.nd rfl (.inl rfl)) pgs_nil)))
        (pss_one (ps_expr (pe_bm PySem.F.plainAttrs_list PySem.F.slot_list_append PySem.F.type_list_append mt_append (pe_ix ix_list (pv 1) (pv 3) (by exact fun _ _ => rfl)) (pa_cons (pv 2) pa_nil)))))
      (pss_one (ps_ret (pv 1)))), strikers_read (fun σ H R t => ?_) h⟩)
  obtain ⟨x, e, a, xs, i, v, e1, e2, h1, h2, b, ys, e3, h3, h4⟩ := t
  exact ⟨x, e, a, xs, i, v, e1, e2, h1, h2, b, e3, .inr ⟨⟨ys, h3⟩, h4⟩⟩

end Hd
namespace Cm
open PySem PySem.Spec PyProof.Rows Sd
def s__law_draw (A B C : Int) : List D → M D := drawS A B C
def b_is_integer : SE := retS (andE (ap1 (isiD "int") (vr 0)) (ap1 notD (ap1 (isiD "bool") (vr 0))))
def s_is_integer : List D → M D := defM 1 b_is_integer
def b_is_within : SE := retS (andE (callE s_is_integer [vr 0]) (chainE leD leD (vr 1) (vr 0) (vr 2)))
def s_is_within : List D → M D := defM 3 b_is_within
def b_is_tuple : SE := retS (andE (ap1 (isiD "tuple") (vr 0)) (ap2 eqD (ap lenD [vr 0]) (vr 1)))
def s_is_tuple : List D → M D := defM 2 b_is_tuple
def b_is_strike_among : SE := retS (andE (callE s_is_tuple [vr 1, cst (.int 2)]) (ap allD [lcE [2] (itE (vr 1)) (gN 2) (cst (.bool true)) (callE s_is_within [vr 2, cst (.int 0), ap2 subD (vr 0) (cst (.int 1))])]))
def s_is_strike_among : List D → M D := defM 3 b_is_strike_among
abbrev s_strikers_of : List D → M D := strikersS
def b_struck_by : SE := retS (ap1 srtSetD (lcE [2, 3] (itE (ap2 ixD (vr 0) (cst (.int 2)))) (gT [gN 2, gN 3]) (ap2 (inG false) (vr 2) (vr 1)) (vr 3)))
def s_struck_by : List D → M D := defM 4 b_struck_by
def b_defended_by : SE := seqS (parS [2, 3] [(false, callE s_struck_by [vr 0, vr 1]), (false, callE s_strikers_of [vr 0])]) (retS (ap tupD [lcE [4] (rngE (ap2 ixD (vr 0) (cst (.int 1)))) (gN 4) (ap allD [lcE [5] (itE (ap2 ixD (vr 3) (vr 4))) (gN 5) (cst (.bool true)) (ap2 (inG false) (vr 5) (vr 2))]) (vr 4)]))
def s_defended_by : List D → M D := defM 6 b_defended_by
def b_is_quiet : SE := retS (ap1 notD (ap anyD [lcE [2] (itE (callE s_struck_by [vr 0, vr 1])) (gN 2) (cst (.bool true)) (ap2 (inG false) (vr 2) (vr 1))]))
def s_is_quiet : List D → M D := defM 3 b_is_quiet
def b_plain_of : SE := seqS (parS [1, 2] [(false, cst .none), (false, tupE [])]) (seqS (whileS (ap2 neD (vr 2) (vr 1)) (parS [1, 2] [(false, vr 2), (false, callE s_defended_by [vr 0, vr 2])]) 100000) (retS (vr 1)))
def s_plain_of : List D → M D := defM 3 b_plain_of
def b_is_upheld : SE := seqS (setS 2 (callE s_defended_by [vr 0, vr 1])) (retS (andE (callE s_is_quiet [vr 0, vr 1]) (ap allD [lcE [3] (itE (vr 1)) (gN 3) (cst (.bool true)) (ap2 (inG false) (vr 3) (vr 2))])))
def s_is_upheld : List D → M D := defM 4 b_is_upheld
def b_is_full : SE := retS (andE (callE s_is_quiet [vr 0, vr 1]) (ap2 eqD (callE s_defended_by [vr 0, vr 1]) (ap tupD [vr 1])))
def s_is_full : List D → M D := defM 2 b_is_full
def b_is_settled : SE := retS (ap2 eqD (callE s_struck_by [vr 0, vr 1]) (lcE [2] (rngE (ap2 ixD (vr 0) (cst (.int 1)))) (gN 2) (ap2 (inG true) (vr 2) (vr 1)) (vr 2)))
def s_is_settled : List D → M D := defM 3 b_is_settled
def b_quiet_lots : SE := seqS (parS [1, 2] [(false, ap dictTD [lcE [5] (itE (ap2 ixD (vr 0) (cst (.int 2)))) (gN 5) (cst (.bool true)) (tupE [vr 5, cst (.bool true)])]), (false, lstE [tupE []])]) (seqS (forS (rngE (ap2 ixD (vr 0) (cst (.int 1)))) (gN 3) (ifS (ap2 (inTk true) (tupE [vr 3, vr 3]) (vr 1)) (seqS (setS 4 (lcE [6] (itE (vr 2)) (gN 6) (ap1 notD (ap anyD [lcE [7] (itE (vr 6)) (gN 7) (cst (.bool true)) (orE (ap2 (inTk false) (tupE [vr 3, vr 7]) (vr 1)) (ap2 (inTk false) (tupE [vr 7, vr 3]) (vr 1)))])) (vr 6))) (setS 2 (ap2 addD (vr 2) (lcE [6] (itE (vr 4)) (gN 6) (cst (.bool true)) (ap2 addD (vr 6) (tupE [vr 3])))))) (nilS))) (retS (ap sortedG [vr 2])))
def s_quiet_lots : List D → M D := defM 8 b_quiet_lots
def b_upheld_lots : SE := retS (lcE [1] (itE (callE s_quiet_lots [vr 0])) (gN 1) (callE s_is_upheld [vr 0, vr 1]) (vr 1))
def s_upheld_lots : List D → M D := defM 2 b_upheld_lots
def b_is_within_lot : SE := retS (ap allD [lcE [2] (itE (vr 0)) (gN 2) (cst (.bool true)) (ap2 (inG false) (vr 2) (vr 1))])
def s_is_within_lot : List D → M D := defM 3 b_is_within_lot
def b_greatest_lots : SE := seqS (setS 1 (callE s_upheld_lots [vr 0])) (retS (lcE [2] (itE (vr 1)) (gN 2) (ap1 notD (ap anyD [lcE [3] (itE (vr 1)) (gN 3) (cst (.bool true)) (andE (ap2 neD (vr 3) (vr 2)) (callE s_is_within_lot [vr 2, vr 3]))])) (vr 2)))
def s_greatest_lots : List D → M D := defM 4 b_greatest_lots
def b_lots_of : SE := seqS (ifS (ap2 eqD (vr 1) (cst (.str "plain"))) (retS (lstE [callE s_plain_of [vr 0]])) (nilS)) (seqS (ifS (ap2 eqD (vr 1) (cst (.str "greatest"))) (retS (callE s_greatest_lots [vr 0])) (nilS)) (seqS (setS 2 (callE s_quiet_lots [vr 0])) (seqS (ifS (ap2 eqD (vr 1) (cst (.str "upheld"))) (retS (lcE [3] (itE (vr 2)) (gN 3) (callE s_is_upheld [vr 0, vr 3]) (vr 3))) (nilS)) (seqS (ifS (ap2 eqD (vr 1) (cst (.str "full"))) (retS (lcE [3] (itE (vr 2)) (gN 3) (callE s_is_full [vr 0, vr 3]) (vr 3))) (nilS)) (retS (iteE (ap2 eqD (vr 1) (cst (.str "settled"))) (lcE [3] (itE (vr 2)) (gN 3) (callE s_is_settled [vr 0, vr 3]) (vr 3)) (lstE [])))))))
def s_lots_of : List D → M D := defM 4 b_lots_of
def b_are_strikes : SE := seqS (ifS (orE (ap1 notD (ap1 (isiD "tuple") (vr 1))) (ap1 notD (ap allD [lcE [4] (itE (vr 1)) (gN 4) (cst (.bool true)) (callE s_is_strike_among [vr 0, vr 4])]))) (retS (cst (.bool false))) (nilS)) (retS (ap allD [lcE [2, 3] (zipE [vr 1, sliE (vr 1) (soO (cst (.int 1))) (noO)]) (gT [gN 2, gN 3]) (cst (.bool true)) (ap2 ltD (vr 2) (vr 3))]))
def s_are_strikes : List D → M D := defM 5 b_are_strikes
def b_is_unsure_any : SE := seqS (ifS (orE (ap1 notD (callE s_is_tuple [vr 0, cst (.int 4)])) (orE (ap1 notD (ap1 (isiD "str") (ap2 ixD (vr 0) (cst (.int 0))))) (ap2 neD (ap2 ixD (vr 0) (cst (.int 0))) (cst (.str "unsure"))))) (retS (cst (.bool false))) (nilS)) (seqS (ifS (orE (ap1 notD (callE s_is_within [ap2 ixD (vr 0) (cst (.int 1)), cst (.int 1), cst (.int 8)])) (ap1 notD (ap allD [lcE [1] (itE (sliE (vr 0) (soO (cst (.int 2))) (noO))) (gN 1) (cst (.bool true)) (callE s_are_strikes [ap2 ixD (vr 0) (cst (.int 1)), vr 1])]))) (retS (cst (.bool false))) (nilS)) (retS (andE (ap2 leD (ap lenD [ap2 ixD (vr 0) (cst (.int 3))]) (cst (.int 6))) (ap1 notD (ap anyD [lcE [1] (itE (ap2 ixD (vr 0) (cst (.int 3)))) (gN 1) (cst (.bool true)) (ap2 (inG false) (vr 1) (ap2 ixD (vr 0) (cst (.int 2))))])))))
def s_is_unsure_any : List D → M D := defM 2 b_is_unsure_any
def b_is_question_of : SE := seqS (ifS (orE (ap1 notD (callE s_is_tuple [vr 1, cst (.int 2)])) (orE (ap1 notD (ap1 (isiD "str") (ap2 ixD (vr 1) (cst (.int 0))))) (ap1 (fun d => inG true d (strsD ["plain", "upheld", "some", "all"])) (ap2 ixD (vr 1) (cst (.int 0)))))) (retS (cst (.bool false))) (nilS)) (retS (callE s_is_within [ap2 ixD (vr 1) (cst (.int 1)), cst (.int 0), ap2 subD (ap2 ixD (vr 0) (cst (.int 1))) (cst (.int 1))]))
def s_is_question_of : List D → M D := defM 2 b_is_question_of
def b_completed : SE := retS (tupE [cst (.str "dispute"), ap2 ixD (vr 0) (cst (.int 1)), ap tupD [ap sortedG [ap2 addD (ap2 ixD (vr 0) (cst (.int 2))) (ap tupD [vr 1])]]])
def s_completed : List D → M D := defM 2 b_completed
def b_parts_of : SE := seqS (setS 1 (lstE [tupE []])) (seqS (forS (itE (ap2 ixD (vr 0) (cst (.int 3)))) (gN 2) (setS 1 (ap2 addD (vr 1) (lcE [3] (itE (vr 1)) (gN 3) (cst (.bool true)) (ap2 addD (vr 3) (tupE [vr 2])))))) (retS (vr 1)))
def s_parts_of : List D → M D := defM 4 b_parts_of
def b_is_true_of : SE := seqS (asgS (vr 1) (gT [gN 2, gN 3])) (seqS (ifS (ap2 eqD (vr 2) (cst (.str "plain"))) (retS (ap2 (inG false) (vr 3) (callE s_plain_of [vr 0]))) (nilS)) (seqS (ifS (ap2 eqD (vr 2) (cst (.str "upheld"))) (retS (ap anyD [lcE [5] (itE (callE s_upheld_lots [vr 0])) (gN 5) (cst (.bool true)) (ap2 (inG false) (vr 3) (vr 5))])) (nilS)) (seqS (setS 4 (lcE [5] (itE (callE s_lots_of [vr 0, cst (.str "settled")])) (gN 5) (cst (.bool true)) (ap2 (inG false) (vr 3) (vr 5)))) (retS (iteE (ap2 eqD (vr 2) (cst (.str "some"))) (ap anyD [vr 4]) (ap allD [vr 4]))))))
def s_is_true_of : List D → M D := defM 6 b_is_true_of
def b_want_unsure : SE := ifS (ap1 notD (callE s_is_unsure_any [vr 0])) (neverS) (nilS)
def s_want_unsure : List D → M D := defM 1 b_want_unsure
def b_want_question : SE := ifS (ap1 notD (callE s_is_question_of [vr 0, vr 1])) (neverS) (nilS)
def s_want_question : List D → M D := defM 2 b_want_question
def b_truths_of : SE := retS (lcE [2] (itE (callE s_parts_of [vr 0])) (gN 2) (cst (.bool true)) (callE s_is_true_of [callE s_completed [vr 0, vr 2], vr 1]))
def s_truths_of : List D → M D := defM 3 b_truths_of
def b_verdict_of : SE := seqS (setS 2 (callE s_truths_of [vr 0, vr 1])) (seqS (ifS (ap allD [vr 2]) (retS (cst (.str "surely"))) (nilS)) (retS (iteE (ap anyD [vr 2]) (cst (.str "perhaps")) (cst (.str "never")))))
def s_verdict_of : List D → M D := defM 3 b_verdict_of
def b_want_asked : SE := seqS (exprS (callE s_want_unsure [vr 0])) (exprS (callE s_want_question [vr 0, vr 1]))
def s_want_asked : List D → M D := defM 2 b_want_asked
def b_verdict : SE := seqS (exprS (callE s_want_asked [vr 0, vr 1])) (retS (callE s_verdict_of [vr 0, vr 1]))
def s_verdict : List D → M D := defM 2 b_verdict
def b__law_pick (A B C : Int) : SE := retS (ap2 ixD (vr 1) (callE (s__law_draw A B C) [vr 0, ap lenD [vr 1]]))
def s__law_pick (A B C : Int) : List D → M D := defM 2 (b__law_pick A B C)
def b__law_unsure (A B C : Int) : SE := seqS (parS [3, 4, 5] [(false, ap2 addD (cst (.int 1)) (callE (s__law_draw A B C) [vr 0, vr 1])), (true, lstE []), (true, lstE [])]) (seqS (forS (rngE (vr 3)) (gN 6) (forS (rngE (vr 3)) (gN 7) (seqS (setS 8 (callE (s__law_draw A B C) [vr 0, iteE (ap2 neD (vr 6) (vr 7)) (cst (.int 6)) (cst (.int 12))])) (ifS (ap2 eqD (vr 8) (cst (.int 0))) (bldS 4 appH (tupE [vr 6, vr 7])) (ifS (andE (ap2 ltD (vr 8) (cst (.int 3))) (ap2 ltD (ap lenD [vrC 5]) (vr 2))) (bldS 5 appH (tupE [vr 6, vr 7])) (nilS)))))) (retS (tupE [cst (.str "unsure"), vr 3, ap tupD [vrC 4], ap tupD [vrC 5]])))
def s__law_unsure (A B C : Int) : List D → M D := defM 9 (b__law_unsure A B C)
def b__law_question (A B C : Int) : SE := retS (tupE [callE (s__law_pick A B C) [vr 0, lstE [cst (.str "plain"), cst (.str "plain"), cst (.str "upheld"), cst (.str "upheld"), cst (.str "some"), cst (.str "all")]], callE (s__law_draw A B C) [vr 0, ap2 ixD (vr 1) (cst (.int 1))]])
def s__law_question (A B C : Int) : List D → M D := defM 2 (b__law_question A B C)
def b__law_parts : SE := seqS (setS 1 (lstE [tupE []])) (seqS (forS (itE (ap2 ixD (vr 0) (cst (.int 3)))) (gN 2) (setS 1 (ap2 addD (vr 1) (lcE [3] (itE (vr 1)) (gN 3) (cst (.bool true)) (ap2 addD (vr 3) (tupE [vr 2])))))) (retS (vr 1)))
def s__law_parts : List D → M D := defM 4 b__law_parts
def b__law_lots : SE := seqS (setS 1 (lstE [tupE []])) (seqS (forS (rngE (vr 0)) (gN 2) (setS 1 (ap2 addD (vr 1) (lcE [3] (itE (vr 1)) (gN 3) (cst (.bool true)) (ap2 addD (vr 3) (tupE [vr 2])))))) (retS (ap sortedG [vr 1])))
def s__law_lots : List D → M D := defM 4 b__law_lots
def b__law_struck : SE := retS (lcE [2, 3] (itE (vr 0)) (gT [gN 2, gN 3]) (ap2 (inG false) (vr 2) (vr 1)) (vr 3))
def s__law_struck : List D → M D := defM 4 b__law_struck
def b__law_defended : SE := seqS (parS [3, 4] [(false, callE s__law_struck [vr 1, vr 2]), (true, lstE [])]) (seqS (forS (rngE (vr 0)) (gN 5) (bldS 4 extL (iteE (ap allD [lcE [6, 7] (itE (vr 1)) (gT [gN 6, gN 7]) (ap2 eqD (vr 7) (vr 5)) (ap2 (inG false) (vr 6) (vr 3))]) (lstE [vr 5]) (lstE [])))) (retS (vrC 4)))
def s__law_defended : List D → M D := defM 8 b__law_defended
def b__law_plain : SE := seqS (setS 2 (lstE [])) (seqS (forS (rngE (ap2 addD (vr 0) (cst (.int 1)))) (gN 3) (setS 2 (callE s__law_defended [vr 0, vr 1, vr 2]))) (retS (vr 2)))
def s__law_plain : List D → M D := defM 4 b__law_plain
def b__law_is_true : SE := seqS (asgS (vr 2) (gT [gN 3, gN 4])) (seqS (ifS (ap2 eqD (vr 3) (cst (.str "plain"))) (retS (ap2 (inG false) (vr 4) (callE s__law_plain [vr 0, vr 1]))) (nilS)) (seqS (setB 5 (lstE [])) (seqS (forS (itE (callE s__law_lots [vr 0])) (gN 6) (seqS (setS 7 (callE s__law_struck [vr 1, vr 6])) (seqS (ifS (ap2 eqD (vr 3) (cst (.str "upheld"))) (setS 8 (andE (ap1 notD (ap anyD [lcE [9] (itE (vr 6)) (gN 9) (cst (.bool true)) (ap2 (inG false) (vr 9) (vr 7))])) (ap allD [lcE [9] (itE (vr 6)) (gN 9) (cst (.bool true)) (ap2 (inG false) (vr 9) (callE s__law_defended [vr 0, vr 1, vr 6]))]))) (setS 8 (ap allD [lcE [9] (rngE (vr 0)) (gN 9) (cst (.bool true)) (ap2 neD (ap2 (inG false) (vr 9) (vr 7)) (ap2 (inG false) (vr 9) (vr 6)))]))) (bldS 5 extL (iteE (vr 8) (lstE [ap2 (inG false) (vr 4) (vr 6)]) (lstE [])))))) (retS (iteE (ap2 eqD (vr 3) (cst (.str "all"))) (ap allD [vrC 5]) (ap anyD [vrC 5]))))))
def s__law_is_true : List D → M D := defM 10 b__law_is_true
def b__law_truths : SE := retS (lcE [2] (itE (callE s__law_parts [vr 0])) (gN 2) (cst (.bool true)) (tupE [vr 2, callE s__law_is_true [ap2 ixD (vr 0) (cst (.int 1)), ap2 addD (ap2 ixD (vr 0) (cst (.int 2))) (vr 2), vr 1]]))
def s__law_truths : List D → M D := defM 3 b__law_truths
def b__law_verdict : SE := seqS (setS 1 (lcE [2, 3] (itE (vr 0)) (gT [gN 2, gN 3]) (cst (.bool true)) (vr 3))) (retS (iteE (ap allD [vr 1]) (cst (.str "surely")) (iteE (ap anyD [vr 1]) (cst (.str "perhaps")) (cst (.str "never")))))
def s__law_verdict : List D → M D := defM 4 b__law_verdict
def b__law_is_int : SE := retS (andE (ap1 (isiD "int") (vr 0)) (andE (ap1 notD (ap1 (isiD "bool") (vr 0))) (chainE leD leD (cst (.int 0)) (vr 0) (vr 1))))
def s__law_is_int : List D → M D := defM 2 b__law_is_int
def b__law_is_lot : SE := seqS (ifS (orE (ap1 notD (ap1 (isiD "tuple") (vr 1))) (ap1 notD (ap allD [lcE [4] (itE (vr 1)) (gN 4) (cst (.bool true)) (callE s__law_is_int [vr 4, ap2 subD (vr 0) (cst (.int 1))])]))) (retS (cst (.bool false))) (nilS)) (retS (ap allD [lcE [2, 3] (zipE [vr 1, sliE (vr 1) (soO (cst (.int 1))) (noO)]) (gT [gN 2, gN 3]) (cst (.bool true)) (ap2 ltD (vr 2) (vr 3))]))
def s__law_is_lot : List D → M D := defM 5 b__law_is_lot
def b__law_are_strikes : SE := seqS (ifS (orE (ap1 notD (ap1 (isiD "tuple") (vr 1))) (ap1 notD (ap allD [lcE [4] (itE (vr 1)) (gN 4) (cst (.bool true)) (andE (ap1 (isiD "tuple") (vr 4)) (ap2 eqD (ap lenD [vr 4]) (cst (.int 2))))]))) (retS (cst (.bool false))) (nilS)) (seqS (ifS (ap1 notD (ap allD [lcE [4, 5] (itE (vr 1)) (gT [gN 4, gN 5]) (cst (.bool true)) (andE (callE s__law_is_int [vr 4, ap2 subD (vr 0) (cst (.int 1))]) (callE s__law_is_int [vr 5, ap2 subD (vr 0) (cst (.int 1))]))])) (retS (cst (.bool false))) (nilS)) (retS (ap allD [lcE [2, 3] (zipE [vr 1, sliE (vr 1) (soO (cst (.int 1))) (noO)]) (gT [gN 2, gN 3]) (cst (.bool true)) (ap2 ltD (vr 2) (vr 3))])))
def s__law_are_strikes : List D → M D := defM 6 b__law_are_strikes
def b__law_decided : SE := seqS (setS 3 (ap tupD [lcE [4] (itE (ap2 ixD (vr 0) (cst (.int 3)))) (gN 4) (ap2 neD (vr 4) (vr 1)) (vr 4)])) (retS (tupE [cst (.str "unsure"), ap2 ixD (vr 0) (cst (.int 1)), ap tupD [ap sortedG [ap2 addD (ap2 ixD (vr 0) (cst (.int 2))) (iteE (vr 2) (tupE [vr 1]) (tupE []))]], vr 3]))
def s__law_decided : List D → M D := defM 5 b__law_decided
def b__law_question_right (A B C : Int) : SE := seqS (setS 3 (callE s__law_verdict [callE s__law_truths [vr 1, vr 2]])) (seqS (ifS (ap2 neD (ap reprD [lstE [callE s_verdict [vr 1, vr 2], callE (fun ds => s_verdict (permL [1, 0] ds)) [vr 2, vr 1]]]) (ap reprD [lstE [vr 3, vr 3]])) (retS (cst (.bool false))) (nilS)) (seqS (ifS (ap2 eqD (ap2 ixD (vr 1) (cst (.int 3))) (tupE [])) (retS (ap2 neD (vr 3) (cst (.str "perhaps")))) (nilS)) (seqS (setS 4 (callE (s__law_pick A B C) [vr 0, ap listD [ap2 ixD (vr 1) (cst (.int 3))]])) (seqS (setS 5 (lstE [callE s_verdict [callE s__law_decided [vr 1, vr 4, cst (.bool true)], vr 2], callE s_verdict [callE s__law_decided [vr 1, vr 4, cst (.bool false)], vr 2]])) (seqS (ifS (ap2 eqD (vr 3) (cst (.str "perhaps"))) (retS (ap2 (inG true) (vr 5) (lstE [lstE [cst (.str "surely"), cst (.str "surely")], lstE [cst (.str "never"), cst (.str "never")]]))) (nilS)) (retS (ap2 eqD (vr 5) (lstE [vr 3, vr 3]))))))))
def s__law_question_right (A B C : Int) : List D → M D := defM 6 (b__law_question_right A B C)
def b__law_right (A B C : Int) : SE := seqS (setS 1 (callE (s__law_unsure A B C) [vr 0, cst (.int 4), cst (.int 4)])) (seqS (setS 2 (ap reprD [vr 1])) (seqS (forS (itE (lstE [cst (.str "plain"), cst (.str "upheld"), cst (.str "some"), cst (.str "all")])) (gN 3) (forS (rngE (ap2 ixD (vr 1) (cst (.int 1)))) (gN 4) (ifS (ap1 notD (callE (s__law_question_right A B C) [vr 0, vr 1, tupE [vr 3, vr 4]])) (retS (cst (.bool false))) (nilS)))) (retS (ap2 eqD (ap reprD [vr 1]) (vr 2)))))
def s__law_right (A B C : Int) : List D → M D := defM 5 (b__law_right A B C)
def b__law_row_right (A B C : Int) : SE := seqS (parS [1, 2, 3] [(false, ap2 addD (cst (.int 2)) (callE (s__law_draw A B C) [vr 0, cst (.int 7)])), (true, lstE []), (true, lstE [])]) (seqS (forS (rngE (ap2 subD (vr 1) (cst (.int 1)))) (gN 4) (ifS (andE (ap2 eqD (callE (s__law_draw A B C) [vr 0, cst (.int 3)]) (cst (.int 0))) (ap2 ltD (ap lenD [vrC 3]) (cst (.int 6)))) (bldS 3 appH (tupE [vr 4, ap2 addD (vr 4) (cst (.int 1))])) (bldS 2 appH (tupE [vr 4, ap2 addD (vr 4) (cst (.int 1))])))) (seqS (parS [5, 6] [(false, tupE [cst (.str "unsure"), vr 1, ap tupD [vrC 2], ap tupD [vrC 3]]), (true, lstE [cst (.str "surely")])]) (seqS (forS (rng2E (cst (.int 1)) (vr 1)) (gN 4) (seqS (setS 7 (ap2 ixD (vrC 6) (ap1 negD (cst (.int 1))))) (ifS (ap2 (inG false) (tupE [ap2 subD (vr 4) (cst (.int 1)), vr 4]) (vrC 3)) (bldS 6 appH (iteE (ap2 eqD (vr 7) (cst (.str "never"))) (cst (.str "surely")) (cst (.str "perhaps")))) (bldS 6 appH (iteE (ap2 eqD (vr 7) (cst (.str "surely"))) (cst (.str "never")) (iteE (ap2 eqD (vr 7) (cst (.str "never"))) (cst (.str "surely")) (cst (.str "perhaps")))))))) (seqS (forS (rngE (vr 1)) (gN 4) (ifS (ap2 neD (lcE [8] (itE (lstE [cst (.str "plain"), cst (.str "upheld"), cst (.str "some"), cst (.str "all")])) (gN 8) (cst (.bool true)) (callE s_verdict [vr 5, tupE [vr 8, vr 4]])) (ap2 repLD (lstE [ap2 ixD (vrC 6) (vr 4)]) (cst (.int 4)))) (retS (cst (.bool false))) (nilS))) (retS (cst (.bool true)))))))
def s__law_row_right (A B C : Int) : List D → M D := defM 9 (b__law_row_right A B C)
def b_all_facts : SE := seqS (setS 1 (lstE [tupE []])) (seqS (forS (itE (vr 0)) (gN 2) (seqS (setS 3 (ap2 addD (lcE [5] (itE (vr 1)) (gN 5) (cst (.bool true)) (ap2 addD (vr 5) (tupE [tupE [vr 2, cst (.int 0)]]))) (lcE [5] (itE (vr 1)) (gN 5) (cst (.bool true)) (ap2 addD (vr 5) (tupE [tupE [vr 2, cst (.int 1)]]))))) (setS 1 (ap2 addD (vr 1) (vr 3))))) (retS (lcE [4, 5] (itE (ap sortedG [lcE [5] (itE (vr 1)) (gN 5) (cst (.bool true)) (tupE [ap lenD [vr 5], vr 5])])) (gT [gN 4, gN 5]) (cst (.bool true)) (vr 5))))
def s_all_facts : List D → M D := defM 6 b_all_facts
def b_do_agree : SE := retS (ap allD [lcE [2, 3] (itE (vr 0)) (gT [gN 2, gN 3]) (cst (.bool true)) (ap2 eqD (ap2 (inG false) (vr 2) (vr 1)) (ap2 eqD (vr 3) (cst (.int 1))))])
def s_do_agree : List D → M D := defM 4 b_do_agree
def b__law_all_facts : SE := seqS (setS 1 (lstE [tupE []])) (seqS (forS (itE (vr 0)) (gN 2) (setS 1 (ap2 addD (ap2 addD (vr 1) (lcE [4] (itE (vr 1)) (gN 4) (cst (.bool true)) (ap2 addD (vr 4) (tupE [tupE [vr 2, cst (.int 0)]])))) (lcE [4] (itE (vr 1)) (gN 4) (cst (.bool true)) (ap2 addD (vr 4) (tupE [tupE [vr 2, cst (.int 1)]])))))) (retS (lcE [3, 4] (itE (ap sortedG [lcE [4] (itE (vr 1)) (gN 4) (cst (.bool true)) (tupE [ap lenD [vr 4], vr 4])])) (gT [gN 3, gN 4]) (cst (.bool true)) (vr 4))))
def s__law_all_facts : List D → M D := defM 5 b__law_all_facts
def b__law_least : SE := seqS (parS [3, 4] [(false, callE s__law_truths [vr 0, vr 1]), (true, lstE [])]) (seqS (forS (itE (callE s__law_all_facts [ap2 ixD (vr 0) (cst (.int 3))])) (gN 5) (seqS (setS 6 (lcE [8, 9] (itE (vr 3)) (gT [gN 8, gN 9]) (ap allD [lcE [10, 11] (itE (vr 5)) (gT [gN 10, gN 11]) (cst (.bool true)) (ap2 eqD (ap2 (inG false) (vr 10) (vr 8)) (ap2 eqD (vr 11) (cst (.int 1))))]) (vr 9))) (seqS (setS 7 (iteE (ap2 eqD (vr 2) (cst (.str "surely"))) (ap allD [vr 6]) (ap1 notD (ap anyD [vr 6])))) (ifS (andE (vr 7) (ap1 notD (ap anyD [lcE [12] (itE (vrC 4)) (gN 12) (cst (.bool true)) (ap allD [lcE [13] (itE (vr 12)) (gN 13) (cst (.bool true)) (ap2 (inG false) (vr 13) (vr 5))])]))) (bldS 4 appH (vr 5)) (nilS))))) (retS (vrC 4)))
def s__law_least : List D → M D := defM 14 b__law_least
def b_is_part_of : SE := retS (andE (callE s_are_strikes [ap2 ixD (vr 0) (cst (.int 1)), vr 1]) (ap allD [lcE [2] (itE (vr 1)) (gN 2) (cst (.bool true)) (ap2 (inG false) (vr 2) (ap2 ixD (vr 0) (cst (.int 3))))]))
def s_is_part_of : List D → M D := defM 3 b_is_part_of
def b_want_part : SE := ifS (ap1 notD (callE s_is_part_of [vr 0, vr 1])) (neverS) (nilS)
def s_want_part : List D → M D := defM 2 b_want_part
def b_is_unsure : SE := retS (callE s_is_unsure_any [vr 0])
def s_is_unsure : List D → M D := defM 1 b_is_unsure
def b_completion : SE := seqS (exprS (callE s_want_unsure [vr 0])) (seqS (exprS (callE s_want_part [vr 0, vr 1])) (retS (callE s_completed [vr 0, vr 1])))
def s_completion : List D → M D := defM 2 b_completion
def b_is_true_with : SE := seqS (exprS (callE s_want_unsure [vr 0])) (seqS (exprS (callE s_want_part [vr 0, vr 1])) (seqS (exprS (callE s_want_question [vr 0, vr 2])) (retS (callE s_is_true_of [callE s_completed [vr 0, vr 1], vr 2]))))
def s_is_true_with : List D → M D := defM 3 b_is_true_with
def b__law_is_unsure : SE := seqS (ifS (orE (ap1 notD (ap1 (isiD "tuple") (vr 0))) (orE (ap2 neD (ap lenD [vr 0]) (cst (.int 4))) (orE (ap1 notD (ap1 (isiD "str") (ap2 ixD (vr 0) (cst (.int 0))))) (ap2 neD (ap2 ixD (vr 0) (cst (.int 0))) (cst (.str "unsure")))))) (retS (cst (.bool false))) (nilS)) (seqS (ifS (orE (ap1 notD (callE s__law_is_int [ap2 ixD (vr 0) (cst (.int 1)), cst (.int 8)])) (orE (ap2 eqD (ap2 ixD (vr 0) (cst (.int 1))) (cst (.int 0))) (orE (ap1 notD (callE s__law_are_strikes [ap2 ixD (vr 0) (cst (.int 1)), ap2 ixD (vr 0) (cst (.int 2))])) (ap1 notD (callE s__law_are_strikes [ap2 ixD (vr 0) (cst (.int 1)), ap2 ixD (vr 0) (cst (.int 3))]))))) (retS (cst (.bool false))) (nilS)) (retS (andE (ap2 leD (ap lenD [ap2 ixD (vr 0) (cst (.int 3))]) (cst (.int 6))) (ap1 notD (ap anyD [lcE [1] (itE (ap2 ixD (vr 0) (cst (.int 3)))) (gN 1) (cst (.bool true)) (ap2 (inG false) (vr 1) (ap2 ixD (vr 0) (cst (.int 2))))])))))
def s__law_is_unsure : List D → M D := defM 2 b__law_is_unsure
def b_are_rising : SE := retS (ap allD [lcE [1, 2] (zipE [vr 0, sliE (vr 0) (soO (cst (.int 1))) (noO)]) (gT [gN 1, gN 2]) (cst (.bool true)) (ap2 ltD (vr 1) (vr 2))])
def s_are_rising : List D → M D := defM 3 b_are_rising
def b_is_lot : SE := retS (andE (ap1 (isiD "tuple") (vr 0)) (andE (ap allD [lcE [2] (itE (vr 0)) (gN 2) (cst (.bool true)) (callE s_is_within [vr 2, cst (.int 0), vr 1])]) (callE s_are_rising [vr 0])))
def s_is_lot : List D → M D := defM 3 b_is_lot
def b_is_dispute_any : SE := seqS (ifS (orE (ap1 notD (callE s_is_tuple [vr 0, cst (.int 3)])) (orE (ap1 notD (ap1 (isiD "str") (ap2 ixD (vr 0) (cst (.int 0))))) (ap2 neD (ap2 ixD (vr 0) (cst (.int 0))) (cst (.str "dispute"))))) (retS (cst (.bool false))) (nilS)) (seqS (ifS (orE (ap1 notD (callE s_is_within [ap2 ixD (vr 0) (cst (.int 1)), cst (.int 1), cst (.int 10)])) (ap1 notD (ap1 (isiD "tuple") (ap2 ixD (vr 0) (cst (.int 2)))))) (retS (cst (.bool false))) (nilS)) (seqS (ifS (ap1 notD (ap allD [lcE [3] (itE (ap2 ixD (vr 0) (cst (.int 2)))) (gN 3) (cst (.bool true)) (callE s_is_strike_among [ap2 ixD (vr 0) (cst (.int 1)), vr 3])])) (retS (cst (.bool false))) (nilS)) (retS (ap allD [lcE [1, 2] (zipE [ap2 ixD (vr 0) (cst (.int 2)), sliE (ap2 ixD (vr 0) (cst (.int 2))) (soO (cst (.int 1))) (noO)]) (gT [gN 1, gN 2]) (cst (.bool true)) (ap2 ltD (vr 1) (vr 2))]))))
def s_is_dispute_any : List D → M D := defM 4 b_is_dispute_any
def b_is_lot_of : SE := retS (callE s_is_lot [vr 1, ap2 subD (ap2 ixD (vr 0) (cst (.int 1))) (cst (.int 1))])
def s_is_lot_of : List D → M D := defM 2 b_is_lot_of
def b_is_claim_of : SE := retS (callE s_is_within [vr 1, cst (.int 0), ap2 subD (ap2 ixD (vr 0) (cst (.int 1))) (cst (.int 1))])
def s_is_claim_of : List D → M D := defM 2 b_is_claim_of
def b_want_dispute : SE := ifS (ap1 notD (callE s_is_dispute_any [vr 0])) (neverS) (nilS)
def s_want_dispute : List D → M D := defM 1 b_want_dispute
def b_want_claim : SE := ifS (ap1 notD (callE s_is_claim_of [vr 0, vr 1])) (neverS) (nilS)
def s_want_claim : List D → M D := defM 2 b_want_claim
def b_way_to : SE := seqS (setB 2 (lstE [vr 1])) (seqS (whileS (ap2 (isG true) (ap2 ixD (vr 0) (ap2 ixD (vrC 2) (ap1 negD (cst (.int 1))))) (cst .none)) (bldS 2 appH (ap2 ixD (vr 0) (ap2 ixD (vrC 2) (ap1 negD (cst (.int 1)))))) 100000) (retS (ap tupD [vrC 2])))
def s_way_to : List D → M D := defM 3 b_way_to
def b_is_ahead_of : SE := seqS (ifS (orE (ap1 notD (callE s_is_lot_of [vr 0, vr 1])) (ap2 eqD (vr 1) (tupE []))) (retS (cst (.bool false))) (nilS)) (retS (ap1 notD (ap anyD [lcE [2, 3] (itE (ap2 ixD (vr 0) (cst (.int 2)))) (gT [gN 2, gN 3]) (cst (.bool true)) (andE (ap2 (inG false) (vr 3) (vr 1)) (ap2 (inG true) (vr 2) (vr 1)))])))
def s_is_ahead_of : List D → M D := defM 4 b_is_ahead_of
def b_want_two : SE := seqS (exprS (callE s_want_dispute [vr 0])) (seqS (exprS (callE s_want_claim [vr 0, vr 1])) (exprS (callE s_want_claim [vr 0, vr 2])))
def s_want_two : List D → M D := defM 3 b_want_two
def b_is_ahead : SE := seqS (exprS (callE s_want_dispute [vr 0])) (retS (callE s_is_ahead_of [vr 0, vr 1]))
def s_is_ahead : List D → M D := defM 2 b_is_ahead
def b__law_dispute (A B C : Int) : SE := seqS (parS [2, 3] [(false, ap2 addD (cst (.int 1)) (callE (s__law_draw A B C) [vr 0, vr 1])), (false, ap2 addD (cst (.int 2)) (callE (s__law_draw A B C) [vr 0, cst (.int 4)]))]) (seqS (parS [4, 5] [(false, ap2 eqD (callE (s__law_draw A B C) [vr 0, cst (.int 3)]) (cst (.int 0))), (true, lstE [])]) (seqS (forS (rngE (vr 2)) (gN 6) (forS (rngE (vr 2)) (gN 7) (ifS (andE (ap2 eqD (callE (s__law_draw A B C) [vr 0, vr 3]) (cst (.int 0))) (orE (ap2 neD (vr 6) (vr 7)) (ap2 eqD (callE (s__law_draw A B C) [vr 0, cst (.int 2)]) (cst (.int 0))))) (ifS (orE (ap1 notD (vr 4)) (orE (ap2 ltD (vr 6) (vr 7)) (ap2 eqD (callE (s__law_draw A B C) [vr 0, cst (.int 4)]) (cst (.int 0))))) (bldS 5 appH (tupE [vr 6, vr 7])) (nilS)) (nilS)))) (retS (tupE [cst (.str "dispute"), vr 2, ap tupD [ap sortedG [vrC 5]]]))))
def s__law_dispute (A B C : Int) : List D → M D := defM 8 (b__law_dispute A B C)
def b__law_base : SE := seqS (setB 2 (lstE [vr 1])) (seqS (forS (rngE (ap2 ixD (vr 0) (cst (.int 1)))) (gN 3) (bldS 2 extL (lcE [4] (itE (ap1 srtSetD (lcE [5, 6] (itE (ap2 ixD (vr 0) (cst (.int 2)))) (gT [gN 5, gN 6]) (ap2 (inG false) (vr 6) (vrC 2)) (vr 5)))) (gN 4) (ap2 (inG true) (vr 4) (vrC 2)) (vr 4)))) (retS (ap tupD [ap sortedG [vrC 2]])))
def s__law_base : List D → M D := defM 7 b__law_base
def b__law_knots : SE := seqS (setS 2 (ap1 srtSetD (lcE [9] (rngE (ap2 ixD (vr 0) (cst (.int 1)))) (gN 9) (cst (.bool true)) (ap tupD [lcE [10] (itE (ap2 ixD (vr 1) (vr 9))) (gN 10) (ap2 (inG false) (vr 9) (ap2 ixD (vr 1) (vr 10))) (vr 10)])))) (seqS (setB 3 (lstE [])) (seqS (forS (rngE (ap lenD [vr 2])) (gN 4) (seqS (setS 5 (lcE [8] (itE (vr 2)) (gN 8) (ap2 (inG true) (vr 8) (vrC 3)) (vr 8))) (seqS (setS 6 (ap sumLD [lcE [8] (itE (vr 5)) (gN 8) (cst (.bool true)) (ap listD [vr 8]), lstE []])) (seqS (setS 7 (lcE [8] (itE (vr 5)) (gN 8) (ap1 notD (ap anyD [lcE [9, 11] (itE (ap2 ixD (vr 0) (cst (.int 2)))) (gT [gN 9, gN 11]) (cst (.bool true)) (andE (ap2 (inG false) (vr 11) (vr 8)) (andE (ap2 (inG true) (vr 9) (vr 8)) (ap2 (inG false) (vr 9) (vr 6))))])) (vr 8))) (bldS 3 appH (ap2 ixD (vr 7) (cst (.int 0)))))))) (retS (vrC 3))))
def s__law_knots : List D → M D := defM 12 b__law_knots
def b__law_every : SE := seqS (setS 1 (lstE [tupE []])) (seqS (forS (rngE (vr 0)) (gN 2) (setS 1 (ap2 addD (vr 1) (lcE [3] (itE (vr 1)) (gN 3) (cst (.bool true)) (ap2 addD (vr 3) (tupE [vr 2])))))) (retS (ap sortedG [vr 1])))
def s__law_every : List D → M D := defM 4 b__law_every
def b_is_reading_any : SE := retS (andE (ap1 (isiD "str") (vr 0)) (ap1 (fun d => inG false d (strsD ["upheld", "full", "greatest", "settled", "plain"])) (vr 0)))
def s_is_reading_any : List D → M D := defM 1 b_is_reading_any
def b_want_reading : SE := ifS (ap1 notD (callE s_is_reading_any [vr 0])) (neverS) (nilS)
def s_want_reading : List D → M D := defM 1 b_want_reading
def b_want_ahead : SE := seqS (exprS (callE s_want_dispute [vr 0])) (ifS (ap1 notD (callE s_is_ahead_of [vr 0, vr 1])) (neverS) (nilS))
def s_want_ahead : List D → M D := defM 2 b_want_ahead
def b_alone : SE := seqS (setS 3 (dcE [5, 6] (enuE (vr 1)) (gT [gN 5, gN 6]) (cst (.bool true)) (vr 6) (vr 5))) (seqS (setS 4 (lcE [6, 7] (itE (ap2 ixD (vr 0) (cst (.int 2)))) (gT [gN 6, gN 7]) (andE (ap2 (inDk false) (vr 6) (vr 3)) (ap2 (inDk false) (vr 7) (vr 3))) (tupE [ap2 getD' (vr 3) (vr 6), ap2 getD' (vr 3) (vr 7)]))) (seqS (setS 4 (ap2 addD (vr 4) (lcE [6] (itE (vr 2)) (gN 6) (ap2 (inDk false) (vr 6) (vr 3)) (tupE [ap2 getD' (vr 3) (vr 6), ap2 getD' (vr 3) (vr 6)])))) (retS (tupE [cst (.str "dispute"), ap lenD [vr 1], ap tupD [ap1 srtSetD (vr 4)]]))))
def s_alone : List D → M D := defM 8 b_alone
def b_told_by : SE := retS (ap tupD [lcE [2] (itE (vr 1)) (gN 2) (cst (.bool true)) (ap2 ixD (vr 0) (vr 2))])
def s_told_by : List D → M D := defM 3 b_told_by
def b_rest_of : SE := seqS (setS 3 (callE s_struck_by [vr 0, vr 2])) (seqS (setS 4 (ap tupD [lcE [6] (rngE (ap2 ixD (vr 0) (cst (.int 1)))) (gN 6) (andE (ap2 (inG true) (vr 6) (vr 1)) (ap2 (inG true) (vr 6) (vr 3))) (vr 6)])) (seqS (ifS (ap2 eqD (vr 4) (tupE [])) (retS (tupE [cst .none, tupE []])) (nilS)) (seqS (setS 5 (ap tupD [lcE [6] (itE (vr 1)) (gN 6) (andE (ap2 (inG true) (vr 6) (vr 2)) (ap2 (inG true) (vr 6) (vr 3))) (vr 6)])) (retS (tupE [callE s_alone [vr 0, vr 4, callE s_struck_by [vr 0, vr 5]], vr 4])))))
def s_rest_of : List D → M D := defM 7 b_rest_of
def b_rest_lots : SE := seqS (asgS (callE s_rest_of [vr 0, vr 1, vr 2]) (gT [gN 4, gN 5])) (seqS (ifS (ap2 (isG false) (vr 4) (cst .none)) (retS (tupE [tupE []])) (nilS)) (retS (ap tupD [ap sortedG [lcE [6] (itE (callE s_lots_of [vr 4, vr 3])) (gN 6) (cst (.bool true)) (callE s_told_by [vr 5, vr 6])]])))
def s_rest_lots : List D → M D := defM 7 b_rest_lots
def b_rows_of : SE := seqS (setS 3 (ap sortedG [lcE [4] (itE (callE s_lots_of [callE s_alone [vr 0, vr 1, tupE []], vr 2])) (gN 4) (cst (.bool true)) (callE s_told_by [vr 1, vr 4])])) (retS (lcE [4] (itE (vr 3)) (gN 4) (cst (.bool true)) (tupE [vr 4, callE s_rest_lots [vr 0, vr 1, vr 4, vr 2]])))
def s_rows_of : List D → M D := defM 5 b_rows_of
def b_together_of : SE := seqS (setB 1 (lstE [])) (seqS (forS (itE (vr 0)) (gT [gN 2, gN 3]) (bldS 1 extL (lcE [4] (itE (vr 3)) (gN 4) (cst (.bool true)) (ap tupD [ap sortedG [ap2 addD (vr 2) (vr 4)]])))) (retS (ap sortedG [vrC 1])))
def s_together_of : List D → M D := defM 5 b_together_of
def b_split_rows : SE := seqS (exprS (callE s_want_ahead [vr 0, vr 1])) (seqS (exprS (callE s_want_reading [vr 2])) (retS (callE s_rows_of [vr 0, vr 1, vr 2])))
def s_split_rows : List D → M D := defM 3 b_split_rows
def b_lots_by_split : SE := seqS (exprS (callE s_want_ahead [vr 0, vr 1])) (seqS (exprS (callE s_want_reading [vr 2])) (retS (callE s_together_of [callE s_rows_of [vr 0, vr 1, vr 2]])))
def s_lots_by_split : List D → M D := defM 3 b_lots_by_split
def b__law_alone : SE := seqS (setS 3 (lcE [4, 5] (itE (ap2 ixD (vr 0) (cst (.int 2)))) (gT [gN 4, gN 5]) (andE (ap2 (inG false) (vr 4) (vr 1)) (ap2 (inG false) (vr 5) (vr 1))) (tupE [ap2 idxD (vr 1) (vr 4), ap2 idxD (vr 1) (vr 5)]))) (retS (tupE [cst (.str "dispute"), ap lenD [vr 1], ap tupD [ap1 srtSetD (ap2 addD (vr 3) (lcE [4] (itE (vr 2)) (gN 4) (ap2 (inG false) (vr 4) (vr 1)) (tupE [ap2 idxD (vr 1) (vr 4), ap2 idxD (vr 1) (vr 4)])))]]))
def s__law_alone : List D → M D := defM 6 b__law_alone
def b__law_rest : SE := seqS (setS 3 (lcE [7, 8] (itE (ap2 ixD (vr 0) (cst (.int 2)))) (gT [gN 7, gN 8]) (ap2 (inG false) (vr 7) (vr 2)) (vr 8))) (seqS (setS 4 (ap tupD [lcE [7] (rngE (ap2 ixD (vr 0) (cst (.int 1)))) (gN 7) (andE (ap2 (inG true) (vr 7) (vr 1)) (ap2 (inG true) (vr 7) (vr 3))) (vr 7)])) (seqS (setS 5 (lcE [7] (itE (vr 1)) (gN 7) (andE (ap2 (inG true) (vr 7) (vr 2)) (ap2 (inG true) (vr 7) (vr 3))) (vr 7))) (seqS (setS 6 (lcE [7, 8] (itE (ap2 ixD (vr 0) (cst (.int 2)))) (gT [gN 7, gN 8]) (ap2 (inG false) (vr 7) (vr 5)) (vr 8))) (retS (iteE (ap2 eqD (vr 4) (tupE [])) (tupE [cst .none, tupE []]) (tupE [callE s__law_alone [vr 0, vr 4, vr 6], vr 4]))))))
def s__law_rest : List D → M D := defM 9 b__law_rest
def b_want_lot : SE := ifS (ap1 notD (callE s_is_lot_of [vr 0, vr 1])) (neverS) (nilS)
def s_want_lot : List D → M D := defM 2 b_want_lot
def b_how_many_lots : SE := seqS (exprS (callE s_want_dispute [vr 0])) (seqS (exprS (callE s_want_reading [vr 1])) (retS (ap lenD [callE s_lots_of [vr 0, vr 1]])))
def s_how_many_lots : List D → M D := defM 2 b_how_many_lots
def b_led : SE := seqS (setS 2 (ap dictTD [lcE [6, 7] (enuE (vr 1)) (gT [gN 6, gN 7]) (cst (.bool true)) (tupE [vr 7, vr 6])])) (seqS (setS 3 (lcE [4, 5] (itE (ap2 ixD (vr 0) (cst (.int 2)))) (gT [gN 4, gN 5]) (andE (ap2 (inDk false) (vr 4) (vr 2)) (ap2 (inDk false) (vr 5) (vr 2))) (tupE [vr 4, vr 5]))) (retS (tupE [cst (.str "dispute"), ap lenD [vr 1], ap tupD [ap sortedG [lcE [4, 5] (itE (vr 3)) (gT [gN 4, gN 5]) (cst (.bool true)) (tupE [ap2 getD' (vr 2) (vr 4), ap2 getD' (vr 2) (vr 5)])]]])))
def s_led : List D → M D := defM 8 b_led
def b_part_of : SE := seqS (exprS (callE s_want_dispute [vr 0])) (seqS (exprS (callE s_want_lot [vr 0, vr 1])) (seqS (ifS (ap2 eqD (vr 1) (tupE [])) (neverS) (nilS)) (retS (callE s_led [vr 0, vr 1]))))
def s_part_of : List D → M D := defM 2 b_part_of
def b_states_of : SE := seqS (setS 1 (callE s_plain_of [vr 0])) (seqS (setS 2 (callE s_struck_by [vr 0, vr 1])) (retS (lcE [3] (rngE (ap2 ixD (vr 0) (cst (.int 1)))) (gN 3) (cst (.bool true)) (iteE (ap2 (inG false) (vr 3) (vr 1)) (cst (.str "stands")) (iteE (ap2 (inG false) (vr 3) (vr 2)) (cst (.str "falls")) (cst (.str "open")))))))
def s_states_of : List D → M D := defM 4 b_states_of
def b_plain_lot : SE := seqS (exprS (callE s_want_dispute [vr 0])) (retS (callE s_plain_of [vr 0]))
def s_plain_lot : List D → M D := defM 1 b_plain_lot
def b_states : SE := seqS (exprS (callE s_want_dispute [vr 0])) (retS (callE s_states_of [vr 0]))
def s_states : List D → M D := defM 1 b_states
def b_settled_lots : SE := seqS (exprS (callE s_want_dispute [vr 0])) (retS (callE s_lots_of [vr 0, cst (.str "settled")]))
def s_settled_lots : List D → M D := defM 1 b_settled_lots
def b_want_more : SE := ifS (ap1 notD (callE s_is_dispute_any [vr 0])) (neverS) (nilS)
def s_want_more : List D → M D := defM 1 b_want_more
def b_front : SE := seqS (exprS (callE s_want_ahead [vr 0, vr 1])) (retS (callE s_alone [vr 0, vr 1, tupE []]))
def s_front : List D → M D := defM 2 b_front
def b_is_behind : SE := seqS (exprS (callE s_want_ahead [vr 0, vr 1])) (seqS (exprS (callE s_want_more [vr 2])) (retS (ap1 notD (ap anyD [lcE [3, 4] (itE (ap2 ixD (vr 2) (cst (.int 2)))) (gT [gN 3, gN 4]) (cst (.bool true)) (ap2 (inG false) (vr 4) (vr 1))]))))
def s_is_behind : List D → M D := defM 5 b_is_behind
def b_is_needless : SE := seqS (asgS (vr 2) (gT [gN 3, gN 4])) (seqS (parS [5, 6] [(false, ap2 (inG false) (tupE [vr 3, vr 3]) (vr 0)), (false, ap2 (inG false) (tupE [vr 4, vr 4]) (vr 0))]) (seqS (setS 7 (ap2 (inG false) (tupE [vr 4, vr 3]) (vr 0))) (seqS (ifS (ap2 eqD (vr 3) (vr 4)) (retS (cst (.bool false))) (nilS)) (seqS (ifS (ap2 eqD (vr 1) (cst (.str "settled"))) (retS (vr 5)) (nilS)) (seqS (ifS (ap2 eqD (vr 1) (cst (.str "full"))) (retS (andE (vr 5) (vr 6))) (nilS)) (seqS (ifS (ap2 eqD (vr 1) (cst (.str "plain"))) (retS (andE (vr 6) (orE (vr 5) (vr 7)))) (nilS)) (retS (andE (vr 5) (orE (vr 6) (vr 7))))))))))
def s_is_needless : List D → M D := defM 8 b_is_needless
def b_needless_of : SE := retS (lcE [2] (itE (ap2 ixD (vr 0) (cst (.int 2)))) (gN 2) (callE s_is_needless [ap2 ixD (vr 0) (cst (.int 2)), vr 1, vr 2]) (vr 2))
def s_needless_of : List D → M D := defM 3 b_needless_of
def b_without : SE := retS (ap2 addD (sliE (vr 0) (noO) (soO (cst (.int 2)))) (tupE [ap tupD [lcE [2] (itE (ap2 ixD (vr 0) (cst (.int 2)))) (gN 2) (ap2 (inG true) (vr 2) (vr 1)) (vr 2)]]))
def s_without : List D → M D := defM 3 b_without
def b_kernel_of : SE := retS (callE s_without [vr 0, callE s_needless_of [vr 0, vr 1]])
def s_kernel_of : List D → M D := defM 2 b_kernel_of
def b_want_read : SE := seqS (exprS (callE s_want_dispute [vr 0])) (exprS (callE s_want_reading [vr 1]))
def s_want_read : List D → M D := defM 2 b_want_read
def b_kernel : SE := seqS (exprS (callE s_want_read [vr 0, vr 1])) (retS (callE s_kernel_of [vr 0, vr 1]))
def s_kernel : List D → M D := defM 2 b_kernel
def b_with_claim : SE := retS (iteE (ap2 (inG false) (vr 1) (vr 0)) (vr 0) (ap tupD [ap sortedG [ap2 addD (vr 0) (tupE [vr 1])]]))
def s_with_claim : List D → M D := defM 2 b_with_claim
def b_upheld_over : SE := seqS (forS (itE (callE s_upheld_lots [vr 0])) (gN 2) (ifS (callE s_is_within_lot [vr 1, vr 2]) (retS (vr 2)) (nilS))) (retS (cst .none))
def s_upheld_over : List D → M D := defM 3 b_upheld_over
def b_unanswered : SE := seqS (parS [2, 3] [(false, callE s_struck_by [vr 0, vr 1]), (false, callE s_strikers_of [vr 0])]) (seqS (forS (rngE (ap2 ixD (vr 0) (cst (.int 1)))) (gN 4) (ifS (andE (ap2 (inG true) (vr 4) (vr 2)) (ap anyD [lcE [5] (itE (vr 1)) (gN 5) (cst (.bool true)) (ap2 (inG false) (vr 4) (ap2 ixD (vr 3) (vr 5)))])) (retS (vr 4)) (nilS))) (retS (cst .none)))
def s_unanswered : List D → M D := defM 6 b_unanswered
def b_is_row_form : SE := seqS (ifS (orE (ap1 notD (callE s_is_tuple [vr 1, cst (.int 3)])) (orE (ap1 notD (callE s_is_lot_of [vr 0, ap2 ixD (vr 1) (cst (.int 0))])) (ap1 notD (ap1 (isiD "tuple") (ap2 ixD (vr 1) (cst (.int 2))))))) (retS (cst (.bool false))) (nilS)) (seqS (ifS (ap1 notD (ap allD [lcE [2] (itE (ap2 ixD (vr 1) (cst (.int 2)))) (gN 2) (cst (.bool true)) (callE s_is_within [vr 2, cst (.int 0), cst (.int 2000)])])) (retS (cst (.bool false))) (nilS)) (retS (orE (ap2 (isG false) (ap2 ixD (vr 1) (cst (.int 1))) (cst .none)) (callE s_is_claim_of [vr 0, ap2 ixD (vr 1) (cst (.int 1))]))))
def s_is_row_form : List D → M D := defM 3 b_is_row_form
def b_can_uphold : SE := seqS (exprS (callE s_want_dispute [vr 0])) (seqS (exprS (callE s_want_lot [vr 0, vr 1])) (retS (ap2 (isG true) (callE s_upheld_over [vr 0, vr 1]) (cst .none))))
def s_can_uphold : List D → M D := defM 2 b_can_uphold
def b__law_heads : SE := retS (ap1 srtSetD (lcE [2] (itE (vr 1)) (gN 2) (cst (.bool true)) (ap tupD [lcE [3] (itE (vr 2)) (gN 3) (ap2 (inG false) (vr 3) (vr 0)) (vr 3)])))
def s__law_heads : List D → M D := defM 4 b__law_heads
def b_needless_strikes : SE := seqS (exprS (callE s_want_read [vr 0, vr 1])) (retS (callE s_needless_of [vr 0, vr 1]))
def s_needless_strikes : List D → M D := defM 2 b_needless_strikes
end Cm
namespace Hd
open PySem PySem.Spec PyProof.Rows L2 Sd Cm
/-- what stands behind the law's names -/
structure Al (K : PySem.W.Frag) (mg : Str → Option Value) where
  f1 : Addr
  fd1 : FuncData
  F1 : FunD K "is_integer" "is_integer" (defArgs (top 1)) (defBody (top 1)) (defScope (top 1)) [] [] f1 fd1
  h1 : mg "is_integer" = some (.ref f1)
  f2 : Addr
  fd2 : FuncData
  F2 : FunD K "is_within" "is_within" (defArgs (top 2)) (defBody (top 2)) (defScope (top 2)) [] [] f2 fd2
  h2 : mg "is_within" = some (.ref f2)
  f3 : Addr
  fd3 : FuncData
  F3 : FunD K "is_tuple" "is_tuple" (defArgs (top 3)) (defBody (top 3)) (defScope (top 3)) [] [] f3 fd3
  h3 : mg "is_tuple" = some (.ref f3)
  f4 : Addr
  fd4 : FuncData
  F4 : FunD K "are_rising" "are_rising" (defArgs (top 4)) (defBody (top 4)) (defScope (top 4)) [] [] f4 fd4
  h4 : mg "are_rising" = some (.ref f4)
  f5 : Addr
  fd5 : FuncData
  F5 : FunD K "is_lot" "is_lot" (defArgs (top 5)) (defBody (top 5)) (defScope (top 5)) [] [] f5 fd5
  h5 : mg "is_lot" = some (.ref f5)
  f20 : Addr
  fd20 : FuncData
  F20 : FunD K "is_strike_among" "is_strike_among" (defArgs (top 20)) (defBody (top 20)) (defScope (top 20)) [] [] f20 fd20
  h20 : mg "is_strike_among" = some (.ref f20)
  f21 : Addr
  fd21 : FuncData
  F21 : FunD K "is_dispute_any" "is_dispute_any" (defArgs (top 21)) (defBody (top 21)) (defScope (top 21)) [] [] f21 fd21
  h21 : mg "is_dispute_any" = some (.ref f21)
  f22 : Addr
  fd22 : FuncData
  F22 : FunD K "is_lot_of" "is_lot_of" (defArgs (top 22)) (defBody (top 22)) (defScope (top 22)) [] [] f22 fd22
  h22 : mg "is_lot_of" = some (.ref f22)
  f23 : Addr
  fd23 : FuncData
  F23 : FunD K "is_reading_any" "is_reading_any" (defArgs (top 23)) (defBody (top 23)) (defScope (top 23)) [] [] f23 fd23
  h23 : mg "is_reading_any" = some (.ref f23)
  f24 : Addr
  fd24 : FuncData
  F24 : FunD K "want_dispute" "want_dispute" (defArgs (top 24)) (defBody (top 24)) (defScope (top 24)) [] [] f24 fd24
  h24 : mg "want_dispute" = some (.ref f24)
  f25 : Addr
  fd25 : FuncData
  F25 : FunD K "want_reading" "want_reading" (defArgs (top 25)) (defBody (top 25)) (defScope (top 25)) [] [] f25 fd25
  h25 : mg "want_reading" = some (.ref f25)
  f27 : Addr
  fd27 : FuncData
  F27 : FunD K "strikers_of" "strikers_of" (defArgs (top 27)) (defBody (top 27)) (defScope (top 27)) [] [] f27 fd27
  h27 : mg "strikers_of" = some (.ref f27)
  f28 : Addr
  fd28 : FuncData
  F28 : FunD K "struck_by" "struck_by" (defArgs (top 28)) (defBody (top 28)) (defScope (top 28)) [] [] f28 fd28
  h28 : mg "struck_by" = some (.ref f28)
  f29 : Addr
  fd29 : FuncData
  F29 : FunD K "defended_by" "defended_by" (defArgs (top 29)) (defBody (top 29)) (defScope (top 29)) [] [] f29 fd29
  h29 : mg "defended_by" = some (.ref f29)
  f30 : Addr
  fd30 : FuncData
  F30 : FunD K "is_quiet" "is_quiet" (defArgs (top 30)) (defBody (top 30)) (defScope (top 30)) [] [] f30 fd30
  h30 : mg "is_quiet" = some (.ref f30)
  f31 : Addr
  fd31 : FuncData
  F31 : FunD K "plain_of" "plain_of" (defArgs (top 31)) (defBody (top 31)) (defScope (top 31)) [] [] f31 fd31
  h31 : mg "plain_of" = some (.ref f31)
  f32 : Addr
  fd32 : FuncData
  F32 : FunD K "is_upheld" "is_upheld" (defArgs (top 32)) (defBody (top 32)) (defScope (top 32)) [] [] f32 fd32
  h32 : mg "is_upheld" = some (.ref f32)
  f33 : Addr
  fd33 : FuncData
  F33 : FunD K "is_full" "is_full" (defArgs (top 33)) (defBody (top 33)) (defScope (top 33)) [] [] f33 fd33
  h33 : mg "is_full" = some (.ref f33)
  f34 : Addr
  fd34 : FuncData
  F34 : FunD K "is_settled" "is_settled" (defArgs (top 34)) (defBody (top 34)) (defScope (top 34)) [] [] f34 fd34
  h34 : mg "is_settled" = some (.ref f34)
  f35 : Addr
  fd35 : FuncData
  F35 : FunD K "quiet_lots" "quiet_lots" (defArgs (top 35)) (defBody (top 35)) (defScope (top 35)) [] [] f35 fd35
  h35 : mg "quiet_lots" = some (.ref f35)
  f36 : Addr
  fd36 : FuncData
  F36 : FunD K "upheld_lots" "upheld_lots" (defArgs (top 36)) (defBody (top 36)) (defScope (top 36)) [] [] f36 fd36
  h36 : mg "upheld_lots" = some (.ref f36)
  f37 : Addr
  fd37 : FuncData
  F37 : FunD K "is_within_lot" "is_within_lot" (defArgs (top 37)) (defBody (top 37)) (defScope (top 37)) [] [] f37 fd37
  h37 : mg "is_within_lot" = some (.ref f37)
  f38 : Addr
  fd38 : FuncData
  F38 : FunD K "greatest_lots" "greatest_lots" (defArgs (top 38)) (defBody (top 38)) (defScope (top 38)) [] [] f38 fd38
  h38 : mg "greatest_lots" = some (.ref f38)
  f39 : Addr
  fd39 : FuncData
  F39 : FunD K "lots_of" "lots_of" (defArgs (top 39)) (defBody (top 39)) (defScope (top 39)) [] [] f39 fd39
  h39 : mg "lots_of" = some (.ref f39)
  f41 : Addr
  fd41 : FuncData
  F41 : FunD K "is_ahead_of" "is_ahead_of" (defArgs (top 41)) (defBody (top 41)) (defScope (top 41)) [] [] f41 fd41
  h41 : mg "is_ahead_of" = some (.ref f41)
  f42 : Addr
  fd42 : FuncData
  F42 : FunD K "want_ahead" "want_ahead" (defArgs (top 42)) (defBody (top 42)) (defScope (top 42)) [] [] f42 fd42
  h42 : mg "want_ahead" = some (.ref f42)
  f44 : Addr
  fd44 : FuncData
  F44 : FunD K "alone" "alone" (defArgs (top 44)) (defBody (top 44)) (defScope (top 44)) [] [] f44 fd44
  h44 : mg "alone" = some (.ref f44)
  f45 : Addr
  fd45 : FuncData
  F45 : FunD K "told_by" "told_by" (defArgs (top 45)) (defBody (top 45)) (defScope (top 45)) [] [] f45 fd45
  h45 : mg "told_by" = some (.ref f45)
  f46 : Addr
  fd46 : FuncData
  F46 : FunD K "rest_of" "rest_of" (defArgs (top 46)) (defBody (top 46)) (defScope (top 46)) [] [] f46 fd46
  h46 : mg "rest_of" = some (.ref f46)
  f47 : Addr
  fd47 : FuncData
  F47 : FunD K "rest_lots" "rest_lots" (defArgs (top 47)) (defBody (top 47)) (defScope (top 47)) [] [] f47 fd47
  h47 : mg "rest_lots" = some (.ref f47)
  f48 : Addr
  fd48 : FuncData
  F48 : FunD K "rows_of" "rows_of" (defArgs (top 48)) (defBody (top 48)) (defScope (top 48)) [] [] f48 fd48
  h48 : mg "rows_of" = some (.ref f48)
  f49 : Addr
  fd49 : FuncData
  F49 : FunD K "together_of" "together_of" (defArgs (top 49)) (defBody (top 49)) (defScope (top 49)) [] [] f49 fd49
  h49 : mg "together_of" = some (.ref f49)
  f50 : Addr
  fd50 : FuncData
  F50 : FunD K "split_rows" "split_rows" (defArgs (top 50)) (defBody (top 50)) (defScope (top 50)) [] [] f50 fd50
  h50 : mg "split_rows" = some (.ref f50)
  f51 : Addr
  fd51 : FuncData
  F51 : FunD K "lots_by_split" "lots_by_split" (defArgs (top 51)) (defBody (top 51)) (defScope (top 51)) [] [] f51 fd51
  h51 : mg "lots_by_split" = some (.ref f51)
  f53 : Addr
  fd53 : FuncData
  F53 : FunD K "_law_pot" "_law_pot" (defArgs (top 53)) (defBody (top 53)) (defScope (top 53)) [] [] f53 fd53
  h53 : mg "_law_pot" = some (.ref f53)
  f54 : Addr
  fd54 : FuncData
  F54 : FunD K "_law_draw" "_law_draw" (defArgs (top 54)) (defBody (top 54)) (defScope (top 54)) [] [] f54 fd54
  h54 : mg "_law_draw" = some (.ref f54)
  f55 : Addr
  fd55 : FuncData
  F55 : FunD K "_law_pick" "_law_pick" (defArgs (top 55)) (defBody (top 55)) (defScope (top 55)) [] [] f55 fd55
  h55 : mg "_law_pick" = some (.ref f55)
  f56 : Addr
  fd56 : FuncData
  F56 : FunD K "_law_dispute" "_law_dispute" (defArgs (top 56)) (defBody (top 56)) (defScope (top 56)) [] [] f56 fd56
  h56 : mg "_law_dispute" = some (.ref f56)
  f57 : Addr
  fd57 : FuncData
  F57 : FunD K "_law_is_int" "_law_is_int" (defArgs (top 57)) (defBody (top 57)) (defScope (top 57)) [] [] f57 fd57
  h57 : mg "_law_is_int" = some (.ref f57)
  f58 : Addr
  fd58 : FuncData
  F58 : FunD K "_law_is_lot" "_law_is_lot" (defArgs (top 58)) (defBody (top 58)) (defScope (top 58)) [] [] f58 fd58
  h58 : mg "_law_is_lot" = some (.ref f58)
  f59 : Addr
  fd59 : FuncData
  F59 : FunD K "_law_every" "_law_every" (defArgs (top 59)) (defBody (top 59)) (defScope (top 59)) [] [] f59 fd59
  h59 : mg "_law_every" = some (.ref f59)
  f60 : Addr
  fd60 : FuncData
  F60 : FunD K "_law_is_ahead" "_law_is_ahead" (defArgs (top 60)) (defBody (top 60)) (defScope (top 60)) [] [] f60 fd60
  h60 : mg "_law_is_ahead" = some (.ref f60)
  f61 : Addr
  fd61 : FuncData
  F61 : FunD K "_law_struck" "_law_struck" (defArgs (top 61)) (defBody (top 61)) (defScope (top 61)) [] [] f61 fd61
  h61 : mg "_law_struck" = some (.ref f61)
  f62 : Addr
  fd62 : FuncData
  F62 : FunD K "_law_defends" "_law_defends" (defArgs (top 62)) (defBody (top 62)) (defScope (top 62)) [] [] f62 fd62
  h62 : mg "_law_defends" = some (.ref f62)
  f63 : Addr
  fd63 : FuncData
  F63 : FunD K "_law_lots" "_law_lots" (defArgs (top 63)) (defBody (top 63)) (defScope (top 63)) [] [] f63 fd63
  h63 : mg "_law_lots" = some (.ref f63)
  f64 : Addr
  fd64 : FuncData
  F64 : FunD K "_law_alone" "_law_alone" (defArgs (top 64)) (defBody (top 64)) (defScope (top 64)) [] [] f64 fd64
  h64 : mg "_law_alone" = some (.ref f64)
  f65 : Addr
  fd65 : FuncData
  F65 : FunD K "_law_rest" "_law_rest" (defArgs (top 65)) (defBody (top 65)) (defScope (top 65)) [] [] f65 fd65
  h65 : mg "_law_rest" = some (.ref f65)
  f66 : Addr
  fd66 : FuncData
  F66 : FunD K "_law_rows" "_law_rows" (defArgs (top 66)) (defBody (top 66)) (defScope (top 66)) [] [] f66 fd66
  h66 : mg "_law_rows" = some (.ref f66)
  f67 : Addr
  fd67 : FuncData
  F67 : FunD K "_law_right" "_law_right" (defArgs (top 67)) (defBody (top 67)) (defScope (top 67)) [] [] f67 fd67
  h67 : mg "_law_right" = some (.ref f67)
  f68 : Addr
  fd68 : FuncData
  F68 : FunD K "law" "law" (defArgs (top 68)) (defBody (top 68)) (defScope (top 68)) [] [] f68 fd68
  h68 : mg "law" = some (.ref f68)
  m_len : mg "len" = none
  m_isinstance : mg "isinstance" = none
  m_all : mg "all" = none
  m_any : mg "any" = none
  m_sorted : mg "sorted" = none
  m_set : mg "set" = none
  m_list : mg "list" = none
  m_tuple : mg "tuple" = none
  m_range : mg "range" = none
  m_repr : mg "repr" = none
  m_abs : mg "abs" = none
  m_max : mg "max" = none
  m_min : mg "min" = none
  m_int : mg "int" = none
  m_divmod : mg "divmod" = none
  m_zip : mg "zip" = none
  m_enumerate : mg "enumerate" = none
  m_dict : mg "dict" = none
  m_bool : mg "bool" = none
  m_str : mg "str" = none
  c_DISPUTE : ∃ t, mg "DISPUTE" = some (.str "dispute" t)
  c_UPHELD : ∃ t, mg "UPHELD" = some (.str "upheld" t)
  c_FULL : ∃ t, mg "FULL" = some (.str "full" t)
  c_GREATEST : ∃ t, mg "GREATEST" = some (.str "greatest" t)
  c_SETTLED : ∃ t, mg "SETTLED" = some (.str "settled" t)
  c_PLAIN : ∃ t, mg "PLAIN" = some (.str "plain" t)
  c_MOST_CLAIMS : ∃ t, mg "MOST_CLAIMS" = some (.int 10 t)
  a_READINGS : Addr
  h_READINGS : mg "READINGS" = some (.ref a_READINGS)
  t_READINGS : ∀ H : Hp, SqT K H a_READINGS (((["upheld", "full", "greatest", "settled", "plain"] : List Str)).map V.str)
variable {P : Program} {w : World} {K : PySem.W.Frag} {mg : Str → Option Value} {base : Heap}
theorem scope1 : FnScope ["value"] ["value"] (defScope (top 1)) := ⟨rfl, rfl, rfl, by decide +kernel, rfl, by decide +kernel, by decide +kernel⟩
theorem g1 (a : Al K mg) : FnG P w K mg base 1 a.f1 a.fd1 ["value"] (spD K 1 s_is_integer) := by
  exact fnG_def (N := ["value"]) (ps := ["value"]) (fS := b_is_integer) a.F1 scope1 (by decide) fun p cdv A outer s H hr hg => dss_one (ds_ret (d_and (d_isiT "int" a.m_isinstance a.m_int (dv 0)) (d_one (d_not (d_isiT "bool" a.m_isinstance a.m_bool (dv 0))))))
theorem scope2 : FnScope ["value", "least", "most"] ["value", "least", "most"] (defScope (top 2)) := ⟨rfl, rfl, rfl, by decide +kernel, rfl, by decide +kernel, by decide +kernel⟩
theorem g2 (a : Al K mg) : FnG P w K mg base 2 a.f2 a.fd2 ["value", "least", "most"] (spD K 3 s_is_within) := by
  have G1 := g1 (P := P) (w := w) (base := base) a
  exact fnG_def (N := ["value", "least", "most"]) (ps := ["value", "least", "most"]) (fS := b_is_within) a.F2 scope2 (by decide) fun p cdv A outer s H hr hg => dss_one (ds_ret (d_and (d_call (G1.mono (by decide)) hr hg a.h1 a.F1.kp (a.F1.bindsN fun _ _ _ _ _ _ us hl => match us, hl with | [_], _ => rfl) (da_cons (dv 0) (da_nil))) (d_one (d_lele (dv 1) (dv 0) (dv 2)))))
theorem scope3 : FnScope ["value", "many"] ["value", "many"] (defScope (top 3)) := ⟨rfl, rfl, rfl, by decide +kernel, rfl, by decide +kernel, by decide +kernel⟩
theorem g3 (a : Al K mg) : FnG P w K mg base 1 a.f3 a.fd3 ["value", "many"] (spD K 2 s_is_tuple) := by
  exact fnG_def (N := ["value", "many"]) (ps := ["value", "many"]) (fS := b_is_tuple) a.F3 scope3 (by decide) fun p cdv A outer s H hr hg => dss_one (ds_ret (d_and (d_isiT "tuple" a.m_isinstance a.m_tuple (dv 0)) (d_one (d_eq (room_u hr (by decide)) (d_len rfl a.m_len (dv 0)) (dv 1)))))
theorem scope4 : FnScope ["values", "near", "far"] ["values"] (defScope (top 4)) := ⟨rfl, rfl, rfl, by decide +kernel, rfl, by decide +kernel, by decide +kernel⟩
theorem g4 (a : Al K mg) : FnG P w K mg base 1 a.f4 a.fd4 ["values"] (spD K 1 s_are_rising) := by
  exact fnG_def (N := ["values", "near", "far"]) (ps := ["values"]) (fS := b_are_rising) a.F4 scope4 (by decide) fun p cdv A outer s H hr hg => dss_one (ds_ret (d_all rfl rfl a.m_all (d_lc [("near", 1), ("far", 2)] (fun _ => rfl) rfl scope4.nd (blk_of (N := ["values", "near", "far"]) (sc := defScope (top 4)) (by decide +kernel)) (di_zip rfl a.m_zip (da_cons (dv 0) (da_cons (d_sl (dv 0) (do_some (d_int (fr := false))) (do_none)) (da_nil)))) (gT_in (gi_cons (gN_in (by decide)) (gi_cons (gN_in (by decide)) (gi_nil)))) (fun _ _ _ _ _ => dg_tup (tk := true) rfl (dgs_cons (dg_name 1 scope4.nd rfl (by first | exact Or.inl rfl | exact Or.inr rfl | exact Or.inr (Or.inl rfl))) (dgs_cons (dg_name 2 scope4.nd rfl (by first | exact Or.inl rfl | exact Or.inr rfl | exact Or.inr (Or.inl rfl))) (dgs_nil)))) (fun _ _ _ _ _ => dts_nil) (fun _ _ _ _ _ => d_lt hr.units0 (dv 1) (dv 2)))))
theorem scope5 : FnScope ["value", "most", "one"] ["value", "most"] (defScope (top 5)) := ⟨rfl, rfl, rfl, by decide +kernel, rfl, by decide +kernel, by decide +kernel⟩
theorem g5 (a : Al K mg) : FnG P w K mg base 3 a.f5 a.fd5 ["value", "most"] (spD K 2 s_is_lot) := by
  have G2 := g2 (P := P) (w := w) (base := base) a
  have G4 := g4 (P := P) (w := w) (base := base) a
  exact fnG_def (N := ["value", "most", "one"]) (ps := ["value", "most"]) (fS := b_is_lot) a.F5 scope5 (by decide) fun p cdv A outer s H hr hg => dss_one (ds_ret (d_and (d_isiT "tuple" a.m_isinstance a.m_tuple (dv 0)) (d_and (d_all rfl rfl a.m_all (d_lc [("one", 2)] (fun z => z) rfl scope5.nd (blk_of (N := ["value", "most", "one"]) (sc := defScope (top 5)) (by decide +kernel)) (di_seq (dv 0)) (gN_in (by decide)) (fun _ _ _ _ _ => dg_name 2 scope5.nd rfl (by first | exact Or.inl rfl | exact Or.inr rfl | exact Or.inr (Or.inl rfl))) (fun _ _ _ _ _ => dts_nil) (fun _ _ _ _ _ => d_call (G2.mono (by decide)) hr hg a.h2 a.F2.kp (a.F2.bindsN fun _ _ _ _ _ _ us hl => match us, hl with | [_, _, _], _ => rfl) (da_cons (dv 2) (da_cons (d_int (fr := false)) (da_cons (dv 1) (da_nil))))))) (d_one (d_call (G4.mono (by decide)) hr hg a.h4 a.F4.kp (a.F4.bindsN fun _ _ _ _ _ _ us hl => match us, hl with | [_], _ => rfl) (da_cons (dv 0) (da_nil)))))))
theorem scope20 : FnScope ["many", "value", "one"] ["many", "value"] (defScope (top 20)) := ⟨rfl, rfl, rfl, by decide +kernel, rfl, by decide +kernel, by decide +kernel⟩
theorem g20 (a : Al K mg) : FnG P w K mg base 3 a.f20 a.fd20 ["many", "value"] (spD K 2 s_is_strike_among) := by
  have G3 := g3 (P := P) (w := w) (base := base) a
  have G2 := g2 (P := P) (w := w) (base := base) a
  exact fnG_def (N := ["many", "value", "one"]) (ps := ["many", "value"]) (fS := b_is_strike_among) a.F20 scope20 (by decide) fun p cdv A outer s H hr hg => dss_one (ds_ret (d_and (d_call (G3.mono (by decide)) hr hg a.h3 a.F3.kp (a.F3.bindsN fun _ _ _ _ _ _ us hl => match us, hl with | [_, _], _ => rfl) (da_cons (dv 1) (da_cons (d_int (fr := false)) (da_nil)))) (d_one (d_all rfl rfl a.m_all (d_lc [("one", 2)] (fun z => z) rfl scope20.nd (blk_of (N := ["many", "value", "one"]) (sc := defScope (top 20)) (by decide +kernel)) (di_seq (dv 1)) (gN_in (by decide)) (fun _ _ _ _ _ => dg_name 2 scope20.nd rfl (by first | exact Or.inl rfl | exact Or.inr rfl | exact Or.inr (Or.inl rfl))) (fun _ _ _ _ _ => dts_nil) (fun _ _ _ _ _ => d_call (G2.mono (by decide)) hr hg a.h2 a.F2.kp (a.F2.bindsN fun _ _ _ _ _ _ us hl => match us, hl with | [_, _, _], _ => rfl) (da_cons (dv 2) (da_cons (d_int (fr := false)) (da_cons (d_sub (dv 0) (d_int (fr := false))) (da_nil))))))))))
theorem scope21 : FnScope ["value", "near", "far", "one"] ["value"] (defScope (top 21)) := ⟨rfl, rfl, rfl, by decide +kernel, rfl, by decide +kernel, by decide +kernel⟩
theorem g21 (a : Al K mg) : FnG P w K mg base 4 a.f21 a.fd21 ["value"] (spD K 1 s_is_dispute_any) := by
  have G3 := g3 (P := P) (w := w) (base := base) a
  have G2 := g2 (P := P) (w := w) (base := base) a
  have G20 := g20 (P := P) (w := w) (base := base) a
  exact fnG_def (N := ["value", "near", "far", "one"]) (ps := ["value"]) (fS := b_is_dispute_any) a.F21 scope21 (by decide) fun p cdv A outer s H hr hg => dss_cons (ds_if (dw_pt (dw_or (dt_not (dt_val (d_call (G3.mono (by decide)) hr hg a.h3 a.F3.kp (a.F3.bindsN fun _ _ _ _ _ _ us hl => match us, hl with | [_, _], _ => rfl) (da_cons (dv 0) (da_cons (d_int (fr := false)) (da_nil)))))) (dw_or (dt_not (dt_val (d_isiT "str" a.m_isinstance a.m_str (d_ix (dv 0) (d_int (fr := false)))))) (dw_or1 (dt_ne (room_u hr (by decide)) (d_ix (dv 0) (d_int (fr := false))) (dgS (fr := false) a.c_DISPUTE)))))) (dss_one (ds_ret (d_bl (fr := false)))) (dss_nil)) (dss_cons (ds_if (dw_pt (dw_or (dt_not (dt_val (d_call (G2.mono (by decide)) hr hg a.h2 a.F2.kp (a.F2.bindsN fun _ _ _ _ _ _ us hl => match us, hl with | [_, _, _], _ => rfl) (da_cons (d_ix (dv 0) (d_int (fr := false))) (da_cons (d_int (fr := false)) (da_cons (dgI (fr := false) a.c_MOST_CLAIMS) (da_nil))))))) (dw_or1 (dt_not (dt_val (d_isiT "tuple" a.m_isinstance a.m_tuple (d_ix (dv 0) (d_int (fr := false))))))))) (dss_one (ds_ret (d_bl (fr := false)))) (dss_nil)) (dss_cons (ds_if (dt_not (dt_val (d_all rfl rfl a.m_all (d_lc [("one", 3)] (fun z => z) rfl scope21.nd (blk_of (N := ["value", "near", "far", "one"]) (sc := defScope (top 21)) (by decide +kernel)) (di_seq (d_ix (dv 0) (d_int (fr := false)))) (gN_in (by decide)) (fun _ _ _ _ _ => dg_name 3 scope21.nd rfl (by first | exact Or.inl rfl | exact Or.inr rfl | exact Or.inr (Or.inl rfl))) (fun _ _ _ _ _ => dts_nil) (fun _ _ _ _ _ => d_call (G20.mono (by decide)) hr hg a.h20 a.F20.kp (a.F20.bindsN fun _ _ _ _ _ _ us hl => match us, hl with | [_, _], _ => rfl) (da_cons (d_ix (dv 0) (d_int (fr := false))) (da_cons (dv 3) (da_nil)))))))) (dss_one (ds_ret (d_bl (fr := false)))) (dss_nil)) (dss_one (ds_ret (d_all rfl rfl a.m_all (d_lc [("near", 1), ("far", 2)] (fun _ => rfl) rfl scope21.nd (blk_of (N := ["value", "near", "far", "one"]) (sc := defScope (top 21)) (by decide +kernel)) (di_zip rfl a.m_zip (da_cons (d_ix (dv 0) (d_int (fr := false))) (da_cons (d_sl (d_ix (dv 0) (d_int (fr := false))) (do_some (d_int (fr := false))) (do_none)) (da_nil)))) (gT_in (gi_cons (gN_in (by decide)) (gi_cons (gN_in (by decide)) (gi_nil)))) (fun _ _ _ _ _ => dg_tup (tk := true) rfl (dgs_cons (dg_name 1 scope21.nd rfl (by first | exact Or.inl rfl | exact Or.inr rfl | exact Or.inr (Or.inl rfl))) (dgs_cons (dg_name 2 scope21.nd rfl (by first | exact Or.inl rfl | exact Or.inr rfl | exact Or.inr (Or.inl rfl))) (dgs_nil)))) (fun _ _ _ _ _ => dts_nil) (fun _ _ _ _ _ => d_lt hr.units0 (dv 1) (dv 2))))))))
theorem scope22 : FnScope ["dispute", "value"] ["dispute", "value"] (defScope (top 22)) := ⟨rfl, rfl, rfl, by decide +kernel, rfl, by decide +kernel, by decide +kernel⟩
theorem g22 (a : Al K mg) : FnG P w K mg base 4 a.f22 a.fd22 ["dispute", "value"] (spD K 2 s_is_lot_of) := by
  have G5 := g5 (P := P) (w := w) (base := base) a
  exact fnG_def (N := ["dispute", "value"]) (ps := ["dispute", "value"]) (fS := b_is_lot_of) a.F22 scope22 (by decide) fun p cdv A outer s H hr hg => dss_one (ds_ret (d_call (G5.mono (by decide)) hr hg a.h5 a.F5.kp (a.F5.bindsN fun _ _ _ _ _ _ us hl => match us, hl with | [_, _], _ => rfl) (da_cons (dv 1) (da_cons (d_sub (d_ix (dv 0) (d_int (fr := false))) (d_int (fr := false))) (da_nil)))))
theorem scope23 : FnScope ["value"] ["value"] (defScope (top 23)) := ⟨rfl, rfl, rfl, by decide +kernel, rfl, by decide +kernel, by decide +kernel⟩
theorem g23 (a : Al K mg) : FnG P w K mg base 1 a.f23 a.fd23 ["value"] (spD K 1 s_is_reading_any) := by
  exact fnG_def (N := ["value"]) (ps := ["value"]) (fS := b_is_reading_any) a.F23 scope23 (by decide) fun p cdv A outer s H hr hg => dss_one (ds_ret (d_and (d_isiT "str" a.m_isinstance a.m_str (dv 0)) (d_one (d_inC (room_u hr (by decide)) a.h_READINGS a.t_READINGS (dv 0)))))
theorem scope24 : FnScope ["dispute"] ["dispute"] (defScope (top 24)) := ⟨rfl, rfl, rfl, by decide +kernel, rfl, by decide +kernel, by decide +kernel⟩
theorem g24 (a : Al K mg) : FnG P w K mg base 5 a.f24 a.fd24 ["dispute"] (spD K 1 s_want_dispute) := by
  have G21 := g21 (P := P) (w := w) (base := base) a
  exact fnG_def (N := ["dispute"]) (ps := ["dispute"]) (fS := b_want_dispute) a.F24 scope24 (by decide) fun p cdv A outer s H hr hg => dss_one (ds_if (dt_not (dt_val (d_call (G21.mono (by decide)) hr hg a.h21 a.F21.kp (a.F21.bindsN fun _ _ _ _ _ _ us hl => match us, hl with | [_], _ => rfl) (da_cons (dv 0) (da_nil))))) (dss_one (ds_never)) (dss_nil))
theorem scope25 : FnScope ["reading"] ["reading"] (defScope (top 25)) := ⟨rfl, rfl, rfl, by decide +kernel, rfl, by decide +kernel, by decide +kernel⟩
theorem g25 (a : Al K mg) : FnG P w K mg base 2 a.f25 a.fd25 ["reading"] (spD K 1 s_want_reading) := by
  have G23 := g23 (P := P) (w := w) (base := base) a
  exact fnG_def (N := ["reading"]) (ps := ["reading"]) (fS := b_want_reading) a.F25 scope25 (by decide) fun p cdv A outer s H hr hg => dss_one (ds_if (dt_not (dt_val (d_call (G23.mono (by decide)) hr hg a.h23 a.F23.kp (a.F23.bindsN fun _ _ _ _ _ _ us hl => match us, hl with | [_], _ => rfl) (da_cons (dv 0) (da_nil))))) (dss_one (ds_never)) (dss_nil))
theorem g27 (a : Al K mg) : FnG P w K mg base 1 a.f27 a.fd27 ["dispute"] (spD K 1 s_strikers_of) := gStr a.F27 a.m_range
theorem scope28 : FnScope ["dispute", "lot", "claim", "struck"] ["dispute", "lot"] (defScope (top 28)) := ⟨rfl, rfl, rfl, by decide +kernel, rfl, by decide +kernel, by decide +kernel⟩
theorem g28 (a : Al K mg) : FnG P w K mg base 1 a.f28 a.fd28 ["dispute", "lot"] (spD K 2 s_struck_by) := by
  exact fnG_def (N := ["dispute", "lot", "claim", "struck"]) (ps := ["dispute", "lot"]) (fS := b_struck_by) a.F28 scope28 (by decide) fun p cdv A outer s H hr hg => dss_one (ds_ret (d_srtSet rfl (room_u hr (by decide)) rfl a.m_sorted rfl a.m_set (d_lc [("claim", 2), ("struck", 3)] (fun _ => rfl) rfl scope28.nd (blk_of (N := ["dispute", "lot", "claim", "struck"]) (sc := defScope (top 28)) (by decide +kernel)) (di_seq (d_ix (dv 0) (d_int (fr := false)))) (gT_in (gi_cons (gN_in (by decide)) (gi_cons (gN_in (by decide)) (gi_nil)))) (fun _ _ _ _ _ => dg_tup (tk := true) rfl (dgs_cons (dg_name 2 scope28.nd rfl (by first | exact Or.inl rfl | exact Or.inr rfl | exact Or.inr (Or.inl rfl))) (dgs_cons (dg_name 3 scope28.nd rfl (by first | exact Or.inl rfl | exact Or.inr rfl | exact Or.inr (Or.inl rfl))) (dgs_nil)))) (fun _ _ _ _ _ => dts_one (dt_in (room_u hr (by decide)) (dv 2) (dv 1))) (fun _ _ _ _ _ => dv 3))))
theorem scope29 : FnScope ["dispute", "lot", "struck", "strikers", "claim", "one"] ["dispute", "lot"] (defScope (top 29)) := ⟨rfl, rfl, rfl, by decide +kernel, rfl, by decide +kernel, by decide +kernel⟩
theorem g29 (a : Al K mg) : FnG P w K mg base 2 a.f29 a.fd29 ["dispute", "lot"] (spD K 2 s_defended_by) := by
  have G28 := g28 (P := P) (w := w) (base := base) a
  have G27 := g27 (P := P) (w := w) (base := base) a
  exact fnG_def (N := ["dispute", "lot", "struck", "strikers", "claim", "one"]) (ps := ["dispute", "lot"]) (fS := b_defended_by) a.F29 scope29 (by decide) fun p cdv A outer s H hr hg => dss_cons (ds_tupAsg [2, 3] rfl (dp_cons false (d_call (G28.mono (by decide)) hr hg a.h28 a.F28.kp (a.F28.bindsN fun _ _ _ _ _ _ us hl => match us, hl with | [_, _], _ => rfl) (da_cons (dv 0) (da_cons (dv 1) (da_nil)))) (fun z => by cases z) (dp_cons false (d_call (G27.mono (by decide)) hr hg a.h27 a.F27.kp (a.F27.bindsN fun _ _ _ _ _ _ us hl => match us, hl with | [_], _ => rfl) (da_cons (dv 0) (da_nil))) (fun z => by cases z) (dp_nil))) rfl (by decide) (pgs_cons (pg_name (i := 2) scope29.nd rfl (by first | exact Or.inl rfl | exact Or.inr rfl | exact Or.inr (Or.inl rfl))) (pgs_cons (pg_name (i := 3) scope29.nd rfl (by first | exact Or.inl rfl | exact Or.inr rfl | exact Or.inr (Or.inl rfl))) (pgs_nil))) (tupAsg2)) (dss_one (ds_ret (d_tupC rfl a.m_tuple (d_lc [("claim", 4)] (fun z => z) rfl scope29.nd (blk_of (N := ["dispute", "lot", "struck", "strikers", "claim", "one"]) (sc := defScope (top 29)) (by decide +kernel)) (di_range1 rfl a.m_range (d_ix (dv 0) (d_int (fr := false)))) (gN_in (by decide)) (fun _ _ _ _ _ => dg_name 4 scope29.nd rfl (by first | exact Or.inl rfl | exact Or.inr rfl | exact Or.inr (Or.inl rfl))) (fun _ _ _ _ _ => dts_one (dt_val (d_all rfl rfl a.m_all (d_lc [("one", 5)] (fun z => z) rfl scope29.nd (blk_rel (blk_of (N := ["dispute", "lot", "struck", "strikers", "claim", "one"]) (by decide +kernel))) (di_seq (d_ix (dv 3) (dv 4))) (gN_in (by decide)) (fun _ _ _ _ _ => dg_name 5 scope29.nd rfl (by first | exact Or.inl rfl | exact Or.inr rfl | exact Or.inr (Or.inl rfl))) (fun _ _ _ _ _ => dts_nil) (fun _ _ _ _ _ => d_in (room_u hr (by decide)) (dv 5) (dv 2)))))) (fun _ _ _ _ _ => dv 4)))))
theorem scope30 : FnScope ["dispute", "lot", "one"] ["dispute", "lot"] (defScope (top 30)) := ⟨rfl, rfl, rfl, by decide +kernel, rfl, by decide +kernel, by decide +kernel⟩
theorem g30 (a : Al K mg) : FnG P w K mg base 2 a.f30 a.fd30 ["dispute", "lot"] (spD K 2 s_is_quiet) := by
  have G28 := g28 (P := P) (w := w) (base := base) a
  exact fnG_def (N := ["dispute", "lot", "one"]) (ps := ["dispute", "lot"]) (fS := b_is_quiet) a.F30 scope30 (by decide) fun p cdv A outer s H hr hg => dss_one (ds_ret (d_not (d_any rfl rfl a.m_any (d_lc [("one", 2)] (fun z => z) rfl scope30.nd (blk_of (N := ["dispute", "lot", "one"]) (sc := defScope (top 30)) (by decide +kernel)) (di_seq (d_call (G28.mono (by decide)) hr hg a.h28 a.F28.kp (a.F28.bindsN fun _ _ _ _ _ _ us hl => match us, hl with | [_, _], _ => rfl) (da_cons (dv 0) (da_cons (dv 1) (da_nil))))) (gN_in (by decide)) (fun _ _ _ _ _ => dg_name 2 scope30.nd rfl (by first | exact Or.inl rfl | exact Or.inr rfl | exact Or.inr (Or.inl rfl))) (fun _ _ _ _ _ => dts_nil) (fun _ _ _ _ _ => d_in (room_u hr (by decide)) (dv 2) (dv 1))))))
theorem scope31 : FnScope ["dispute", "lot", "late"] ["dispute"] (defScope (top 31)) := ⟨rfl, rfl, rfl, by decide +kernel, rfl, by decide +kernel, by decide +kernel⟩
theorem g31 (a : Al K mg) : FnG P w K mg base 3 a.f31 a.fd31 ["dispute"] (spD K 1 s_plain_of) := by
  have G29 := g29 (P := P) (w := w) (base := base) a
  exact fnG_def (N := ["dispute", "lot", "late"]) (ps := ["dispute"]) (fS := b_plain_of) a.F31 scope31 (by decide) fun p cdv A outer s H hr hg => dss_cons (ds_tupAsg [1, 2] rfl (dp_cons false (d_non (fr := false)) (fun z => by cases z) (dp_cons false (d_tup (da_nil)) (fun z => by cases z) (dp_nil))) rfl (by decide) (pgs_cons (pg_name (i := 1) scope31.nd rfl (by first | exact Or.inl rfl | exact Or.inr rfl | exact Or.inr (Or.inl rfl))) (pgs_cons (pg_name (i := 2) scope31.nd rfl (by first | exact Or.inl rfl | exact Or.inr rfl | exact Or.inr (Or.inl rfl))) (pgs_nil))) (tupAsg2)) (dss_cons (ds_while 100000 PassesOwn.never (dt_ne (room_u hr (by decide)) (dv 2) (dv 1)) (dss_one (ds_par 1 2 rfl scope31.nd rfl rfl (by decide) rfl rfl (dp_cons false (dv 2) (fun z => by cases z) (dp_cons false (d_call (G29.mono (by decide)) hr hg a.h29 a.F29.kp (a.F29.bindsN fun _ _ _ _ _ _ us hl => match us, hl with | [_, _], _ => rfl) (da_cons (dv 0) (da_cons (dv 2) (da_nil)))) (fun z => by cases z) (dp_nil))) rfl rfl))) (dss_one (ds_ret (dv 1))))
theorem scope32 : FnScope ["dispute", "lot", "defended", "claim"] ["dispute", "lot"] (defScope (top 32)) := ⟨rfl, rfl, rfl, by decide +kernel, rfl, by decide +kernel, by decide +kernel⟩
theorem g32 (a : Al K mg) : FnG P w K mg base 3 a.f32 a.fd32 ["dispute", "lot"] (spD K 2 s_is_upheld) := by
  have G29 := g29 (P := P) (w := w) (base := base) a
  have G30 := g30 (P := P) (w := w) (base := base) a
  exact fnG_def (N := ["dispute", "lot", "defended", "claim"]) (ps := ["dispute", "lot"]) (fS := b_is_upheld) a.F32 scope32 (by decide) fun p cdv A outer s H hr hg => dss_cons (ds_set 2 scope32.nd rfl (by first | exact Or.inl rfl | exact Or.inr rfl | exact Or.inr (Or.inl rfl)) (d_call (G29.mono (by decide)) hr hg a.h29 a.F29.kp (a.F29.bindsN fun _ _ _ _ _ _ us hl => match us, hl with | [_, _], _ => rfl) (da_cons (dv 0) (da_cons (dv 1) (da_nil))))) (dss_one (ds_ret (d_and (d_call (G30.mono (by decide)) hr hg a.h30 a.F30.kp (a.F30.bindsN fun _ _ _ _ _ _ us hl => match us, hl with | [_, _], _ => rfl) (da_cons (dv 0) (da_cons (dv 1) (da_nil)))) (d_one (d_all rfl rfl a.m_all (d_lc [("claim", 3)] (fun z => z) rfl scope32.nd (blk_of (N := ["dispute", "lot", "defended", "claim"]) (sc := defScope (top 32)) (by decide +kernel)) (di_seq (dv 1)) (gN_in (by decide)) (fun _ _ _ _ _ => dg_name 3 scope32.nd rfl (by first | exact Or.inl rfl | exact Or.inr rfl | exact Or.inr (Or.inl rfl))) (fun _ _ _ _ _ => dts_nil) (fun _ _ _ _ _ => d_in (room_u hr (by decide)) (dv 3) (dv 2))))))))
theorem scope33 : FnScope ["dispute", "lot"] ["dispute", "lot"] (defScope (top 33)) := ⟨rfl, rfl, rfl, by decide +kernel, rfl, by decide +kernel, by decide +kernel⟩
theorem g33 (a : Al K mg) : FnG P w K mg base 3 a.f33 a.fd33 ["dispute", "lot"] (spD K 2 s_is_full) := by
  have G30 := g30 (P := P) (w := w) (base := base) a
  have G29 := g29 (P := P) (w := w) (base := base) a
  exact fnG_def (N := ["dispute", "lot"]) (ps := ["dispute", "lot"]) (fS := b_is_full) a.F33 scope33 (by decide) fun p cdv A outer s H hr hg => dss_one (ds_ret (d_and (d_call (G30.mono (by decide)) hr hg a.h30 a.F30.kp (a.F30.bindsN fun _ _ _ _ _ _ us hl => match us, hl with | [_, _], _ => rfl) (da_cons (dv 0) (da_cons (dv 1) (da_nil)))) (d_one (d_eq (room_u hr (by decide)) (d_call (G29.mono (by decide)) hr hg a.h29 a.F29.kp (a.F29.bindsN fun _ _ _ _ _ _ us hl => match us, hl with | [_, _], _ => rfl) (da_cons (dv 0) (da_cons (dv 1) (da_nil)))) (d_tupC rfl a.m_tuple (dv 1))))))
theorem scope34 : FnScope ["dispute", "lot", "claim"] ["dispute", "lot"] (defScope (top 34)) := ⟨rfl, rfl, rfl, by decide +kernel, rfl, by decide +kernel, by decide +kernel⟩
theorem g34 (a : Al K mg) : FnG P w K mg base 2 a.f34 a.fd34 ["dispute", "lot"] (spD K 2 s_is_settled) := by
  have G28 := g28 (P := P) (w := w) (base := base) a
  exact fnG_def (N := ["dispute", "lot", "claim"]) (ps := ["dispute", "lot"]) (fS := b_is_settled) a.F34 scope34 (by decide) fun p cdv A outer s H hr hg => dss_one (ds_ret (d_eq (room_u hr (by decide)) (d_call (G28.mono (by decide)) hr hg a.h28 a.F28.kp (a.F28.bindsN fun _ _ _ _ _ _ us hl => match us, hl with | [_, _], _ => rfl) (da_cons (dv 0) (da_cons (dv 1) (da_nil)))) (d_lc [("claim", 2)] (fun z => z) rfl scope34.nd (blk_of (N := ["dispute", "lot", "claim"]) (sc := defScope (top 34)) (by decide +kernel)) (di_range1 rfl a.m_range (d_ix (dv 0) (d_int (fr := false)))) (gN_in (by decide)) (fun _ _ _ _ _ => dg_name 2 scope34.nd rfl (by first | exact Or.inl rfl | exact Or.inr rfl | exact Or.inr (Or.inl rfl))) (fun _ _ _ _ _ => dts_one (dt_nin (room_u hr (by decide)) (dv 2) (dv 1))) (fun _ _ _ _ _ => dv 2))))
theorem scope35 : FnScope ["dispute", "pairs", "found", "claim", "rows", "strike", "lot", "one"] ["dispute"] (defScope (top 35)) := ⟨rfl, rfl, rfl, by decide +kernel, rfl, by decide +kernel, by decide +kernel⟩
theorem g35 (a : Al K mg) : FnG P w K mg base 1 a.f35 a.fd35 ["dispute"] (spD K 1 s_quiet_lots) := by
  exact fnG_def (N := ["dispute", "pairs", "found", "claim", "rows", "strike", "lot", "one"]) (ps := ["dispute"]) (fS := b_quiet_lots) a.F35 scope35 (by decide) fun p cdv A outer s H hr hg => dss_cons (ds_tupAsg [1, 2] rfl (dp_cons false (d_dictT (room_u hr (by decide)) rfl rfl a.m_dict (d_lc [("strike", 5)] (fun z => z) rfl scope35.nd (blk_of (N := ["dispute", "pairs", "found", "claim", "rows", "strike", "lot", "one"]) (sc := defScope (top 35)) (by decide +kernel)) (di_seq (d_ix (dv 0) (d_int (fr := false)))) (gN_in (by decide)) (fun _ _ _ _ _ => dg_name 5 scope35.nd rfl (by first | exact Or.inl rfl | exact Or.inr rfl | exact Or.inr (Or.inl rfl))) (fun _ _ _ _ _ => dts_nil) (fun _ _ _ _ _ => d_tup (da_cons (dv 5) (da_cons (d_bl (fr := false)) (da_nil)))))) (fun z => by cases z) (dp_cons false (d_lst (da_cons (d_tup (da_nil)) (da_nil))) (fun z => by cases z) (dp_nil))) rfl (by decide) (pgs_cons (pg_name (i := 1) scope35.nd rfl (by first | exact Or.inl rfl | exact Or.inr rfl | exact Or.inr (Or.inl rfl))) (pgs_cons (pg_name (i := 2) scope35.nd rfl (by first | exact Or.inl rfl | exact Or.inr rfl | exact Or.inr (Or.inl rfl))) (pgs_nil))) (tupAsg2)) (dss_cons (ds_for (fun z => z) PassesOwn.never rfl (di_range1 rfl a.m_range (d_ix (dv 0) (d_int (fr := false)))) (dg_name 3 scope35.nd rfl (by first | exact Or.inl rfl | exact Or.inr rfl | exact Or.inr (Or.inl rfl))) (dss_one (ds_if (dt_tkNin (room_u hr (by decide)) (d_tup (da_cons (dv 3) (da_cons (dv 3) (da_nil)))) (dv 1)) (dss_cons (ds_setLc 4 [("lot", 6)] (fun z => z) rfl scope35.nd rfl rfl rfl (blk_of (N := ["dispute", "pairs", "found", "claim", "rows", "strike", "lot", "one"]) (sc := defScope (top 35)) (by decide +kernel)) (di_seq (dv 2)) (gN_in (by decide)) (fun _ _ _ _ _ => dg_name 6 scope35.nd rfl (by first | exact Or.inl rfl | exact Or.inr rfl | exact Or.inr (Or.inl rfl))) (fun _ _ _ _ _ => dts_one (dt_not (dt_val (d_any rfl rfl a.m_any (d_lc [("one", 7)] (fun z => z) rfl scope35.nd (blk_rel (blk_of (N := ["dispute", "pairs", "found", "claim", "rows", "strike", "lot", "one"]) (by decide +kernel))) (di_seq (dv 6)) (gN_in (by decide)) (fun _ _ _ _ _ => dg_name 7 scope35.nd rfl (by first | exact Or.inl rfl | exact Or.inr rfl | exact Or.inr (Or.inl rfl))) (fun _ _ _ _ _ => dts_nil) (fun _ _ _ _ _ => d_or (d_tkIn (room_u hr (by decide)) (d_tup (da_cons (dv 3) (da_cons (dv 7) (da_nil)))) (dv 1)) (d_one (d_tkIn (room_u hr (by decide)) (d_tup (da_cons (dv 7) (da_cons (dv 3) (da_nil)))) (dv 1))))))))) (fun _ _ _ _ _ => dv 6)) (dss_one (ds_set 2 scope35.nd rfl (by first | exact Or.inl rfl | exact Or.inr rfl | exact Or.inr (Or.inl rfl)) (d_add (dv 2) (d_lc [("lot", 6)] (fun z => z) rfl scope35.nd (blk_of (N := ["dispute", "pairs", "found", "claim", "rows", "strike", "lot", "one"]) (sc := defScope (top 35)) (by decide +kernel)) (di_seq (dv 4)) (gN_in (by decide)) (fun _ _ _ _ _ => dg_name 6 scope35.nd rfl (by first | exact Or.inl rfl | exact Or.inr rfl | exact Or.inr (Or.inl rfl))) (fun _ _ _ _ _ => dts_nil) (fun _ _ _ _ _ => d_add (dv 6) (d_tup (da_cons (dv 3) (da_nil))))))))) (dss_nil)))) (dss_one (ds_ret (d_sortedG (room_u hr (by decide)) rfl a.m_sorted (dv 2)))))
theorem scope36 : FnScope ["dispute", "lot"] ["dispute"] (defScope (top 36)) := ⟨rfl, rfl, rfl, by decide +kernel, rfl, by decide +kernel, by decide +kernel⟩
theorem g36 (a : Al K mg) : FnG P w K mg base 4 a.f36 a.fd36 ["dispute"] (spD K 1 s_upheld_lots) := by
  have G35 := g35 (P := P) (w := w) (base := base) a
  have G32 := g32 (P := P) (w := w) (base := base) a
  exact fnG_def (N := ["dispute", "lot"]) (ps := ["dispute"]) (fS := b_upheld_lots) a.F36 scope36 (by decide) fun p cdv A outer s H hr hg => dss_one (ds_ret (d_lc [("lot", 1)] (fun z => z) rfl scope36.nd (blk_of (N := ["dispute", "lot"]) (sc := defScope (top 36)) (by decide +kernel)) (di_seq (d_call (G35.mono (by decide)) hr hg a.h35 a.F35.kp (a.F35.bindsN fun _ _ _ _ _ _ us hl => match us, hl with | [_], _ => rfl) (da_cons (dv 0) (da_nil)))) (gN_in (by decide)) (fun _ _ _ _ _ => dg_name 1 scope36.nd rfl (by first | exact Or.inl rfl | exact Or.inr rfl | exact Or.inr (Or.inl rfl))) (fun _ _ _ _ _ => dts_one (dt_val (d_call (G32.mono (by decide)) hr hg a.h32 a.F32.kp (a.F32.bindsN fun _ _ _ _ _ _ us hl => match us, hl with | [_, _], _ => rfl) (da_cons (dv 0) (da_cons (dv 1) (da_nil)))))) (fun _ _ _ _ _ => dv 1)))
theorem scope37 : FnScope ["lot", "other", "claim"] ["lot", "other"] (defScope (top 37)) := ⟨rfl, rfl, rfl, by decide +kernel, rfl, by decide +kernel, by decide +kernel⟩
theorem g37 (a : Al K mg) : FnG P w K mg base 1 a.f37 a.fd37 ["lot", "other"] (spD K 2 s_is_within_lot) := by
  exact fnG_def (N := ["lot", "other", "claim"]) (ps := ["lot", "other"]) (fS := b_is_within_lot) a.F37 scope37 (by decide) fun p cdv A outer s H hr hg => dss_one (ds_ret (d_all rfl rfl a.m_all (d_lc [("claim", 2)] (fun z => z) rfl scope37.nd (blk_of (N := ["lot", "other", "claim"]) (sc := defScope (top 37)) (by decide +kernel)) (di_seq (dv 0)) (gN_in (by decide)) (fun _ _ _ _ _ => dg_name 2 scope37.nd rfl (by first | exact Or.inl rfl | exact Or.inr rfl | exact Or.inr (Or.inl rfl))) (fun _ _ _ _ _ => dts_nil) (fun _ _ _ _ _ => d_in (room_u hr (by decide)) (dv 2) (dv 1)))))
theorem scope38 : FnScope ["dispute", "found", "lot", "one"] ["dispute"] (defScope (top 38)) := ⟨rfl, rfl, rfl, by decide +kernel, rfl, by decide +kernel, by decide +kernel⟩
theorem g38 (a : Al K mg) : FnG P w K mg base 5 a.f38 a.fd38 ["dispute"] (spD K 1 s_greatest_lots) := by
  have G36 := g36 (P := P) (w := w) (base := base) a
  have G37 := g37 (P := P) (w := w) (base := base) a
  exact fnG_def (N := ["dispute", "found", "lot", "one"]) (ps := ["dispute"]) (fS := b_greatest_lots) a.F38 scope38 (by decide) fun p cdv A outer s H hr hg => dss_cons (ds_set 1 scope38.nd rfl (by first | exact Or.inl rfl | exact Or.inr rfl | exact Or.inr (Or.inl rfl)) (d_call (G36.mono (by decide)) hr hg a.h36 a.F36.kp (a.F36.bindsN fun _ _ _ _ _ _ us hl => match us, hl with | [_], _ => rfl) (da_cons (dv 0) (da_nil)))) (dss_one (ds_ret (d_lc [("lot", 2)] (fun z => z) rfl scope38.nd (blk_of (N := ["dispute", "found", "lot", "one"]) (sc := defScope (top 38)) (by decide +kernel)) (di_seq (dv 1)) (gN_in (by decide)) (fun _ _ _ _ _ => dg_name 2 scope38.nd rfl (by first | exact Or.inl rfl | exact Or.inr rfl | exact Or.inr (Or.inl rfl))) (fun _ _ _ _ _ => dts_one (dt_not (dt_val (d_any rfl rfl a.m_any (d_lc [("one", 3)] (fun z => z) rfl scope38.nd (blk_rel (blk_of (N := ["dispute", "found", "lot", "one"]) (by decide +kernel))) (di_seq (dv 1)) (gN_in (by decide)) (fun _ _ _ _ _ => dg_name 3 scope38.nd rfl (by first | exact Or.inl rfl | exact Or.inr rfl | exact Or.inr (Or.inl rfl))) (fun _ _ _ _ _ => dts_nil) (fun _ _ _ _ _ => d_and (d_ne (room_u hr (by decide)) (dv 3) (dv 2)) (d_one (d_call (G37.mono (by decide)) hr hg a.h37 a.F37.kp (a.F37.bindsN fun _ _ _ _ _ _ us hl => match us, hl with | [_, _], _ => rfl) (da_cons (dv 2) (da_cons (dv 3) (da_nil))))))))))) (fun _ _ _ _ _ => dv 2))))
theorem scope39 : FnScope ["dispute", "reading", "some", "lot"] ["dispute", "reading"] (defScope (top 39)) := ⟨rfl, rfl, rfl, by decide +kernel, rfl, by decide +kernel, by decide +kernel⟩
theorem g39 (a : Al K mg) : FnG P w K mg base 6 a.f39 a.fd39 ["dispute", "reading"] (spD K 2 s_lots_of) := by
  have G31 := g31 (P := P) (w := w) (base := base) a
  have G38 := g38 (P := P) (w := w) (base := base) a
  have G35 := g35 (P := P) (w := w) (base := base) a
  have G32 := g32 (P := P) (w := w) (base := base) a
  have G33 := g33 (P := P) (w := w) (base := base) a
  have G34 := g34 (P := P) (w := w) (base := base) a
  exact fnG_def (N := ["dispute", "reading", "some", "lot"]) (ps := ["dispute", "reading"]) (fS := b_lots_of) a.F39 scope39 (by decide) fun p cdv A outer s H hr hg => dss_cons (ds_if (dt_eq (room_u hr (by decide)) (dv 1) (dgS (fr := false) a.c_PLAIN)) (dss_one (ds_ret (d_lst (da_cons (d_call (G31.mono (by decide)) hr hg a.h31 a.F31.kp (a.F31.bindsN fun _ _ _ _ _ _ us hl => match us, hl with | [_], _ => rfl) (da_cons (dv 0) (da_nil))) (da_nil))))) (dss_nil)) (dss_cons (ds_if (dt_eq (room_u hr (by decide)) (dv 1) (dgS (fr := false) a.c_GREATEST)) (dss_one (ds_ret (d_call (G38.mono (by decide)) hr hg a.h38 a.F38.kp (a.F38.bindsN fun _ _ _ _ _ _ us hl => match us, hl with | [_], _ => rfl) (da_cons (dv 0) (da_nil))))) (dss_nil)) (dss_cons (ds_set 2 scope39.nd rfl (by first | exact Or.inl rfl | exact Or.inr rfl | exact Or.inr (Or.inl rfl)) (d_call (G35.mono (by decide)) hr hg a.h35 a.F35.kp (a.F35.bindsN fun _ _ _ _ _ _ us hl => match us, hl with | [_], _ => rfl) (da_cons (dv 0) (da_nil)))) (dss_cons (ds_if (dt_eq (room_u hr (by decide)) (dv 1) (dgS (fr := false) a.c_UPHELD)) (dss_one (ds_ret (d_lc [("lot", 3)] (fun z => z) rfl scope39.nd (blk_of (N := ["dispute", "reading", "some", "lot"]) (sc := defScope (top 39)) (by decide +kernel)) (di_seq (dv 2)) (gN_in (by decide)) (fun _ _ _ _ _ => dg_name 3 scope39.nd rfl (by first | exact Or.inl rfl | exact Or.inr rfl | exact Or.inr (Or.inl rfl))) (fun _ _ _ _ _ => dts_one (dt_val (d_call (G32.mono (by decide)) hr hg a.h32 a.F32.kp (a.F32.bindsN fun _ _ _ _ _ _ us hl => match us, hl with | [_, _], _ => rfl) (da_cons (dv 0) (da_cons (dv 3) (da_nil)))))) (fun _ _ _ _ _ => dv 3)))) (dss_nil)) (dss_cons (ds_if (dt_eq (room_u hr (by decide)) (dv 1) (dgS (fr := false) a.c_FULL)) (dss_one (ds_ret (d_lc [("lot", 3)] (fun z => z) rfl scope39.nd (blk_of (N := ["dispute", "reading", "some", "lot"]) (sc := defScope (top 39)) (by decide +kernel)) (di_seq (dv 2)) (gN_in (by decide)) (fun _ _ _ _ _ => dg_name 3 scope39.nd rfl (by first | exact Or.inl rfl | exact Or.inr rfl | exact Or.inr (Or.inl rfl))) (fun _ _ _ _ _ => dts_one (dt_val (d_call (G33.mono (by decide)) hr hg a.h33 a.F33.kp (a.F33.bindsN fun _ _ _ _ _ _ us hl => match us, hl with | [_, _], _ => rfl) (da_cons (dv 0) (da_cons (dv 3) (da_nil)))))) (fun _ _ _ _ _ => dv 3)))) (dss_nil)) (dss_one (ds_ret (d_ifx (dt_eq (room_u hr (by decide)) (dv 1) (dgS (fr := false) a.c_SETTLED)) (d_lc [("lot", 3)] (fun z => z) rfl scope39.nd (blk_of (N := ["dispute", "reading", "some", "lot"]) (sc := defScope (top 39)) (by decide +kernel)) (di_seq (dv 2)) (gN_in (by decide)) (fun _ _ _ _ _ => dg_name 3 scope39.nd rfl (by first | exact Or.inl rfl | exact Or.inr rfl | exact Or.inr (Or.inl rfl))) (fun _ _ _ _ _ => dts_one (dt_val (d_call (G34.mono (by decide)) hr hg a.h34 a.F34.kp (a.F34.bindsN fun _ _ _ _ _ _ us hl => match us, hl with | [_, _], _ => rfl) (da_cons (dv 0) (da_cons (dv 3) (da_nil)))))) (fun _ _ _ _ _ => dv 3)) (d_lst (da_nil)))))))))
theorem scope41 : FnScope ["dispute", "value", "claim", "struck"] ["dispute", "value"] (defScope (top 41)) := ⟨rfl, rfl, rfl, by decide +kernel, rfl, by decide +kernel, by decide +kernel⟩
theorem g41 (a : Al K mg) : FnG P w K mg base 5 a.f41 a.fd41 ["dispute", "value"] (spD K 2 s_is_ahead_of) := by
  have G22 := g22 (P := P) (w := w) (base := base) a
  exact fnG_def (N := ["dispute", "value", "claim", "struck"]) (ps := ["dispute", "value"]) (fS := b_is_ahead_of) a.F41 scope41 (by decide) fun p cdv A outer s H hr hg => dss_cons (ds_if (dw_pt (dw_or (dt_not (dt_val (d_call (G22.mono (by decide)) hr hg a.h22 a.F22.kp (a.F22.bindsN fun _ _ _ _ _ _ us hl => match us, hl with | [_, _], _ => rfl) (da_cons (dv 0) (da_cons (dv 1) (da_nil)))))) (dw_or1 (dt_eq (room_u hr (by decide)) (dv 1) (d_tup (da_nil)))))) (dss_one (ds_ret (d_bl (fr := false)))) (dss_nil)) (dss_one (ds_ret (d_not (d_any rfl rfl a.m_any (d_lc [("claim", 2), ("struck", 3)] (fun _ => rfl) rfl scope41.nd (blk_of (N := ["dispute", "value", "claim", "struck"]) (sc := defScope (top 41)) (by decide +kernel)) (di_seq (d_ix (dv 0) (d_int (fr := false)))) (gT_in (gi_cons (gN_in (by decide)) (gi_cons (gN_in (by decide)) (gi_nil)))) (fun _ _ _ _ _ => dg_tup (tk := true) rfl (dgs_cons (dg_name 2 scope41.nd rfl (by first | exact Or.inl rfl | exact Or.inr rfl | exact Or.inr (Or.inl rfl))) (dgs_cons (dg_name 3 scope41.nd rfl (by first | exact Or.inl rfl | exact Or.inr rfl | exact Or.inr (Or.inl rfl))) (dgs_nil)))) (fun _ _ _ _ _ => dts_nil) (fun _ _ _ _ _ => d_and (d_in (room_u hr (by decide)) (dv 3) (dv 1)) (d_one (d_nin (room_u hr (by decide)) (dv 2) (dv 1)))))))))
theorem scope42 : FnScope ["dispute", "ahead"] ["dispute", "ahead"] (defScope (top 42)) := ⟨rfl, rfl, rfl, by decide +kernel, rfl, by decide +kernel, by decide +kernel⟩
theorem g42 (a : Al K mg) : FnG P w K mg base 6 a.f42 a.fd42 ["dispute", "ahead"] (spD K 2 s_want_ahead) := by
  have G24 := g24 (P := P) (w := w) (base := base) a
  have G41 := g41 (P := P) (w := w) (base := base) a
  exact fnG_def (N := ["dispute", "ahead"]) (ps := ["dispute", "ahead"]) (fS := b_want_ahead) a.F42 scope42 (by decide) fun p cdv A outer s H hr hg => dss_cons (ds_expr (d_call (G24.mono (by decide)) hr hg a.h24 a.F24.kp (a.F24.bindsN fun _ _ _ _ _ _ us hl => match us, hl with | [_], _ => rfl) (da_cons (dv 0) (da_nil)))) (dss_one (ds_if (dt_not (dt_val (d_call (G41.mono (by decide)) hr hg a.h41 a.F41.kp (a.F41.bindsN fun _ _ _ _ _ _ us hl => match us, hl with | [_, _], _ => rfl) (da_cons (dv 0) (da_cons (dv 1) (da_nil)))))) (dss_one (ds_never)) (dss_nil)))
theorem scope44 : FnScope ["dispute", "claims", "more", "at", "strikes", "number", "claim", "struck"] ["dispute", "claims", "more"] (defScope (top 44)) := ⟨rfl, rfl, rfl, by decide +kernel, rfl, by decide +kernel, by decide +kernel⟩
theorem g44 (a : Al K mg) : FnG P w K mg base 1 a.f44 a.fd44 ["dispute", "claims", "more"] (spD K 3 s_alone) := by
  exact fnG_def (N := ["dispute", "claims", "more", "at", "strikes", "number", "claim", "struck"]) (ps := ["dispute", "claims", "more"]) (fS := b_alone) a.F44 scope44 (by decide) fun p cdv A outer s H hr hg => dss_cons (ds_set 3 scope44.nd rfl (by first | exact Or.inl rfl | exact Or.inr rfl | exact Or.inr (Or.inl rfl)) (d_dc [("number", 5), ("claim", 6)] (fun _ => rfl) rfl scope44.nd (blk_of (N := ["dispute", "claims", "more", "at", "strikes", "number", "claim", "struck"]) (sc := defScope (top 44)) (by decide +kernel)) (di_enum rfl a.m_enumerate (dv 1)) (gT_in (gi_cons (gN_in (by decide)) (gi_cons (gN_in (by decide)) (gi_nil)))) (fun _ _ _ _ _ => dg_tup (tk := true) rfl (dgs_cons (dg_name 5 scope44.nd rfl (by first | exact Or.inl rfl | exact Or.inr rfl | exact Or.inr (Or.inl rfl))) (dgs_cons (dg_name 6 scope44.nd rfl (by first | exact Or.inl rfl | exact Or.inr rfl | exact Or.inr (Or.inl rfl))) (dgs_nil)))) (fun _ _ _ _ _ => dts_nil) (fun _ _ _ _ _ => dv 6) (fun _ _ _ _ _ => dv 5))) (dss_cons (ds_setLc 4 [("claim", 6), ("struck", 7)] (fun _ => rfl) rfl scope44.nd rfl rfl rfl (blk_of (N := ["dispute", "claims", "more", "at", "strikes", "number", "claim", "struck"]) (sc := defScope (top 44)) (by decide +kernel)) (di_seq (d_ix (dv 0) (d_int (fr := false)))) (gT_in (gi_cons (gN_in (by decide)) (gi_cons (gN_in (by decide)) (gi_nil)))) (fun _ _ _ _ _ => dg_tup (tk := true) rfl (dgs_cons (dg_name 6 scope44.nd rfl (by first | exact Or.inl rfl | exact Or.inr rfl | exact Or.inr (Or.inl rfl))) (dgs_cons (dg_name 7 scope44.nd rfl (by first | exact Or.inl rfl | exact Or.inr rfl | exact Or.inr (Or.inl rfl))) (dgs_nil)))) (fun _ _ _ _ _ => dts_one (dw_pt (dw_and (dt_dkin (.inl ⟨rfl, rfl⟩) (room_u hr (by decide)) (dv 6) (dv 3)) (dw_and1 (dt_dkin (.inl ⟨rfl, rfl⟩) (room_u hr (by decide)) (dv 7) (dv 3)))))) (fun _ _ _ _ _ => d_tup (da_cons (d_dget (room_u hr (by decide)) (dv 3) (dv 6) (by first | exact fun _ _ => rfl | exact rfl)) (da_cons (d_dget (room_u hr (by decide)) (dv 3) (dv 7) (by first | exact fun _ _ => rfl | exact rfl)) (da_nil))))) (dss_cons (ds_set 4 scope44.nd rfl (by first | exact Or.inl rfl | exact Or.inr rfl | exact Or.inr (Or.inl rfl)) (d_add (dv 4) (d_lc [("claim", 6)] (fun z => z) rfl scope44.nd (blk_of (N := ["dispute", "claims", "more", "at", "strikes", "number", "claim", "struck"]) (sc := defScope (top 44)) (by decide +kernel)) (di_seq (dv 2)) (gN_in (by decide)) (fun _ _ _ _ _ => dg_name 6 scope44.nd rfl (by first | exact Or.inl rfl | exact Or.inr rfl | exact Or.inr (Or.inl rfl))) (fun _ _ _ _ _ => dts_one (dt_dkin (.inl ⟨rfl, rfl⟩) (room_u hr (by decide)) (dv 6) (dv 3))) (fun _ _ _ _ _ => d_tup (da_cons (d_dget (room_u hr (by decide)) (dv 3) (dv 6) (by first | exact fun _ _ => rfl | exact rfl)) (da_cons (d_dget (room_u hr (by decide)) (dv 3) (dv 6) (by first | exact fun _ _ => rfl | exact rfl)) (da_nil))))))) (dss_one (ds_ret (d_tup (da_cons (dgS (fr := false) a.c_DISPUTE) (da_cons (d_len rfl a.m_len (dv 1)) (da_cons (d_tupC rfl a.m_tuple (d_srtSet rfl (room_u hr (by decide)) rfl a.m_sorted rfl a.m_set (dv 4))) (da_nil)))))))))
theorem scope45 : FnScope ["claims", "lot", "claim"] ["claims", "lot"] (defScope (top 45)) := ⟨rfl, rfl, rfl, by decide +kernel, rfl, by decide +kernel, by decide +kernel⟩
theorem g45 (a : Al K mg) : FnG P w K mg base 1 a.f45 a.fd45 ["claims", "lot"] (spD K 2 s_told_by) := by
  exact fnG_def (N := ["claims", "lot", "claim"]) (ps := ["claims", "lot"]) (fS := b_told_by) a.F45 scope45 (by decide) fun p cdv A outer s H hr hg => dss_one (ds_ret (d_tupC rfl a.m_tuple (d_lc [("claim", 2)] (fun z => z) rfl scope45.nd (blk_of (N := ["claims", "lot", "claim"]) (sc := defScope (top 45)) (by decide +kernel)) (di_seq (dv 1)) (gN_in (by decide)) (fun _ _ _ _ _ => dg_name 2 scope45.nd rfl (by first | exact Or.inl rfl | exact Or.inr rfl | exact Or.inr (Or.inl rfl))) (fun _ _ _ _ _ => dts_nil) (fun _ _ _ _ _ => d_ix (dv 0) (dv 2)))))
theorem scope46 : FnScope ["dispute", "ahead", "lot", "struck", "claims", "loose", "claim"] ["dispute", "ahead", "lot"] (defScope (top 46)) := ⟨rfl, rfl, rfl, by decide +kernel, rfl, by decide +kernel, by decide +kernel⟩
theorem g46 (a : Al K mg) : FnG P w K mg base 2 a.f46 a.fd46 ["dispute", "ahead", "lot"] (spD K 3 s_rest_of) := by
  have G28 := g28 (P := P) (w := w) (base := base) a
  have G44 := g44 (P := P) (w := w) (base := base) a
  exact fnG_def (N := ["dispute", "ahead", "lot", "struck", "claims", "loose", "claim"]) (ps := ["dispute", "ahead", "lot"]) (fS := b_rest_of) a.F46 scope46 (by decide) fun p cdv A outer s H hr hg => dss_cons (ds_set 3 scope46.nd rfl (by first | exact Or.inl rfl | exact Or.inr rfl | exact Or.inr (Or.inl rfl)) (d_call (G28.mono (by decide)) hr hg a.h28 a.F28.kp (a.F28.bindsN fun _ _ _ _ _ _ us hl => match us, hl with | [_, _], _ => rfl) (da_cons (dv 0) (da_cons (dv 2) (da_nil))))) (dss_cons (ds_set 4 scope46.nd rfl (by first | exact Or.inl rfl | exact Or.inr rfl | exact Or.inr (Or.inl rfl)) (d_tupC rfl a.m_tuple (d_lc [("claim", 6)] (fun z => z) rfl scope46.nd (blk_of (N := ["dispute", "ahead", "lot", "struck", "claims", "loose", "claim"]) (sc := defScope (top 46)) (by decide +kernel)) (di_range1 rfl a.m_range (d_ix (dv 0) (d_int (fr := false)))) (gN_in (by decide)) (fun _ _ _ _ _ => dg_name 6 scope46.nd rfl (by first | exact Or.inl rfl | exact Or.inr rfl | exact Or.inr (Or.inl rfl))) (fun _ _ _ _ _ => dts_one (dw_pt (dw_and (dt_nin (room_u hr (by decide)) (dv 6) (dv 1)) (dw_and1 (dt_nin (room_u hr (by decide)) (dv 6) (dv 3)))))) (fun _ _ _ _ _ => dv 6)))) (dss_cons (ds_if (dt_eq (room_u hr (by decide)) (dv 4) (d_tup (da_nil))) (dss_one (ds_ret (d_tup (da_cons (d_non (fr := false)) (da_cons (d_tup (da_nil)) (da_nil)))))) (dss_nil)) (dss_cons (ds_set 5 scope46.nd rfl (by first | exact Or.inl rfl | exact Or.inr rfl | exact Or.inr (Or.inl rfl)) (d_tupC rfl a.m_tuple (d_lc [("claim", 6)] (fun z => z) rfl scope46.nd (blk_of (N := ["dispute", "ahead", "lot", "struck", "claims", "loose", "claim"]) (sc := defScope (top 46)) (by decide +kernel)) (di_seq (dv 1)) (gN_in (by decide)) (fun _ _ _ _ _ => dg_name 6 scope46.nd rfl (by first | exact Or.inl rfl | exact Or.inr rfl | exact Or.inr (Or.inl rfl))) (fun _ _ _ _ _ => dts_one (dw_pt (dw_and (dt_nin (room_u hr (by decide)) (dv 6) (dv 2)) (dw_and1 (dt_nin (room_u hr (by decide)) (dv 6) (dv 3)))))) (fun _ _ _ _ _ => dv 6)))) (dss_one (ds_ret (d_tup (da_cons (d_call (G44.mono (by decide)) hr hg a.h44 a.F44.kp (a.F44.bindsN fun _ _ _ _ _ _ us hl => match us, hl with | [_, _, _], _ => rfl) (da_cons (dv 0) (da_cons (dv 4) (da_cons (d_call (G28.mono (by decide)) hr hg a.h28 a.F28.kp (a.F28.bindsN fun _ _ _ _ _ _ us hl => match us, hl with | [_, _], _ => rfl) (da_cons (dv 0) (da_cons (dv 5) (da_nil)))) (da_nil))))) (da_cons (dv 4) (da_nil)))))))))
theorem scope47 : FnScope ["dispute", "ahead", "lot", "reading", "late", "claims", "one"] ["dispute", "ahead", "lot", "reading"] (defScope (top 47)) := ⟨rfl, rfl, rfl, by decide +kernel, rfl, by decide +kernel, by decide +kernel⟩
theorem g47 (a : Al K mg) : FnG P w K mg base 7 a.f47 a.fd47 ["dispute", "ahead", "lot", "reading"] (spD K 4 s_rest_lots) := by
  have G46 := g46 (P := P) (w := w) (base := base) a
  have G39 := g39 (P := P) (w := w) (base := base) a
  have G45 := g45 (P := P) (w := w) (base := base) a
  exact fnG_def (N := ["dispute", "ahead", "lot", "reading", "late", "claims", "one"]) (ps := ["dispute", "ahead", "lot", "reading"]) (fS := b_rest_lots) a.F47 scope47 (by decide) fun p cdv A outer s H hr hg => dss_cons (ds_asgT (d_call (G46.mono (by decide)) hr hg a.h46 a.F46.kp (a.F46.bindsN fun _ _ _ _ _ _ us hl => match us, hl with | [_, _, _], _ => rfl) (da_cons (dv 0) (da_cons (dv 1) (da_cons (dv 2) (da_nil))))) (dg_tup (tk := true) rfl (dgs_cons (dg_name 4 scope47.nd rfl (by first | exact Or.inl rfl | exact Or.inr rfl | exact Or.inr (Or.inl rfl))) (dgs_cons (dg_name 5 scope47.nd rfl (by first | exact Or.inl rfl | exact Or.inr rfl | exact Or.inr (Or.inl rfl))) (dgs_nil))))) (dss_cons (ds_if (dt_is  (dv 4) (d_non (fr := false))) (dss_one (ds_ret (d_tup (da_cons (d_tup (da_nil)) (da_nil))))) (dss_nil)) (dss_one (ds_ret (d_tupC rfl a.m_tuple (d_sortedG (room_u hr (by decide)) rfl a.m_sorted (d_lc [("one", 6)] (fun z => z) rfl scope47.nd (blk_of (N := ["dispute", "ahead", "lot", "reading", "late", "claims", "one"]) (sc := defScope (top 47)) (by decide +kernel)) (di_seq (d_call (G39.mono (by decide)) hr hg a.h39 a.F39.kp (a.F39.bindsN fun _ _ _ _ _ _ us hl => match us, hl with | [_, _], _ => rfl) (da_cons (dv 4) (da_cons (dv 3) (da_nil))))) (gN_in (by decide)) (fun _ _ _ _ _ => dg_name 6 scope47.nd rfl (by first | exact Or.inl rfl | exact Or.inr rfl | exact Or.inr (Or.inl rfl))) (fun _ _ _ _ _ => dts_nil) (fun _ _ _ _ _ => d_call (G45.mono (by decide)) hr hg a.h45 a.F45.kp (a.F45.bindsN fun _ _ _ _ _ _ us hl => match us, hl with | [_, _], _ => rfl) (da_cons (dv 5) (da_cons (dv 6) (da_nil))))))))))
theorem scope48 : FnScope ["dispute", "ahead", "reading", "lots", "lot"] ["dispute", "ahead", "reading"] (defScope (top 48)) := ⟨rfl, rfl, rfl, by decide +kernel, rfl, by decide +kernel, by decide +kernel⟩
theorem g48 (a : Al K mg) : FnG P w K mg base 8 a.f48 a.fd48 ["dispute", "ahead", "reading"] (spD K 3 s_rows_of) := by
  have G39 := g39 (P := P) (w := w) (base := base) a
  have G44 := g44 (P := P) (w := w) (base := base) a
  have G45 := g45 (P := P) (w := w) (base := base) a
  have G47 := g47 (P := P) (w := w) (base := base) a
  exact fnG_def (N := ["dispute", "ahead", "reading", "lots", "lot"]) (ps := ["dispute", "ahead", "reading"]) (fS := b_rows_of) a.F48 scope48 (by decide) fun p cdv A outer s H hr hg => dss_cons (ds_set 3 scope48.nd rfl (by first | exact Or.inl rfl | exact Or.inr rfl | exact Or.inr (Or.inl rfl)) (d_sortedG (room_u hr (by decide)) rfl a.m_sorted (d_lc [("lot", 4)] (fun z => z) rfl scope48.nd (blk_of (N := ["dispute", "ahead", "reading", "lots", "lot"]) (sc := defScope (top 48)) (by decide +kernel)) (di_seq (d_call (G39.mono (by decide)) hr hg a.h39 a.F39.kp (a.F39.bindsN fun _ _ _ _ _ _ us hl => match us, hl with | [_, _], _ => rfl) (da_cons (d_call (G44.mono (by decide)) hr hg a.h44 a.F44.kp (a.F44.bindsN fun _ _ _ _ _ _ us hl => match us, hl with | [_, _, _], _ => rfl) (da_cons (dv 0) (da_cons (dv 1) (da_cons (d_tup (da_nil)) (da_nil))))) (da_cons (dv 2) (da_nil))))) (gN_in (by decide)) (fun _ _ _ _ _ => dg_name 4 scope48.nd rfl (by first | exact Or.inl rfl | exact Or.inr rfl | exact Or.inr (Or.inl rfl))) (fun _ _ _ _ _ => dts_nil) (fun _ _ _ _ _ => d_call (G45.mono (by decide)) hr hg a.h45 a.F45.kp (a.F45.bindsN fun _ _ _ _ _ _ us hl => match us, hl with | [_, _], _ => rfl) (da_cons (dv 1) (da_cons (dv 4) (da_nil))))))) (dss_one (ds_ret (d_lc [("lot", 4)] (fun z => z) rfl scope48.nd (blk_of (N := ["dispute", "ahead", "reading", "lots", "lot"]) (sc := defScope (top 48)) (by decide +kernel)) (di_seq (dv 3)) (gN_in (by decide)) (fun _ _ _ _ _ => dg_name 4 scope48.nd rfl (by first | exact Or.inl rfl | exact Or.inr rfl | exact Or.inr (Or.inl rfl))) (fun _ _ _ _ _ => dts_nil) (fun _ _ _ _ _ => d_tup (da_cons (dv 4) (da_cons (d_call (G47.mono (by decide)) hr hg a.h47 a.F47.kp (a.F47.bindsN fun _ _ _ _ _ _ us hl => match us, hl with | [_, _, _, _], _ => rfl) (da_cons (dv 0) (da_cons (dv 1) (da_cons (dv 4) (da_cons (dv 2) (da_nil)))))) (da_nil)))))))
theorem scope49 : FnScope ["rows", "found", "lot", "lots", "one"] ["rows"] (defScope (top 49)) := ⟨rfl, rfl, rfl, by decide +kernel, rfl, by decide +kernel, by decide +kernel⟩
theorem g49 (a : Al K mg) : FnG P w K mg base 1 a.f49 a.fd49 ["rows"] (spD K 1 s_together_of) := by
  exact fnG_def (N := ["rows", "found", "lot", "lots", "one"]) (ps := ["rows"]) (fS := b_together_of) a.F49 scope49 (by decide) fun p cdv A outer s H hr hg => dss_cons (ds_setB 1 scope49.nd rfl (by first | exact Or.inl rfl | exact Or.inr rfl | exact Or.inr (Or.inl rfl)) (d_lst (da_nil))) (dss_cons (ds_for (fun _ => rfl) PassesOwn.never rfl (di_seq (dv 0)) (dg_tup (tk := true) rfl (dgs_cons (dg_name 2 scope49.nd rfl (by first | exact Or.inl rfl | exact Or.inr rfl | exact Or.inr (Or.inl rfl))) (dgs_cons (dg_name 3 scope49.nd rfl (by first | exact Or.inl rfl | exact Or.inr rfl | exact Or.inr (Or.inl rfl))) (dgs_nil)))) (dss_one (ds_extend 1 rfl (by first | exact Or.inl rfl | exact Or.inr (Or.inl rfl) | exact Or.inr (Or.inr rfl)) (d_lc [("one", 4)] (fun z => z) rfl scope49.nd (blk_of (N := ["rows", "found", "lot", "lots", "one"]) (sc := defScope (top 49)) (by decide +kernel)) (di_seq (dv 3)) (gN_in (by decide)) (fun _ _ _ _ _ => dg_name 4 scope49.nd rfl (by first | exact Or.inl rfl | exact Or.inr rfl | exact Or.inr (Or.inl rfl))) (fun _ _ _ _ _ => dts_nil) (fun _ _ _ _ _ => d_tupC rfl a.m_tuple (d_sortedG (room_u hr (by decide)) rfl a.m_sorted (d_add (dv 2) (dv 4)))))))) (dss_one (ds_ret (d_sortedG (room_u hr (by decide)) rfl a.m_sorted (dvC 1)))))
theorem scope50 : FnScope ["dispute", "ahead", "reading"] ["dispute", "ahead", "reading"] (defScope (top 50)) := ⟨rfl, rfl, rfl, by decide +kernel, rfl, by decide +kernel, by decide +kernel⟩
theorem g50 (a : Al K mg) : FnG P w K mg base 9 a.f50 a.fd50 ["dispute", "ahead", "reading"] (spD K 3 s_split_rows) := by
  have G42 := g42 (P := P) (w := w) (base := base) a
  have G25 := g25 (P := P) (w := w) (base := base) a
  have G48 := g48 (P := P) (w := w) (base := base) a
  exact fnG_def (N := ["dispute", "ahead", "reading"]) (ps := ["dispute", "ahead", "reading"]) (fS := b_split_rows) a.F50 scope50 (by decide) fun p cdv A outer s H hr hg => dss_cons (ds_expr (d_call (G42.mono (by decide)) hr hg a.h42 a.F42.kp (a.F42.bindsN fun _ _ _ _ _ _ us hl => match us, hl with | [_, _], _ => rfl) (da_cons (dv 0) (da_cons (dv 1) (da_nil))))) (dss_cons (ds_expr (d_call (G25.mono (by decide)) hr hg a.h25 a.F25.kp (a.F25.bindsN fun _ _ _ _ _ _ us hl => match us, hl with | [_], _ => rfl) (da_cons (dv 2) (da_nil)))) (dss_one (ds_ret (d_call (G48.mono (by decide)) hr hg a.h48 a.F48.kp (a.F48.bindsN fun _ _ _ _ _ _ us hl => match us, hl with | [_, _, _], _ => rfl) (da_cons (dv 0) (da_cons (dv 1) (da_cons (dv 2) (da_nil))))))))
theorem scope51 : FnScope ["dispute", "ahead", "reading"] ["dispute", "ahead", "reading"] (defScope (top 51)) := ⟨rfl, rfl, rfl, by decide +kernel, rfl, by decide +kernel, by decide +kernel⟩
theorem g51 (a : Al K mg) : FnG P w K mg base 9 a.f51 a.fd51 ["dispute", "ahead", "reading"] (spD K 3 s_lots_by_split) := by
  have G42 := g42 (P := P) (w := w) (base := base) a
  have G25 := g25 (P := P) (w := w) (base := base) a
  have G49 := g49 (P := P) (w := w) (base := base) a
  have G48 := g48 (P := P) (w := w) (base := base) a
  exact fnG_def (N := ["dispute", "ahead", "reading"]) (ps := ["dispute", "ahead", "reading"]) (fS := b_lots_by_split) a.F51 scope51 (by decide) fun p cdv A outer s H hr hg => dss_cons (ds_expr (d_call (G42.mono (by decide)) hr hg a.h42 a.F42.kp (a.F42.bindsN fun _ _ _ _ _ _ us hl => match us, hl with | [_, _], _ => rfl) (da_cons (dv 0) (da_cons (dv 1) (da_nil))))) (dss_cons (ds_expr (d_call (G25.mono (by decide)) hr hg a.h25 a.F25.kp (a.F25.bindsN fun _ _ _ _ _ _ us hl => match us, hl with | [_], _ => rfl) (da_cons (dv 2) (da_nil)))) (dss_one (ds_ret (d_call (G49.mono (by decide)) hr hg a.h49 a.F49.kp (a.F49.bindsN fun _ _ _ _ _ _ us hl => match us, hl with | [_], _ => rfl) (da_cons (d_call (G48.mono (by decide)) hr hg a.h48 a.F48.kp (a.F48.bindsN fun _ _ _ _ _ _ us hl => match us, hl with | [_, _, _], _ => rfl) (da_cons (dv 0) (da_cons (dv 1) (da_cons (dv 2) (da_nil))))) (da_nil))))))
theorem g54 (a : Al K mg) : FnG P w K mg base 1 a.f54 a.fd54 ["pot", "many"] (spD K 2 (s__law_draw 40692 4831 17)) := fnG_draw (gDraw a.F54 a.m_divmod a.m_int)
theorem scope55 : FnScope ["pot", "some"] ["pot", "some"] (defScope (top 55)) := ⟨rfl, rfl, rfl, by decide +kernel, rfl, by decide +kernel, by decide +kernel⟩
theorem g55 (a : Al K mg) : FnG P w K mg base 2 a.f55 a.fd55 ["pot", "some"] (spD K 2 (s__law_pick 40692 4831 17)) := by
  have G54 := g54 (P := P) (w := w) (base := base) a
  exact fnG_def (N := ["pot", "some"]) (ps := ["pot", "some"]) (fS := (b__law_pick 40692 4831 17)) a.F55 scope55 (by decide) fun p cdv A outer s H hr hg => dss_one (ds_ret (d_ix (dv 1) (d_call (G54.mono (by decide)) hr hg a.h54 a.F54.kp (a.F54.bindsN fun _ _ _ _ _ _ us hl => match us, hl with | [_, _], _ => rfl) (da_cons (dv 0) (da_cons (d_len rfl a.m_len (dv 1)) (da_nil))))))
theorem scope56 : FnScope ["pot", "most", "many", "rare", "flows", "found", "claim", "struck"] ["pot", "most"] (defScope (top 56)) := ⟨rfl, rfl, rfl, by decide +kernel, rfl, by decide +kernel, by decide +kernel⟩
theorem g56 (a : Al K mg) : FnG P w K mg base 2 a.f56 a.fd56 ["pot", "most"] (spD K 2 (s__law_dispute 40692 4831 17)) := by
  have G54 := g54 (P := P) (w := w) (base := base) a
  exact fnG_def (N := ["pot", "most", "many", "rare", "flows", "found", "claim", "struck"]) (ps := ["pot", "most"]) (fS := (b__law_dispute 40692 4831 17)) a.F56 scope56 (by decide) fun p cdv A outer s H hr hg => dss_cons (ds_par 2 3 rfl scope56.nd rfl rfl (by decide) rfl rfl (dp_cons false (d_add (d_int (fr := false)) (d_call (G54.mono (by decide)) hr hg a.h54 a.F54.kp (a.F54.bindsN fun _ _ _ _ _ _ us hl => match us, hl with | [_, _], _ => rfl) (da_cons (dv 0) (da_cons (dv 1) (da_nil))))) (fun z => by cases z) (dp_cons false (d_add (d_int (fr := false)) (d_call (G54.mono (by decide)) hr hg a.h54 a.F54.kp (a.F54.bindsN fun _ _ _ _ _ _ us hl => match us, hl with | [_, _], _ => rfl) (da_cons (dv 0) (da_cons (d_int (fr := false)) (da_nil))))) (fun z => by cases z) (dp_nil))) rfl rfl) (dss_cons (ds_par 4 5 rfl scope56.nd rfl rfl (by decide) rfl rfl (dp_cons false (d_eq (room_u hr (by decide)) (d_call (G54.mono (by decide)) hr hg a.h54 a.F54.kp (a.F54.bindsN fun _ _ _ _ _ _ us hl => match us, hl with | [_, _], _ => rfl) (da_cons (dv 0) (da_cons (d_int (fr := false)) (da_nil)))) (d_int (fr := false))) (fun z => by cases z) (dp_cons true (d_lst (da_nil)) (fun _ => rfl) (dp_nil))) rfl rfl) (dss_cons (ds_for (fun z => z) PassesOwn.never rfl (di_range1 rfl a.m_range (dv 2)) (dg_name 6 scope56.nd rfl (by first | exact Or.inl rfl | exact Or.inr rfl | exact Or.inr (Or.inl rfl))) (dss_one (ds_for (fun z => z) PassesOwn.never rfl (di_range1 rfl a.m_range (dv 2)) (dg_name 7 scope56.nd rfl (by first | exact Or.inl rfl | exact Or.inr rfl | exact Or.inr (Or.inl rfl))) (dss_one (ds_if (dw_pt (dw_and (dt_eq (room_u hr (by decide)) (d_call (G54.mono (by decide)) hr hg a.h54 a.F54.kp (a.F54.bindsN fun _ _ _ _ _ _ us hl => match us, hl with | [_, _], _ => rfl) (da_cons (dv 0) (da_cons (dv 3) (da_nil)))) (d_int (fr := false))) (dw_and1 (dw_pt (dw_or (dt_ne (room_u hr (by decide)) (dv 6) (dv 7)) (dw_or1 (dt_eq (room_u hr (by decide)) (d_call (G54.mono (by decide)) hr hg a.h54 a.F54.kp (a.F54.bindsN fun _ _ _ _ _ _ us hl => match us, hl with | [_, _], _ => rfl) (da_cons (dv 0) (da_cons (d_int (fr := false)) (da_nil)))) (d_int (fr := false))))))))) (dss_one (ds_if (dw_pt (dw_or (dt_not (dt_val (dv 4))) (dw_or (dt_lt hr.units0 (dv 6) (dv 7)) (dw_or1 (dt_eq (room_u hr (by decide)) (d_call (G54.mono (by decide)) hr hg a.h54 a.F54.kp (a.F54.bindsN fun _ _ _ _ _ _ us hl => match us, hl with | [_, _], _ => rfl) (da_cons (dv 0) (da_cons (d_int (fr := false)) (da_nil)))) (d_int (fr := false))))))) (dss_one (ds_append 5 rfl (by first | exact Or.inl rfl | exact Or.inr (Or.inl rfl) | exact Or.inr (Or.inr rfl)) (d_tup (da_cons (dv 6) (da_cons (dv 7) (da_nil)))))) (dss_nil))) (dss_nil)))))) (dss_one (ds_ret (d_tup (da_cons (d_str (fr := false)) (da_cons (dv 2) (da_cons (d_tupC rfl a.m_tuple (d_sortedG (room_u hr (by decide)) rfl a.m_sorted (dvC 5))) (da_nil)))))))))
theorem scope57 : FnScope ["value", "many"] ["value", "many"] (defScope (top 57)) := ⟨rfl, rfl, rfl, by decide +kernel, rfl, by decide +kernel, by decide +kernel⟩
/-- _law_is_int -/
def b__law_is_int : SE := retS (andE (ap1 (isiD "int") (vr 0)) (andE (ap1 notD (ap1 (isiD "bool") (vr 0))) (chainE leD ltD (cst (.int 0)) (vr 0) (vr 1))))
def s__law_is_int : List D → M D := defM 2 b__law_is_int
theorem g57 (a : Al K mg) : FnG P w K mg base 1 a.f57 a.fd57 ["value", "many"] (spD K 2 s__law_is_int) := by
  exact fnG_def (N := ["value", "many"]) (ps := ["value", "many"]) (fS := b__law_is_int) a.F57 scope57 (by decide) fun p cdv A outer s H hr hg => dss_one (ds_ret (d_and (d_isiT "int" a.m_isinstance a.m_int (dv 0)) (d_and (d_not (d_isiT "bool" a.m_isinstance a.m_bool (dv 0))) (d_one (d_lelt hr.units0 (d_int (fr := false)) (dv 0) (dv 1))))))
theorem scope58 : FnScope ["dispute", "value", "one"] ["dispute", "value"] (defScope (top 58)) := ⟨rfl, rfl, rfl, by decide +kernel, rfl, by decide +kernel, by decide +kernel⟩
/-- _law_is_lot -/
def b__law_is_lot : SE := retS (andE (ap1 (isiD "tuple") (vr 1)) (andE (ap allD [lcE [2] (itE (vr 1)) (gN 2) (cst (.bool true)) (callE s__law_is_int [vr 2, ap2 ixD (vr 0) (cst (.int 1))])]) (ap2 eqD (ap listD [vr 1]) (ap1 srtSetD (vr 1)))))
def s__law_is_lot : List D → M D := defM 3 b__law_is_lot
theorem g58 (a : Al K mg) : FnG P w K mg base 2 a.f58 a.fd58 ["dispute", "value"] (spD K 2 s__law_is_lot) := by
  have G57 := g57 (P := P) (w := w) (base := base) a
  exact fnG_def (N := ["dispute", "value", "one"]) (ps := ["dispute", "value"]) (fS := b__law_is_lot) a.F58 scope58 (by decide) fun p cdv A outer s H hr hg => dss_one (ds_ret (d_and (d_isiT "tuple" a.m_isinstance a.m_tuple (dv 1)) (d_and (d_all rfl rfl a.m_all (d_lc [("one", 2)] (fun z => z) rfl scope58.nd (blk_of (N := ["dispute", "value", "one"]) (sc := defScope (top 58)) (by decide +kernel)) (di_seq (dv 1)) (gN_in (by decide)) (fun _ _ _ _ _ => dg_name 2 scope58.nd rfl (by first | exact Or.inl rfl | exact Or.inr rfl | exact Or.inr (Or.inl rfl))) (fun _ _ _ _ _ => dts_nil) (fun _ _ _ _ _ => d_call (G57.mono (by decide)) hr hg a.h57 a.F57.kp (a.F57.bindsN fun _ _ _ _ _ _ us hl => match us, hl with | [_, _], _ => rfl) (da_cons (dv 2) (da_cons (d_ix (dv 0) (d_int (fr := false))) (da_nil)))))) (d_one (d_eq (room_u hr (by decide)) (d_list rfl a.m_list (dv 1)) (d_srtSet rfl (room_u hr (by decide)) rfl a.m_sorted rfl a.m_set (dv 1)))))))
theorem scope59 : FnScope ["many", "found", "claim", "lot"] ["many"] (defScope (top 59)) := ⟨rfl, rfl, rfl, by decide +kernel, rfl, by decide +kernel, by decide +kernel⟩
theorem g59 (a : Al K mg) : FnG P w K mg base 1 a.f59 a.fd59 ["many"] (spD K 1 s__law_every) := by
  exact fnG_def (N := ["many", "found", "claim", "lot"]) (ps := ["many"]) (fS := b__law_every) a.F59 scope59 (by decide) fun p cdv A outer s H hr hg => dss_cons (ds_set 1 scope59.nd rfl (by first | exact Or.inl rfl | exact Or.inr rfl | exact Or.inr (Or.inl rfl)) (d_lst (da_cons (d_tup (da_nil)) (da_nil)))) (dss_cons (ds_for (fun z => z) PassesOwn.never rfl (di_range1 rfl a.m_range (dv 0)) (dg_name 2 scope59.nd rfl (by first | exact Or.inl rfl | exact Or.inr rfl | exact Or.inr (Or.inl rfl))) (dss_one (ds_set 1 scope59.nd rfl (by first | exact Or.inl rfl | exact Or.inr rfl | exact Or.inr (Or.inl rfl)) (d_add (dv 1) (d_lc [("lot", 3)] (fun z => z) rfl scope59.nd (blk_of (N := ["many", "found", "claim", "lot"]) (sc := defScope (top 59)) (by decide +kernel)) (di_seq (dv 1)) (gN_in (by decide)) (fun _ _ _ _ _ => dg_name 3 scope59.nd rfl (by first | exact Or.inl rfl | exact Or.inr rfl | exact Or.inr (Or.inl rfl))) (fun _ _ _ _ _ => dts_nil) (fun _ _ _ _ _ => d_add (dv 3) (d_tup (da_cons (dv 2) (da_nil))))))))) (dss_one (ds_ret (d_sortedG (room_u hr (by decide)) rfl a.m_sorted (dv 1)))))
theorem scope60 : FnScope ["dispute", "value", "strike"] ["dispute", "value"] (defScope (top 60)) := ⟨rfl, rfl, rfl, by decide +kernel, rfl, by decide +kernel, by decide +kernel⟩
/-- _law_is_ahead -/
def b__law_is_ahead : SE := seqS (ifS (orE (ap1 notD (callE s__law_is_lot [vr 0, vr 1])) (ap2 eqD (vr 1) (tupE []))) (retS (cst (.bool false))) (nilS)) (retS (ap2 eqD (lcE [2] (itE (ap2 ixD (vr 0) (cst (.int 2)))) (gN 2) (andE (ap2 (inG false) (ap2 ixD (vr 2) (cst (.int 1))) (vr 1)) (ap2 (inG true) (ap2 ixD (vr 2) (cst (.int 0))) (vr 1))) (vr 2)) (lstE [])))
def s__law_is_ahead : List D → M D := defM 3 b__law_is_ahead
theorem g60 (a : Al K mg) : FnG P w K mg base 3 a.f60 a.fd60 ["dispute", "value"] (spD K 2 s__law_is_ahead) := by
  have G58 := g58 (P := P) (w := w) (base := base) a
  exact fnG_def (N := ["dispute", "value", "strike"]) (ps := ["dispute", "value"]) (fS := b__law_is_ahead) a.F60 scope60 (by decide) fun p cdv A outer s H hr hg => dss_cons (ds_if (dw_pt (dw_or (dt_not (dt_val (d_call (G58.mono (by decide)) hr hg a.h58 a.F58.kp (a.F58.bindsN fun _ _ _ _ _ _ us hl => match us, hl with | [_, _], _ => rfl) (da_cons (dv 0) (da_cons (dv 1) (da_nil)))))) (dw_or1 (dt_eq (room_u hr (by decide)) (dv 1) (d_tup (da_nil)))))) (dss_one (ds_ret (d_bl (fr := false)))) (dss_nil)) (dss_one (ds_ret (d_eq (room_u hr (by decide)) (d_lc [("strike", 2)] (fun z => z) rfl scope60.nd (blk_of (N := ["dispute", "value", "strike"]) (sc := defScope (top 60)) (by decide +kernel)) (di_seq (d_ix (dv 0) (d_int (fr := false)))) (gN_in (by decide)) (fun _ _ _ _ _ => dg_name 2 scope60.nd rfl (by first | exact Or.inl rfl | exact Or.inr rfl | exact Or.inr (Or.inl rfl))) (fun _ _ _ _ _ => dts_one (dw_pt (dw_and (dt_in (room_u hr (by decide)) (d_ix (dv 2) (d_int (fr := false))) (dv 1)) (dw_and1 (dt_nin (room_u hr (by decide)) (d_ix (dv 2) (d_int (fr := false))) (dv 1)))))) (fun _ _ _ _ _ => dv 2)) (d_lst (da_nil)))))
theorem scope61 : FnScope ["dispute", "lot", "claim", "struck"] ["dispute", "lot"] (defScope (top 61)) := ⟨rfl, rfl, rfl, by decide +kernel, rfl, by decide +kernel, by decide +kernel⟩
/-- _law_struck -/
def b__law_struck : SE := retS (ap1 srtSetD (lcE [2, 3] (itE (ap2 ixD (vr 0) (cst (.int 2)))) (gT [gN 2, gN 3]) (ap2 (inG false) (vr 2) (vr 1)) (vr 3)))
def s__law_struck : List D → M D := defM 4 b__law_struck
theorem g61 (a : Al K mg) : FnG P w K mg base 1 a.f61 a.fd61 ["dispute", "lot"] (spD K 2 s__law_struck) := by
  exact fnG_def (N := ["dispute", "lot", "claim", "struck"]) (ps := ["dispute", "lot"]) (fS := b__law_struck) a.F61 scope61 (by decide) fun p cdv A outer s H hr hg => dss_one (ds_ret (d_srtSet rfl (room_u hr (by decide)) rfl a.m_sorted rfl a.m_set (d_lc [("claim", 2), ("struck", 3)] (fun _ => rfl) rfl scope61.nd (blk_of (N := ["dispute", "lot", "claim", "struck"]) (sc := defScope (top 61)) (by decide +kernel)) (di_seq (d_ix (dv 0) (d_int (fr := false)))) (gT_in (gi_cons (gN_in (by decide)) (gi_cons (gN_in (by decide)) (gi_nil)))) (fun _ _ _ _ _ => dg_tup (tk := true) rfl (dgs_cons (dg_name 2 scope61.nd rfl (by first | exact Or.inl rfl | exact Or.inr rfl | exact Or.inr (Or.inl rfl))) (dgs_cons (dg_name 3 scope61.nd rfl (by first | exact Or.inl rfl | exact Or.inr rfl | exact Or.inr (Or.inl rfl))) (dgs_nil)))) (fun _ _ _ _ _ => dts_one (dt_in (room_u hr (by decide)) (dv 2) (dv 1))) (fun _ _ _ _ _ => dv 3))))
theorem scope62 : FnScope ["dispute", "lot", "struck", "claim", "near", "late"] ["dispute", "lot"] (defScope (top 62)) := ⟨rfl, rfl, rfl, by decide +kernel, rfl, by decide +kernel, by decide +kernel⟩
/-- _law_defends -/
def b__law_defends : SE := seqS (setS 2 (callE s__law_struck [vr 0, vr 1])) (retS (ap tupD [lcE [3] (rngE (ap2 ixD (vr 0) (cst (.int 1)))) (gN 3) (ap allD [lcE [4, 5] (itE (ap2 ixD (vr 0) (cst (.int 2)))) (gT [gN 4, gN 5]) (ap2 eqD (vr 5) (vr 3)) (ap2 (inG false) (vr 4) (vr 2))]) (vr 3)]))
def s__law_defends : List D → M D := defM 6 b__law_defends
theorem g62 (a : Al K mg) : FnG P w K mg base 2 a.f62 a.fd62 ["dispute", "lot"] (spD K 2 s__law_defends) := by
  have G61 := g61 (P := P) (w := w) (base := base) a
  exact fnG_def (N := ["dispute", "lot", "struck", "claim", "near", "late"]) (ps := ["dispute", "lot"]) (fS := b__law_defends) a.F62 scope62 (by decide) fun p cdv A outer s H hr hg => dss_cons (ds_set 2 scope62.nd rfl (by first | exact Or.inl rfl | exact Or.inr rfl | exact Or.inr (Or.inl rfl)) (d_call (G61.mono (by decide)) hr hg a.h61 a.F61.kp (a.F61.bindsN fun _ _ _ _ _ _ us hl => match us, hl with | [_, _], _ => rfl) (da_cons (dv 0) (da_cons (dv 1) (da_nil))))) (dss_one (ds_ret (d_tupC rfl a.m_tuple (d_lc [("claim", 3)] (fun z => z) rfl scope62.nd (blk_of (N := ["dispute", "lot", "struck", "claim", "near", "late"]) (sc := defScope (top 62)) (by decide +kernel)) (di_range1 rfl a.m_range (d_ix (dv 0) (d_int (fr := false)))) (gN_in (by decide)) (fun _ _ _ _ _ => dg_name 3 scope62.nd rfl (by first | exact Or.inl rfl | exact Or.inr rfl | exact Or.inr (Or.inl rfl))) (fun _ _ _ _ _ => dts_one (dt_val (d_all rfl rfl a.m_all (d_lc [("near", 4), ("late", 5)] (fun _ => rfl) rfl scope62.nd (blk_rel (blk_of (N := ["dispute", "lot", "struck", "claim", "near", "late"]) (by decide +kernel))) (di_seq (d_ix (dv 0) (d_int (fr := false)))) (gT_in (gi_cons (gN_in (by decide)) (gi_cons (gN_in (by decide)) (gi_nil)))) (fun _ _ _ _ _ => dg_tup (tk := true) rfl (dgs_cons (dg_name 4 scope62.nd rfl (by first | exact Or.inl rfl | exact Or.inr rfl | exact Or.inr (Or.inl rfl))) (dgs_cons (dg_name 5 scope62.nd rfl (by first | exact Or.inl rfl | exact Or.inr rfl | exact Or.inr (Or.inl rfl))) (dgs_nil)))) (fun _ _ _ _ _ => dts_one (dt_eq (room_u hr (by decide)) (dv 5) (dv 3))) (fun _ _ _ _ _ => d_in (room_u hr (by decide)) (dv 4) (dv 2)))))) (fun _ _ _ _ _ => dv 3)))))
theorem scope63 : FnScope ["dispute", "reading", "quiet", "upheld", "full", "lot", "claim", "other"] ["dispute", "reading"] (defScope (top 63)) := ⟨rfl, rfl, rfl, by decide +kernel, rfl, by decide +kernel, by decide +kernel⟩
/-- _law_lots -/
def b__law_lots : SE := seqS (setS 2 (lcE [5] (itE (callE s__law_every [ap2 ixD (vr 0) (cst (.int 1))])) (gN 5) (ap1 notD (ap anyD [lcE [6] (itE (callE s__law_struck [vr 0, vr 5])) (gN 6) (cst (.bool true)) (ap2 (inG false) (vr 6) (vr 5))])) (vr 5))) (seqS (setS 3 (lcE [5] (itE (vr 2)) (gN 5) (ap allD [lcE [6] (itE (vr 5)) (gN 6) (cst (.bool true)) (ap2 (inG false) (vr 6) (callE s__law_defends [vr 0, vr 5]))]) (vr 5))) (seqS (setS 4 (lcE [5] (itE (vr 3)) (gN 5) (ap2 eqD (callE s__law_defends [vr 0, vr 5]) (vr 5)) (vr 5))) (seqS (ifS (ap2 eqD (vr 1) (cst (.str "upheld"))) (retS (vr 3)) (nilS)) (seqS (ifS (ap2 eqD (vr 1) (cst (.str "full"))) (retS (vr 4)) (nilS)) (seqS (ifS (ap2 eqD (vr 1) (cst (.str "settled"))) (retS (lcE [5] (itE (vr 2)) (gN 5) (ap2 eqD (ap sortedG [ap2 addD (ap listD [vr 5]) (callE s__law_struck [vr 0, vr 5])]) (rgL (ap2 ixD (vr 0) (cst (.int 1))))) (vr 5))) (nilS)) (seqS (ifS (ap2 eqD (vr 1) (cst (.str "plain"))) (retS (lcE [5] (itE (vr 4)) (gN 5) (ap allD [lcE [7] (itE (vr 4)) (gN 7) (cst (.bool true)) (ap allD [lcE [6] (itE (vr 5)) (gN 6) (cst (.bool true)) (ap2 (inG false) (vr 6) (vr 7))])]) (vr 5))) (nilS)) (retS (lcE [5] (itE (vr 3)) (gN 5) (ap1 notD (ap anyD [lcE [7] (itE (vr 3)) (gN 7) (cst (.bool true)) (andE (ap2 neD (vr 7) (vr 5)) (ap allD [lcE [6] (itE (vr 5)) (gN 6) (cst (.bool true)) (ap2 (inG false) (vr 6) (vr 7))]))])) (vr 5)))))))))
def s__law_lots : List D → M D := defM 8 b__law_lots
theorem g63 (a : Al K mg) : FnG P w K mg base 3 a.f63 a.fd63 ["dispute", "reading"] (spD K 2 s__law_lots) := by
  have G59 := g59 (P := P) (w := w) (base := base) a
  have G61 := g61 (P := P) (w := w) (base := base) a
  have G62 := g62 (P := P) (w := w) (base := base) a
  exact fnG_def (N := ["dispute", "reading", "quiet", "upheld", "full", "lot", "claim", "other"]) (ps := ["dispute", "reading"]) (fS := b__law_lots) a.F63 scope63 (by decide) fun p cdv A outer s H hr hg => dss_cons (ds_setLc 2 [("lot", 5)] (fun z => z) rfl scope63.nd rfl rfl rfl (blk_of (N := ["dispute", "reading", "quiet", "upheld", "full", "lot", "claim", "other"]) (sc := defScope (top 63)) (by decide +kernel)) (di_seq (d_call (G59.mono (by decide)) hr hg a.h59 a.F59.kp (a.F59.bindsN fun _ _ _ _ _ _ us hl => match us, hl with | [_], _ => rfl) (da_cons (d_ix (dv 0) (d_int (fr := false))) (da_nil)))) (gN_in (by decide)) (fun _ _ _ _ _ => dg_name 5 scope63.nd rfl (by first | exact Or.inl rfl | exact Or.inr rfl | exact Or.inr (Or.inl rfl))) (fun _ _ _ _ _ => dts_one (dt_not (dt_val (d_any rfl rfl a.m_any (d_lc [("claim", 6)] (fun z => z) rfl scope63.nd (blk_rel (blk_of (N := ["dispute", "reading", "quiet", "upheld", "full", "lot", "claim", "other"]) (by decide +kernel))) (di_seq (d_call (G61.mono (by decide)) hr hg a.h61 a.F61.kp (a.F61.bindsN fun _ _ _ _ _ _ us hl => match us, hl with | [_, _], _ => rfl) (da_cons (dv 0) (da_cons (dv 5) (da_nil))))) (gN_in (by decide)) (fun _ _ _ _ _ => dg_name 6 scope63.nd rfl (by first | exact Or.inl rfl | exact Or.inr rfl | exact Or.inr (Or.inl rfl))) (fun _ _ _ _ _ => dts_nil) (fun _ _ _ _ _ => d_in (room_u hr (by decide)) (dv 6) (dv 5))))))) (fun _ _ _ _ _ => dv 5)) (dss_cons (ds_set 3 scope63.nd rfl (by first | exact Or.inl rfl | exact Or.inr rfl | exact Or.inr (Or.inl rfl)) (d_lc [("lot", 5)] (fun z => z) rfl scope63.nd (blk_of (N := ["dispute", "reading", "quiet", "upheld", "full", "lot", "claim", "other"]) (sc := defScope (top 63)) (by decide +kernel)) (di_seq (dv 2)) (gN_in (by decide)) (fun _ _ _ _ _ => dg_name 5 scope63.nd rfl (by first | exact Or.inl rfl | exact Or.inr rfl | exact Or.inr (Or.inl rfl))) (fun _ _ _ _ _ => dts_one (dt_val (d_all rfl rfl a.m_all (d_lc [("claim", 6)] (fun z => z) rfl scope63.nd (blk_rel (blk_of (N := ["dispute", "reading", "quiet", "upheld", "full", "lot", "claim", "other"]) (by decide +kernel))) (di_seq (dv 5)) (gN_in (by decide)) (fun _ _ _ _ _ => dg_name 6 scope63.nd rfl (by first | exact Or.inl rfl | exact Or.inr rfl | exact Or.inr (Or.inl rfl))) (fun _ _ _ _ _ => dts_nil) (fun _ _ _ _ _ => d_in (room_u hr (by decide)) (dv 6) (d_call (G62.mono (by decide)) hr hg a.h62 a.F62.kp (a.F62.bindsN fun _ _ _ _ _ _ us hl => match us, hl with | [_, _], _ => rfl) (da_cons (dv 0) (da_cons (dv 5) (da_nil))))))))) (fun _ _ _ _ _ => dv 5))) (dss_cons (ds_set 4 scope63.nd rfl (by first | exact Or.inl rfl | exact Or.inr rfl | exact Or.inr (Or.inl rfl)) (d_lc [("lot", 5)] (fun z => z) rfl scope63.nd (blk_of (N := ["dispute", "reading", "quiet", "upheld", "full", "lot", "claim", "other"]) (sc := defScope (top 63)) (by decide +kernel)) (di_seq (dv 3)) (gN_in (by decide)) (fun _ _ _ _ _ => dg_name 5 scope63.nd rfl (by first | exact Or.inl rfl | exact Or.inr rfl | exact Or.inr (Or.inl rfl))) (fun _ _ _ _ _ => dts_one (dt_eq (room_u hr (by decide)) (d_call (G62.mono (by decide)) hr hg a.h62 a.F62.kp (a.F62.bindsN fun _ _ _ _ _ _ us hl => match us, hl with | [_, _], _ => rfl) (da_cons (dv 0) (da_cons (dv 5) (da_nil)))) (dv 5))) (fun _ _ _ _ _ => dv 5))) (dss_cons (ds_if (dt_eq (room_u hr (by decide)) (dv 1) (d_str (fr := false))) (dss_one (ds_ret (dv 3))) (dss_nil)) (dss_cons (ds_if (dt_eq (room_u hr (by decide)) (dv 1) (d_str (fr := false))) (dss_one (ds_ret (dv 4))) (dss_nil)) (dss_cons (ds_if (dt_eq (room_u hr (by decide)) (dv 1) (d_str (fr := false))) (dss_one (ds_ret (d_lc [("lot", 5)] (fun z => z) rfl scope63.nd (blk_of (N := ["dispute", "reading", "quiet", "upheld", "full", "lot", "claim", "other"]) (sc := defScope (top 63)) (by decide +kernel)) (di_seq (dv 2)) (gN_in (by decide)) (fun _ _ _ _ _ => dg_name 5 scope63.nd rfl (by first | exact Or.inl rfl | exact Or.inr rfl | exact Or.inr (Or.inl rfl))) (fun _ _ _ _ _ => dts_one (dt_eq (room_u hr (by decide)) (d_sortedG (room_u hr (by decide)) rfl a.m_sorted (d_add (d_list rfl a.m_list (dv 5)) (d_call (G61.mono (by decide)) hr hg a.h61 a.F61.kp (a.F61.bindsN fun _ _ _ _ _ _ us hl => match us, hl with | [_, _], _ => rfl) (da_cons (dv 0) (da_cons (dv 5) (da_nil)))))) (d_lstRg rfl rfl a.m_list rfl a.m_range (d_ix (dv 0) (d_int (fr := false)))))) (fun _ _ _ _ _ => dv 5)))) (dss_nil)) (dss_cons (ds_if (dt_eq (room_u hr (by decide)) (dv 1) (d_str (fr := false))) (dss_one (ds_ret (d_lc [("lot", 5)] (fun z => z) rfl scope63.nd (blk_of (N := ["dispute", "reading", "quiet", "upheld", "full", "lot", "claim", "other"]) (sc := defScope (top 63)) (by decide +kernel)) (di_seq (dv 4)) (gN_in (by decide)) (fun _ _ _ _ _ => dg_name 5 scope63.nd rfl (by first | exact Or.inl rfl | exact Or.inr rfl | exact Or.inr (Or.inl rfl))) (fun _ _ _ _ _ => dts_one (dt_val (d_all rfl rfl a.m_all (d_lc [("other", 7)] (fun z => z) rfl scope63.nd (blk_rel (blk_of (N := ["dispute", "reading", "quiet", "upheld", "full", "lot", "claim", "other"]) (by decide +kernel))) (di_seq (dv 4)) (gN_in (by decide)) (fun _ _ _ _ _ => dg_name 7 scope63.nd rfl (by first | exact Or.inl rfl | exact Or.inr rfl | exact Or.inr (Or.inl rfl))) (fun _ _ _ _ _ => dts_nil) (fun _ _ _ _ _ => d_all rfl rfl a.m_all (d_lc [("claim", 6)] (fun z => z) rfl scope63.nd (blk_rel (blk_of (N := ["dispute", "reading", "quiet", "upheld", "full", "lot", "claim", "other"]) (by decide +kernel))) (di_seq (dv 5)) (gN_in (by decide)) (fun _ _ _ _ _ => dg_name 6 scope63.nd rfl (by first | exact Or.inl rfl | exact Or.inr rfl | exact Or.inr (Or.inl rfl))) (fun _ _ _ _ _ => dts_nil) (fun _ _ _ _ _ => d_in (room_u hr (by decide)) (dv 6) (dv 7)))))))) (fun _ _ _ _ _ => dv 5)))) (dss_nil)) (dss_one (ds_ret (d_lc [("lot", 5)] (fun z => z) rfl scope63.nd (blk_of (N := ["dispute", "reading", "quiet", "upheld", "full", "lot", "claim", "other"]) (sc := defScope (top 63)) (by decide +kernel)) (di_seq (dv 3)) (gN_in (by decide)) (fun _ _ _ _ _ => dg_name 5 scope63.nd rfl (by first | exact Or.inl rfl | exact Or.inr rfl | exact Or.inr (Or.inl rfl))) (fun _ _ _ _ _ => dts_one (dt_not (dt_val (d_any rfl rfl a.m_any (d_lc [("other", 7)] (fun z => z) rfl scope63.nd (blk_rel (blk_of (N := ["dispute", "reading", "quiet", "upheld", "full", "lot", "claim", "other"]) (by decide +kernel))) (di_seq (dv 3)) (gN_in (by decide)) (fun _ _ _ _ _ => dg_name 7 scope63.nd rfl (by first | exact Or.inl rfl | exact Or.inr rfl | exact Or.inr (Or.inl rfl))) (fun _ _ _ _ _ => dts_nil) (fun _ _ _ _ _ => d_and (d_ne (room_u hr (by decide)) (dv 7) (dv 5)) (d_one (d_all rfl rfl a.m_all (d_lc [("claim", 6)] (fun z => z) rfl scope63.nd (blk_rel (blk_of (N := ["dispute", "reading", "quiet", "upheld", "full", "lot", "claim", "other"]) (by decide +kernel))) (di_seq (dv 5)) (gN_in (by decide)) (fun _ _ _ _ _ => dg_name 6 scope63.nd rfl (by first | exact Or.inl rfl | exact Or.inr rfl | exact Or.inr (Or.inl rfl))) (fun _ _ _ _ _ => dts_nil) (fun _ _ _ _ _ => d_in (room_u hr (by decide)) (dv 6) (dv 7))))))))))) (fun _ _ _ _ _ => dv 5))))))))))
theorem scope64 : FnScope ["dispute", "claims", "loose", "strikes", "claim", "struck"] ["dispute", "claims", "loose"] (defScope (top 64)) := ⟨rfl, rfl, rfl, by decide +kernel, rfl, by decide +kernel, by decide +kernel⟩
theorem g64 (a : Al K mg) : FnG P w K mg base 1 a.f64 a.fd64 ["dispute", "claims", "loose"] (spD K 3 s__law_alone) := by
  exact fnG_def (N := ["dispute", "claims", "loose", "strikes", "claim", "struck"]) (ps := ["dispute", "claims", "loose"]) (fS := b__law_alone) a.F64 scope64 (by decide) fun p cdv A outer s H hr hg => dss_cons (ds_setLc 3 [("claim", 4), ("struck", 5)] (fun _ => rfl) rfl scope64.nd rfl rfl rfl (blk_of (N := ["dispute", "claims", "loose", "strikes", "claim", "struck"]) (sc := defScope (top 64)) (by decide +kernel)) (di_seq (d_ix (dv 0) (d_int (fr := false)))) (gT_in (gi_cons (gN_in (by decide)) (gi_cons (gN_in (by decide)) (gi_nil)))) (fun _ _ _ _ _ => dg_tup (tk := true) rfl (dgs_cons (dg_name 4 scope64.nd rfl (by first | exact Or.inl rfl | exact Or.inr rfl | exact Or.inr (Or.inl rfl))) (dgs_cons (dg_name 5 scope64.nd rfl (by first | exact Or.inl rfl | exact Or.inr rfl | exact Or.inr (Or.inl rfl))) (dgs_nil)))) (fun _ _ _ _ _ => dts_one (dw_pt (dw_and (dt_in (room_u hr (by decide)) (dv 4) (dv 1)) (dw_and1 (dt_in (room_u hr (by decide)) (dv 5) (dv 1)))))) (fun _ _ _ _ _ => d_tup (da_cons (d_idx (dv 1) (dv 4)) (da_cons (d_idx (dv 1) (dv 5)) (da_nil))))) (dss_one (ds_ret (d_tup (da_cons (d_str (fr := false)) (da_cons (d_len rfl a.m_len (dv 1)) (da_cons (d_tupC rfl a.m_tuple (d_srtSet rfl (room_u hr (by decide)) rfl a.m_sorted rfl a.m_set (d_add (dv 3) (d_lc [("claim", 4)] (fun z => z) rfl scope64.nd (blk_of (N := ["dispute", "claims", "loose", "strikes", "claim", "struck"]) (sc := defScope (top 64)) (by decide +kernel)) (di_seq (dv 2)) (gN_in (by decide)) (fun _ _ _ _ _ => dg_name 4 scope64.nd rfl (by first | exact Or.inl rfl | exact Or.inr rfl | exact Or.inr (Or.inl rfl))) (fun _ _ _ _ _ => dts_one (dt_in (room_u hr (by decide)) (dv 4) (dv 1))) (fun _ _ _ _ _ => d_tup (da_cons (d_idx (dv 1) (dv 4)) (da_cons (d_idx (dv 1) (dv 4)) (da_nil)))))))) (da_nil)))))))
theorem scope65 : FnScope ["dispute", "ahead", "lot", "struck", "claims", "open_ones", "loose", "claim", "late"] ["dispute", "ahead", "lot"] (defScope (top 65)) := ⟨rfl, rfl, rfl, by decide +kernel, rfl, by decide +kernel, by decide +kernel⟩
theorem g65 (a : Al K mg) : FnG P w K mg base 2 a.f65 a.fd65 ["dispute", "ahead", "lot"] (spD K 3 s__law_rest) := by
  have G64 := g64 (P := P) (w := w) (base := base) a
  exact fnG_def (N := ["dispute", "ahead", "lot", "struck", "claims", "open_ones", "loose", "claim", "late"]) (ps := ["dispute", "ahead", "lot"]) (fS := b__law_rest) a.F65 scope65 (by decide) fun p cdv A outer s H hr hg => dss_cons (ds_set 3 scope65.nd rfl (by first | exact Or.inl rfl | exact Or.inr rfl | exact Or.inr (Or.inl rfl)) (d_lc [("claim", 7), ("late", 8)] (fun _ => rfl) rfl scope65.nd (blk_of (N := ["dispute", "ahead", "lot", "struck", "claims", "open_ones", "loose", "claim", "late"]) (sc := defScope (top 65)) (by decide +kernel)) (di_seq (d_ix (dv 0) (d_int (fr := false)))) (gT_in (gi_cons (gN_in (by decide)) (gi_cons (gN_in (by decide)) (gi_nil)))) (fun _ _ _ _ _ => dg_tup (tk := true) rfl (dgs_cons (dg_name 7 scope65.nd rfl (by first | exact Or.inl rfl | exact Or.inr rfl | exact Or.inr (Or.inl rfl))) (dgs_cons (dg_name 8 scope65.nd rfl (by first | exact Or.inl rfl | exact Or.inr rfl | exact Or.inr (Or.inl rfl))) (dgs_nil)))) (fun _ _ _ _ _ => dts_one (dt_in (room_u hr (by decide)) (dv 7) (dv 2))) (fun _ _ _ _ _ => dv 8))) (dss_cons (ds_set 4 scope65.nd rfl (by first | exact Or.inl rfl | exact Or.inr rfl | exact Or.inr (Or.inl rfl)) (d_tupC rfl a.m_tuple (d_lc [("claim", 7)] (fun z => z) rfl scope65.nd (blk_of (N := ["dispute", "ahead", "lot", "struck", "claims", "open_ones", "loose", "claim", "late"]) (sc := defScope (top 65)) (by decide +kernel)) (di_range1 rfl a.m_range (d_ix (dv 0) (d_int (fr := false)))) (gN_in (by decide)) (fun _ _ _ _ _ => dg_name 7 scope65.nd rfl (by first | exact Or.inl rfl | exact Or.inr rfl | exact Or.inr (Or.inl rfl))) (fun _ _ _ _ _ => dts_one (dw_pt (dw_and (dt_nin (room_u hr (by decide)) (dv 7) (dv 1)) (dw_and1 (dt_nin (room_u hr (by decide)) (dv 7) (dv 3)))))) (fun _ _ _ _ _ => dv 7)))) (dss_cons (ds_set 5 scope65.nd rfl (by first | exact Or.inl rfl | exact Or.inr rfl | exact Or.inr (Or.inl rfl)) (d_lc [("claim", 7)] (fun z => z) rfl scope65.nd (blk_of (N := ["dispute", "ahead", "lot", "struck", "claims", "open_ones", "loose", "claim", "late"]) (sc := defScope (top 65)) (by decide +kernel)) (di_seq (dv 1)) (gN_in (by decide)) (fun _ _ _ _ _ => dg_name 7 scope65.nd rfl (by first | exact Or.inl rfl | exact Or.inr rfl | exact Or.inr (Or.inl rfl))) (fun _ _ _ _ _ => dts_one (dw_pt (dw_and (dt_nin (room_u hr (by decide)) (dv 7) (dv 2)) (dw_and1 (dt_nin (room_u hr (by decide)) (dv 7) (dv 3)))))) (fun _ _ _ _ _ => dv 7))) (dss_cons (ds_setLc 6 [("claim", 7), ("late", 8)] (fun _ => rfl) rfl scope65.nd rfl rfl rfl (blk_of (N := ["dispute", "ahead", "lot", "struck", "claims", "open_ones", "loose", "claim", "late"]) (sc := defScope (top 65)) (by decide +kernel)) (di_seq (d_ix (dv 0) (d_int (fr := false)))) (gT_in (gi_cons (gN_in (by decide)) (gi_cons (gN_in (by decide)) (gi_nil)))) (fun _ _ _ _ _ => dg_tup (tk := true) rfl (dgs_cons (dg_name 7 scope65.nd rfl (by first | exact Or.inl rfl | exact Or.inr rfl | exact Or.inr (Or.inl rfl))) (dgs_cons (dg_name 8 scope65.nd rfl (by first | exact Or.inl rfl | exact Or.inr rfl | exact Or.inr (Or.inl rfl))) (dgs_nil)))) (fun _ _ _ _ _ => dts_one (dt_in (room_u hr (by decide)) (dv 7) (dv 5))) (fun _ _ _ _ _ => dv 8)) (dss_one (ds_ret (d_ifx (dt_eq (room_u hr (by decide)) (dv 4) (d_tup (da_nil))) (d_tup (da_cons (d_non (fr := false)) (da_cons (d_tup (da_nil)) (da_nil)))) (d_tup (da_cons (d_call (G64.mono (by decide)) hr hg a.h64 a.F64.kp (a.F64.bindsN fun _ _ _ _ _ _ us hl => match us, hl with | [_, _, _], _ => rfl) (da_cons (dv 0) (da_cons (dv 4) (da_cons (dv 6) (da_nil))))) (da_cons (dv 4) (da_nil))))))))))
theorem scope66 : FnScope ["dispute", "ahead", "reading", "found", "lot", "late", "claims", "some", "one", "claim"] ["dispute", "ahead", "reading"] (defScope (top 66)) := ⟨rfl, rfl, rfl, by decide +kernel, rfl, by decide +kernel, by decide +kernel⟩
/-- _law_rows -/
def b__law_rows : SE := seqS (setB 3 (lstE [])) (seqS (forS (itE (ap sortedG [lcE [4] (itE (callE s__law_lots [callE s__law_alone [vr 0, vr 1, lstE []], vr 2])) (gN 4) (cst (.bool true)) (ap tupD [lcE [9] (itE (vr 4)) (gN 9) (cst (.bool true)) (ap2 ixD (vr 1) (vr 9))])])) (gN 4) (seqS (asgS (callE s__law_rest [vr 0, vr 1, vr 4]) (gT [gN 5, gN 6])) (seqS (setS 7 (iteE (ap2 (isG false) (vr 5) (cst .none)) (lstE [tupE []]) (lcE [8] (itE (callE s__law_lots [vr 5, vr 2])) (gN 8) (cst (.bool true)) (ap tupD [lcE [9] (itE (vr 8)) (gN 9) (cst (.bool true)) (ap2 ixD (vr 6) (vr 9))])))) (bldS 3 appH (tupE [vr 4, ap tupD [ap sortedG [vr 7]]]))))) (retS (vrC 3)))
def s__law_rows : List D → M D := defM 10 b__law_rows
theorem g66 (a : Al K mg) : FnG P w K mg base 4 a.f66 a.fd66 ["dispute", "ahead", "reading"] (spD K 3 s__law_rows) := by
  have G63 := g63 (P := P) (w := w) (base := base) a
  have G64 := g64 (P := P) (w := w) (base := base) a
  have G65 := g65 (P := P) (w := w) (base := base) a
  exact fnG_def (N := ["dispute", "ahead", "reading", "found", "lot", "late", "claims", "some", "one", "claim"]) (ps := ["dispute", "ahead", "reading"]) (fS := b__law_rows) a.F66 scope66 (by decide) fun p cdv A outer s H hr hg => dss_cons (ds_setB 3 scope66.nd rfl (by first | exact Or.inl rfl | exact Or.inr rfl | exact Or.inr (Or.inl rfl)) (d_lst (da_nil))) (dss_cons (ds_for (fun z => z) PassesOwn.never rfl (di_seq (d_sortedG (room_u hr (by decide)) rfl a.m_sorted (d_lc [("lot", 4)] (fun z => z) rfl scope66.nd (blk_of (N := ["dispute", "ahead", "reading", "found", "lot", "late", "claims", "some", "one", "claim"]) (sc := defScope (top 66)) (by decide +kernel)) (di_seq (d_call (G63.mono (by decide)) hr hg a.h63 a.F63.kp (a.F63.bindsN fun _ _ _ _ _ _ us hl => match us, hl with | [_, _], _ => rfl) (da_cons (d_call (G64.mono (by decide)) hr hg a.h64 a.F64.kp (a.F64.bindsN fun _ _ _ _ _ _ us hl => match us, hl with | [_, _, _], _ => rfl) (da_cons (dv 0) (da_cons (dv 1) (da_cons (d_lst (da_nil)) (da_nil))))) (da_cons (dv 2) (da_nil))))) (gN_in (by decide)) (fun _ _ _ _ _ => dg_name 4 scope66.nd rfl (by first | exact Or.inl rfl | exact Or.inr rfl | exact Or.inr (Or.inl rfl))) (fun _ _ _ _ _ => dts_nil) (fun _ _ _ _ _ => d_tupC rfl a.m_tuple (d_lc [("claim", 9)] (fun z => z) rfl scope66.nd (blk_rel (blk_of (N := ["dispute", "ahead", "reading", "found", "lot", "late", "claims", "some", "one", "claim"]) (by decide +kernel))) (di_seq (dv 4)) (gN_in (by decide)) (fun _ _ _ _ _ => dg_name 9 scope66.nd rfl (by first | exact Or.inl rfl | exact Or.inr rfl | exact Or.inr (Or.inl rfl))) (fun _ _ _ _ _ => dts_nil) (fun _ _ _ _ _ => d_ix (dv 1) (dv 9))))))) (dg_name 4 scope66.nd rfl (by first | exact Or.inl rfl | exact Or.inr rfl | exact Or.inr (Or.inl rfl))) (dss_cons (ds_asgT (d_call (G65.mono (by decide)) hr hg a.h65 a.F65.kp (a.F65.bindsN fun _ _ _ _ _ _ us hl => match us, hl with | [_, _, _], _ => rfl) (da_cons (dv 0) (da_cons (dv 1) (da_cons (dv 4) (da_nil))))) (dg_tup (tk := true) rfl (dgs_cons (dg_name 5 scope66.nd rfl (by first | exact Or.inl rfl | exact Or.inr rfl | exact Or.inr (Or.inl rfl))) (dgs_cons (dg_name 6 scope66.nd rfl (by first | exact Or.inl rfl | exact Or.inr rfl | exact Or.inr (Or.inl rfl))) (dgs_nil))))) (dss_cons (ds_set 7 scope66.nd rfl (by first | exact Or.inl rfl | exact Or.inr rfl | exact Or.inr (Or.inl rfl)) (d_ifx (dt_is  (dv 5) (d_non (fr := false))) (d_lst (da_cons (d_tup (da_nil)) (da_nil))) (d_lc [("one", 8)] (fun z => z) rfl scope66.nd (blk_of (N := ["dispute", "ahead", "reading", "found", "lot", "late", "claims", "some", "one", "claim"]) (sc := defScope (top 66)) (by decide +kernel)) (di_seq (d_call (G63.mono (by decide)) hr hg a.h63 a.F63.kp (a.F63.bindsN fun _ _ _ _ _ _ us hl => match us, hl with | [_, _], _ => rfl) (da_cons (dv 5) (da_cons (dv 2) (da_nil))))) (gN_in (by decide)) (fun _ _ _ _ _ => dg_name 8 scope66.nd rfl (by first | exact Or.inl rfl | exact Or.inr rfl | exact Or.inr (Or.inl rfl))) (fun _ _ _ _ _ => dts_nil) (fun _ _ _ _ _ => d_tupC rfl a.m_tuple (d_lc [("claim", 9)] (fun z => z) rfl scope66.nd (blk_rel (blk_of (N := ["dispute", "ahead", "reading", "found", "lot", "late", "claims", "some", "one", "claim"]) (by decide +kernel))) (di_seq (dv 8)) (gN_in (by decide)) (fun _ _ _ _ _ => dg_name 9 scope66.nd rfl (by first | exact Or.inl rfl | exact Or.inr rfl | exact Or.inr (Or.inl rfl))) (fun _ _ _ _ _ => dts_nil) (fun _ _ _ _ _ => d_ix (dv 6) (dv 9))))))) (dss_one (ds_append 3 rfl (by first | exact Or.inl rfl | exact Or.inr (Or.inl rfl) | exact Or.inr (Or.inr rfl)) (d_tup (da_cons (dv 4) (da_cons (d_tupC rfl a.m_tuple (d_sortedG (room_u hr (by decide)) rfl a.m_sorted (dv 7))) (da_nil))))))))) (dss_one (ds_ret (dvC 3))))
theorem scope67 : FnScope ["pot", "dispute", "shown", "every", "ahead", "reading", "due", "rows", "told", "fronts", "lot", "some", "claim"] ["pot"] (defScope (top 67)) := ⟨rfl, rfl, rfl, by decide +kernel, rfl, by decide +kernel, by decide +kernel⟩
/-- _law_right -/
def b__law_right : SE := seqS (setS 1 (callE (s__law_dispute 40692 4831 17) [vr 0, cst (.int 6)])) (seqS (setS 2 (ap reprD [vr 1])) (seqS (setS 3 (lcE [10] (itE (callE s__law_every [ap2 ixD (vr 1) (cst (.int 1))])) (gN 10) (callE s__law_is_ahead [vr 1, vr 10]) (vr 10))) (seqS (forS (itE (lstE [callE (s__law_pick 40692 4831 17) [vr 0, vr 3], callE (s__law_pick 40692 4831 17) [vr 0, vr 3]])) (gN 4) (forS (itE (lstE [cst (.str "upheld"), cst (.str "full"), cst (.str "greatest"), cst (.str "settled"), cst (.str "plain")])) (gN 5) (seqS (parS [6, 7] [(false, callE s__law_lots [vr 1, vr 5]), (false, callE s__law_rows [vr 1, vr 4, vr 5])]) (toldS 8 (callN s_split_rows [vr 1, vr 4, vr 5]) (callE (fun ds => s_split_rows (permL [2, 1, 0] ds)) [vr 5, vr 4, vr 1]) (ap2 neD (ap reprD [vr 8]) (ap reprD [lstE [vr 7, vr 7]])) (seqS (ifS (ap2 neD (ap reprD [callE s_split_rows [vr 1, vr 4, vr 5]]) (ap reprD [vr 7])) (retS (cst (.bool false))) (nilS)) (seqS (ifS (ap2 neD (ap reprD [lstE [callE s_lots_by_split [vr 1, vr 4, vr 5], callE (fun ds => s_lots_by_split (permL [2, 1, 0] ds)) [vr 5, vr 4, vr 1]]]) (ap reprD [lstE [vr 6, vr 6]])) (retS (cst (.bool false))) (nilS)) (seqS (setS 9 (lcE [10, 11] (itE (vr 7)) (gT [gN 10, gN 11]) (cst (.bool true)) (vr 10))) (seqS (ifS (ap1 notD (ap allD [lcE [10] (itE (vr 6)) (gN 10) (cst (.bool true)) (ap2 (inG false) (ap tupD [lcE [12] (itE (vr 10)) (gN 12) (ap2 (inG false) (vr 12) (vr 4)) (vr 12)]) (vr 9))])) (retS (cst (.bool false))) (nilS)) (ifS (andE (ap2 neD (vr 5) (cst (.str "settled"))) (ap1 notD (ap allD [lcE [10, 11] (itE (vr 7)) (gT [gN 10, gN 11]) (cst (.bool true)) (ap2 neD (vr 11) (tupE []))]))) (retS (cst (.bool false))) (nilS)))))))))) (retS (ap2 eqD (ap reprD [vr 1]) (vr 2))))))
def s__law_right : List D → M D := defM 13 b__law_right
theorem g67 (a : Al K mg) : FnG P w K mg base 10 a.f67 a.fd67 ["pot"] (spD K 1 s__law_right) := by
  have G56 := g56 (P := P) (w := w) (base := base) a
  have G59 := g59 (P := P) (w := w) (base := base) a
  have G60 := g60 (P := P) (w := w) (base := base) a
  have G55 := g55 (P := P) (w := w) (base := base) a
  have G63 := g63 (P := P) (w := w) (base := base) a
  have G66 := g66 (P := P) (w := w) (base := base) a
  have G50 := g50 (P := P) (w := w) (base := base) a
  have G51 := g51 (P := P) (w := w) (base := base) a
  exact fnG_def (N := ["pot", "dispute", "shown", "every", "ahead", "reading", "due", "rows", "told", "fronts", "lot", "some", "claim"]) (ps := ["pot"]) (fS := b__law_right) a.F67 scope67 (by decide) fun p cdv A outer s H hr hg => dss_cons (ds_set 1 scope67.nd rfl (by first | exact Or.inl rfl | exact Or.inr rfl | exact Or.inr (Or.inl rfl)) (d_call (G56.mono (by decide)) hr hg a.h56 a.F56.kp (a.F56.bindsN fun _ _ _ _ _ _ us hl => match us, hl with | [_, _], _ => rfl) (da_cons (dv 0) (da_cons (d_int (fr := false)) (da_nil))))) (dss_cons (ds_set 2 scope67.nd rfl (by first | exact Or.inl rfl | exact Or.inr rfl | exact Or.inr (Or.inl rfl)) (d_repr hg (room_u hr (by decide)) rfl a.m_repr (dv 1))) (dss_cons (ds_setLc 3 [("lot", 10)] (fun z => z) rfl scope67.nd rfl rfl rfl (blk_of (N := ["pot", "dispute", "shown", "every", "ahead", "reading", "due", "rows", "told", "fronts", "lot", "some", "claim"]) (sc := defScope (top 67)) (by decide +kernel)) (di_seq (d_call (G59.mono (by decide)) hr hg a.h59 a.F59.kp (a.F59.bindsN fun _ _ _ _ _ _ us hl => match us, hl with | [_], _ => rfl) (da_cons (d_ix (dv 1) (d_int (fr := false))) (da_nil)))) (gN_in (by decide)) (fun _ _ _ _ _ => dg_name 10 scope67.nd rfl (by first | exact Or.inl rfl | exact Or.inr rfl | exact Or.inr (Or.inl rfl))) (fun _ _ _ _ _ => dts_one (dt_val (d_call (G60.mono (by decide)) hr hg a.h60 a.F60.kp (a.F60.bindsN fun _ _ _ _ _ _ us hl => match us, hl with | [_, _], _ => rfl) (da_cons (dv 1) (da_cons (dv 10) (da_nil)))))) (fun _ _ _ _ _ => dv 10)) (dss_cons (ds_for (fun z => z) PassesOwn.never rfl (di_seq (d_lst (da_cons (d_call (G55.mono (by decide)) hr hg a.h55 a.F55.kp (a.F55.bindsN fun _ _ _ _ _ _ us hl => match us, hl with | [_, _], _ => rfl) (da_cons (dv 0) (da_cons (dv 3) (da_nil)))) (da_cons (d_call (G55.mono (by decide)) hr hg a.h55 a.F55.kp (a.F55.bindsN fun _ _ _ _ _ _ us hl => match us, hl with | [_, _], _ => rfl) (da_cons (dv 0) (da_cons (dv 3) (da_nil)))) (da_nil))))) (dg_name 4 scope67.nd rfl (by first | exact Or.inl rfl | exact Or.inr rfl | exact Or.inr (Or.inl rfl))) (dss_one (ds_for (fun z => z) PassesOwn.never rfl (di_seq (d_lst (da_cons (d_str (fr := false)) (da_cons (d_str (fr := false)) (da_cons (d_str (fr := false)) (da_cons (d_str (fr := false)) (da_cons (d_str (fr := false)) (da_nil)))))))) (dg_name 5 scope67.nd rfl (by first | exact Or.inl rfl | exact Or.inr rfl | exact Or.inr (Or.inl rfl))) (dss_cons (ds_par 6 7 rfl scope67.nd rfl rfl (by decide) rfl rfl (dp_cons false (d_call (G63.mono (by decide)) hr hg a.h63 a.F63.kp (a.F63.bindsN fun _ _ _ _ _ _ us hl => match us, hl with | [_, _], _ => rfl) (da_cons (dv 1) (da_cons (dv 5) (da_nil)))) (fun z => by cases z) (dp_cons false (d_call (G66.mono (by decide)) hr hg a.h66 a.F66.kp (a.F66.bindsN fun _ _ _ _ _ _ us hl => match us, hl with | [_, _, _], _ => rfl) (da_cons (dv 1) (da_cons (dv 4) (da_cons (dv 5) (da_nil))))) (fun z => by cases z) (dp_nil))) rfl rfl) (dss_told 8 scope67.nd rfl (by first | exact Or.inl rfl | exact Or.inr rfl | exact Or.inr (Or.inl rfl)) (by first | exact Or.inl rfl | exact Or.inr (Or.inl rfl) | exact Or.inr (Or.inr rfl)) (d_callN (G50.mono (by decide)) hr hg a.h50 a.F50.kp (a.F50.bindsN fun _ _ _ _ _ _ us hl => match us, hl with | [_, _, _], _ => rfl) (da_cons (dv 1) (da_cons (dv 4) (da_cons (dv 5) (da_nil))))) (d_callK [2, 1, 0] (G50.mono (by decide)) hr hg a.h50 a.F50.kp (kw_of (ps := ["dispute", "ahead", "reading"]) (ks := ["reading", "ahead", "dispute"]) a.F50 [2, 1, 0] (by decide) rfl (fun _ _ _ _ _ _ us hl => match us, hl with | [_, _, _], _ => rfl)) (dk_cons (dv 5) (dk_cons (dv 4) (dk_cons (dv 1) (dk_nil))))) (dt_ne (room_u hr (by decide)) (d_repr hg (room_u hr (by decide)) rfl a.m_repr (dv 8)) (d_repr hg (room_u hr (by decide)) rfl a.m_repr (d_lst (da_cons (dv 7) (da_cons (dv 7) (da_nil)))))) (dss_cons (ds_if (dt_ne (room_u hr (by decide)) (d_repr hg (room_u hr (by decide)) rfl a.m_repr (d_call (G50.mono (by decide)) hr hg a.h50 a.F50.kp (a.F50.bindsN fun _ _ _ _ _ _ us hl => match us, hl with | [_, _, _], _ => rfl) (da_cons (dv 1) (da_cons (dv 4) (da_cons (dv 5) (da_nil)))))) (d_repr hg (room_u hr (by decide)) rfl a.m_repr (dv 7))) (dss_one (ds_ret (d_bl (fr := false)))) (dss_nil)) (dss_cons (ds_if (dt_ne (room_u hr (by decide)) (d_repr hg (room_u hr (by decide)) rfl a.m_repr (d_lst (da_cons (d_call (G51.mono (by decide)) hr hg a.h51 a.F51.kp (a.F51.bindsN fun _ _ _ _ _ _ us hl => match us, hl with | [_, _, _], _ => rfl) (da_cons (dv 1) (da_cons (dv 4) (da_cons (dv 5) (da_nil))))) (da_cons (d_callK [2, 1, 0] (G51.mono (by decide)) hr hg a.h51 a.F51.kp (kw_of (ps := ["dispute", "ahead", "reading"]) (ks := ["reading", "ahead", "dispute"]) a.F51 [2, 1, 0] (by decide) rfl (fun _ _ _ _ _ _ us hl => match us, hl with | [_, _, _], _ => rfl)) (dk_cons (dv 5) (dk_cons (dv 4) (dk_cons (dv 1) (dk_nil))))) (da_nil))))) (d_repr hg (room_u hr (by decide)) rfl a.m_repr (d_lst (da_cons (dv 6) (da_cons (dv 6) (da_nil)))))) (dss_one (ds_ret (d_bl (fr := false)))) (dss_nil)) (dss_cons (ds_set 9 scope67.nd rfl (by first | exact Or.inl rfl | exact Or.inr rfl | exact Or.inr (Or.inl rfl)) (d_lc [("lot", 10), ("some", 11)] (fun _ => rfl) rfl scope67.nd (blk_of (N := ["pot", "dispute", "shown", "every", "ahead", "reading", "due", "rows", "told", "fronts", "lot", "some", "claim"]) (sc := defScope (top 67)) (by decide +kernel)) (di_seq (dv 7)) (gT_in (gi_cons (gN_in (by decide)) (gi_cons (gN_in (by decide)) (gi_nil)))) (fun _ _ _ _ _ => dg_tup (tk := true) rfl (dgs_cons (dg_name 10 scope67.nd rfl (by first | exact Or.inl rfl | exact Or.inr rfl | exact Or.inr (Or.inl rfl))) (dgs_cons (dg_name 11 scope67.nd rfl (by first | exact Or.inl rfl | exact Or.inr rfl | exact Or.inr (Or.inl rfl))) (dgs_nil)))) (fun _ _ _ _ _ => dts_nil) (fun _ _ _ _ _ => dv 10))) (dss_cons (ds_if (dt_not (dt_val (d_all rfl rfl a.m_all (d_lc [("lot", 10)] (fun z => z) rfl scope67.nd (blk_of (N := ["pot", "dispute", "shown", "every", "ahead", "reading", "due", "rows", "told", "fronts", "lot", "some", "claim"]) (sc := defScope (top 67)) (by decide +kernel)) (di_seq (dv 6)) (gN_in (by decide)) (fun _ _ _ _ _ => dg_name 10 scope67.nd rfl (by first | exact Or.inl rfl | exact Or.inr rfl | exact Or.inr (Or.inl rfl))) (fun _ _ _ _ _ => dts_nil) (fun _ _ _ _ _ => d_in (room_u hr (by decide)) (d_tupC rfl a.m_tuple (d_lc [("claim", 12)] (fun z => z) rfl scope67.nd (blk_rel (blk_of (N := ["pot", "dispute", "shown", "every", "ahead", "reading", "due", "rows", "told", "fronts", "lot", "some", "claim"]) (by decide +kernel))) (di_seq (dv 10)) (gN_in (by decide)) (fun _ _ _ _ _ => dg_name 12 scope67.nd rfl (by first | exact Or.inl rfl | exact Or.inr rfl | exact Or.inr (Or.inl rfl))) (fun _ _ _ _ _ => dts_one (dt_in (room_u hr (by decide)) (dv 12) (dv 4))) (fun _ _ _ _ _ => dv 12))) (dv 9)))))) (dss_one (ds_ret (d_bl (fr := false)))) (dss_nil)) (dss_one (ds_if (dw_pt (dw_and (dt_ne (room_u hr (by decide)) (dv 5) (d_str (fr := false))) (dw_and1 (dt_not (dt_val (d_all rfl rfl a.m_all (d_lc [("lot", 10), ("some", 11)] (fun _ => rfl) rfl scope67.nd (blk_of (N := ["pot", "dispute", "shown", "every", "ahead", "reading", "due", "rows", "told", "fronts", "lot", "some", "claim"]) (sc := defScope (top 67)) (by decide +kernel)) (di_seq (dv 7)) (gT_in (gi_cons (gN_in (by decide)) (gi_cons (gN_in (by decide)) (gi_nil)))) (fun _ _ _ _ _ => dg_tup (tk := true) rfl (dgs_cons (dg_name 10 scope67.nd rfl (by first | exact Or.inl rfl | exact Or.inr rfl | exact Or.inr (Or.inl rfl))) (dgs_cons (dg_name 11 scope67.nd rfl (by first | exact Or.inl rfl | exact Or.inr rfl | exact Or.inr (Or.inl rfl))) (dgs_nil)))) (fun _ _ _ _ _ => dts_nil) (fun _ _ _ _ _ => d_ne (room_u hr (by decide)) (dv 11) (d_tup (da_nil)))))))))) (dss_one (ds_ret (d_bl (fr := false)))) (dss_nil)))))))))))) (dss_one (ds_ret (d_eq (room_u hr (by decide)) (d_repr hg (room_u hr (by decide)) rfl a.m_repr (dv 1)) (dv 2)))))))
theorem have_al {h : Heap} {f : Addr} (X : K.In h) (G : h.Ns mainGlobals mg) (hfa : mg ("law" : Str) = some (.ref f)) (c : SaysE fa fn ex K) : ∃ a : Al K mg, a.f68 = f := by
  obtain ⟨c, cx⟩ := c
  obtain ⟨e1, F1⟩ := c.def_ 0 (d := d1) rfl
  obtain ⟨e2, F2⟩ := c.def_ 1 (d := d2) rfl
  obtain ⟨e3, F3⟩ := c.def_ 2 (d := d3) rfl
  obtain ⟨e4, F4⟩ := c.def_ 3 (d := d4) rfl
  obtain ⟨e5, F5⟩ := c.def_ 4 (d := d5) rfl
  obtain ⟨e20, F20⟩ := c.def_ 5 (d := d20) rfl
  obtain ⟨e21, F21⟩ := c.def_ 6 (d := d21) rfl
  obtain ⟨e22, F22⟩ := c.def_ 7 (d := d22) rfl
  obtain ⟨e23, F23⟩ := c.def_ 8 (d := d23) rfl
  obtain ⟨e24, F24⟩ := c.def_ 9 (d := d24) rfl
  obtain ⟨e25, F25⟩ := c.def_ 10 (d := d25) rfl
  obtain ⟨e27, F27⟩ := c.def_ 11 (d := d27) rfl
  obtain ⟨e28, F28⟩ := c.def_ 12 (d := d28) rfl
  obtain ⟨e29, F29⟩ := c.def_ 13 (d := d29) rfl
  obtain ⟨e30, F30⟩ := c.def_ 14 (d := d30) rfl
  obtain ⟨e31, F31⟩ := c.def_ 15 (d := d31) rfl
  obtain ⟨e32, F32⟩ := c.def_ 16 (d := d32) rfl
  obtain ⟨e33, F33⟩ := c.def_ 17 (d := d33) rfl
  obtain ⟨e34, F34⟩ := c.def_ 18 (d := d34) rfl
  obtain ⟨e35, F35⟩ := c.def_ 19 (d := d35) rfl
  obtain ⟨e36, F36⟩ := c.def_ 20 (d := d36) rfl
  obtain ⟨e37, F37⟩ := c.def_ 21 (d := d37) rfl
  obtain ⟨e38, F38⟩ := c.def_ 22 (d := d38) rfl
  obtain ⟨e39, F39⟩ := c.def_ 23 (d := d39) rfl
  obtain ⟨e41, F41⟩ := c.def_ 24 (d := d41) rfl
  obtain ⟨e42, F42⟩ := c.def_ 25 (d := d42) rfl
  obtain ⟨e44, F44⟩ := c.def_ 26 (d := d44) rfl
  obtain ⟨e45, F45⟩ := c.def_ 27 (d := d45) rfl
  obtain ⟨e46, F46⟩ := c.def_ 28 (d := d46) rfl
  obtain ⟨e47, F47⟩ := c.def_ 29 (d := d47) rfl
  obtain ⟨e48, F48⟩ := c.def_ 30 (d := d48) rfl
  obtain ⟨e49, F49⟩ := c.def_ 31 (d := d49) rfl
  obtain ⟨e50, F50⟩ := c.def_ 32 (d := d50) rfl
  obtain ⟨e51, F51⟩ := c.def_ 33 (d := d51) rfl
  obtain ⟨e53, F53⟩ := c.def_ 34 (d := d53) rfl
  obtain ⟨e54, F54⟩ := c.def_ 35 (d := d54) rfl
  obtain ⟨e55, F55⟩ := c.def_ 36 (d := d55) rfl
  obtain ⟨e56, F56⟩ := c.def_ 37 (d := d56) rfl
  obtain ⟨e57, F57⟩ := c.def_ 38 (d := d57) rfl
  obtain ⟨e58, F58⟩ := c.def_ 39 (d := d58) rfl
  obtain ⟨e59, F59⟩ := c.def_ 40 (d := d59) rfl
  obtain ⟨e60, F60⟩ := c.def_ 41 (d := d60) rfl
  obtain ⟨e61, F61⟩ := c.def_ 42 (d := d61) rfl
  obtain ⟨e62, F62⟩ := c.def_ 43 (d := d62) rfl
  obtain ⟨e63, F63⟩ := c.def_ 44 (d := d63) rfl
  obtain ⟨e64, F64⟩ := c.def_ 45 (d := d64) rfl
  obtain ⟨e65, F65⟩ := c.def_ 46 (d := d65) rfl
  obtain ⟨e66, F66⟩ := c.def_ 47 (d := d66) rfl
  obtain ⟨e67, F67⟩ := c.def_ 48 (d := d67) rfl
  obtain ⟨e68, F68⟩ := c.def_ 49 (d := d68) rfl
  have h1 := He.glo_ok X G (c.fact 0 (f := .glo "is_integer") rfl)
  have h2 := He.glo_ok X G (c.fact 1 (f := .glo "is_within") rfl)
  have h3 := He.glo_ok X G (c.fact 2 (f := .glo "is_tuple") rfl)
  have h4 := He.glo_ok X G (c.fact 3 (f := .glo "are_rising") rfl)
  have h5 := He.glo_ok X G (c.fact 4 (f := .glo "is_lot") rfl)
  have h20 := He.glo_ok X G (c.fact 5 (f := .glo "is_strike_among") rfl)
  have h21 := He.glo_ok X G (c.fact 6 (f := .glo "is_dispute_any") rfl)
  have h22 := He.glo_ok X G (c.fact 7 (f := .glo "is_lot_of") rfl)
  have h23 := He.glo_ok X G (c.fact 8 (f := .glo "is_reading_any") rfl)
  have h24 := He.glo_ok X G (c.fact 9 (f := .glo "want_dispute") rfl)
  have h25 := He.glo_ok X G (c.fact 10 (f := .glo "want_reading") rfl)
  have h27 := He.glo_ok X G (c.fact 11 (f := .glo "strikers_of") rfl)
  have h28 := He.glo_ok X G (c.fact 12 (f := .glo "struck_by") rfl)
  have h29 := He.glo_ok X G (c.fact 13 (f := .glo "defended_by") rfl)
  have h30 := He.glo_ok X G (c.fact 14 (f := .glo "is_quiet") rfl)
  have h31 := He.glo_ok X G (c.fact 15 (f := .glo "plain_of") rfl)
  have h32 := He.glo_ok X G (c.fact 16 (f := .glo "is_upheld") rfl)
  have h33 := He.glo_ok X G (c.fact 17 (f := .glo "is_full") rfl)
  have h34 := He.glo_ok X G (c.fact 18 (f := .glo "is_settled") rfl)
  have h35 := He.glo_ok X G (c.fact 19 (f := .glo "quiet_lots") rfl)
  have h36 := He.glo_ok X G (c.fact 20 (f := .glo "upheld_lots") rfl)
  have h37 := He.glo_ok X G (c.fact 21 (f := .glo "is_within_lot") rfl)
  have h38 := He.glo_ok X G (c.fact 22 (f := .glo "greatest_lots") rfl)
  have h39 := He.glo_ok X G (c.fact 23 (f := .glo "lots_of") rfl)
  have h41 := He.glo_ok X G (c.fact 24 (f := .glo "is_ahead_of") rfl)
  have h42 := He.glo_ok X G (c.fact 25 (f := .glo "want_ahead") rfl)
  have h44 := He.glo_ok X G (c.fact 26 (f := .glo "alone") rfl)
  have h45 := He.glo_ok X G (c.fact 27 (f := .glo "told_by") rfl)
  have h46 := He.glo_ok X G (c.fact 28 (f := .glo "rest_of") rfl)
  have h47 := He.glo_ok X G (c.fact 29 (f := .glo "rest_lots") rfl)
  have h48 := He.glo_ok X G (c.fact 30 (f := .glo "rows_of") rfl)
  have h49 := He.glo_ok X G (c.fact 31 (f := .glo "together_of") rfl)
  have h50 := He.glo_ok X G (c.fact 32 (f := .glo "split_rows") rfl)
  have h51 := He.glo_ok X G (c.fact 33 (f := .glo "lots_by_split") rfl)
  have h53 := He.glo_ok X G (c.fact 34 (f := .glo "_law_pot") rfl)
  have h54 := He.glo_ok X G (c.fact 35 (f := .glo "_law_draw") rfl)
  have h55 := He.glo_ok X G (c.fact 36 (f := .glo "_law_pick") rfl)
  have h56 := He.glo_ok X G (c.fact 37 (f := .glo "_law_dispute") rfl)
  have h57 := He.glo_ok X G (c.fact 38 (f := .glo "_law_is_int") rfl)
  have h58 := He.glo_ok X G (c.fact 39 (f := .glo "_law_is_lot") rfl)
  have h59 := He.glo_ok X G (c.fact 40 (f := .glo "_law_every") rfl)
  have h60 := He.glo_ok X G (c.fact 41 (f := .glo "_law_is_ahead") rfl)
  have h61 := He.glo_ok X G (c.fact 42 (f := .glo "_law_struck") rfl)
  have h62 := He.glo_ok X G (c.fact 43 (f := .glo "_law_defends") rfl)
  have h63 := He.glo_ok X G (c.fact 44 (f := .glo "_law_lots") rfl)
  have h64 := He.glo_ok X G (c.fact 45 (f := .glo "_law_alone") rfl)
  have h65 := He.glo_ok X G (c.fact 46 (f := .glo "_law_rest") rfl)
  have h66 := He.glo_ok X G (c.fact 47 (f := .glo "_law_rows") rfl)
  have h67 := He.glo_ok X G (c.fact 48 (f := .glo "_law_right") rfl)
  have h68 := He.glo_ok X G (c.fact 49 (f := .glo "law") rfl)
  have m_len := He.free_ok X G (c.fact 50 (f := .free "len") rfl)
  have m_isinstance := He.free_ok X G (c.fact 51 (f := .free "isinstance") rfl)
  have m_all := He.free_ok X G (c.fact 52 (f := .free "all") rfl)
  have m_any := He.free_ok X G (c.fact 53 (f := .free "any") rfl)
  have m_sorted := He.free_ok X G (c.fact 54 (f := .free "sorted") rfl)
  have m_set := He.free_ok X G (c.fact 55 (f := .free "set") rfl)
  have m_list := He.free_ok X G (c.fact 56 (f := .free "list") rfl)
  have m_tuple := He.free_ok X G (c.fact 57 (f := .free "tuple") rfl)
  have m_range := He.free_ok X G (c.fact 58 (f := .free "range") rfl)
  have m_repr := He.free_ok X G (c.fact 59 (f := .free "repr") rfl)
  have m_abs := He.free_ok X G (c.fact 60 (f := .free "abs") rfl)
  have m_max := He.free_ok X G (c.fact 61 (f := .free "max") rfl)
  have m_min := He.free_ok X G (c.fact 62 (f := .free "min") rfl)
  have m_int := He.free_ok X G (c.fact 63 (f := .free "int") rfl)
  have m_divmod := He.free_ok X G (c.fact 64 (f := .free "divmod") rfl)
  have m_zip := He.free_ok X G (c.fact 65 (f := .free "zip") rfl)
  have m_enumerate := He.free_ok X G (c.fact 66 (f := .free "enumerate") rfl)
  have m_dict := He.free_ok X G (c.fact 67 (f := .free "dict") rfl)
  have m_bool := He.free_ok X G (c.fact 68 (f := .free "bool") rfl)
  have m_str := He.free_ok X G (c.fact 69 (f := .free "str") rfl)
  have c_DISPUTE := He.str_ok X G (c.fact 70 (f := .str "DISPUTE" "dispute") rfl)
  have c_UPHELD := He.str_ok X G (c.fact 71 (f := .str "UPHELD" "upheld") rfl)
  have c_FULL := He.str_ok X G (c.fact 72 (f := .str "FULL" "full") rfl)
  have c_GREATEST := He.str_ok X G (c.fact 73 (f := .str "GREATEST" "greatest") rfl)
  have c_SETTLED := He.str_ok X G (c.fact 74 (f := .str "SETTLED" "settled") rfl)
  have c_PLAIN := He.str_ok X G (c.fact 75 (f := .str "PLAIN" "plain") rfl)
  have c_MOST_CLAIMS := He.int_ok X G (c.fact 76 (f := .int "MOST_CLAIMS" 10) rfl)
  have h_READINGS := He.glo_ok X G (c.fact 77 (f := .glo "READINGS") rfl)
  unfold ex at cx
  have t_READINGS := He.tupB_ok cx
  have e := hfa.symm.trans h68
  cases e
  exact ⟨{ f1 := _, fd1 := e1, F1 := F1, h1 := h1, f2 := _, fd2 := e2, F2 := F2, h2 := h2, f3 := _, fd3 := e3, F3 := F3, h3 := h3, f4 := _, fd4 := e4, F4 := F4, h4 := h4, f5 := _, fd5 := e5, F5 := F5, h5 := h5, f20 := _, fd20 := e20, F20 := F20, h20 := h20, f21 := _, fd21 := e21, F21 := F21, h21 := h21, f22 := _, fd22 := e22, F22 := F22, h22 := h22, f23 := _, fd23 := e23, F23 := F23, h23 := h23, f24 := _, fd24 := e24, F24 := F24, h24 := h24, f25 := _, fd25 := e25, F25 := F25, h25 := h25, f27 := _, fd27 := e27, F27 := F27, h27 := h27, f28 := _, fd28 := e28, F28 := F28, h28 := h28, f29 := _, fd29 := e29, F29 := F29, h29 := h29, f30 := _, fd30 := e30, F30 := F30, h30 := h30, f31 := _, fd31 := e31, F31 := F31, h31 := h31, f32 := _, fd32 := e32, F32 := F32, h32 := h32, f33 := _, fd33 := e33, F33 := F33, h33 := h33, f34 := _, fd34 := e34, F34 := F34, h34 := h34, f35 := _, fd35 := e35, F35 := F35, h35 := h35, f36 := _, fd36 := e36, F36 := F36, h36 := h36, f37 := _, fd37 := e37, F37 := F37, h37 := h37, f38 := _, fd38 := e38, F38 := F38, h38 := h38, f39 := _, fd39 := e39, F39 := F39, h39 := h39, f41 := _, fd41 := e41, F41 := F41, h41 := h41, f42 := _, fd42 := e42, F42 := F42, h42 := h42, f44 := _, fd44 := e44, F44 := F44, h44 := h44, f45 := _, fd45 := e45, F45 := F45, h45 := h45, f46 := _, fd46 := e46, F46 := F46, h46 := h46, f47 := _, fd47 := e47, F47 := F47, h47 := h47, f48 := _, fd48 := e48, F48 := F48, h48 := h48, f49 := _, fd49 := e49, F49 := F49, h49 := h49, f50 := _, fd50 := e50, F50 := F50, h50 := h50, f51 := _, fd51 := e51, F51 := F51, h51 := h51, f53 := _, fd53 := e53, F53 := F53, h53 := h53, f54 := _, fd54 := e54, F54 := F54, h54 := h54, f55 := _, fd55 := e55, F55 := F55, h55 := h55, f56 := _, fd56 := e56, F56 := F56, h56 := h56, f57 := _, fd57 := e57, F57 := F57, h57 := h57, f58 := _, fd58 := e58, F58 := F58, h58 := h58, f59 := _, fd59 := e59, F59 := F59, h59 := h59, f60 := _, fd60 := e60, F60 := F60, h60 := h60, f61 := _, fd61 := e61, F61 := F61, h61 := h61, f62 := _, fd62 := e62, F62 := F62, h62 := h62, f63 := _, fd63 := e63, F63 := F63, h63 := h63, f64 := _, fd64 := e64, F64 := F64, h64 := h64, f65 := _, fd65 := e65, F65 := F65, h65 := h65, f66 := _, fd66 := e66, F66 := F66, h66 := h66, f67 := _, fd67 := e67, F67 := F67, h67 := h67, f68 := _, fd68 := e68, F68 := F68, h68 := h68, m_len := m_len, m_isinstance := m_isinstance, m_all := m_all, m_any := m_any, m_sorted := m_sorted, m_set := m_set, m_list := m_list, m_tuple := m_tuple, m_range := m_range, m_repr := m_repr, m_abs := m_abs, m_max := m_max, m_min := m_min, m_int := m_int, m_divmod := m_divmod, m_zip := m_zip, m_enumerate := m_enumerate, m_dict := m_dict, m_bool := m_bool, m_str := m_str, c_DISPUTE := c_DISPUTE, c_UPHELD := c_UPHELD, c_FULL := c_FULL, c_GREATEST := c_GREATEST, c_SETTLED := c_SETTLED, c_PLAIN := c_PLAIN, c_MOST_CLAIMS := c_MOST_CLAIMS, a_READINGS := _, h_READINGS := h_READINGS, t_READINGS := t_READINGS }, rfl⟩
end Hd
namespace Hd
open PySem PySem.Spec PyProof.Rows L2 Sd Cm
variable {P : Program} {w : World} {K : PySem.W.Frag} {mg : Str → Option Value} {base : Heap} {f fP fR fR2 : Addr} {fd fdP fdR fdR2 : FuncData}
theorem scLaw : FnScope ["script", "k"] ["script"] (defScope (top 68)) := ⟨rfl, rfl, rfl, by decide +kernel, rfl, by decide +kernel, by decide +kernel⟩
theorem gLaw {n : Nat} {sem : List D → M D} (F : FunD K "law" "law" (defArgs (top 68)) (defBody (top 68)) (defScope (top 68)) [] [] f fd) (FP : FunD K "_law_pot" "_law_pot" (defArgs (top 53)) (defBody (top 53)) (defScope (top 53)) [] [] fP fdP) (FR : FunD K "_law_right" "_law_right" (defArgs (top 67)) (defBody (top 67)) (defScope (top 67)) [] [] fR fdR)
    (GP : FnG P w K mg base 1 fP fdP ["script", "k"] (spPot K)) (GR : FnG P w K mg base (n + 1) fR fdR ["pot"] (spD K 1 sem)) (hgP : mg "_law_pot" = some (.ref fP)) (hgR : mg "_law_right" = some (.ref fR))
    (m1 : mg "all" = none) (m2 : mg "range" = none) (m3 : mg "max" = none) (m4 : mg "min" = none) (m5 : mg "len" = none) (good : ∀ q, PotOk q → ∃ q', sem [potD] q = some (.bool true, q')) : FnG P w K mg base (n + 2) f fd ["script"] (spLaw K) := by
  have bP : Binds K fdP ["script", "k"] [] := FP.bindsN fun _ _ _ _ _ _ us hl => match us, hl with | [_, _], _ => rfl
  have bR : Binds K fdR ["pot"] [] := FR.bindsN fun _ _ _ _ _ _ us hl => match us, hl with | [_], _ => rfl
  refine fnG_of F scLaw fun cdv A outer s H vs Q hr hg len h => ⟨_, pss_one (ps_ret (pe_callB (cr_all rfl) rfl m1 (by decide +kernel) (pa_cons (pe_lc (own := [("k", 1)]) rfl scLaw.nd
    (pi_range1 rfl m2 (pa_cons (pe_callB (call_max2 rfl) rfl m3 (by decide +kernel) (pa_cons pe_int (pa_cons (pe_callB (call_min2 rfl) rfl m4 (by decide +kernel) (pa_cons pe_int (pa_cons (pe_callB call_len_seq rfl m5 (by decide +kernel) (pa_cons (pv 0) pa_nil)) pa_nil))) pa_nil))) pa_nil))
    (blk_of (N := ["script", "k"]) (sc := defScope (top 68)) (by decide +kernel)) (fun _ _ _ _ _ => pg_name (i := 1) scLaw.nd rfl (.inl rfl)) (fun _ _ _ _ _ => pts_nil)
    (fun _ _ _ _ _ => pe_callG GR hr hg rfl hgR FR.kp bR (pa_cons (pe_callG (GP.mono (by omega)) hr hg rfl hgP FP.kp bP (pa_cons (pv 0) (pa_cons (pv 1) pa_nil))) pa_nil))) pa_nil))), ?_⟩
  exact lawA_read good h (fun H R a ns hs k => by
    have t := turnsN_le (n := (ns.length : Int)) (by omega)
    refine ⟨.ref a, rfl, a, _, rfl, .inl hs, 2, _, rfl, 1, _, rfl, turnsN (ns.length : Int), ?_, by omega, by omega, k⟩
    rw [List.length_map]; rfl) fun o k H Q t => ⟨o, rfl, k, rfl, rfl, t⟩

end Hd
/-! the plain law's kit: data that are small, lists of ints, pairs -/
namespace Sd
open PySem PySem.Spec PyProof.Rows
/-! ### small data can be shown, compared, sorted -/
mutual
def sm : D → Bool
  | .none => true
  | .bool _ => true
  | .int i => decide (i.natAbs < 200)
  | .str x => (PyData.canLay0 (.str x) && PyData.strOk (PyData.shown (.str x))) && decide ((PyData.shown (.str x)).length ≤ 30)
  | .list ds => smL ds
  | .tuple ds => smL ds
  | .dict _ => false
def smL : List D → Bool
  | [] => true
  | d :: r => sm d && smL r
end
mutual
def wt : D → Nat
  | .none => 5
  | .bool _ => 5
  | .int _ => 5
  | .str _ => 30
  | .list ds => wtL ds + 4
  | .tuple ds => wtL ds + 4
  | .dict _ => 0
def wtL : List D → Nat
  | [] => 0
  | d :: r => wt d + 2 + wtL r
end
theorem int_tab : ((List.range 200).all fun n => decide ((PyData.shown (.int (n : Nat))).length ≤ 5) && decide ((PyData.shown (.int (-(n : Nat)))).length ≤ 5)) = true := by decide +kernel
theorem int_shown {i : Int} (h : i.natAbs < 200) : (PyData.shown (.int i)).length ≤ 5 := by
  have z := List.all_eq_true.mp int_tab i.natAbs (List.mem_range.mpr h)
  simp only [Bool.and_eq_true, decide_eq_true_eq] at z
  rcases Int.natAbs_eq i with e | e
  · rw [e]; exact z.1
  · rw [e]; exact z.2
theorem piled_le : ∀ {ds : List D}, (∀ d ∈ ds, (PyData.shown d).length ≤ wt d) → piled (PyData.shownAll ds) ≤ wtL ds
  | [], _ => by simp [PyData.shownAll, piled, wtL]
  | d :: ds, h => by
    have h1 := h d List.mem_cons_self
    have h2 := piled_le (ds := ds) fun e he => h e (List.mem_cons_of_mem _ he)
    simp only [PyData.shownAll, piled_cons, wtL]
    omega
theorem textFrom_le : ∀ (ts : List Str) (k : Nat) (acc : Str), (textFrom k acc ts).length ≤ acc.length + piled ts
  | [], _, _ => by simp [textFrom, piled]
  | t :: r, k, acc => by
    have h := textFrom_le r (k + 1) (acc ++ (if k > 0 then ", " else "" : String) ++ t)
    have e : (acc ++ (if k > 0 then ", " else "" : String) ++ t : Str).length ≤ acc.length + 2 + t.length := by
      rw [strLen_append, strLen_append]
      have z : ((if k > 0 then ", " else "" : String) : Str).length ≤ 2 := by
        split
        · decide +kernel
        · decide +kernel
      omega
    show (textFrom (k + 1) _ r).length ≤ _
    rw [piled_cons]
    omega
theorem join_le (ts : List Str) : (Str.join ", " ts).length ≤ piled ts := by
  cases ts with
  | nil => show (Str.join ", " []).length ≤ 0; decide +kernel
  | cons t r =>
    have h := join_length_add (t :: r) (by simp)
    omega
mutual
theorem shown_le : ∀ {d : D}, sm d = true → (PyData.shown d).length ≤ wt d
  | .none, _ => by show (PyData.shown .none).length ≤ 5; decide +kernel
  | .bool true, _ => by show (PyData.shown (.bool true)).length ≤ 5; decide +kernel
  | .bool false, _ => by show (PyData.shown (.bool false)).length ≤ 5; decide +kernel
  | .int i, h => int_shown (by simpa [sm] using h)
  | .str x, h => by simp only [sm, Bool.and_eq_true, decide_eq_true_eq] at h; exact h.2
  | .list ds, h => by
    have h2 := shownL_le (ds := ds) (by simpa [sm] using h)
    show (listText (PyData.shownAll ds)).length ≤ wtL ds + 4
    have h3 := piled_le h2
    have h4 := textFrom_le (PyData.shownAll ds) 0 "["
    have e1 : ("[" : Str).length = 1 := by decide +kernel
    have e2 : ("]" : Str).length = 1 := by decide +kernel
    unfold listText
    rw [strLen_append]
    omega
  | .tuple ds, h => by
    have h2 := shownL_le (ds := ds) (by simpa [sm] using h)
    show (tupleText (PyData.shownAll ds)).length ≤ wtL ds + 4
    have h3 := piled_le h2
    have h4 := join_le (PyData.shownAll ds)
    have e1 : ("(" : Str).length = 1 := by decide +kernel
    have e2 : ((if (PyData.shownAll ds).length == 1 then ",)" else ")" : String) : Str).length ≤ 2 := by
      split
      · decide +kernel
      · decide +kernel
    unfold tupleText
    rw [strLen_append, strLen_append]
    omega
  | .dict _, h => by simp [sm] at h
theorem shownL_le : ∀ {ds : List D}, smL ds = true → ∀ d ∈ ds, (PyData.shown d).length ≤ wt d
  | [], _, d, hd => by cases hd
  | e :: ds, h, d, hd => by
    simp only [smL, Bool.and_eq_true] at h
    rcases List.mem_cons.mp hd with z | z
    · rw [z]; exact shown_le h.1
    · exact shownL_le h.2 d z
end
mutual
theorem sm_show : ∀ {d : D}, sm d = true → d.showable = true
  | .none, _ => by simp [PyData.showable]
  | .bool _, _ => by simp [PyData.showable]
  | .str _, _ => by simp [PyData.showable]
  | .int i, h => by
    simp only [sm, decide_eq_true_eq] at h
    simp only [PyData.showable, decide_eq_true_eq]
    have z : i.natAbs.log2 ≤ i.natAbs := by
      by_cases c : i.natAbs = 0
      · rw [c]; decide
      · exact Nat.le_of_lt (Nat.log2_lt (by omega) |>.mpr (Nat.lt_two_pow_self))
    omega
  | .list ds, h => by simp only [PyData.showable]; exact smL_show (by simpa [sm] using h)
  | .tuple ds, h => by simp only [PyData.showable]; exact smL_show (by simpa [sm] using h)
  | .dict _, h => by simp [sm] at h
theorem smL_show : ∀ {ds : List D}, smL ds = true → PyData.showableAll ds = true
  | [], _ => by simp [PyData.showableAll]
  | d :: ds, h => by
    simp only [smL, Bool.and_eq_true] at h
    simp only [PyData.showableAll, sm_show h.1, smL_show h.2, Bool.and_self]
end
mutual
theorem sm_nod : ∀ {d : D}, sm d = true → nod d = true
  | .none, _ => by simp [nod]
  | .bool _, _ => by simp [nod]
  | .str _, _ => by simp [nod]
  | .int i, h => by simp [nod]
  | .list ds, h => by simp only [nod]; exact smL_nod (by simpa [sm] using h)
  | .tuple ds, h => by simp only [nod]; exact smL_nod (by simpa [sm] using h)
  | .dict _, h => by simp [sm] at h
theorem smL_nod : ∀ {ds : List D}, smL ds = true → nodL ds = true
  | [], _ => by simp [nodL]
  | d :: ds, h => by
    simp only [smL, Bool.and_eq_true] at h
    simp only [nodL, sm_nod h.1, smL_nod h.2, Bool.and_self]
end
mutual
theorem sm_lay : ∀ {d : D}, sm d = true → d.canLay0 = true
  | .none, _ => by simp [PyData.canLay0]
  | .bool _, _ => by simp [PyData.canLay0]
  | .str _, h => by simp only [sm, Bool.and_eq_true] at h; exact h.1.1
  | .int i, h => by simp [PyData.canLay0]
  | .list ds, h => by simp only [PyData.canLay0]; exact smL_lay (by simpa [sm] using h)
  | .tuple ds, h => by simp only [PyData.canLay0]; exact smL_lay (by simpa [sm] using h)
  | .dict _, h => by simp [sm] at h
theorem smL_lay : ∀ {ds : List D}, smL ds = true → PyData.canLayAll0 ds = true
  | [], _ => by simp [PyData.canLayAll0]
  | d :: ds, h => by
    simp only [smL, Bool.and_eq_true] at h
    simp only [PyData.canLayAll0, sm_lay h.1, smL_lay h.2, Bool.and_self]
end
end Sd
namespace Sd
open PySem PySem.Spec PyProof.Rows
theorem strOk_iff {x : Str} : PyData.strOk x = true ↔ ∀ k ∈ x.cps.toList, k < 0x110000 := by
  unfold PyData.strOk
  rw [← Array.all_toList, List.all_eq_true]
  simp
theorem strOk_app {a b : Str} (h1 : PyData.strOk a = true) (h2 : PyData.strOk b = true) : PyData.strOk (a ++ b) = true := by
  rw [strOk_iff] at *
  intro k hk
  exact (mem_cps_append.mp hk).elim (h1 k) (h2 k)
theorem strOk_join {sep : Str} {ts : List Str} (hs : PyData.strOk sep = true) (h : ∀ t ∈ ts, PyData.strOk t = true) : PyData.strOk (Str.join sep ts) = true := by
  rw [strOk_iff]
  intro k hk
  rcases (mem_join sep k ts).mp hk with ⟨t, h1, h2⟩ | ⟨_, h2⟩
  · exact strOk_iff.mp (h t h1) k h2
  · exact strOk_iff.mp hs k h2
mutual
theorem sm_ok : ∀ {d : D}, sm d = true → PyData.strOk d.shown = true
  | .none, _ => by decide +kernel
  | .bool true, _ => by decide +kernel
  | .bool false, _ => by decide +kernel
  | .int i, h => by
    rw [strOk_iff]
    intro k hk
    by_cases c : k < 0x110000
    · exact c
    · exact absurd hk (shown_int_free' (by omega) i)
  | .str x, h => by simp only [sm, Bool.and_eq_true] at h; exact h.1.2
  | .list ds, h => by
    rw [PyData.shown_list]
    exact strOk_app (strOk_app (by decide +kernel) (strOk_join (by decide +kernel) (smL_ok (by simpa [sm] using h)))) (by decide +kernel)
  | .tuple ds, h => by
    rw [PyData.shown_tuple]
    refine strOk_app (strOk_app (by decide +kernel) (strOk_join (by decide +kernel) (smL_ok (by simpa [sm] using h)))) ?_
    split <;> decide +kernel
  | .dict _, h => by simp [sm] at h
theorem smL_ok : ∀ {ds : List D}, smL ds = true → ∀ t ∈ PyData.shownAll ds, PyData.strOk t = true
  | [], _, t, ht => by rw [PyData.shownAll_nil] at ht; exact absurd ht (by simp)
  | d :: ds, h, t, ht => by
    simp only [smL, Bool.and_eq_true] at h
    rw [PyData.shownAll_cons, List.mem_cons] at ht
    rcases ht with e | ht
    · rw [e]; exact sm_ok h.1
    · exact smL_ok h.2 t ht
end
/-- small enough to be shown -/
def SD (d : D) : Prop := sm d = true ∧ d.depth ≤ 10 ∧ wt d ≤ 100000
theorem okR_of {d : D} (h : SD d) (hl : okR.isLT d = true) : okR d = true := by
  unfold okR
  have h1 := shown_le h.1
  have h2 := h.2.1
  have h3 := h.2.2
  simp only [Bool.and_eq_true, decide_eq_true_eq]
  exact ⟨⟨hl, sm_nod h.1⟩, sm_show h.1, by omega, by omega⟩
theorem repr_ev {d : D} (h : SD d) (hl : okR.isLT d = true) : reprD [d] = some (.str d.shown) := if_pos (okR_of h hl)
theorem shaped_shown {d : D} (h : SD d) : SeqAt.shaped (.str d.shown) = true := by
  have e := sm_ok h.1
  simp [SeqAt.shaped, PyData.canLay0, PyData.depth, e]
theorem eq_str {x : Str} (h : SeqAt.shaped (.str x) = true) : eqD (.str x) (.str x) = some (.bool true) := by
  unfold eqD
  rw [if_pos (by simp [h, nod])]
  simp [PyData.eqv]
end Sd
/-! the plain law's kit: comprehensions, memberships, sorted sets -/
namespace Sd
open PySem PySem.Spec PyProof.Rows
theorem depthAll_le {k : Nat} : ∀ {ds : List D}, (∀ d ∈ ds, d.depth ≤ k) → PyData.depthAll ds ≤ k
  | [], _ => by simp [PyData.depthAll]
  | d :: ds, h => by
    simp only [PyData.depthAll]
    exact Nat.max_le.mpr ⟨h d List.mem_cons_self, depthAll_le fun e he => h e (List.mem_cons_of_mem _ he)⟩
theorem smL_mem : ∀ {ds : List D}, smL ds = true ↔ ∀ d ∈ ds, sm d = true
  | [] => by simp [smL]
  | d :: ds => by
    simp only [smL, Bool.and_eq_true, smL_mem (ds := ds), List.mem_cons]
    exact ⟨fun h e he => he.elim (fun z => z ▸ h.1) (h.2 e), fun h => ⟨h d (.inl rfl), fun e he => h e (.inr he)⟩⟩
theorem wtL_le {k : Nat} : ∀ {ds : List D}, (∀ d ∈ ds, wt d ≤ k) → wtL ds ≤ ds.length * (k + 2)
  | [], _ => by simp [wtL]
  | d :: ds, h => by
    have h1 := h d List.mem_cons_self
    have h2 := wtL_le (ds := ds) fun e he => h e (List.mem_cons_of_mem _ he)
    simp only [wtL, List.length_cons, Nat.add_mul]
    omega
/-! ### ints, pairs -/
abbrev iD (n : Int) : D := .int n
def pD (z : Int × Int) : D := tupOf [z.1, z.2]
theorem pD_eq (z : Int × Int) : pD z = .tuple [.int z.1, .int z.2] := rfl
theorem intsOf_map : ∀ l : List Int, intsOf (l.map iD) = some l
  | [] => rfl
  | n :: l => by show (intsOf (l.map iD)).map (n :: ·) = _; rw [intsOf_map l]; rfl
theorem keysOf_map : ∀ l : List (List Int), keysOf (l.map tupOf) = some l
  | [] => rfl
  | k :: l => by
    show (match intsOf (k.map iD), keysOf (l.map tupOf) with
      | some k, some ks => some (k :: ks)
      | _, _ => none) = _
    rw [intsOf_map, keysOf_map l]
def keyP (z : Int × Int) : List Int := [z.1, z.2]
theorem pD_map (S : List (Int × Int)) : S.map pD = (S.map keyP).map tupOf := by rw [List.map_map]; rfl
/-- a number in a list or tuple of numbers -/
theorem eqv_int (a b : Int) : PyData.eqv (iD a) (iD b) = decide (a = b) := by
  show (a == b) = _
  exact Bool.beq_eq_decide_eq a b
theorem any_eqv (l : List Int) (k : Int) : (l.map iD).any (fun z => PyData.eqv z (iD k)) = decide (k ∈ l) := by
  induction l with
  | nil => simp
  | cons n l ih =>
    rw [List.map_cons, List.any_cons, ih, eqv_int]
    by_cases c : n = k
    · simp [c]
    · have c' : ¬ k = n := fun z => c z.symm
      simp [c, c']
theorem lay_ints : ∀ l : List Int, PyData.canLayAll0 (l.map iD) = true
  | [] => by simp [PyData.canLayAll0]
  | n :: l => by simp only [List.map_cons, PyData.canLayAll0, PyData.canLay0, lay_ints l, Bool.and_self]
theorem nod_ints : ∀ l : List Int, nodL (l.map iD) = true
  | [] => by simp [nodL]
  | n :: l => by simp only [List.map_cons, nodL, nod, nod_ints l, Bool.and_self]
theorem dep_ints (l : List Int) : PyData.depthAll (l.map iD) = 0 := by
  refine Nat.le_zero.mp (depthAll_le fun d hd => ?_)
  obtain ⟨n, _, rfl⟩ := List.mem_map.mp hd
  simp [PyData.depth]
theorem shaped_tI (l : List Int) : SeqAt.shaped (.tuple (l.map iD)) = true := by
  unfold SeqAt.shaped
  simp only [PyData.canLay0, PyData.depth, dep_ints, lay_ints, Bool.true_and, decide_eq_true_eq]
  omega
theorem shaped_lI (l : List Int) : SeqAt.shaped (.list (l.map iD)) = true := by
  unfold SeqAt.shaped
  simp only [PyData.canLay0, PyData.depth, dep_ints, lay_ints, Bool.true_and, decide_eq_true_eq]
  omega
theorem shaped_i (k : Int) : SeqAt.shaped (.int k) = true := by simp [SeqAt.shaped, PyData.canLay0, PyData.depth]
theorem in_tI (neg : Bool) (k : Int) (l : List Int) : inG neg (.int k) (.tuple (l.map iD)) = some (.bool (neg != decide (k ∈ l))) := by
  unfold inG
  show (if _ then _ else _) = _
  rw [if_pos (by simp [shaped_i, shaped_tI, nod, nod_ints]), any_eqv]
theorem in_lI (neg : Bool) (k : Int) (l : List Int) : inG neg (.int k) (.list (l.map iD)) = some (.bool (neg != decide (k ∈ l))) := by
  unfold inG
  show (if _ then _ else _) = _
  rw [if_pos (by simp [shaped_i, shaped_lI, nod, nod_ints]), any_eqv]
/-- == with () -/
theorem eq_nil (l : List Int) : eqD (.tuple (l.map iD)) (.tuple []) = some (.bool (decide (l = []))) := by
  unfold eqD
  have z : SeqAt.shaped (.tuple []) = true := shaped_tI []
  rw [if_pos (by simp [shaped_tI, nod, nod_ints, z, nodL])]
  cases l with
  | nil => simp [PyData.eqv, PyData.eqvAll]
  | cons n l => simp [PyData.eqv, PyData.eqvAll]
theorem eq_i (a b : Int) : eqD (.int a) (.int b) = some (.bool (decide (a = b))) := by
  unfold eqD
  rw [if_pos (by simp [shaped_i, nod]), eqv_int]
theorem ne_i (a b : Int) : neD (.int a) (.int b) = some (.bool (!decide (a = b))) := by
  unfold neD
  rw [if_pos (by simp [shaped_i, nod]), eqv_int]
/-! ### comprehensions -/
theorem bind_eq {α β : Type} {m : M α} {f : α → M β} {q q' : Pot} {a : α} (h : m q = some (a, q')) : M.bind m f q = f a q' := by
  unfold M.bind; rw [h]
theorem of_eq {α : Type} {o : Option α} {a : α} {q : Pot} (h : o = some a) : M.of o q = some (a, q) := by subst h; rfl
theorem lcGo_yes {own : List Nat} {g : Gd} {tt te : Env → M D} {ρ : Env} {x y : D} {xs ys : List D} {q q1 q2 q3 : Pot} {as : List (Nat × D)} (h1 : g x = some as) (h2 : tt (sets (wipeD ρ own) (as.map (·.1)) (cl as)) q = some (.bool true, q1)) (h3 : te (sets (wipeD ρ own) (as.map (·.1)) (cl as)) q1 = some (y, q2))
    (h4 : lcGo own g tt te ρ xs q2 = some (ys, q3)) : lcGo own g tt te ρ (x :: xs) q = some (y :: ys, q3) :=
  (bind_eq (of_eq h1)).trans ((bind_eq h2).trans ((bind_eq h3).trans ((bind_eq h4).trans rfl)))
theorem lcGo_no {own : List Nat} {g : Gd} {tt te : Env → M D} {ρ : Env} {x : D} {xs ys : List D} {q q1 q3 : Pot} {as : List (Nat × D)} (h1 : g x = some as) (h2 : tt (sets (wipeD ρ own) (as.map (·.1)) (cl as)) q = some (.bool false, q1))
    (h4 : lcGo own g tt te ρ xs q1 = some (ys, q3)) : lcGo own g tt te ρ (x :: xs) q = some (ys, q3) :=
  (bind_eq (of_eq h1)).trans ((bind_eq h2).trans h4)
theorem lcE_of {own : List Nat} {it : IE} {g : Gd} {tt te : Env → M D} {ρ : Env} {q q1 q2 : Pot} {xs ys : List D} (hit : it ρ q = some (xs, q1)) (hown : own.all (fun i => decide (i < ρ.length)) = true) (h : lcGo own g tt te ρ xs q1 = some (ys, q2)) : lcE own it g tt te ρ q = some (.list ys, q2) := by
  refine (bind_eq hit).trans ?_
  rw [if_pos hown]
  exact (bind_eq h).trans rfl
theorem lcGo_map {α : Type} {own : List Nat} {g : Gd} {tt te : Env → M D} {ρ : Env} {q : Pot} (e : α → D) (as : α → List (Nat × D)) (t : α → Bool) (y : α → D) : ∀ (L : List α),
    (∀ x ∈ L, g (e x) = some (as x) ∧ tt (sets (wipeD ρ own) ((as x).map (·.1)) (cl (as x))) q = some (.bool (t x), q) ∧ (t x = true → te (sets (wipeD ρ own) ((as x).map (·.1)) (cl (as x))) q = some (y x, q))) →
    lcGo own g tt te ρ (L.map e) q = some ((L.filter t).map y, q)
  | [], _ => rfl
  | x :: L, h => by
    obtain ⟨h1, h2, h3⟩ := h x List.mem_cons_self
    have ih := lcGo_map e as t y L fun z hz => h z (List.mem_cons_of_mem _ hz)
    rw [List.map_cons]
    cases c : t x with
    | true =>
      rw [c] at h2
      rw [List.filter_cons_of_pos c, List.map_cons]
      exact lcGo_yes h1 h2 (h3 c) ih
    | false =>
      rw [c] at h2
      rw [List.filter_cons_of_neg (by rw [c]; decide)]
      exact lcGo_no h1 h2 ih
theorem lcE_map {α : Type} {own : List Nat} {it : IE} {g : Gd} {tt te : Env → M D} {ρ : Env} {q q1 : Pot} (L : List α) (e : α → D) (as : α → List (Nat × D)) (t : α → Bool) (y : α → D) (hit : it ρ q = some (L.map e, q1)) (hown : own.all (fun i => decide (i < ρ.length)) = true)
    (h : ∀ x ∈ L, g (e x) = some (as x) ∧ tt (sets (wipeD ρ own) ((as x).map (·.1)) (cl (as x))) q1 = some (.bool (t x), q1) ∧ (t x = true → te (sets (wipeD ρ own) ((as x).map (·.1)) (cl (as x))) q1 = some (y x, q1))) :
    lcE own it g tt te ρ q = some (.list ((L.filter t).map y), q1) := lcE_of hit hown (lcGo_map e as t y L h)
open PySem.W (EachIs)
/-- with draws: what comes is of what it goes over, in its sequence -/
theorem lcGo_st {own : List Nat} {g : Gd} {tt te : Env → M D} {ρ : Env} {I : Pot → Prop} {R : D → D → Prop} : ∀ (xs : List D) (q : Pot), I q →
    (∀ x ∈ xs, ∀ q, I q → ∃ as b q1, g x = some as ∧ tt (sets (wipeD ρ own) (as.map (·.1)) (cl as)) q = some (.bool b, q1) ∧ I q1 ∧ (b = true → ∃ y q2, te (sets (wipeD ρ own) (as.map (·.1)) (cl as)) q1 = some (y, q2) ∧ I q2 ∧ R x y)) →
    ∃ (sub ys : List D) (q' : Pot), List.Sublist sub xs ∧ lcGo own g tt te ρ xs q = some (ys, q') ∧ I q' ∧ EachIs R sub ys
  | [], q, hq, _ => ⟨[], [], q, .slnil, rfl, hq, .nil⟩
  | x :: xs, q, hq, h => by
    obtain ⟨as, b, q1, h1, h2, h3, h4⟩ := h x List.mem_cons_self q hq
    cases b with
    | true =>
      obtain ⟨y, q2, h5, h6, h7⟩ := h4 rfl
      obtain ⟨sub, ys, q', i1, i2, i3, i4⟩ := lcGo_st xs q2 h6 fun z hz => h z (List.mem_cons_of_mem _ hz)
      exact ⟨x :: sub, y :: ys, q', i1.cons_cons x, lcGo_yes h1 h2 h5 i2, i3, .cons h7 i4⟩
    | false =>
      obtain ⟨sub, ys, q', i1, i2, i3, i4⟩ := lcGo_st xs q1 h3 fun z hz => h z (List.mem_cons_of_mem _ hz)
      exact ⟨sub, ys, q', i1.cons x, lcGo_no h1 h2 i2, i3, i4⟩
theorem lcE_st {own : List Nat} {it : IE} {g : Gd} {tt te : Env → M D} {ρ : Env} {q q1 : Pot} {I : Pot → Prop} {R : D → D → Prop} (xs : List D) (hit : it ρ q = some (xs, q1)) (hown : own.all (fun i => decide (i < ρ.length)) = true) (hq : I q1)
    (h : ∀ x ∈ xs, ∀ q, I q → ∃ as b q1, g x = some as ∧ tt (sets (wipeD ρ own) (as.map (·.1)) (cl as)) q = some (.bool b, q1) ∧ I q1 ∧ (b = true → ∃ y q2, te (sets (wipeD ρ own) (as.map (·.1)) (cl as)) q1 = some (y, q2) ∧ I q2 ∧ R x y)) :
    ∃ (sub ys : List D) (q' : Pot), List.Sublist sub xs ∧ lcE own it g tt te ρ q = some (.list ys, q') ∧ I q' ∧ EachIs R sub ys := by
  obtain ⟨sub, ys, q', i1, i2, i3, i4⟩ := lcGo_st xs q1 hq h
  exact ⟨sub, ys, q', i1, lcE_of hit hown i2, i3, i4⟩
theorem boolsOf_map {α : Type} (f : α → Bool) : ∀ L : List α, boolsOf (L.map fun x => (.bool (f x) : D)) = some (L.map f)
  | [] => rfl
  | x :: L => by show (boolsOf (L.map fun x => (.bool (f x) : D))).map (f x :: ·) = _; rw [boolsOf_map f L]; rfl
theorem all_map {α : Type} (f : α → Bool) (L : List α) : allD [.list (L.map fun x => .bool (f x))] = some (.bool (L.all f)) := by
  show (boolsOf _).map _ = _
  rw [boolsOf_map]
  simp [List.all_map]
theorem any_map {α : Type} (f : α → Bool) (L : List α) : anyD [.list (L.map fun x => .bool (f x))] = some (.bool (L.any f)) := by
  show (boolsOf _).map _ = _
  rw [boolsOf_map]
  simp [List.any_map]
/-! ### sorted -/
theorem alike_ints : ∀ a b : List Int, PySem.W.alikeAll (a.map iD) (b.map iD) = true
  | [], _ => by simp [PySem.W.alikeAll]
  | _ :: _, [] => by simp [PySem.W.alikeAll]
  | x :: a, y :: b => by simp only [List.map_cons, PySem.W.alikeAll, PySem.W.alike, alike_ints a b, Bool.and_self]
theorem okS_any (L : List (List Int)) : okS (L.map tupOf) = true := by
  unfold okS alikeB sortB
  simp only [Bool.and_eq_true]
  refine ⟨?_, ?_, ?_, ?_⟩
  · rw [List.all_eq_true]; intro d hd
    rw [List.all_eq_true]; intro e he
    obtain ⟨a, _, rfl⟩ := List.mem_map.mp hd
    obtain ⟨b, _, rfl⟩ := List.mem_map.mp he
    show PySem.W.alike (.tuple _) (.tuple _) = true
    simp only [PySem.W.alike]
    exact alike_ints a b
  · rw [Bool.or_eq_true, Bool.or_eq_true]
    by_cases c : [] ∈ L
    · right; right
      rw [Bool.and_eq_true]
      refine ⟨?_, List.any_eq_true.mpr ⟨tupOf [], List.mem_map.mpr ⟨[], c, rfl⟩, rfl⟩⟩
      rw [List.all_eq_true]; intro d hd
      obtain ⟨a, ha, rfl⟩ := List.mem_map.mp hd
      rfl
    · left
      rw [List.all_eq_true]; intro d hd
      obtain ⟨a, ha, rfl⟩ := List.mem_map.mp hd
      cases a with
      | nil => exact absurd ha c
      | cons x r => rfl
  · rw [nodL_all, List.all_eq_true]; intro d hd
    obtain ⟨a, _, rfl⟩ := List.mem_map.mp hd
    show nod (.tuple _) = true
    simp only [nod]; exact nod_ints a
  · rw [List.all_eq_true]; intro d hd
    obtain ⟨a, _, rfl⟩ := List.mem_map.mp hd
    have z : (tupOf a).depth = 1 := by show PyData.depthAll (a.map iD) + 1 = 1; rw [dep_ints]
    rw [z]; decide
theorem okS_tups {L : List (List Int)} (h : ∀ k ∈ L, k ≠ []) : okS (L.map tupOf) = true := okS_any L
theorem sorted_any (L : List (List Int)) : sortedD [.list (L.map tupOf)] = some (.list ((sortK L).map tupOf)) := by
  show (if okS (L.map tupOf) = true then some (PyData.list (srt (L.map tupOf))) else none) = _
  rw [if_pos (okS_any L), srt_tups]
theorem sorted_tups (L : List (List Int)) (h : ∀ k ∈ L, k ≠ []) : sortedD [.list (L.map tupOf)] = some (.list ((sortK L).map tupOf)) := sorted_any L
theorem srtSet_ints (l : List Int) (h1 : l.length ≤ 4000) (h2 : (dedI l).length < 64) : srtSetD (.list (l.map iD)) = some (.list ((sortI (dedI l)).map iD)) := by
  unfold srtSetD
  simp only [intsOf_map]
  rw [if_pos ⟨h1, h2⟩]
theorem srtSet_tups (L : List (List Int)) (ne : L ≠ []) (h : ∀ k ∈ L, k ≠ []) (h2 : (ded L).length ≤ 76) : srtSetD (.list (L.map tupOf)) = some (.list ((sortK (ded L)).map tupOf)) := by
  unfold srtSetD
  have e : intsOf (L.map tupOf) = none := by
    cases L with
    | nil => exact absurd rfl ne
    | cons k L => rfl
  simp only [e, keysOf_map]
  rw [if_pos ⟨h2, okS_tups fun k hk => h k (mem_ded.mp hk)⟩]
theorem srtSet_any (L : List (List Int)) (h : ∀ k ∈ L, k ≠ []) (h2 : (ded L).length ≤ 76) : srtSetD (.list (L.map tupOf)) = some (.list ((sortK (ded L)).map tupOf)) := by
  by_cases ne : L = []
  · subst ne
    show srtSetD (.list ([].map iD)) = _
    rw [srtSet_ints [] (by simp) (by simp [dedI])]
    simp [sortI, sortK, ded, dedI]
  · exact srtSet_tups L ne h h2
theorem sortK_ded {a b : List (List Int)} (h : ∀ x, x ∈ a ↔ x ∈ b) : sortK (ded a) = sortK (ded b) := sortK_of_perm (perm_of_mem (nodup_ded a) (nodup_ded b) fun x => by rw [mem_ded, mem_ded, h])
end Sd
/-! the plain law's kit: running the meanings -/
namespace Sd
open PySem PySem.Spec PyProof.Rows
section
variable {f g c : SE} {ex t : Env → M D} {fs : List (Env → M D)} {ρ ρ' : Env} {q q1 q2 : Pot} {d e : D} {ds : List D} {n i : Nat} {φ : List D → M D}
theorem def_rt (h : f (startE n ds) q = some ((.rt d, ρ), q1)) : defM n f ds q = some (d, q1) := (bind_eq h).trans rfl
theorem def_nx (h : f (startE n ds) q = some ((.nx, ρ), q1)) : defM n f ds q = some (.none, q1) := (bind_eq h).trans rfl
theorem seq_nx (h : f ρ q = some ((.nx, ρ'), q1)) : seqS f g ρ q = g ρ' q1 := bind_eq h
theorem seq_rt (h : f ρ q = some ((.rt d, ρ'), q1)) : seqS f g ρ q = some ((.rt d, ρ'), q1) := (bind_eq h).trans rfl
theorem set_ev (h : ex ρ q = some (d, q1)) : setS i ex ρ q = some ((.nx, ρ.set i (some (false, d))), q1) := (bind_eq h).trans rfl
theorem ret_ev (h : ex ρ q = some (d, q1)) : retS ex ρ q = some ((.rt d, ρ), q1) := (bind_eq h).trans rfl
theorem exp_ev (h : ex ρ q = some (d, q1)) : exprS ex ρ q = some ((.nx, ρ), q1) := (bind_eq h).trans rfl
theorem if_t (h : ex ρ q = some (.bool true, q1)) : ifS ex f g ρ q = f ρ q1 := bind_eq h
theorem if_f (h : ex ρ q = some (.bool false, q1)) : ifS ex f g ρ q = g ρ q1 := bind_eq h
theorem and_t (h : ex ρ q = some (.bool true, q1)) : andE ex t ρ q = t ρ q1 := bind_eq h
theorem and_f (h : ex ρ q = some (.bool false, q1)) : andE ex t ρ q = some (.bool false, q1) := (bind_eq h).trans rfl
theorem or_t (h : ex ρ q = some (.bool true, q1)) : orE ex t ρ q = some (.bool true, q1) := (bind_eq h).trans rfl
theorem or_f (h : ex ρ q = some (.bool false, q1)) : orE ex t ρ q = t ρ q1 := bind_eq h
theorem seq_n {r : Option ((Fl × Env) × Pot)} (h : f ρ q = some ((.nx, ρ'), q1)) (h2 : g ρ' q1 = r) : seqS f g ρ q = r := (seq_nx h).trans h2
theorem if_tt {r : Option ((Fl × Env) × Pot)} (h : ex ρ q = some (.bool true, q1)) (h2 : f ρ q1 = r) : ifS ex f g ρ q = r := (if_t h).trans h2
theorem if_ff {r : Option ((Fl × Env) × Pot)} (h : ex ρ q = some (.bool false, q1)) (h2 : g ρ q1 = r) : ifS ex f g ρ q = r := (if_f h).trans h2
theorem and_tt {r : Option (D × Pot)} (h : ex ρ q = some (.bool true, q1)) (h2 : t ρ q1 = r) : andE ex t ρ q = r := (and_t h).trans h2
theorem or_ff {r : Option (D × Pot)} (h : ex ρ q = some (.bool false, q1)) (h2 : t ρ q1 = r) : orE ex t ρ q = r := (or_f h).trans h2
theorem ite_t {th el : Env → M D} {r : Option (D × Pot)} (h : ex ρ q = some (.bool true, q1)) (h2 : th ρ q1 = r) : iteE ex th el ρ q = r := (bind_eq h).trans h2
theorem ite_f {th el : Env → M D} {r : Option (D × Pot)} (h : ex ρ q = some (.bool false, q1)) (h2 : el ρ q1 = r) : iteE ex th el ρ q = r := (bind_eq h).trans h2
theorem bind2 {α β : Type} {m : M α} {k : α → M β} {a : α} {r : Option (β × Pot)} (h : m q = some (a, q1)) (h2 : k a q1 = r) : M.bind m k q = r := (bind_eq h).trans h2
theorem and_b {a b : Bool} (h : ex ρ q = some (.bool a, q)) (h2 : t ρ q = some (.bool b, q)) : andE ex t ρ q = some (.bool (a && b), q) := by
  cases a with
  | true => rw [and_t h, h2]; rfl
  | false => rw [and_f h]; rfl
theorem ap1_ev {h : D → Option D} (h1 : ex ρ q = some (d, q1)) (h2 : h d = some e) : ap1 h ex ρ q = some (e, q1) := (bind_eq h1).trans (of_eq h2)
theorem ap2_ev {h : D → D → Option D} {e1 : D} (h1 : ex ρ q = some (d, q1)) (h2 : t ρ q1 = some (e1, q2)) (h3 : h d e1 = some e) : ap2 h ex t ρ q = some (e, q2) := (bind_eq h1).trans ((bind_eq h2).trans (of_eq h3))
theorem sq_nil : seqE [] ρ q = some ([], q) := rfl
theorem sq_cons (h1 : ex ρ q = some (d, q1)) (h2 : seqE fs ρ q1 = some (ds, q2)) : seqE (ex :: fs) ρ q = some (d :: ds, q2) := (bind_eq h1).trans ((bind_eq h2).trans rfl)
theorem ap_ev {h : List D → Option D} (h1 : seqE fs ρ q = some (ds, q1)) (h2 : h ds = some e) : ap h fs ρ q = some (e, q1) := (bind_eq h1).trans (of_eq h2)
theorem ap_1 {h : List D → Option D} (h1 : ex ρ q = some (d, q1)) (h2 : h [d] = some e) : ap h [ex] ρ q = some (e, q1) := ap_ev (sq_cons h1 sq_nil) h2
theorem call_ev (h1 : seqE fs ρ q = some (ds, q1)) (h2 : φ ds q1 = some (e, q2)) : callE φ fs ρ q = some (e, q2) := (bind_eq h1).trans h2
theorem tup_ev (h1 : seqE fs ρ q = some (ds, q1)) : tupE fs ρ q = some (.tuple ds, q1) := (bind_eq h1).trans rfl
theorem lst_ev (h1 : seqE fs ρ q = some (ds, q1)) : lstE fs ρ q = some (.list ds, q1) := (bind_eq h1).trans rfl
theorem it_ev {xs : List D} (h1 : ex ρ q = some (d, q1)) (h2 : items d = some xs) : itE ex ρ q = some (xs, q1) := (bind_eq h1).trans (of_eq h2)
theorem rng_ev {j : Int} (h1 : ex ρ q = some (.int j, q1)) (h2 : -1000000 ≤ j ∧ j ≤ 1000000) : rngE ex ρ q = some ((List.range j.toNat).map fun i => .int (i : Nat), q1) := by
  refine (bind_eq h1).trans ?_
  show (if _ then _ else _ : M (List D)) q1 = _
  rw [if_pos h2]; rfl
end
theorem chain_tt {g1 g2 : D → D → Option D} {f1 f2 f3 : Env → M D} {ρ : Env} {q : Pot} {x y w r : D} (h1 : f1 ρ q = some (x, q)) (h2 : f2 ρ q = some (y, q)) (h : g1 x y = some (.bool true)) (h3 : f3 ρ q = some (w, q)) (h4 : g2 y w = some r) : chainE g1 g2 f1 f2 f3 ρ q = some (r, q) :=
  bind2 h1 (bind2 h2 (bind2 (of_eq h) (show M.bind (f3 ρ) _ q = _ from bind2 h3 (of_eq h4))))
theorem ne_str {x : Str} (h : SeqAt.shaped (.str x) = true) : neD (.str x) (.str x) = some (.bool false) := by
  unfold neD
  rw [if_pos (by simp [h, nod])]
  simp [PyData.eqv]
/-- the rest behind the first -/
theorem cut_1 (ds : List D) : cutD ds (some 1) none = ds.drop 1 := by
  unfold cutD
  cases ds with
  | nil => rfl
  | cons d r =>
    have e1 : HT.sIx (d :: r).length 0 (some 1) = 1 := by
      unfold HT.sIx
      simp
    have e2 : HT.sIx (d :: r).length (d :: r).length none = (d :: r).length := rfl
    rw [e1, e2]
    simp
theorem zip_drop {α β : Type} (f : α → β) (l : List α) : (l.map f).zip ((l.map f).drop 1) = (l.zip (l.drop 1)).map fun z => (f z.1, f z.2) := by
  rw [← List.map_drop, List.zip_map]
  rfl
theorem pw_next {α : Type} {R : α → α → Prop} : ∀ {l : List α}, l.Pairwise R → ∀ z ∈ l.zip (l.drop 1), R z.1 z.2
  | [], _, z, hz => by simp at hz
  | [_], _, z, hz => by simp at hz
  | a :: b :: r, h, z, hz => by
    have hz' : z ∈ (a, b) :: ((b :: r).zip r) := hz
    rcases List.mem_cons.mp hz' with e | e
    · rw [e]; exact (List.pairwise_cons.mp h).1 b List.mem_cons_self
    · exact pw_next (List.pairwise_cons.mp h).2 z e
/-! ### lots and disputes -/
abbrev tpI (l : List Int) : D := .tuple (l.map iD)
abbrev tpP (S : List (Int × Int)) : D := .tuple (S.map pD)
def ltP (z w : Int × Int) : Prop := z.1 < w.1 ∨ (z.1 = w.1 ∧ z.2 < w.2)
instance (z w : Int × Int) : Decidable (ltP z w) := by unfold ltP; infer_instance
theorem ltD_p (z w : Int × Int) : ltD (pD z) (pD w) = some (.bool (decide (ltP z w))) := by
  show some (PyData.bool (HT.lexLt [z.1, z.2] [w.1, w.2])) = _
  congr 2
  unfold ltP
  simp only [HT.lexLt]
  by_cases h1 : z.1 < w.1
  · have h2 : ¬ z.1 = w.1 := by omega
    simp [h1, h2]
  · by_cases h2 : z.1 = w.1
    · by_cases h3 : z.2 < w.2
      · have h4 : ¬ z.2 = w.2 := by omega
        simp [h2, h3, h4]
      · simp [h2, h3]
    · simp [h1, h2]
/-- drawn numbers -/
def PotOk' (q : Pot) : Prop := 0 ≤ q.1 ∧ 0 ≤ q.2 ∧ q.2 < 4294967296
theorem draw_ev (A B C m : Int) (hm : 0 < m ∧ m < 1073741824) {q : Pot} (h : PotOk' q) : ∃ r q', drawS A B C [potD, .int m] q = some (.int r, q') ∧ 0 ≤ r ∧ r < m ∧ PotOk' q' := by
  refine ⟨(drawN A B C m q).1, (drawN A B C m q).2, ?_, ?_⟩
  · show (if _ then _ else _) = _
    rw [if_pos ⟨rfl, hm, h.2⟩]
  · unfold drawN
    by_cases c : 0 < q.1
    · rw [if_pos c]
      exact ⟨Int.emod_nonneg _ (by omega), Int.emod_lt_of_pos _ hm.1, Int.ediv_nonneg h.1 (by omega), h.2⟩
    · rw [if_neg c]
      refine ⟨Int.emod_nonneg _ (by omega), Int.emod_lt_of_pos _ hm.1, h.1, ?_, ?_⟩
      · exact Int.emod_nonneg _ (by decide)
      · have := Int.emod_lt_of_pos (q.2 * A + B) (show (0 : Int) < 2147483587 by decide)
        show (q.2 * A + B) % 2147483587 < 4294967296
        omega
end Sd
/-! the plain law's kit: places of claims, few claims -/
namespace Sd
open PySem PySem.Spec PyProof.Rows
theorem nodup_sub {α : Type} [DecidableEq α] : ∀ {a b : List α}, a.Nodup → (∀ x ∈ a, x ∈ b) → a.length ≤ b.length
  | [], _, _, _ => Nat.zero_le _
  | x :: a, b, h, s => by
    obtain ⟨h1, h2⟩ := List.nodup_cons.mp h
    have z := nodup_sub (b := b.erase x) h2 fun y hy => (List.mem_erase_of_ne (fun e : y = x => h1 (e ▸ hy))).mpr (s y (List.mem_cons_of_mem _ hy))
    have hx := s x List.mem_cons_self
    rw [List.length_erase_of_mem hx] at z
    have hp : 0 < b.length := List.length_pos_of_mem hx
    rw [List.length_cons]
    omega
/-- the numbers below n -/
def upTo (n : Int) : List Int := (List.range n.toNat).map fun i : Nat => (i : Int)
theorem mem_upTo {n x : Int} : x ∈ upTo n ↔ 0 ≤ x ∧ x < n := by
  unfold upTo
  rw [List.mem_map]
  constructor
  · rintro ⟨i, hi, rfl⟩
    have := List.mem_range.mp hi
    omega
  · rintro ⟨h1, h2⟩
    exact ⟨x.toNat, List.mem_range.mpr (by omega), by omega⟩
theorem upTo_len (n : Int) : (upTo n).length = n.toNat := by simp [upTo]
theorem upTo_nodup (n : Int) : (upTo n).Nodup := by
  unfold upTo List.Nodup
  rw [List.pairwise_map]
  exact List.nodup_range.imp fun h e => h (by omega)
theorem upTo_pw (n : Int) : (upTo n).Pairwise (· < ·) := by
  unfold upTo
  rw [List.pairwise_map]
  exact List.pairwise_lt_range.imp fun h => by omega
theorem few_in {l : List Int} {n : Int} (h : ∀ x ∈ l, 0 ≤ x ∧ x < n) : (dedI l).length ≤ n.toNat := by
  rw [← upTo_len]
  exact nodup_sub (nodup_dedI l) fun x hx => mem_upTo.mpr (h x (mem_dedI.mp hx))
def pairsOf (n : Int) : List (Int × Int) := (upTo n).flatMap fun a => (upTo n).map fun b => (a, b)
theorem mem_pairs {n : Int} {z : Int × Int} : z ∈ pairsOf n ↔ (0 ≤ z.1 ∧ z.1 < n) ∧ 0 ≤ z.2 ∧ z.2 < n := by
  unfold pairsOf
  rw [List.mem_flatMap]
  constructor
  · rintro ⟨a, ha, h⟩
    obtain ⟨b, hb, rfl⟩ := List.mem_map.mp h
    exact ⟨mem_upTo.mp ha, mem_upTo.mp hb⟩
  · rintro ⟨h1, h2⟩
    exact ⟨z.1, mem_upTo.mpr h1, List.mem_map.mpr ⟨z.2, mem_upTo.mpr h2, rfl⟩⟩
theorem pairs_len (n : Int) : (pairsOf n).length = n.toNat * n.toNat := by
  unfold pairsOf
  have key : ∀ l : List Int, (l.flatMap fun a => (upTo n).map fun b => (a, b)).length = l.length * n.toNat := fun l => by
    induction l with
    | nil => simp
    | cons a l ih => rw [List.flatMap_cons, List.length_append, ih, List.length_map, upTo_len, List.length_cons, Nat.add_mul]; omega
  rw [key, upTo_len]
theorem pw_nodup {S : List (Int × Int)} (h : S.Pairwise ltP) : S.Nodup := h.imp fun h e => by
  unfold ltP at h
  rw [e] at h
  omega
theorem few_pairs {S : List (Int × Int)} {n : Int} (h : S.Pairwise ltP) (hr : ∀ z ∈ S, 0 ≤ z.1 ∧ z.1 < n ∧ 0 ≤ z.2 ∧ z.2 < n) : S.length ≤ n.toNat * n.toNat := by
  rw [← pairs_len]
  exact nodup_sub (pw_nodup h) fun z hz => mem_pairs.mpr ⟨⟨(hr z hz).1, (hr z hz).2.1⟩, (hr z hz).2.2⟩
/-! ### a dict of places -/
theorem dcGo_yes {own : List Nat} {g : Gd} {tt tk tv : Env → M D} {ρ : Env} {x y : D} {k : Int} {xs : List D} {acc l : IDict} {q q1 q2 q3 q4 : Pot} {as : List (Nat × D)} (h1 : g x = some as) (h2 : tt (sets (wipeD ρ own) (as.map (·.1)) (cl as)) q = some (.bool true, q1)) (h3 : tk (sets (wipeD ρ own) (as.map (·.1)) (cl as)) q1 = some (.int k, q2))
    (h4 : tv (sets (wipeD ρ own) (as.map (·.1)) (cl as)) q2 = some (y, q3)) (nk : (acc.any fun z => decide (z.1 = k)) = false) (h5 : dcGo own g tt tk tv ρ xs (acc ++ [(k, y)]) q3 = some (l, q4)) : dcGo own g tt tk tv ρ (x :: xs) acc q = some (l, q4) := by
  refine bind2 (of_eq h1) (bind2 h2 (bind2 h3 ?_))
  show M.bind (tv _) _ q2 = _
  refine bind2 h4 ?_
  rw [if_neg (by rw [nk]; exact Bool.false_ne_true)]
  exact h5
theorem dcGo_map {α : Type} {own : List Nat} {g : Gd} {tt tk tv : Env → M D} {ρ : Env} {q : Pot} (e : α → D) (as : α → List (Nat × D)) (k : α → Int) (y : α → D) : ∀ (L : List α) (acc : IDict), (L.map k).Nodup → (∀ x ∈ L, ∀ z ∈ acc, z.1 ≠ k x) →
    (∀ x ∈ L, g (e x) = some (as x) ∧ tt (sets (wipeD ρ own) ((as x).map (·.1)) (cl (as x))) q = some (.bool true, q) ∧ tk (sets (wipeD ρ own) ((as x).map (·.1)) (cl (as x))) q = some (.int (k x), q) ∧ tv (sets (wipeD ρ own) ((as x).map (·.1)) (cl (as x))) q = some (y x, q)) →
    dcGo own g tt tk tv ρ (L.map e) acc q = some (acc ++ L.map fun x => (k x, y x), q)
  | [], acc, _, _, _ => by rw [List.map_nil, List.map_nil, List.append_nil]; rfl
  | x :: L, acc, nd, fr, h => by
    obtain ⟨h1, h2, h3, h4⟩ := h x List.mem_cons_self
    obtain ⟨n1, n2⟩ := List.nodup_cons.mp nd
    have ih := dcGo_map e as k y L (acc ++ [(k x, y x)]) n2 (fun z hz w hw => by
      rcases List.mem_append.mp hw with c | c
      · exact fr z (List.mem_cons_of_mem _ hz) w c
      · rw [List.mem_singleton.mp c]
        exact fun c => n1 (by have c' : k x = k z := c; rw [c']; exact List.mem_map.mpr ⟨z, hz, rfl⟩)) fun z hz => h z (List.mem_cons_of_mem _ hz)
    rw [List.map_cons, List.map_cons]
    rw [show acc ++ (k x, y x) :: L.map (fun x => (k x, y x)) = (acc ++ [(k x, y x)]) ++ L.map fun x => (k x, y x) by simp]
    refine dcGo_yes h1 h2 h3 h4 ?_ ih
    rw [List.any_eq_false]
    intro w hw
    simpa using fr x List.mem_cons_self w hw
theorem dcE_map {α : Type} {own : List Nat} {it : IE} {g : Gd} {tt tk tv : Env → M D} {ρ : Env} {q q1 : Pot} (L : List α) (e : α → D) (as : α → List (Nat × D)) (k : α → Int) (y : α → D) (hit : it ρ q = some (L.map e, q1)) (hown : own.all (fun i => decide (i < ρ.length)) = true) (nd : (L.map k).Nodup)
    (h : ∀ x ∈ L, g (e x) = some (as x) ∧ tt (sets (wipeD ρ own) ((as x).map (·.1)) (cl (as x))) q1 = some (.bool true, q1) ∧ tk (sets (wipeD ρ own) ((as x).map (·.1)) (cl (as x))) q1 = some (.int (k x), q1) ∧ tv (sets (wipeD ρ own) ((as x).map (·.1)) (cl (as x))) q1 = some (y x, q1)) :
    dcE own it g tt tk tv ρ q = some (dkD (L.map fun x => (k x, y x)), q1) := by
  refine bind2 hit ?_
  rw [if_pos hown]
  refine bind2 (dcGo_map e as k y L [] nd (fun _ _ _ z => by cases z) h) ?_
  rfl
theorem numFrom_ints : ∀ (l : List Int) (i : Nat), numFrom i (l.map iD) = (l.zipIdx i).map fun z => (.tuple [.int (z.2 : Nat), iD z.1] : D)
  | [], _ => rfl
  | c :: l, i => by
    rw [List.map_cons, List.zipIdx_cons, List.map_cons, ← numFrom_ints l (i + 1)]; rfl
/-- the dict from each to its place -/
def placeD (l : List Int) (i : Nat) : IDict := (l.zipIdx i).map fun z => (z.1, iD (z.2 : Nat))
theorem find_place : ∀ (l : List Int) (i : Nat) (c : Int), findI (placeD l i) c = if c ∈ l then some (iD ((i + l.idxOf c : Nat))) else none
  | [], _, _ => rfl
  | a :: l, i, c => by
    unfold placeD
    rw [List.zipIdx_cons, List.map_cons]
    by_cases e : a = c
    · subst e
      simp [findI, List.find?_cons, List.idxOf_cons]
    · have ih := find_place l (i + 1) c
      have e' : ¬ c = a := fun z => e z.symm
      have z : findI ((a, iD (i : Nat)) :: (l.zipIdx (i + 1)).map fun z => (z.1, iD (z.2 : Nat))) c = findI (placeD l (i + 1)) c := by
        unfold findI placeD
        rw [List.find?_cons, decide_eq_false e]
      rw [z, ih]
      have e2 : (a == c) = false := by simpa using e
      by_cases m : c ∈ l
      · rw [if_pos m, if_pos (List.mem_cons_of_mem _ m), List.idxOf_cons, e2]
        simp only [cond_false]
        congr 2
        omega
      · rw [if_neg m, if_neg (by simp [e', m])]
theorem dkOf_dk : ∀ l : IDict, dkOf (l.map fun z => ((.int z.1 : D), z.2)) = some l
  | [] => rfl
  | z :: l => by show (dkOf (l.map fun z => ((.int z.1 : D), z.2))).map ((z.1, z.2) :: ·) = _; rw [dkOf_dk l]; rfl
theorem get_place {l : List Int} {c : Int} (h : c ∈ l) : getD' (dkD (placeD l 0)) (.int c) = some (iD (l.idxOf c : Nat)) := by
  show (match dkOf ((placeD l 0).map fun z => ((.int z.1 : D), z.2)) with
    | some l => findI l c
    | none => none) = _
  rw [dkOf_dk]
  show findI (placeD l 0) c = _
  rw [find_place, if_pos h, Nat.zero_add]
theorem in_place {l : List Int} (ne : l ≠ []) (neg : Bool) (c : Int) : inDk neg (.int c) (dkD (placeD l 0)) = some (.bool (neg != decide (c ∈ l))) := by
  show (match dkOf ((placeD l 0).map fun z => ((.int z.1 : D), z.2)) with
    | some l => some (PyData.bool (neg != (findI l c).isSome))
    | none => none) = _
  rw [dkOf_dk]
  show some (PyData.bool (neg != (findI (placeD l 0) c).isSome)) = _
  rw [find_place]
  by_cases m : c ∈ l <;> simp [m]
theorem idx_tI {l : List Int} {c : Int} (hf : frzOk = true) (h : c ∈ l) : idxD (tpI l) (.int c) = some (iD (l.idxOf c : Nat)) := by
  show (match intsOf (l.map iD) with
    | some ns => if c ∈ ns ∧ frzOk = true then some (PyData.int (ns.idxOf c : Nat)) else none
    | none => none) = _
  rw [intsOf_map]
  show (if c ∈ l ∧ frzOk = true then some (PyData.int (l.idxOf c : Nat)) else none) = _
  rw [if_pos ⟨h, hf⟩]
end Sd
/-! the plain law's kit: what draws is run with any drawn numbers -/
namespace Sd
open PySem PySem.Spec PyProof.Rows
def ES (e : Sd.Env → M D) (ρ : Sd.Env) (R : D → Prop) : Prop := ∀ q, PotOk' q → ∃ d q', e ρ q = some (d, q') ∧ PotOk' q' ∧ R d
def TS (e : Sd.Env → M D) (ρ : Sd.Env) : Prop := ES e ρ fun d => ∃ b, d = .bool b
def SS (s : SE) (ρ : Sd.Env) (R : Sd.Env → Prop) : Prop := ∀ q, PotOk' q → ∃ ρ' q', s ρ q = some ((.nx, ρ'), q') ∧ PotOk' q' ∧ R ρ'
/-- ends with a value -/
def RS (s : SE) (ρ : Sd.Env) (R : D → Prop) : Prop := ∀ q, PotOk' q → ∃ d ρ' q', s ρ q = some ((.rt d, ρ'), q') ∧ PotOk' q' ∧ R d
def FS (φ : List D → M D) (ds : List D) (R : D → Prop) : Prop := ∀ q, PotOk' q → ∃ d q', φ ds q = some (d, q') ∧ PotOk' q' ∧ R d
section
variable {e t a b : Sd.Env → M D} {f g s : SE} {ρ : Sd.Env} {R R' : D → Prop} {S S' : Sd.Env → Prop} {i n : Nat} {d : D} {ds : List D} {φ : List D → M D} {fs : List (Sd.Env → M D)}
theorem ES.imp (h : ES e ρ R) (z : ∀ d, R d → R' d) : ES e ρ R' := fun q hq => by
  obtain ⟨d, q', h1, h2, h3⟩ := h q hq
  exact ⟨d, q', h1, h2, z d h3⟩
theorem SS.imp (h : SS s ρ S) (z : ∀ d, S d → S' d) : SS s ρ S' := fun q hq => by
  obtain ⟨d, q', h1, h2, h3⟩ := h q hq
  exact ⟨d, q', h1, h2, z d h3⟩
theorem es_p (h : ∀ q, e ρ q = some (d, q)) (r : R d) : ES e ρ R := fun q hq => ⟨d, q, h q, hq, r⟩
theorem ts_p {c : Bool} (h : ∀ q, e ρ q = some (.bool c, q)) : TS e ρ := es_p h ⟨c, rfl⟩
theorem ts_and (h1 : TS a ρ) (h2 : TS b ρ) : TS (andE a b) ρ := fun q hq => by
  obtain ⟨d, q1, e1, k1, c, rfl⟩ := h1 q hq
  cases c with
  | true => obtain ⟨d, q2, e2, k2, z⟩ := h2 q1 k1; exact ⟨d, q2, and_tt e1 e2, k2, z⟩
  | false => exact ⟨_, q1, and_f e1, k1, false, rfl⟩
theorem ts_or (h1 : TS a ρ) (h2 : TS b ρ) : TS (orE a b) ρ := fun q hq => by
  obtain ⟨d, q1, e1, k1, c, rfl⟩ := h1 q hq
  cases c with
  | false => obtain ⟨d, q2, e2, k2, z⟩ := h2 q1 k1; exact ⟨d, q2, or_ff e1 e2, k2, z⟩
  | true => exact ⟨_, q1, or_t e1, k1, true, rfl⟩
theorem es_ap1 {h : D → Option D} (h1 : ES e ρ R') (h2 : ∀ d, R' d → ∃ c, h d = some c ∧ R c) : ES (ap1 h e) ρ R := fun q hq => by
  obtain ⟨d, q1, e1, k1, r⟩ := h1 q hq
  obtain ⟨c, e2, r2⟩ := h2 d r
  exact ⟨c, q1, ap1_ev e1 e2, k1, r2⟩
theorem ts_not (h1 : TS a ρ) : TS (ap1 notD a) ρ := es_ap1 h1 fun d ⟨c, e⟩ => by
  subst e
  exact ⟨_, rfl, _, rfl⟩
theorem es_ap2 {h : D → D → Option D} {R1 R2 : D → Prop} (h1 : ES a ρ R1) (h2 : ES b ρ R2) (h3 : ∀ d e, R1 d → R2 e → ∃ c, h d e = some c ∧ R c) : ES (ap2 h a b) ρ R := fun q hq => by
  obtain ⟨d, q1, e1, k1, r1⟩ := h1 q hq
  obtain ⟨d2, q2, e2, k2, r2⟩ := h2 q1 k1
  obtain ⟨c, e3, r3⟩ := h3 d d2 r1 r2
  exact ⟨c, q2, ap2_ev e1 e2 e3, k2, r3⟩
theorem es_ap {h : List D → Option D} (h1 : ES e ρ R') (h2 : ∀ d, R' d → ∃ c, h [d] = some c ∧ R c) : ES (ap h [e]) ρ R := fun q hq => by
  obtain ⟨d, q1, e1, k1, r⟩ := h1 q hq
  obtain ⟨c, e2, r2⟩ := h2 d r
  exact ⟨c, q1, ap_1 e1 e2, k1, r2⟩
theorem es_call (h1 : ∀ q, seqE fs ρ q = some (ds, q)) (h2 : FS φ ds R) : ES (callE φ fs) ρ R := fun q hq => by
  obtain ⟨d, q1, e1, k1, r⟩ := h2 q hq
  exact ⟨d, q1, call_ev (h1 q) e1, k1, r⟩
theorem fs_draw (A B C m : Int) (hm : 0 < m ∧ m < 1073741824) : FS (drawS A B C) [potD, .int m] fun d => ∃ r, d = .int r ∧ 0 ≤ r ∧ r < m := fun q hq => by
  obtain ⟨r, q', h1, h2, h3, h4⟩ := draw_ev A B C m hm hq
  exact ⟨_, q', h1, h4, r, rfl, h2, h3⟩
theorem ts_draw {A B C m k : Int} {ex : Sd.Env → M D} (hm : 0 < m ∧ m < 1073741824) (h0 : ∀ q, vr 0 ρ q = some (potD, q)) (h1 : ∀ q, ex ρ q = some (.int m, q)) : TS (ap2 eqD (callE (drawS A B C) [vr 0, ex]) (cst (.int k))) ρ :=
  es_ap2 (R2 := fun d => d = .int k) (es_call (ds := [potD, .int m]) (fun q => sq_cons (h0 q) (sq_cons (h1 q) sq_nil)) (fs_draw A B C m hm)) (es_p (fun _ => rfl) rfl) fun d e ⟨r, h, _⟩ h2 => by
    subst h; subst h2
    exact ⟨_, eq_i r k, _, rfl⟩
theorem es_draw {A B C m : Int} {ex : Sd.Env → M D} (hm : 0 < m ∧ m < 1073741824) (h0 : ∀ q, vr 0 ρ q = some (potD, q)) (h1 : ∀ q, ex ρ q = some (.int m, q)) : ES (callE (drawS A B C) [vr 0, ex]) ρ fun d => ∃ r, d = .int r ∧ 0 ≤ r ∧ r < m :=
  es_call (ds := [potD, .int m]) (fun q => sq_cons (h0 q) (sq_cons (h1 q) sq_nil)) (fs_draw A B C m hm)
theorem es_drawP {A B C m k : Int} {ex : Sd.Env → M D} (hm : 0 < m ∧ m < 1073741824) (h0 : ∀ q, vr 0 ρ q = some (potD, q)) (h1 : ∀ q, ex ρ q = some (.int m, q)) : ES (ap2 addD (cst (.int k)) (callE (drawS A B C) [vr 0, ex])) ρ fun d => ∃ r, d = .int r ∧ k ≤ r ∧ r < k + m :=
  es_ap2 (R1 := fun d => d = .int k) (es_p (fun _ => rfl) rfl) (es_draw hm h0 h1) fun d e h2 ⟨r, h, h3, h4⟩ => by
    subst h; subst h2
    exact ⟨_, rfl, k + r, rfl, by omega, by omega⟩
theorem ss_nil (h : S ρ) : SS nilS ρ S := fun q hq => ⟨ρ, q, rfl, hq, h⟩
theorem ss_seq (h1 : SS f ρ S) (h2 : ∀ ρ', S ρ' → SS g ρ' S') : SS (seqS f g) ρ S' := fun q hq => by
  obtain ⟨ρ1, q1, e1, k1, r1⟩ := h1 q hq
  obtain ⟨ρ2, q2, e2, k2, r2⟩ := h2 ρ1 r1 q1 k1
  exact ⟨ρ2, q2, seq_n e1 e2, k2, r2⟩
theorem rs_seq (h1 : SS f ρ S) (h2 : ∀ ρ', S ρ' → RS g ρ' R) : RS (seqS f g) ρ R := fun q hq => by
  obtain ⟨ρ1, q1, e1, k1, r1⟩ := h1 q hq
  obtain ⟨d, ρ2, q2, e2, k2, r2⟩ := h2 ρ1 r1 q1 k1
  exact ⟨d, ρ2, q2, seq_n e1 e2, k2, r2⟩
theorem rs_ret (h : ES e ρ R) : RS (retS e) ρ R := fun q hq => by
  obtain ⟨d, q1, e1, k1, r⟩ := h q hq
  exact ⟨d, ρ, q1, ret_ev e1, k1, r⟩
theorem fs_def (h : RS f (startE n ds) R) : FS (defM n f) ds R := fun q hq => by
  obtain ⟨d, ρ', q1, e1, k1, r⟩ := h q hq
  exact ⟨d, q1, def_rt e1, k1, r⟩
theorem ss_set (h : ES e ρ R) (z : ∀ d, R d → S (ρ.set i (some (false, d)))) : SS (setS i e) ρ S := fun q hq => by
  obtain ⟨d, q1, e1, k1, r⟩ := h q hq
  exact ⟨_, q1, set_ev e1, k1, z d r⟩
theorem ss_if (h : TS t ρ) (h1 : SS f ρ S) (h2 : SS g ρ S) : SS (ifS t f g) ρ S := fun q hq => by
  obtain ⟨d, q1, e1, k1, c, rfl⟩ := h q hq
  cases c with
  | true => obtain ⟨ρ', q2, e2, k2, r⟩ := h1 q1 k1; exact ⟨ρ', q2, if_tt e1 e2, k2, r⟩
  | false => obtain ⟨ρ', q2, e2, k2, r⟩ := h2 q1 k1; exact ⟨ρ', q2, if_ff e1 e2, k2, r⟩
theorem ss_ifF (h : ∀ q, t ρ q = some (.bool false, q)) (h2 : SS g ρ S) : SS (ifS t f g) ρ S := fun q hq => by
  obtain ⟨ρ', q2, e2, k2, r⟩ := h2 q hq; exact ⟨ρ', q2, if_ff (h q) e2, k2, r⟩
/-- two names at once -/
theorem ss_par2 {i j : Nat} {ba bb : Bool} {R1 R2 : D → Prop} (hi : i < ρ.length) (hj : j < ρ.length) (h1 : ES a ρ R1) (h2 : ES b ρ R2) (n1 : ba = true → ∀ d, R1 d → isLD d = true) (n2 : bb = true → ∀ d, R2 d → isLD d = true) (z : ∀ d e, R1 d → R2 e → S ((ρ.set i (some (ba, d))).set j (some (bb, e)))) : SS (parS [i, j] [(ba, a), (bb, b)]) ρ S := fun q hq => by
  obtain ⟨d, q1, e1, k1, r1⟩ := h1 q hq
  obtain ⟨d2, q2, e2, k2, r2⟩ := h2 q1 k1
  refine ⟨_, q2, ?_, k2, z d d2 r1 r2⟩
  show (if ([i, j].all fun i => decide (i < ρ.length)) = true then _ else _ : M (Fl × Sd.Env)) q = _
  rw [if_pos (by simp [hi, hj])]
  have s2 : seqB [(bb, b)] ρ q1 = some ([(bb, d2)], q2) := by
    refine bind2 e2 ?_
    rw [if_neg (by rintro ⟨x, y⟩; rw [n2 x d2 r2] at y; cases y)]
    rfl
  have s1 : seqB [(ba, a), (bb, b)] ρ q = some ([(ba, d), (bb, d2)], q2) := by
    refine bind2 e1 ?_
    rw [if_neg (by rintro ⟨x, y⟩; rw [n1 x d r1] at y; cases y)]
    exact bind2 s2 rfl
  exact bind2 s1 rfl
theorem forGo_ss {g : Gd} {body : SE} {I : Nat → Sd.Env → Prop} : ∀ (xs : List D) (i : Nat) (ρ : Sd.Env), I i ρ → (∀ j x, xs[j]? = some x → ∀ ρ, I (i + j) ρ → ∃ as, g x = some as ∧ SS body (sets ρ (as.map (·.1)) (cl as)) (I (i + j + 1))) → SS (forGo g body xs) ρ (I (i + xs.length))
  | [], i, ρ, h, _ => fun q hq => ⟨ρ, q, rfl, hq, h⟩
  | x :: xs, i, ρ, h, st => fun q hq => by
    obtain ⟨as, e0, k⟩ := st 0 x rfl ρ h
    obtain ⟨ρ1, q1, e1, k1, r1⟩ := k q hq
    obtain ⟨ρ2, q2, e2, k2, r2⟩ := forGo_ss xs (i + 1) ρ1 r1 (fun j y hy ρ hi => by
      have z := st (j + 1) y hy ρ (by rw [show i + (j + 1) = i + 1 + j by omega]; exact hi)
      rw [show i + (j + 1) + 1 = i + 1 + j + 1 by omega] at z
      exact z) q1 k1
    rw [show i + 1 + xs.length = i + (x :: xs).length by rw [List.length_cons]; omega] at r2
    exact ⟨ρ2, q2, bind2 (of_eq e0) (bind2 e1 e2), k2, r2⟩
/-- for x in range(n) -/
theorem ss_range {g : Gd} {body : SE} {ex : Sd.Env → M D} {m : Int} (I : Nat → Sd.Env → Prop) (hx : ∀ q, ex ρ q = some (.int m, q)) (hm : -1000000 ≤ m ∧ m ≤ 1000000) (h0 : I 0 ρ) (st : ∀ j : Nat, j < m.toNat → ∀ ρ, I j ρ → ∃ as, g (.int (j : Nat)) = some as ∧ SS body (sets ρ (as.map (·.1)) (cl as)) (I (j + 1))) : SS (forS (rngE ex) g body) ρ (I m.toNat) := fun q hq => by
  have k := forGo_ss (g := g) (body := body) (I := I) ((List.range m.toNat).map fun i => (.int (i : Nat) : D)) 0 ρ h0 fun j x hj ρ hi => by
    rw [List.getElem?_map] at hj
    cases e : (List.range m.toNat)[j]? with
    | none => rw [e] at hj; cases hj
    | some y =>
      rw [e] at hj; cases hj
      obtain ⟨h1, h2⟩ := List.getElem?_eq_some_iff.mp e
      rw [List.getElem_range] at h2
      subst h2
      rw [List.length_range] at h1
      rw [Nat.zero_add] at hi ⊢
      exact st j h1 ρ hi
  rw [List.length_map, List.length_range, Nat.zero_add] at k
  obtain ⟨ρ2, q2, e2, k2, r2⟩ := k q hq
  exact ⟨ρ2, q2, bind2 (rng_ev (hx q) hm) e2, k2, r2⟩
theorem ss_app {i : Nat} {ds : List D} (h : ∀ q, e ρ q = some (d, q)) (hi : ρ[i]? = some (some (true, .list ds))) (hl : ds.length < 1000000) (z : S (ρ.set i (some (true, .list (ds ++ [d]))))) : SS (bldS i appH e) ρ S := fun q hq => by
  refine ⟨_, q, ?_, hq, z⟩
  refine bind2 (h q) ?_
  rw [hi]
  show (if _ then _ else _ : M (Fl × Sd.Env)) q = _
  rw [if_pos (by rw [List.length_append]; exact hl)]
  rfl
theorem ss_ext {i : Nat} {ds xs : List D} (h : ∀ q, e ρ q = some (.list xs, q)) (hi : ρ[i]? = some (some (true, .list ds))) (hl : ds.length + xs.length ≤ 1000000) (z : S (ρ.set i (some (true, .list (ds ++ xs))))) : SS (bldS i extL e) ρ S := fun q hq => by
  refine ⟨_, q, ?_, hq, z⟩
  refine bind2 (h q) ?_
  rw [hi]
  show (if _ then _ else _ : M (Fl × Sd.Env)) q = _
  rw [if_pos (by rw [List.length_append]; exact hl)]
  rfl
end
theorem keyP_le {z w : Int × Int} (h : ltP z w) : keyP z ≤ keyP w := by
  refine List.le_of_lt ?_
  show [z.1, z.2] < [w.1, w.2]
  rw [List.cons_lt_cons_iff]
  rcases h with h | ⟨h1, h2⟩
  · exact .inl h
  · exact .inr ⟨h1, by rw [List.cons_lt_cons_iff]; exact .inl h2⟩
theorem sortK_id {F : List (Int × Int)} (h : F.Pairwise ltP) : sortK (F.map keyP) = F.map keyP :=
  List.Perm.eq_of_pairwise (le := (· ≤ ·)) (fun _ _ _ _ h1 h2 => List.le_antisymm h1 h2) (sortK_pw _) (by
    rw [List.pairwise_map]
    exact h.imp keyP_le) (sortK_perm _)
theorem sorted_pairs {F : List (Int × Int)} (h : F.Pairwise ltP) : sortedD [.list (F.map pD)] = some (.list (F.map pD)) := by
  rw [pD_map, sorted_tups _ fun k hk => by
    obtain ⟨z, _, e⟩ := List.mem_map.mp hk
    rw [← e]; exact List.cons_ne_nil _ _, sortK_id h]
theorem okS_ints (l : List Int) : okS (l.map iD) = true := by
  unfold okS alikeB sortB
  simp only [Bool.and_eq_true]
  refine ⟨?_, ?_, ?_, ?_⟩
  · rw [List.all_eq_true]; intro d hd
    rw [List.all_eq_true]; intro e he
    obtain ⟨a, _, rfl⟩ := List.mem_map.mp hd
    obtain ⟨b, _, rfl⟩ := List.mem_map.mp he
    simp only [PySem.W.alike]
  · rw [Bool.or_eq_true, Bool.or_eq_true]; right; left
    rw [List.all_eq_true]; intro d hd
    obtain ⟨a, _, rfl⟩ := List.mem_map.mp hd
    rfl
  · exact nod_ints l
  · rw [List.all_eq_true]; intro d hd
    obtain ⟨a, _, rfl⟩ := List.mem_map.mp hd
    simp [PyData.depth]
theorem leS_int (a b : Int) : leS (iD a) (iD b) = decide (a ≤ b) := by
  show (!PySem.W.dataLt (.int b) (.int a)) = _
  have e : PySem.W.dataLt (.int b) (.int a) = decide (b < a) := by exact PySem.W.dataLt_int b a
  rw [e]
  by_cases c : a ≤ b
  · have : ¬ b < a := by omega
    simp [c, this]
  · have : b < a := by omega
    simp [c, this]
theorem sorted_ints (l : List Int) : sortedD [.list (l.map iD)] = some (.list ((sortI l).map iD)) := by
  show (if okS (l.map iD) = true then some (PyData.list (srt (l.map iD))) else none) = _
  rw [if_pos (okS_ints l)]
  unfold srt sortI
  rw [List.map_mergeSort fun a _ b _ => (leS_int a b).symm]
theorem sortI_lt {l : List Int} (h : l.Nodup) : (sortI l).Pairwise (· < ·) := by
  have h1 := sortI_pw l
  have h2 : (sortI l).Nodup := (sortI_perm l).nodup_iff.mpr h
  exact List.Pairwise.imp₂ (fun a b h1 h2 => by have h2 : a ≠ b := h2; omega) h1 h2
end Sd
/-! the plain law's kit: comprehensions with draws, what can be shown -/
namespace Sd
open PySem PySem.Spec PyProof.Rows
section
variable {e t a b te tt : Sd.Env → M D} {g : Gd} {own : List Nat} {it : IE} {ρ : Sd.Env} {R R' : D → Prop} {d : D} {φ : List D → M D}
theorem es_call2 (h1 : ∀ q, a ρ q = some (d, q)) (h2 : ES b ρ R') (h3 : ∀ c, R' c → FS φ [d, c] R) : ES (callE φ [a, b]) ρ R := fun q hq => by
  obtain ⟨c, q1, e1, k1, r⟩ := h2 q hq
  obtain ⟨x, q2, e2, k2, r2⟩ := h3 c r q1 k1
  exact ⟨x, q2, call_ev (sq_cons (h1 q) (sq_cons e1 sq_nil)) e2, k2, r2⟩
theorem lcGo_all : ∀ xs : List D, (∀ x ∈ xs, ∃ as, g x = some as ∧ ES te (sets (wipeD ρ own) (as.map (·.1)) (cl as)) R) → ∀ q, PotOk' q → ∃ ys q', lcGo own g (cst (.bool true)) te ρ xs q = some (ys, q') ∧ PotOk' q' ∧ ys.length = xs.length ∧ ∀ y ∈ ys, R y
  | [], _, q, hq => ⟨[], q, rfl, hq, rfl, fun _ z => by cases z⟩
  | x :: xs, h, q, hq => by
    obtain ⟨as, e0, k⟩ := h x List.mem_cons_self
    obtain ⟨y, q1, e1, k1, r⟩ := k q hq
    obtain ⟨ys, q2, e2, k2, hl, r2⟩ := lcGo_all xs (fun z hz => h z (List.mem_cons_of_mem _ hz)) q1 k1
    refine ⟨y :: ys, q2, lcGo_yes e0 rfl e1 e2, k2, by rw [List.length_cons, List.length_cons, hl], fun z hz => ?_⟩
    rcases List.mem_cons.mp hz with c | c
    · rw [c]; exact r
    · exact r2 z c
theorem es_lc {I : List D → Prop} (hit : ∀ q, PotOk' q → ∃ xs q', it ρ q = some (xs, q') ∧ PotOk' q' ∧ I xs) (hown : own.all (fun i => decide (i < ρ.length)) = true) (h : ∀ xs, I xs → ∀ x ∈ xs, ∃ as, g x = some as ∧ ES te (sets (wipeD ρ own) (as.map (·.1)) (cl as)) R) : ES (lcE own it g (cst (.bool true)) te) ρ fun d => ∃ xs ys, d = .list ys ∧ I xs ∧ ys.length = xs.length ∧ ∀ y ∈ ys, R y := fun q hq => by
  obtain ⟨xs, q1, e1, k1, hI⟩ := hit q hq
  obtain ⟨ys, q2, e2, k2, hl, r⟩ := lcGo_all xs (h xs hI) q1 k1
  exact ⟨_, q2, lcE_of e1 hown e2, k2, xs, ys, rfl, hI, hl, r⟩
theorem it_range {ex : Sd.Env → M D} {lo hi : Int} (h : ES ex ρ fun d => ∃ r, d = .int r ∧ lo ≤ r ∧ r < hi) (hh : -1000000 ≤ lo ∧ hi ≤ 1000000) : ∀ q, PotOk' q → ∃ xs q', rngE ex ρ q = some (xs, q') ∧ PotOk' q' ∧ ∃ r, lo ≤ r ∧ r < hi ∧ xs = (List.range r.toNat).map fun i => .int (i : Nat) := fun q hq => by
  obtain ⟨d, q1, e1, k1, r, rfl, h1, h2⟩ := h q hq
  exact ⟨_, q1, rng_ev e1 (by omega), k1, r, h1, h2, rfl⟩
theorem lcGo_subs {α : Type} (e : α → D) (as : α → List (Nat × D)) (y : α → D) : ∀ L : List α, (∀ x ∈ L, g (e x) = some (as x) ∧ TS tt (sets (wipeD ρ own) ((as x).map (·.1)) (cl (as x))) ∧ ∀ q, te (sets (wipeD ρ own) ((as x).map (·.1)) (cl (as x))) q = some (y x, q)) → ∀ q, PotOk' q → ∃ sub q', lcGo own g tt te ρ (L.map e) q = some (sub.map y, q') ∧ PotOk' q' ∧ List.Sublist sub L
  | [], _, q, hq => ⟨[], q, rfl, hq, .slnil⟩
  | x :: L, h, q, hq => by
    obtain ⟨e0, k, ht⟩ := h x List.mem_cons_self
    obtain ⟨_, q1, e1, k1, c, rfl⟩ := k q hq
    obtain ⟨sub, q2, e2, k2, r2⟩ := lcGo_subs e as y L (fun z hz => h z (List.mem_cons_of_mem _ hz)) q1 k1
    cases c with
    | true => exact ⟨x :: sub, q2, lcGo_yes e0 e1 (ht q1) e2, k2, r2.cons₂ x⟩
    | false => exact ⟨sub, q2, lcGo_no e0 e1 e2, k2, r2.cons x⟩
theorem es_lcF {α : Type} (L : List α) (e : α → D) (as : α → List (Nat × D)) (y : α → D) (hit : ∀ q, it ρ q = some (L.map e, q)) (hown : own.all (fun i => decide (i < ρ.length)) = true) (h : ∀ x ∈ L, g (e x) = some (as x) ∧ TS tt (sets (wipeD ρ own) ((as x).map (·.1)) (cl (as x))) ∧ ∀ q, te (sets (wipeD ρ own) ((as x).map (·.1)) (cl (as x))) q = some (y x, q)) : ES (lcE own it g tt te) ρ fun d => ∃ sub, d = .list (sub.map y) ∧ List.Sublist sub L := fun q hq => by
  obtain ⟨sub, q2, e2, k2, r⟩ := lcGo_subs e as y L h q hq
  exact ⟨_, q2, lcE_of (hit q) hown e2, k2, sub, rfl, r⟩
theorem pick {α : Type} {f : α → D} {P : α → Prop} : ∀ {ys : List D}, (∀ y ∈ ys, ∃ l, y = f l ∧ P l) → ∃ L : List α, ys = L.map f ∧ ∀ l ∈ L, P l
  | [], _ => ⟨[], rfl, fun _ z => by cases z⟩
  | y :: ys, h => by
    obtain ⟨l, rfl, h1⟩ := h y List.mem_cons_self
    obtain ⟨L, rfl, h2⟩ := pick (ys := ys) fun z hz => h z (List.mem_cons_of_mem _ hz)
    refine ⟨l :: L, rfl, fun z hz => ?_⟩
    rcases List.mem_cons.mp hz with c | c
    · rw [c]; exact h1
    · exact h2 z c
theorem listsOf_map : ∀ L : List (List Int), listsOf (L.map fun l => (.list (l.map iD) : D)) = some (L.map fun l => l.map iD)
  | [] => rfl
  | l :: L => by show (listsOf (L.map fun l => (.list (l.map iD) : D))).map (_ :: ·) = _; rw [listsOf_map L]; rfl
theorem sum_lists (L : List (List Int)) (h : L.flatten.length ≤ 1000000) : sumLD [.list (L.map fun l => .list (l.map iD)), .list []] = some (.list (L.flatten.map iD)) := by
  unfold sumLD
  simp only [listsOf_map]
  have e : (L.map fun l => l.map iD).flatten = L.flatten.map iD := by rw [List.map_flatten]
  rw [e, if_pos (by rw [List.length_map]; exact h)]
end
/-! ### what can be shown -/
def SDn (k w : Nat) (d : D) : Prop := sm d = true ∧ d.depth ≤ k ∧ wt d ≤ w
theorem SDn.imp {k w k' w' : Nat} {d : D} (h : SDn k w d) (h1 : k ≤ k') (h2 : w ≤ w') : SDn k' w' d := ⟨h.1, Nat.le_trans h.2.1 h1, Nat.le_trans h.2.2 h2⟩
theorem SDn.sd {k w : Nat} {d : D} (h : SDn k w d) (h1 : k ≤ 10) (h2 : w ≤ 100000) : SD d := ⟨h.1, Nat.le_trans h.2.1 h1, Nat.le_trans h.2.2 h2⟩
theorem sd_tuple {k w m : Nat} {ds : List D} (h : ∀ d ∈ ds, SDn k w d) (hm : ds.length ≤ m) : SDn (k + 1) (m * (w + 2) + 4) (.tuple ds) := by
  refine ⟨?_, ?_, ?_⟩
  · simp only [sm]; exact smL_mem.mpr fun d hd => (h d hd).1
  · simp only [PyData.depth]
    have := depthAll_le fun d hd => (h d hd).2.1
    omega
  · simp only [wt]
    have := wtL_le fun d hd => (h d hd).2.2
    have := Nat.mul_le_mul_right (w + 2) hm
    omega
theorem sd_list {k w m : Nat} {ds : List D} (h : ∀ d ∈ ds, SDn k w d) (hm : ds.length ≤ m) : SDn (k + 1) (m * (w + 2) + 4) (.list ds) := by
  refine ⟨?_, ?_, ?_⟩
  · simp only [sm]; exact smL_mem.mpr fun d hd => (h d hd).1
  · simp only [PyData.depth]
    have := depthAll_le fun d hd => (h d hd).2.1
    omega
  · simp only [wt]
    have := wtL_le fun d hd => (h d hd).2.2
    have := Nat.mul_le_mul_right (w + 2) hm
    omega
theorem sd_i {i : Int} (h : i.natAbs < 200) : SDn 0 5 (.int i) := ⟨by simpa [sm] using h, by simp [PyData.depth], by simp [wt]⟩
theorem sd_none : SDn 0 5 .none := ⟨rfl, by simp [PyData.depth], by simp [wt]⟩
theorem sd_bool (b : Bool) : SDn 0 5 (.bool b) := ⟨rfl, by simp [PyData.depth], by simp [wt]⟩
theorem sd_str {x : Str} (h : sm (.str x) = true) : SDn 0 30 (.str x) := ⟨h, by simp [PyData.depth], by simp [wt]⟩
theorem sd_tpI {l : List Int} {m : Nat} (h : ∀ x ∈ l, x.natAbs < 200) (hm : l.length ≤ m) : SDn 1 (m * 7 + 4) (tpI l) :=
  sd_tuple (fun d hd => by
    obtain ⟨x, hx, rfl⟩ := List.mem_map.mp hd
    exact sd_i (h x hx)) (by rw [List.length_map]; exact hm)
/-- two shows of the same -/
theorem ne_repr {f g : Sd.Env → M D} {ρ : Sd.Env} {q q1 : Pot} {d : D} (h : SD d) (hl : okR.isLT d = true) (h1 : f ρ q = some (d, q1)) (h2 : g ρ q1 = some (d, q1)) : ap2 neD (ap reprD [f]) (ap reprD [g]) ρ q = some (.bool false, q1) :=
  ap2_ev (ap_1 h1 (repr_ev h hl)) (ap_1 h2 (repr_ev h hl)) (ne_str (shaped_shown h))
theorem eq_repr {f g : Sd.Env → M D} {ρ : Sd.Env} {q q1 : Pot} {d : D} (h : SD d) (hl : okR.isLT d = true) (h1 : f ρ q = some (d, q1)) (h2 : g ρ q1 = some (d, q1)) : ap2 eqD (ap reprD [f]) (ap reprD [g]) ρ q = some (.bool true, q1) :=
  ap2_ev (ap_1 h1 (repr_ev h hl)) (ap_1 h2 (repr_ev h hl)) (eq_str (shaped_shown h))
end Sd
/-! the plain law's kit over the program's own defs: values, disputes, lots -/
namespace Cm
open PySem PySem.Spec PyProof.Rows Sd
theorem e_is_integer (i : Int) (q : Pot) : s_is_integer [.int i] q = some (.bool true, q) := by rfl
theorem e_is_within {i a b : Int} (h : a ≤ i ∧ i ≤ b) (q : Pot) : s_is_within [.int i, .int a, .int b] q = some (.bool true, q) := by
  refine def_rt (ret_ev (and_tt (call_ev (sq_cons rfl sq_nil) (e_is_integer i q)) ?_))
  have h1 : leD (.int a) (.int i) = some (.bool true) := by show some (PyData.bool (decide (a ≤ i))) = _; simp [h.1]
  have h2 : leD (.int i) (.int b) = some (.bool true) := by show some (PyData.bool (decide (i ≤ b))) = _; simp [h.2]
  exact chain_tt (x := .int a) (y := .int i) (w := .int b) rfl rfl h1 rfl h2
theorem e_is_tuple {ds : List D} {k : Int} (h : (ds.length : Int) = k) (q : Pot) : s_is_tuple [.tuple ds, .int k] q = some (.bool true, q) := by
  refine def_rt (ret_ev (and_tt (ap1_ev (d := .tuple ds) rfl rfl) (ap2_ev (d := .int ds.length) (e1 := .int k) (ap_1 (d := .tuple ds) rfl rfl) rfl ?_)))
  rw [eq_i]; simp [h]
theorem e_are_rising {l : List Int} (h : l.Pairwise (· < ·)) (q : Pot) : s_are_rising [tpI l] q = some (.bool true, q) := by
  have hz : zipE [vr 0, sliE (vr 0) (soO (cst (.int 1))) noO] (startE 3 [tpI l]) q = some ((l.zip (l.drop 1)).map fun z => (.tuple [iD z.1, iD z.2] : D), q) := by
    refine bind2 (a := [tpI l, .tuple ((l.map iD).drop 1)]) (q1 := q) (sq_cons rfl (sq_cons ?_ sq_nil)) (of_eq ?_)
    · rw [← cut_1]; rfl
    · show some (((l.map iD).zip ((l.map iD).drop 1)).map _) = _
      rw [zip_drop, List.map_map]; rfl
  have hl := lcE_map (own := [1, 2]) (g := gT [gN 1, gN 2]) (tt := cst (.bool true)) (te := ap2 ltD (vr 1) (vr 2)) (l.zip (l.drop 1)) (fun z => (.tuple [iD z.1, iD z.2] : D)) (fun z => [(1, iD z.1), (2, iD z.2)]) (fun _ => true) (fun z => .bool (decide (z.1 < z.2))) hz rfl fun z _ => ⟨rfl, rfl, fun _ => rfl⟩
  refine def_rt (ret_ev (ap_1 hl ?_))
  rw [List.filter_eq_self.mpr fun _ _ => rfl, all_map]
  rw [List.all_eq_true.mpr fun z hz => by simpa using pw_next h z hz]
theorem e_is_lot {l : List Int} {m : Int} (h : l.Pairwise (· < ·)) (hr : ∀ x ∈ l, 0 ≤ x ∧ x ≤ m) (q : Pot) : s_is_lot [tpI l, .int m] q = some (.bool true, q) := by
  have hl := lcE_map (own := [2]) (g := gN 2) (tt := cst (.bool true)) (te := callE s_is_within [vr 2, cst (.int 0), vr 1]) (it := itE (vr 0)) (ρ := startE 3 [tpI l, .int m]) (q := q) (q1 := q) l iD (fun n => [(2, iD n)]) (fun _ => true) (fun _ => .bool true) (it_ev rfl rfl) rfl
    fun n hn => ⟨rfl, rfl, fun _ => call_ev (sq_cons rfl (sq_cons rfl (sq_cons rfl sq_nil))) (e_is_within (hr n hn) q)⟩
  refine def_rt (ret_ev (and_tt (ap1_ev (d := tpI l) rfl rfl) (and_tt (ap_1 hl ?_) (call_ev (ds := [tpI l]) (sq_cons rfl sq_nil) (e_are_rising h q)))))
  rw [List.filter_eq_self.mpr fun _ _ => rfl, all_map (fun _ => true)]
  simp
theorem e_is_strike_among {n : Int} {z : Int × Int} (h : 0 ≤ z.1 ∧ z.1 < n ∧ 0 ≤ z.2 ∧ z.2 < n) (q : Pot) : s_is_strike_among [.int n, pD z] q = some (.bool true, q) := by
  have hl := lcE_map (own := [2]) (g := gN 2) (tt := cst (.bool true)) (te := callE s_is_within [vr 2, cst (.int 0), ap2 subD (vr 0) (cst (.int 1))]) (it := itE (vr 1)) (ρ := startE 3 [.int n, pD z]) (q := q) (q1 := q) [z.1, z.2] iD (fun n => [(2, iD n)]) (fun _ => true) (fun _ => .bool true) (it_ev rfl rfl) rfl
    fun k hk => ⟨rfl, rfl, fun _ => call_ev (ds := [.int k, .int 0, .int (n - 1)]) (sq_cons rfl (sq_cons rfl (sq_cons rfl sq_nil))) (e_is_within (by
      rcases List.mem_cons.mp hk with e | e
      · rw [e]; omega
      · rw [List.mem_singleton.mp e]; omega) q)⟩
  refine def_rt (ret_ev (and_tt (call_ev (ds := [pD z, .int 2]) (sq_cons rfl (sq_cons rfl sq_nil)) (e_is_tuple rfl q)) (ap_1 hl ?_)))
  rw [List.filter_eq_self.mpr fun _ _ => rfl, all_map (fun _ => true)]
  simp
/-- a dispute -/
abbrev dsp (n : Int) (S : List (Int × Int)) : D := .tuple [.str "dispute", .int n, tpP S]
structure VD (n : Int) (S : List (Int × Int)) : Prop where
  n1 : 1 ≤ n
  n10 : n ≤ 10
  rng : ∀ z ∈ S, 0 ≤ z.1 ∧ z.1 < n ∧ 0 ≤ z.2 ∧ z.2 < n
  pw : S.Pairwise ltP
theorem e_is_dispute_any {n : Int} {S : List (Int × Int)} (v : VD n S) (q : Pot) : s_is_dispute_any [dsp n S] q = some (.bool true, q) := by
  have hl := lcE_map (own := [3]) (g := gN 3) (tt := cst (.bool true)) (te := callE s_is_strike_among [ap2 ixD (vr 0) (cst (.int 1)), vr 3]) (it := itE (ap2 ixD (vr 0) (cst (.int 2)))) (ρ := startE 4 [dsp n S]) (q := q) (q1 := q) S pD (fun z => [(3, pD z)]) (fun _ => true) (fun _ => .bool true) (it_ev (d := tpP S) rfl rfl) rfl
    fun z hz => ⟨rfl, rfl, fun _ => call_ev (ds := [.int n, pD z]) (sq_cons rfl (sq_cons rfl sq_nil)) (e_is_strike_among (v.rng z hz) q)⟩
  have hz : zipE [ap2 ixD (vr 0) (cst (.int 2)), sliE (ap2 ixD (vr 0) (cst (.int 2))) (soO (cst (.int 1))) noO] (startE 4 [dsp n S]) q = some ((S.zip (S.drop 1)).map fun z => (.tuple [pD z.1, pD z.2] : D), q) := by
    refine bind2 (a := [tpP S, .tuple ((S.map pD).drop 1)]) (q1 := q) (sq_cons rfl (sq_cons ?_ sq_nil)) (of_eq ?_)
    · rw [← cut_1]; rfl
    · show some (((S.map pD).zip ((S.map pD).drop 1)).map _) = _
      rw [zip_drop, List.map_map]; rfl
  have hl2 := lcE_map (own := [1, 2]) (g := gT [gN 1, gN 2]) (tt := cst (.bool true)) (te := ap2 ltD (vr 1) (vr 2)) (S.zip (S.drop 1)) (fun z => (.tuple [pD z.1, pD z.2] : D)) (fun z => [(1, pD z.1), (2, pD z.2)]) (fun _ => true) (fun z => .bool (decide (ltP z.1 z.2))) hz rfl fun z _ => ⟨rfl, rfl, fun _ => ap2_ev rfl rfl (ltD_p z.1 z.2)⟩
  have a1 : orE (ap1 notD (callE s_is_tuple [vr 0, cst (.int 3)])) (orE (ap1 notD (ap1 (isiD "str") (ap2 ixD (vr 0) (cst (.int 0))))) (ap2 neD (ap2 ixD (vr 0) (cst (.int 0))) (cst (.str "dispute")))) (startE 4 [dsp n S]) q = some (.bool false, q) := by
    refine or_ff (ap1_ev (call_ev (ds := [dsp n S, .int 3]) (sq_cons rfl (sq_cons rfl sq_nil)) (e_is_tuple rfl q)) rfl) (or_ff (ap1_ev (ap1_ev (d := .str "dispute") rfl rfl) rfl) ?_)
    exact ap2_ev (d := .str "dispute") (e1 := .str "dispute") rfl rfl (ne_str (by decide +kernel))
  have a2 : orE (ap1 notD (callE s_is_within [ap2 ixD (vr 0) (cst (.int 1)), cst (.int 1), cst (.int 10)])) (ap1 notD (ap1 (isiD "tuple") (ap2 ixD (vr 0) (cst (.int 2))))) (startE 4 [dsp n S]) q = some (.bool false, q) := by
    exact or_ff (ap1_ev (call_ev (ds := [.int n, .int 1, .int 10]) (sq_cons rfl (sq_cons rfl (sq_cons rfl sq_nil))) (e_is_within ⟨v.n1, v.n10⟩ q)) rfl) (ap1_ev (ap1_ev (d := tpP S) rfl rfl) rfl)
  have a3 : ap1 notD (ap allD [lcE [3] (itE (ap2 ixD (vr 0) (cst (.int 2)))) (gN 3) (cst (.bool true)) (callE s_is_strike_among [ap2 ixD (vr 0) (cst (.int 1)), vr 3])]) (startE 4 [dsp n S]) q = some (.bool false, q) := by
    refine ap1_ev (d := .bool true) (ap_1 hl ?_) rfl
    rw [List.filter_eq_self.mpr fun _ _ => rfl, all_map (fun _ => true)]
    simp
  refine def_rt (ρ := startE 4 [dsp n S]) (seq_n (if_ff a1 rfl) (seq_n (if_ff a2 rfl) (seq_n (if_ff a3 rfl) (ret_ev (ap_1 hl2 ?_)))))
  rw [List.filter_eq_self.mpr fun _ _ => rfl, all_map]
  rw [List.all_eq_true.mpr fun z hz => by simpa using pw_next v.pw z hz]
theorem in0 (k : Int) (l : List Int) : inG false (.int k) (tpI l) = some (.bool (decide (k ∈ l))) := by
  rw [in_tI]; cases decide (k ∈ l) <;> rfl
theorem nin0 (k : Int) (l : List Int) : inG true (.int k) (tpI l) = some (.bool (!decide (k ∈ l))) := by
  rw [in_tI]; cases decide (k ∈ l) <;> rfl
theorem in1 (k : Int) (l : List Int) : inG false (.int k) (.list (l.map iD)) = some (.bool (decide (k ∈ l))) := by
  rw [in_lI]; cases decide (k ∈ l) <;> rfl
theorem nin1 (k : Int) (l : List Int) : inG true (.int k) (.list (l.map iD)) = some (.bool (!decide (k ∈ l))) := by
  rw [in_lI]; cases decide (k ∈ l) <;> rfl
/-- a lot -/
structure LV (n : Int) (l : List Int) : Prop where
  rng : ∀ x ∈ l, 0 ≤ x ∧ x < n
  pw : l.Pairwise (· < ·)
theorem e_is_lot_of {n : Int} {S : List (Int × Int)} {l : List Int} (h : LV n l) (q : Pot) : s_is_lot_of [dsp n S, tpI l] q = some (.bool true, q) :=
  def_rt (ret_ev (call_ev (ds := [tpI l, .int (n - 1)]) (sq_cons rfl (sq_cons rfl sq_nil)) (e_is_lot h.pw (fun x hx => by have := h.rng x hx; omega) q)))
theorem e_want_dispute {n : Int} {S : List (Int × Int)} (v : VD n S) (q : Pot) : s_want_dispute [dsp n S] q = some (.none, q) :=
  def_nx (if_ff (ap1_ev (call_ev (ds := [dsp n S]) (sq_cons rfl sq_nil) (e_is_dispute_any v q)) rfl) rfl)
theorem e_want_more {n : Int} {S : List (Int × Int)} (v : VD n S) (q : Pot) : s_want_more [dsp n S] q = some (.none, q) :=
  def_nx (if_ff (ap1_ev (call_ev (ds := [dsp n S]) (sq_cons rfl sq_nil) (e_is_dispute_any v q)) rfl) rfl)
def strL (S : List (Int × Int)) (l : List Int) : List Int := (S.filter fun z => decide (z.1 ∈ l)).map (·.2)
theorem mem_strL {S : List (Int × Int)} {l : List Int} {x : Int} : x ∈ strL S l ↔ ∃ z ∈ S, z.1 ∈ l ∧ z.2 = x := by
  unfold strL
  rw [List.mem_map]
  constructor
  · rintro ⟨z, hz, e⟩
    obtain ⟨h1, h2⟩ := List.mem_filter.mp hz
    exact ⟨z, h1, by simpa using h2, e⟩
  · rintro ⟨z, h1, h2, e⟩
    exact ⟨z, List.mem_filter.mpr ⟨h1, by simpa using h2⟩, e⟩
theorem strL_len (S : List (Int × Int)) (l : List Int) : (strL S l).length ≤ S.length := by
  unfold strL
  rw [List.length_map]
  exact List.length_filter_le _ _
theorem VD.few {n : Int} {S : List (Int × Int)} (v : VD n S) : S.length ≤ 100 := by
  have h := few_pairs v.pw v.rng
  have h2 : n.toNat ≤ 10 := by have := v.n10; omega
  have := Nat.mul_le_mul h2 h2
  omega
theorem strL_rng {n : Int} {S : List (Int × Int)} (v : VD n S) (l : List Int) : ∀ x ∈ strL S l, 0 ≤ x ∧ x < n := fun x hx => by
  obtain ⟨z, h1, _, e⟩ := mem_strL.mp hx
  have := v.rng z h1
  omega
def struck (S : List (Int × Int)) (l : List Int) : List Int := sortI (dedI (strL S l))
theorem mem_struck {S : List (Int × Int)} {l : List Int} {x : Int} : x ∈ struck S l ↔ x ∈ strL S l := by
  unfold struck
  rw [(sortI_perm _).mem_iff, mem_dedI]
theorem struck_few {n : Int} {S : List (Int × Int)} (v : VD n S) (l : List Int) : (struck S l).length ≤ 10 := by
  unfold struck
  rw [(sortI_perm _).length_eq]
  have h1 := few_in (strL_rng v l)
  have := v.n10
  omega
theorem e_struck_by {n : Int} {S : List (Int × Int)} (v : VD n S) (l : List Int) (q : Pot) : s_struck_by [dsp n S, tpI l] q = some (.list ((struck S l).map iD), q) := by
  have hl := lcE_map (own := [2, 3]) (g := gT [gN 2, gN 3]) (tt := ap2 (inG false) (vr 2) (vr 1)) (te := vr 3) (it := itE (ap2 ixD (vr 0) (cst (.int 2)))) (ρ := startE 4 [dsp n S, tpI l]) (q := q) (q1 := q) S pD (fun z => [(2, iD z.1), (3, iD z.2)]) (fun z => decide (z.1 ∈ l)) (fun z => iD z.2) (it_ev (d := tpP S) rfl rfl) rfl
    fun z _ => ⟨rfl, ap2_ev rfl rfl (in0 z.1 l), fun _ => rfl⟩
  refine def_rt (ret_ev (ap1_ev hl ?_))
  have e : (S.filter fun z => decide (z.1 ∈ l)).map (fun z => iD z.2) = (strL S l).map iD := by
    unfold strL
    rw [List.map_map]; rfl
  rw [e]
  have h1 := struck_few v l
  unfold struck at h1
  rw [(sortI_perm _).length_eq] at h1
  have h2 := strL_len S l
  have h3 := v.few
  exact srtSet_ints _ (by omega) (by omega)
/-- a lot that stands ahead -/
structure AV (n : Int) (S : List (Int × Int)) (l : List Int) : Prop extends LV n l where
  ne : l ≠ []
  cl : ∀ z ∈ S, z.2 ∈ l → z.1 ∈ l
theorem e_is_ahead_of {n : Int} {S : List (Int × Int)} {l : List Int} (h : AV n S l) (q : Pot) : s_is_ahead_of [dsp n S, tpI l] q = some (.bool true, q) := by
  have hl := lcE_map (own := [2, 3]) (g := gT [gN 2, gN 3]) (tt := cst (.bool true)) (te := andE (ap2 (inG false) (vr 3) (vr 1)) (ap2 (inG true) (vr 2) (vr 1))) (it := itE (ap2 ixD (vr 0) (cst (.int 2)))) (ρ := startE 4 [dsp n S, tpI l]) (q := q) (q1 := q) S pD (fun z => [(2, iD z.1), (3, iD z.2)]) (fun _ => true) (fun z => .bool (decide (z.2 ∈ l) && !decide (z.1 ∈ l))) (it_ev (d := tpP S) rfl rfl) rfl
    fun z _ => ⟨rfl, rfl, fun _ => and_b (ap2_ev rfl rfl (in0 z.2 l)) (ap2_ev rfl rfl (nin0 z.1 l))⟩
  refine def_rt (ρ := startE 4 [dsp n S, tpI l]) (seq_n (if_ff (or_ff (ap1_ev (call_ev (ds := [dsp n S, tpI l]) (sq_cons rfl (sq_cons rfl sq_nil)) (e_is_lot_of h.toLV q)) rfl) ?_) rfl) (ret_ev (ap1_ev (d := .bool false) (ap_1 hl ?_) rfl)))
  · refine ap2_ev (d := tpI l) (e1 := .tuple []) rfl rfl ?_
    rw [eq_nil]; simp [h.ne]
  · rw [List.filter_eq_self.mpr fun _ _ => rfl, any_map]
    have z : (S.any fun z => decide (z.2 ∈ l) && !decide (z.1 ∈ l)) = false := by
      rw [List.any_eq_false]
      intro z hz
      have := h.cl z hz
      by_cases c : z.2 ∈ l <;> simp [c, this]
    rw [z]
theorem e_want_ahead {n : Int} {S : List (Int × Int)} {l : List Int} (v : VD n S) (h : AV n S l) (q : Pot) : s_want_ahead [dsp n S, tpI l] q = some (.none, q) :=
  def_nx (seq_n (exp_ev (call_ev (ds := [dsp n S]) (sq_cons rfl sq_nil) (e_want_dispute v q))) (if_ff (ap1_ev (call_ev (ds := [dsp n S, tpI l]) (sq_cons rfl (sq_cons rfl sq_nil)) (e_is_ahead_of h q)) rfl) rfl))
end Cm
/-! equality of plain data; who strikes, what is defended; kinds of lots -/
namespace Sd
open PySem PySem.Spec PyProof.Rows
/-! ### data without truth values and dicts -/
mutual
def nb : D → Bool
  | .none => true
  | .bool _ => false
  | .int _ => true
  | .str _ => true
  | .list ds => nbL ds
  | .tuple ds => nbL ds
  | .dict _ => false
def nbL : List D → Bool
  | [] => true
  | d :: r => nb d && nbL r
end
mutual
theorem eqv_iff : ∀ {d e : D}, nb d = true → nb e = true → (PyData.eqv d e = true ↔ d = e)
  | .none, e, _, h => by cases e <;> simp [PyData.eqv] at h ⊢
  | .int i, e, _, h => by cases e <;> simp [PyData.eqv, nb] at h ⊢
  | .str i, e, _, h => by cases e <;> simp [PyData.eqv, nb] at h ⊢
  | .list ds, e, h1, h => by
    cases e with
    | list es => simp only [PyData.eqv, PyData.list.injEq]; exact eqvL_iff (by simpa [nb] using h1) (by simpa [nb] using h)
    | _ => simp [PyData.eqv]
  | .tuple ds, e, h1, h => by
    cases e with
    | tuple es => simp only [PyData.eqv, PyData.tuple.injEq]; exact eqvL_iff (by simpa [nb] using h1) (by simpa [nb] using h)
    | _ => simp [PyData.eqv]
  | .bool _, _, h, _ => by simp [nb] at h
  | .dict _, _, h, _ => by simp [nb] at h
theorem eqvL_iff : ∀ {d e : List D}, nbL d = true → nbL e = true → (PyData.eqvAll d e = true ↔ d = e)
  | [], [], _, _ => by simp [PyData.eqvAll]
  | [], _ :: _, _, _ => by simp [PyData.eqvAll]
  | _ :: _, [], _, _ => by simp [PyData.eqvAll]
  | x :: xs, y :: ys, h1, h2 => by
    simp only [nbL, Bool.and_eq_true] at h1 h2
    simp only [PyData.eqvAll, Bool.and_eq_true, List.cons.injEq, eqv_iff h1.1 h2.1, eqvL_iff h1.2 h2.2]
end
theorem nbL_iff : ∀ {ds : List D}, nbL ds = true ↔ ∀ d ∈ ds, nb d = true
  | [] => by simp [nbL]
  | d :: ds => by
    simp only [nbL, Bool.and_eq_true, nbL_iff (ds := ds), List.mem_cons]
    exact ⟨fun h e he => he.elim (fun z => z ▸ h.1) (h.2 e), fun h => ⟨h d (.inl rfl), fun e he => h e (.inr he)⟩⟩
theorem nb_ints (l : List Int) : nbL (l.map iD) = true := nbL_iff.mpr fun d hd => by
  obtain ⟨i, _, rfl⟩ := List.mem_map.mp hd; rfl
mutual
theorem nb_nod : ∀ {d : D}, nb d = true → nod d = true
  | .none, _ => by simp [nod]
  | .int _, _ => by simp [nod]
  | .str _, _ => by simp [nod]
  | .list ds, h => by simp only [nod]; exact nbL_nod (by simpa [nb] using h)
  | .tuple ds, h => by simp only [nod]; exact nbL_nod (by simpa [nb] using h)
  | .bool _, h => by simp [nb] at h
  | .dict _, h => by simp [nb] at h
theorem nbL_nod : ∀ {ds : List D}, nbL ds = true → nodL ds = true
  | [], _ => by simp [nodL]
  | d :: ds, h => by
    simp only [nbL, Bool.and_eq_true] at h
    simp only [nodL, nb_nod h.1, nbL_nod h.2, Bool.and_self]
end
/-- compared as they are -/
def PE (d : D) : Prop := nb d = true ∧ SeqAt.shaped d = true
theorem eq_PE {d e : D} (h1 : PE d) (h2 : PE e) {b : Bool} (hb : b = true ↔ d = e) : eqD d e = some (.bool b) := by
  unfold eqD
  rw [if_pos (by simp [h1.2, h2.2, nb_nod h1.1, nb_nod h2.1])]
  congr 2
  rw [Bool.eq_iff_iff, eqv_iff h1.1 h2.1, hb]
theorem ne_PE {d e : D} (h1 : PE d) (h2 : PE e) {b : Bool} (hb : b = true ↔ d = e) : neD d e = some (.bool (!b)) := by
  unfold neD
  rw [if_pos (by simp [h1.2, h2.2, nb_nod h1.1, nb_nod h2.1])]
  congr 3
  rw [Bool.eq_iff_iff, eqv_iff h1.1 h2.1, hb]
theorem in_PE {d e : D} {ds : List D} (hi : items e = some ds) (h1 : PE d) (h2 : PE e) (h3 : ∀ z ∈ ds, nb z = true) (neg : Bool) {b : Bool} (hb : b = true ↔ d ∈ ds) : inG neg d e = some (.bool (neg != b)) := by
  unfold inG
  rw [hi]
  dsimp only
  rw [if_pos (by simp [h1.2, h2.2, nb_nod h1.1, nb_nod h2.1])]
  congr 3
  rw [Bool.eq_iff_iff, List.any_eq_true, hb]
  exact ⟨fun ⟨z, hz, e⟩ => by rw [← (eqv_iff (h3 z hz) h1.1).mp e]; exact hz, fun h => ⟨d, h, (eqv_iff h1.1 h1.1).mpr rfl⟩⟩
theorem pe_tI (l : List Int) : PE (tpI l) := ⟨by simp only [nb]; exact nb_ints l, shaped_tI l⟩
theorem pe_lI (l : List Int) : PE (.list (l.map iD)) := ⟨by simp only [nb]; exact nb_ints l, shaped_lI l⟩
theorem pe_i (k : Int) : PE (.int k) := ⟨rfl, shaped_i k⟩
theorem pe_none : PE .none := ⟨rfl, by decide +kernel⟩
theorem ints_inj {a b : List Int} : a.map iD = b.map iD ↔ a = b := List.map_inj_right fun x y h => by cases h; rfl
theorem tI_inj {a b : List Int} : tpI a = tpI b ↔ a = b := by
  rw [PyData.tuple.injEq]; exact ints_inj
theorem ne_tI (a b : List Int) : neD (tpI a) (tpI b) = some (.bool (!decide (a = b))) := ne_PE (pe_tI a) (pe_tI b) (by rw [decide_eq_true_iff, tI_inj])
theorem eq_tI (a b : List Int) : eqD (tpI a) (tpI b) = some (.bool (decide (a = b))) := eq_PE (pe_tI a) (pe_tI b) (by rw [decide_eq_true_iff, tI_inj])
theorem eq_lI (a b : List Int) : eqD (.list (a.map iD)) (.list (b.map iD)) = some (.bool (decide (a = b))) := eq_PE (pe_lI a) (pe_lI b) (by rw [decide_eq_true_iff, PyData.list.injEq, ints_inj])
/-! ### more steps -/
section
variable {f g c : SE} {a b t : Env → M D} {ρ ρ' : Env} {q q1 q2 : Pot} {d e : D} {i j : Nat} {ba bb : Bool}
theorem par2_ev (h1 : a ρ q = some (d, q1)) (h2 : b ρ q1 = some (e, q2)) (hi : i < ρ.length ∧ j < ρ.length := by exact ⟨Nat.le_of_ble_eq_true rfl, Nat.le_of_ble_eq_true rfl⟩) (n1 : ba = true → isLD d = true := by intro z; cases z) (n2 : bb = true → isLD e = true := by intro z; cases z) : parS [i, j] [(ba, a), (bb, b)] ρ q = some ((.nx, (ρ.set i (some (ba, d))).set j (some (bb, e))), q2) := by
  show (if ([i, j].all fun i => decide (i < ρ.length)) = true then _ else _ : M (Fl × Sd.Env)) q = _
  rw [if_pos (by simp [hi.1, hi.2])]
  have s2 : seqB [(bb, b)] ρ q1 = some ([(bb, e)], q2) := by
    refine bind2 h2 ?_
    rw [if_neg (by rintro ⟨x, y⟩; rw [n2 x] at y; cases y)]
    rfl
  have s1 : seqB [(ba, a), (bb, b)] ρ q = some ([(ba, d), (bb, e)], q2) := by
    refine bind2 h1 ?_
    rw [if_neg (by rintro ⟨x, y⟩; rw [n1 x] at y; cases y)]
    exact bind2 s2 rfl
  exact bind2 s1 rfl
theorem while_f {n : Nat} (h : t ρ q = some (.bool false, q1)) : whileS t f (n + 1) ρ q = some ((.nx, ρ), q1) := bind2 h rfl
theorem while_t {n : Nat} {r : Option ((Fl × Env) × Pot)} (h : t ρ q = some (.bool true, q1)) (h2 : f ρ q1 = some ((.nx, ρ'), q2)) (h3 : whileS t f n ρ' q2 = r) : whileS t f (n + 1) ρ q = r := bind2 h (bind2 h2 h3)
theorem asg_ev {g : Gd} {as : List (Nat × D)} (h : a ρ q = some (d, q1)) (h2 : g d = some as) : asgS a g ρ q = some ((.nx, sets ρ (as.map (·.1)) (cl as)), q1) := bind2 h (bind2 (of_eq h2) rfl)
theorem ix_upTo {n : Int} (f : Int → D) {c : Int} (h : 0 ≤ c ∧ c < n) : ixD (.list ((upTo n).map f)) (.int c) = some (f c) := by
  show L2.atI ((upTo n).map f) c = _
  refine atI_nat h.1 ?_
  rw [List.getElem?_map]
  have lt : c.toNat < (upTo n).length := by rw [upTo_len]; omega
  rw [List.getElem?_eq_getElem lt]
  have : (upTo n)[c.toNat] = c := by
    show ((List.range n.toNat).map fun i : Nat => (i : Int))[c.toNat]'(by rw [List.length_map, List.length_range]; omega) = c
    rw [List.getElem_map, List.getElem_range]
    omega
  rw [this]; rfl
end
theorem upTo_rng {ex : Env → M D} {ρ : Env} {q : Pot} {n : Int} (h : ex ρ q = some (.int n, q)) (hn : -1000000 ≤ n ∧ n ≤ 1000000) : rngE ex ρ q = some ((upTo n).map iD, q) := by
  have e : (upTo n).map iD = (List.range n.toNat).map fun i => (.int (i : Nat) : D) := by
    unfold upTo; rw [List.map_map]; rfl
  rw [e]; exact rng_ev h hn
theorem all_congr {α : Type} {p q : α → Bool} : ∀ {l : List α}, (∀ x ∈ l, p x = q x) → l.all p = l.all q
  | [], _ => rfl
  | x :: l, h => by
    rw [List.all_cons, List.all_cons, h x List.mem_cons_self, all_congr fun y hy => h y (List.mem_cons_of_mem _ hy)]
theorem any_congr {α : Type} {p q : α → Bool} : ∀ {l : List α}, (∀ x ∈ l, p x = q x) → l.any p = l.any q
  | [], _ => rfl
  | x :: l, h => by
    rw [List.any_cons, List.any_cons, h x List.mem_cons_self, any_congr fun y hy => h y (List.mem_cons_of_mem _ hy)]
theorem filter_true {α : Type} (l : List α) : l.filter (fun _ => true) = l := List.filter_eq_self.mpr fun _ _ => rfl
end Sd
namespace Cm
open PySem PySem.Spec PyProof.Rows Sd
def rowL (S : List (Int × Int)) (c : Int) : List Int := (S.filter fun z => decide (z.2 = c)).map (·.1)
theorem mem_rowL {S : List (Int × Int)} {a c : Int} : a ∈ rowL S c ↔ (a, c) ∈ S := by
  unfold rowL
  rw [List.mem_map]
  constructor
  · rintro ⟨z, hz, rfl⟩
    obtain ⟨h1, h2⟩ := List.mem_filter.mp hz
    have h2 : z.2 = c := by simpa using h2
    rw [← h2]; exact h1
  · intro h
    exact ⟨(a, c), List.mem_filter.mpr ⟨h, by simp⟩, rfl⟩
theorem mem_strL' {S : List (Int × Int)} {l : List Int} {x : Int} : x ∈ strL S l ↔ ∃ a ∈ l, (a, x) ∈ S := by
  rw [mem_strL]
  constructor
  · rintro ⟨z, h1, h2, rfl⟩; exact ⟨z.1, h2, h1⟩
  · rintro ⟨a, h1, h2⟩; exact ⟨(a, x), h2, h1, rfl⟩
theorem pairsD_map : ∀ S : List (Int × Int), pairsD (S.map pD) = some S
  | [] => rfl
  | z :: S => by
    show (pairsD (S.map pD)).map ((z.1, z.2) :: ·) = _
    rw [pairsD_map S]; rfl
theorem e_strikers_of {n : Int} {S : List (Int × Int)} (v : VD n S) (q : Pot) : s_strikers_of [dsp n S] q = some (.list ((Sd.upTo n).map fun c => .list ((rowL S c).map iD)), q) := by
  show (match pairsD (S.map pD) with
    | some P => if (0 ≤ n ∧ n ≤ 1000) ∧ (P.all fun z => decide (0 ≤ z.2 ∧ z.2 < n)) = true ∧ P.length ≤ 100000 then M.pure (PyData.list (rowsD n.toNat P)) else M.fail
    | none => M.fail : M D) q = _
  rw [pairsD_map]
  have n1 := v.n1
  have n10 := v.n10
  have f1 := v.few
  show (if _ then _ else _ : M D) q = _
  rw [if_pos ⟨by omega, List.all_eq_true.mpr fun z hz => by have := v.rng z hz; simp; omega, by omega⟩]
  have e : rowsD n.toNat S = (Sd.upTo n).map fun c => .list ((rowL S c).map iD) := by
    unfold rowsD Sd.upTo rowL
    rw [List.map_map]
    refine List.map_congr_left fun j _ => ?_
    show PyData.list _ = PyData.list _
    rw [List.map_map]; rfl
  rw [e]; rfl
def defL (n : Int) (S : List (Int × Int)) (l : List Int) : List Int := (Sd.upTo n).filter fun c => (rowL S c).all fun a => decide (a ∈ strL S l)
theorem mem_defL {n : Int} {S : List (Int × Int)} {l : List Int} {x : Int} : x ∈ defL n S l ↔ (0 ≤ x ∧ x < n) ∧ ∀ a, (a, x) ∈ S → a ∈ strL S l := by
  unfold defL
  rw [List.mem_filter, Sd.mem_upTo, List.all_eq_true]
  refine and_congr Iff.rfl ⟨fun h a ha => by simpa using h a (mem_rowL.mpr ha), fun h a ha => by simpa using h a (mem_rowL.mp ha)⟩
theorem defL_sub (n : Int) (S : List (Int × Int)) (l : List Int) : List.Sublist (defL n S l) (Sd.upTo n) := List.filter_sublist
/-- lots given as a tuple, as a list -/
def IsSeq (d : D) (l : List Int) : Prop := d = tpI l ∨ d = .list (l.map iD)
theorem IsSeq.items {d : D} {l : List Int} (h : IsSeq d l) : items d = some (l.map iD) := by
  rcases h with rfl | rfl <;> rfl
theorem IsSeq.in_ {d : D} {l : List Int} (h : IsSeq d l) (k : Int) : inG false (.int k) d = some (.bool (decide (k ∈ l))) := by
  rcases h with rfl | rfl
  · exact in0 k l
  · exact in1 k l
theorem IsSeq.nin {d : D} {l : List Int} (h : IsSeq d l) (k : Int) : inG true (.int k) d = some (.bool (!decide (k ∈ l))) := by
  rcases h with rfl | rfl
  · exact nin0 k l
  · exact nin1 k l
theorem isT (l : List Int) : IsSeq (tpI l) l := .inl rfl
theorem isLs (l : List Int) : IsSeq (.list (l.map iD)) l := .inr rfl
theorem e_struck {n : Int} {S : List (Int × Int)} (v : VD n S) {dl : D} {l : List Int} (h : IsSeq dl l) (q : Pot) : s_struck_by [dsp n S, dl] q = some (.list ((struck S l).map iD), q) := by
  have hl := lcE_map (own := [2, 3]) (g := gT [gN 2, gN 3]) (tt := ap2 (inG false) (vr 2) (vr 1)) (te := vr 3) (it := itE (ap2 ixD (vr 0) (cst (.int 2)))) (ρ := startE 4 [dsp n S, dl]) (q := q) (q1 := q) S pD (fun z => [(2, iD z.1), (3, iD z.2)]) (fun z => decide (z.1 ∈ l)) (fun z => iD z.2) (it_ev (d := tpP S) rfl rfl) rfl
    fun z _ => ⟨rfl, ap2_ev rfl rfl (h.in_ z.1), fun _ => rfl⟩
  refine def_rt (ret_ev (ap1_ev hl ?_))
  have e : (S.filter fun z => decide (z.1 ∈ l)).map (fun z => iD z.2) = (strL S l).map iD := by
    unfold strL
    rw [List.map_map]; rfl
  rw [e]
  have h1 := struck_few v l
  unfold struck at h1
  rw [(sortI_perm _).length_eq] at h1
  have h2 := strL_len S l
  have h3 := v.few
  exact srtSet_ints _ (by omega) (by omega)
theorem e_defended_by {n : Int} {S : List (Int × Int)} (v : VD n S) {dl : D} {l : List Int} (h : IsSeq dl l) (q : Pot) : s_defended_by [dsp n S, dl] q = some (tpI (defL n S l), q) := by
  have n1 := v.n1
  have n10 := v.n10
  refine def_rt (seq_n (par2_ev (call_ev (ds := [dsp n S, dl]) (sq_cons rfl (sq_cons rfl sq_nil)) (e_struck v h q)) (call_ev (ds := [dsp n S]) (sq_cons rfl sq_nil) (e_strikers_of v q))) (ret_ev (ap_1 (d := .list ((defL n S l).map iD)) ?_ rfl)))
  refine lcE_map (Sd.upTo n) iD (fun c => [(4, iD c)]) (fun c => (rowL S c).all fun a => decide (a ∈ strL S l)) iD (q1 := q) (upTo_rng rfl (by omega)) rfl fun c hc => ⟨rfl, ?_, fun _ => rfl⟩
  have hc := Sd.mem_upTo.mp hc
  refine ap_1 (lcE_map (rowL S c) iD (fun a => [(5, iD a)]) (fun _ => true) (fun a => .bool (decide (a ∈ struck S l))) (q1 := q) (it_ev (d := .list ((rowL S c).map iD)) (ap2_ev rfl rfl (ix_upTo (fun c => .list ((rowL S c).map iD)) hc)) rfl) rfl fun a _ => ⟨rfl, rfl, fun _ => ap2_ev rfl rfl (in1 a _)⟩) ?_
  rw [filter_true, all_map]
  congr 2
  exact all_congr fun a _ => decide_eq_decide.mpr mem_struck
def quietB (S : List (Int × Int)) (l : List Int) : Bool := !(strL S l).any fun x => decide (x ∈ l)
theorem quietB_iff {S : List (Int × Int)} {l : List Int} : quietB S l = true ↔ ∀ a ∈ l, ∀ b ∈ l, (a, b) ∉ S := by
  unfold quietB
  rw [Bool.not_eq_true', List.any_eq_false]
  constructor
  · intro h a ha b hb hs
    exact h b (mem_strL'.mpr ⟨a, ha, hs⟩) (by simpa using hb)
  · intro h x hx hd
    obtain ⟨a, ha, hs⟩ := mem_strL'.mp hx
    exact h a ha x (by simpa using hd) hs
theorem any_mem {α : Type} {p : α → Bool} {l m : List α} (h : ∀ x, x ∈ l ↔ x ∈ m) : l.any p = m.any p := by
  rw [Bool.eq_iff_iff, List.any_eq_true, List.any_eq_true]
  exact ⟨fun ⟨x, h1, h2⟩ => ⟨x, (h x).mp h1, h2⟩, fun ⟨x, h1, h2⟩ => ⟨x, (h x).mpr h1, h2⟩⟩
theorem all_mem {α : Type} {p : α → Bool} {l m : List α} (h : ∀ x, x ∈ l ↔ x ∈ m) : l.all p = m.all p := by
  rw [Bool.eq_iff_iff, List.all_eq_true, List.all_eq_true]
  exact ⟨fun k x hx => k x ((h x).mpr hx), fun k x hx => k x ((h x).mp hx)⟩
theorem e_is_quiet {n : Int} {S : List (Int × Int)} (v : VD n S) {dl : D} {l : List Int} (h : IsSeq dl l) (q : Pot) : s_is_quiet [dsp n S, dl] q = some (.bool (quietB S l), q) := by
  refine def_rt (ret_ev (ap1_ev (d := .bool ((strL S l).any fun x => decide (x ∈ l))) (ap_1 (lcE_map (struck S l) iD (fun a => [(2, iD a)]) (fun _ => true) (fun a => .bool (decide (a ∈ l))) (q1 := q) (it_ev (d := .list ((struck S l).map iD)) (call_ev (ds := [dsp n S, dl]) (sq_cons rfl (sq_cons rfl sq_nil)) (e_struck v h q)) rfl) rfl fun a _ => ⟨rfl, rfl, fun _ => ap2_ev rfl rfl (h.in_ a)⟩) ?_) rfl))
  rw [filter_true, any_map]
  congr 2
  exact any_mem fun x => mem_struck
def upheldB (n : Int) (S : List (Int × Int)) (l : List Int) : Bool := quietB S l && l.all fun c => decide (c ∈ defL n S l)
theorem e_is_upheld {n : Int} {S : List (Int × Int)} (v : VD n S) (l : List Int) (q : Pot) : s_is_upheld [dsp n S, tpI l] q = some (.bool (upheldB n S l), q) := by
  refine def_rt (seq_n (set_ev (call_ev (ds := [dsp n S, tpI l]) (sq_cons rfl (sq_cons rfl sq_nil)) (e_defended_by v (isT l) q))) (ret_ev (and_b (call_ev (ds := [dsp n S, tpI l]) (sq_cons rfl (sq_cons rfl sq_nil)) (e_is_quiet v (isT l) q)) (ap_1 (lcE_map l iD (fun a => [(3, iD a)]) (fun _ => true) (fun a => .bool (decide (a ∈ defL n S l))) (q1 := q) (it_ev (d := tpI l) rfl rfl) rfl fun a _ => ⟨rfl, rfl, fun _ => ap2_ev rfl rfl (in0 a _)⟩) ?_))))
  rw [filter_true, all_map]
def fullB (n : Int) (S : List (Int × Int)) (l : List Int) : Bool := quietB S l && decide (defL n S l = l)
theorem e_is_full {n : Int} {S : List (Int × Int)} (v : VD n S) (l : List Int) (q : Pot) : s_is_full [dsp n S, tpI l] q = some (.bool (fullB n S l), q) :=
  def_rt (ret_ev (and_b (call_ev (ds := [dsp n S, tpI l]) (sq_cons rfl (sq_cons rfl sq_nil)) (e_is_quiet v (isT l) q)) (ap2_ev (d := tpI (defL n S l)) (e1 := tpI l) (call_ev (ds := [dsp n S, tpI l]) (sq_cons rfl (sq_cons rfl sq_nil)) (e_defended_by v (isT l) q)) (ap_1 (d := tpI l) rfl rfl) (eq_tI _ _))))
def settledB (n : Int) (S : List (Int × Int)) (l : List Int) : Bool := decide (struck S l = (Sd.upTo n).filter fun c => !decide (c ∈ l))
theorem e_is_settled {n : Int} {S : List (Int × Int)} (v : VD n S) (l : List Int) (q : Pot) : s_is_settled [dsp n S, tpI l] q = some (.bool (settledB n S l), q) := by
  have n1 := v.n1
  have n10 := v.n10
  exact def_rt (ret_ev (ap2_ev (q1 := q) (q2 := q) (d := .list ((struck S l).map iD)) (e1 := .list (((Sd.upTo n).filter fun c => !decide (c ∈ l)).map iD)) (call_ev (ds := [dsp n S, tpI l]) (sq_cons rfl (sq_cons rfl sq_nil)) (e_struck v (isT l) q)) (lcE_map (Sd.upTo n) iD (fun a => [(2, iD a)]) (fun c => !decide (c ∈ l)) iD (q1 := q) (upTo_rng rfl (by omega)) rfl fun a _ => ⟨rfl, ap2_ev rfl rfl (nin0 a _), fun _ => rfl⟩) (eq_lI _ _)))
end Cm
/-! runs without draws; all lots, quiet lots -/
namespace Sd
open PySem PySem.Spec PyProof.Rows
def PV (e : Sd.Env → M D) (ρ : Sd.Env) (d : D) : Prop := ∀ q, e ρ q = some (d, q)
def PS (s : SE) (ρ : Sd.Env) (R : Sd.Env → Prop) : Prop := ∀ q, ∃ ρ', s ρ q = some ((.nx, ρ'), q) ∧ R ρ'
def PR (s : SE) (ρ : Sd.Env) (d : D) : Prop := ∀ q, ∃ ρ', s ρ q = some ((.rt d, ρ'), q)
section
variable {e t a b : Sd.Env → M D} {f g s : SE} {ρ : Sd.Env} {S S' : Sd.Env → Prop} {i n : Nat} {d d' : D} {ds : List D} {c : Bool}
theorem PS.imp (h : PS s ρ S) (z : ∀ d, S d → S' d) : PS s ρ S' := fun q => by
  obtain ⟨ρ', h1, h2⟩ := h q
  exact ⟨ρ', h1, z _ h2⟩
theorem p_nil (h : S ρ) : PS nilS ρ S := fun q => ⟨ρ, rfl, h⟩
theorem p_seq (h1 : PS f ρ S) (h2 : ∀ ρ', S ρ' → PS g ρ' S') : PS (seqS f g) ρ S' := fun q => by
  obtain ⟨ρ1, e1, r1⟩ := h1 q
  obtain ⟨ρ2, e2, r2⟩ := h2 ρ1 r1 q
  exact ⟨ρ2, seq_n e1 e2, r2⟩
theorem p_seqR (h1 : PS f ρ S) (h2 : ∀ ρ', S ρ' → PR g ρ' d) : PR (seqS f g) ρ d := fun q => by
  obtain ⟨ρ1, e1, r1⟩ := h1 q
  obtain ⟨ρ2, e2⟩ := h2 ρ1 r1 q
  exact ⟨ρ2, seq_n e1 e2⟩
theorem p_seqL (h1 : PR f ρ d) : PR (seqS f g) ρ d := fun q => by
  obtain ⟨ρ1, e1⟩ := h1 q
  exact ⟨ρ1, seq_rt e1⟩
theorem p_ret (h : PV e ρ d) : PR (retS e) ρ d := fun q => ⟨ρ, ret_ev (h q)⟩
theorem p_def (h : PR f (startE n ds) d) (q : Pot) : defM n f ds q = some (d, q) := by
  obtain ⟨ρ', e1⟩ := h q
  exact def_rt e1
theorem p_defN (h : PS f (startE n ds) S) (q : Pot) : defM n f ds q = some (.none, q) := by
  obtain ⟨ρ', e1, _⟩ := h q
  exact def_nx e1
theorem p_set (h : PV e ρ d) (z : S (ρ.set i (some (false, d)))) : PS (setS i e) ρ S := fun q => ⟨_, set_ev (h q), z⟩
theorem setB_ev {q q1 : Pot} (h : e ρ q = some (d, q1)) (l : isLD d = true) : setB i e ρ q = some ((.nx, ρ.set i (some (true, d))), q1) := by
  refine bind2 h ?_
  show (if _ then _ else _ : M (Fl × Sd.Env)) q1 = _
  rw [if_pos l]; rfl
theorem p_setB (h : PV e ρ d) (l : isLD d = true) (z : S (ρ.set i (some (true, d)))) : PS (setB i e) ρ S := fun q => ⟨_, setB_ev (h q) l, z⟩
theorem p_exp (h : PV e ρ d) (z : S ρ) : PS (exprS e) ρ S := fun q => ⟨_, exp_ev (h q), z⟩
theorem p_if (h : PV t ρ (.bool c)) (h1 : c = true → PS f ρ S) (h2 : c = false → PS g ρ S) : PS (ifS t f g) ρ S := fun q => by
  cases c with
  | true => obtain ⟨ρ', e1, r⟩ := h1 rfl q; exact ⟨ρ', if_tt (h q) e1, r⟩
  | false => obtain ⟨ρ', e1, r⟩ := h2 rfl q; exact ⟨ρ', if_ff (h q) e1, r⟩
theorem p_ifF (h : PV t ρ (.bool false)) (h2 : PS g ρ S) : PS (ifS t f g) ρ S := p_if h (fun z => by cases z) fun _ => h2
theorem p_ifT (h : PV t ρ (.bool true)) (h2 : PS f ρ S) : PS (ifS t f g) ρ S := p_if h (fun _ => h2) fun z => by cases z
theorem p_ifR (h : PV t ρ (.bool true)) (h1 : PR f ρ d) : PR (ifS t f g) ρ d := fun q => by
  obtain ⟨ρ', e1⟩ := h1 q; exact ⟨ρ', if_tt (h q) e1⟩
theorem p_ifRF (h : PV t ρ (.bool false)) (h1 : PR g ρ d) : PR (ifS t f g) ρ d := fun q => by
  obtain ⟨ρ', e1⟩ := h1 q; exact ⟨ρ', if_ff (h q) e1⟩
theorem p_par2 {j : Nat} {ba bb : Bool} (h1 : PV a ρ d) (h2 : PV b ρ d') (hi : i < ρ.length ∧ j < ρ.length) (n1 : ba = true → isLD d = true) (n2 : bb = true → isLD d' = true) (z : S ((ρ.set i (some (ba, d))).set j (some (bb, d')))) : PS (parS [i, j] [(ba, a), (bb, b)]) ρ S := fun q => ⟨_, par2_ev (h1 q) (h2 q) hi n1 n2, z⟩
theorem p_asg {gd : Gd} {as : List (Nat × D)} (h : PV a ρ d) (h2 : gd d = some as) (z : S (sets ρ (as.map (·.1)) (cl as))) : PS (asgS a gd) ρ S := fun q => ⟨_, asg_ev (h q) h2, z⟩
theorem p_app {ds : List D} (h : PV e ρ d) (hi : ρ[i]? = some (some (true, .list ds))) (hl : ds.length < 1000000) (z : S (ρ.set i (some (true, .list (ds ++ [d]))))) : PS (bldS i appH e) ρ S := fun q => by
  refine ⟨_, ?_, z⟩
  refine bind2 (h q) ?_
  rw [hi]
  show (if _ then _ else _ : M (Fl × Sd.Env)) q = _
  rw [if_pos (by rw [List.length_append]; exact hl)]
  rfl
theorem p_ext {ds xs : List D} (h : PV e ρ (.list xs)) (hi : ρ[i]? = some (some (true, .list ds))) (hl : ds.length + xs.length ≤ 1000000) (z : S (ρ.set i (some (true, .list (ds ++ xs))))) : PS (bldS i extL e) ρ S := fun q => by
  refine ⟨_, ?_, z⟩
  refine bind2 (h q) ?_
  rw [hi]
  show (if _ then _ else _ : M (Fl × Sd.Env)) q = _
  rw [if_pos (by rw [List.length_append]; exact hl)]
  rfl
theorem forGo_p {α : Type} {gd : Gd} {body : SE} (ed : α → D) (I : List α → Sd.Env → Prop) : ∀ (post pre : List α) (ρ : Sd.Env), I pre ρ → (∀ pre' x post', pre ++ post = pre' ++ x :: post' → ∀ ρ, I pre' ρ → ∃ as, gd (ed x) = some as ∧ PS body (sets ρ (as.map (·.1)) (cl as)) (I (pre' ++ [x]))) → PS (forGo gd body (post.map ed)) ρ (I (pre ++ post))
  | [], pre, ρ, h, _ => fun q => ⟨ρ, rfl, by rw [List.append_nil]; exact h⟩
  | x :: post, pre, ρ, h, st => fun q => by
    obtain ⟨as, e0, k⟩ := st pre x post rfl ρ h
    obtain ⟨ρ1, e1, r1⟩ := k q
    obtain ⟨ρ2, e2, r2⟩ := forGo_p ed I post (pre ++ [x]) ρ1 r1 (fun pre' y post' e => st pre' y post' (by rw [← e, List.append_assoc]; rfl)) q
    refine ⟨ρ2, bind2 (of_eq e0) (bind2 e1 e2), ?_⟩
    rw [List.append_assoc] at r2; exact r2
/-- for x in L -/
theorem p_for {α : Type} {gd : Gd} {body : SE} {it : IE} (L : List α) (ed : α → D) (I : List α → Sd.Env → Prop) (hit : ∀ q, it ρ q = some (L.map ed, q)) (h0 : I [] ρ) (st : ∀ pre x post, L = pre ++ x :: post → ∀ ρ, I pre ρ → ∃ as, gd (ed x) = some as ∧ PS body (sets ρ (as.map (·.1)) (cl as)) (I (pre ++ [x]))) : PS (forS it gd body) ρ (I L) := fun q => by
  obtain ⟨ρ', e1, r⟩ := forGo_p (gd := gd) (body := body) ed I L [] ρ h0 (fun pre x post e => st pre x post (by simpa using e)) q
  exact ⟨ρ', bind2 (hit q) e1, r⟩
end
/-! ### all parts of a list -/
section
variable {α : Type}
def addC (f : List (List α)) (x : α) : List (List α) := f ++ f.map (· ++ [x])
def subsL (L : List α) : List (List α) := L.foldl addC [[]]
theorem subsL_snoc (L : List α) (x : α) : subsL (L ++ [x]) = addC (subsL L) x := by
  unfold subsL; rw [List.foldl_append]; rfl
theorem snoc_ind {P : List α → Prop} (h0 : P []) (h1 : ∀ L x, P L → P (L ++ [x])) : ∀ L, P L := fun L => by
  have key : ∀ M : List α, P M.reverse := fun M => by
    induction M with
    | nil => exact h0
    | cons x M ih => rw [List.reverse_cons]; exact h1 _ _ ih
  have := key L.reverse
  rwa [List.reverse_reverse] at this
theorem sub_snoc {l L : List α} {x : α} : List.Sublist l (L ++ [x]) ↔ List.Sublist l L ∨ ∃ m, List.Sublist m L ∧ l = m ++ [x] := by
  rw [List.sublist_append_iff]
  constructor
  · rintro ⟨l1, l2, rfl, h1, h2⟩
    cases h2 with
    | cons _ h => cases h; rw [List.append_nil]; exact .inl h1
    | cons_cons _ h => cases h; exact .inr ⟨l1, h1, rfl⟩
  · rintro (h | ⟨m, h, rfl⟩)
    · exact ⟨l, [], by simp, h, by simp⟩
    · exact ⟨m, [x], rfl, h, List.Sublist.refl _⟩
theorem mem_subsL : ∀ {L : List α} {l : List α}, l ∈ subsL L ↔ List.Sublist l L := by
  intro L
  induction L using snoc_ind with
  | h0 => intro l; simp [subsL]
  | h1 L x ih =>
    intro l
    rw [subsL_snoc, sub_snoc]
    unfold addC
    rw [List.mem_append, List.mem_map, ih]
    refine or_congr Iff.rfl ⟨?_, ?_⟩
    · rintro ⟨m, h, rfl⟩; exact ⟨m, ih.mp h, rfl⟩
    · rintro ⟨m, h, rfl⟩; exact ⟨m, ih.mpr h, rfl⟩
theorem subsL_len : ∀ L : List α, (subsL L).length = 2 ^ L.length := by
  intro L
  induction L using snoc_ind with
  | h0 => rfl
  | h1 L x ih => rw [subsL_snoc]; unfold addC; rw [List.length_append, List.length_map, ih, List.length_append, List.length_singleton, Nat.pow_succ]; omega
end
theorem upTo_snoc {n : Int} (pre : List Int) (x : Int) (post : List Int) (h : upTo n = pre ++ x :: post) : pre = upTo x ∧ 0 ≤ x ∧ x < n := by
  have hx : x ∈ upTo n := by rw [h]; simp
  have hx2 := mem_upTo.mp hx
  refine ⟨?_, hx2⟩
  have pw := upTo_pw n
  rw [h, List.pairwise_append] at pw
  have len : pre.length = x.toNat := by
    have e : (upTo n)[pre.length]? = some x := by rw [h]; simp
    unfold upTo at e
    rw [List.getElem?_map] at e
    cases e2 : (List.range n.toNat)[pre.length]? with
    | none => rw [e2] at e; cases e
    | some j =>
      rw [e2] at e
      obtain ⟨l1, l2⟩ := List.getElem?_eq_some_iff.mp e2
      rw [List.getElem_range] at l2
      have : (j : Int) = x := by simpa using e
      omega
  refine List.ext_getElem? fun i => ?_
  by_cases hi : i < pre.length
  · have e : (upTo n)[i]? = pre[i]? := by rw [h, List.getElem?_append_left hi]
    rw [← e]
    unfold upTo
    rw [List.getElem?_map, List.getElem?_map, List.getElem?_range (by omega), List.getElem?_range (by omega)]
  · rw [List.getElem?_eq_none (by omega), List.getElem?_eq_none (by rw [upTo_len]; omega)]
end Sd
/-! quiet lots, upheld ones, the plain one -/
namespace Cm
open PySem PySem.Spec PyProof.Rows Sd
theorem or_b {ex t : Sd.Env → M D} {ρ : Sd.Env} {q : Pot} {a b : Bool} (h : ex ρ q = some (.bool a, q)) (h2 : t ρ q = some (.bool b, q)) : orE ex t ρ q = some (.bool (a || b), q) := by
  cases a with
  | true => rw [or_t h]; rfl
  | false => rw [or_f h, h2]; rfl
def pairK (S : List (Int × Int)) : TDict := S.map fun z => ([z.1, z.2], .bool true)
theorem tpairs_map : ∀ S : List (Int × Int), tpairsD (S.map fun z => (.tuple [pD z, .bool true] : D)) = some (pairK S)
  | [] => rfl
  | z :: S => by
    show (match intsD (pD z), tpairsD (S.map fun z => (.tuple [pD z, .bool true] : D)) with
      | some k, some r => some ((k, (.bool true : D)) :: r)
      | _, _ => none) = _
    rw [tpairs_map S]; rfl
theorem dict_pairs {n : Int} {S : List (Int × Int)} (v : VD n S) : dictTD [.list (S.map fun z => (.tuple [pD z, .bool true] : D))] = some (tkD (pairK S)) := by
  unfold dictTD
  simp only [tpairs_map]
  have nd : ((pairK S).map (·.1)).Nodup := by
    unfold pairK
    rw [List.map_map]
    show (S.map fun z => [z.1, z.2]).Nodup
    unfold List.Nodup
    rw [List.pairwise_map]
    exact (pw_nodup v.pw).imp fun {a b} h e => h (by
      simp only [List.cons.injEq, and_true] at e
      exact Prod.ext e.1 e.2)
  rw [if_pos nd]
theorem tkOf_map : ∀ l : TDict, tkOf (l.map fun z => (itupD z.1, z.2)) = some l
  | [] => rfl
  | z :: l => by
    show (match intsD (itupD z.1), tkOf (l.map fun z => (itupD z.1, z.2)) with
      | some k, some r => some ((k, z.2) :: r)
      | _, _ => none) = _
    rw [tkOf_map l]
    have : intsD (itupD z.1) = some z.1 := intsOf_map z.1
    rw [this]
theorem in_pairs (S : List (Int × Int)) (neg : Bool) (a b : Int) : inTk neg (.tuple [.int a, .int b]) (tkD (pairK S)) = some (.bool (neg != decide ((a, b) ∈ S))) := by
  show (match tkOf ((pairK S).map fun z => (itupD z.1, z.2)), intsD (.tuple [.int a, .int b]) with
    | some l, some k => some (PyData.bool (neg != l.any fun z => decide (z.1 = k)))
    | _, _ => none) = _
  rw [tkOf_map]
  have : intsD (.tuple [.int a, .int b]) = some [a, b] := rfl
  rw [this]
  have e : ((pairK S).any fun z => decide (z.1 = [a, b])) = decide ((a, b) ∈ S) := by
    unfold pairK
    rw [List.any_map, Bool.eq_iff_iff, List.any_eq_true, decide_eq_true_iff]
    constructor
    · rintro ⟨z, h1, h2⟩
      have h2 : z.1 = a ∧ z.2 = b := by simpa using h2
      rw [← h2.1, ← h2.2]; exact h1
    · intro h; exact ⟨_, h, by simp⟩
  show some (PyData.bool (neg != (pairK S).any fun z => decide (z.1 = [a, b]))) = _
  rw [e]
def clash (S : List (Int × Int)) (c : Int) (l : List Int) : Bool := l.any fun o => decide ((c, o) ∈ S) || decide ((o, c) ∈ S)
def qstep (S : List (Int × Int)) (f : List (List Int)) (c : Int) : List (List Int) := if (c, c) ∈ S then f else f ++ (f.filter fun l => !clash S c l).map (· ++ [c])
def qsubs (S : List (Int × Int)) (L : List Int) : List (List Int) := L.foldl (qstep S) [[]]
theorem qsubs_snoc (S : List (Int × Int)) (L : List Int) (x : Int) : qsubs S (L ++ [x]) = qstep S (qsubs S L) x := by
  unfold qsubs; rw [List.foldl_append]; rfl
theorem qsubs_len (S : List (Int × Int)) : ∀ L : List Int, (qsubs S L).length ≤ 2 ^ L.length := by
  intro L
  induction L using snoc_ind with
  | h0 => exact Nat.le_refl _
  | h1 L x ih =>
    rw [qsubs_snoc, List.length_append, List.length_singleton, Nat.pow_succ]
    unfold qstep
    split
    · omega
    · rw [List.length_append, List.length_map]
      have := List.length_filter_le (fun l => !clash S x l) (qsubs S L)
      omega
theorem mem_qsubs {S : List (Int × Int)} : ∀ {L l : List Int}, l ∈ qsubs S L ↔ List.Sublist l L ∧ ∀ a ∈ l, ∀ b ∈ l, (a, b) ∉ S := by
  intro L
  induction L using snoc_ind with
  | h0 =>
    intro l
    show l ∈ [[]] ↔ _
    rw [List.mem_singleton, List.sublist_nil]
    exact ⟨fun h => ⟨h, fun a ha => by rw [h] at ha; cases ha⟩, fun h => h.1⟩
  | h1 L x ih =>
    intro l
    rw [qsubs_snoc, sub_snoc]
    unfold qstep
    by_cases c : (x, x) ∈ S
    · rw [if_pos c, ih]
      constructor
      · exact fun h => ⟨.inl h.1, h.2⟩
      · rintro ⟨h | ⟨m, _, rfl⟩, h2⟩
        · exact ⟨h, h2⟩
        · exact absurd c (h2 x (by simp) x (by simp))
    · rw [if_neg c, List.mem_append, List.mem_map, ih]
      constructor
      · rintro (h | ⟨m, h, rfl⟩)
        · exact ⟨.inl h.1, h.2⟩
        · obtain ⟨h1, h2⟩ := List.mem_filter.mp h
          obtain ⟨h3, h4⟩ := ih.mp h1
          have h2 : clash S x m = false := by simpa using h2
          unfold clash at h2
          rw [List.any_eq_false] at h2
          refine ⟨.inr ⟨m, h3, rfl⟩, fun a ha b hb => ?_⟩
          rcases List.mem_append.mp ha with ha | ha <;> rcases List.mem_append.mp hb with hb | hb
          · exact h4 a ha b hb
          · rw [List.mem_singleton.mp hb]
            have := h2 a ha
            simp at this
            exact this.2
          · rw [List.mem_singleton.mp ha]
            have := h2 b hb
            simp at this
            exact this.1
          · rw [List.mem_singleton.mp ha, List.mem_singleton.mp hb]; exact c
      · rintro ⟨h | ⟨m, h, rfl⟩, h2⟩
        · exact .inl ⟨h, h2⟩
        · refine .inr ⟨m, List.mem_filter.mpr ⟨ih.mpr ⟨h, fun a ha b hb => h2 a (List.mem_append_left _ ha) b (List.mem_append_left _ hb)⟩, ?_⟩, rfl⟩
          have : clash S x m = false := by
            unfold clash
            rw [List.any_eq_false]
            intro o ho
            have h3 := h2 x (by simp) o (List.mem_append_left _ ho)
            have h4 := h2 o (List.mem_append_left _ ho) x (by simp)
            simp [h3, h4]
          rw [this]; rfl
abbrev lotsD (L : List (List Int)) : D := .list (L.map tpI)
theorem lots_tup (L : List (List Int)) : L.map tpI = L.map tupOf := rfl
theorem any_bool {α : Type} (f : α → Bool) (L : List α) : anyD [.list (L.map fun x => .bool (f x))] = some (.bool (L.any f)) := any_map f L
theorem e_quiet_lots {n : Int} {S : List (Int × Int)} (v : VD n S) (q : Pot) : s_quiet_lots [dsp n S] q = some (lotsD (sortK (qsubs S (Sd.upTo n))), q) := by
  have n1 := v.n1
  have n10 := v.n10
  refine p_def ?_ q
  refine p_seqR (S := fun ρ => ρ = [some (false, dsp n S), some (false, tkD (pairK S)), some (false, lotsD [[]]), none, none, none, none, none]) (p_par2 (d := tkD (pairK S)) (d' := lotsD [[]]) (fun q => ?_) (fun q => rfl) ⟨Nat.le_of_ble_eq_true rfl, Nat.le_of_ble_eq_true rfl⟩ (fun z => by cases z) (fun z => by cases z) rfl) ?_
  · refine ap_1 (lcE_map S pD (fun z => [(5, pD z)]) (fun _ => true) (fun z => (.tuple [pD z, .bool true] : D)) (q1 := q) (it_ev (d := tpP S) rfl rfl) rfl fun z _ => ⟨rfl, rfl, fun _ => rfl⟩) ?_
    rw [filter_true]; exact dict_pairs v
  rintro _ rfl
  refine p_seqR (p_for (Sd.upTo n) iD (fun pre ρ => ∃ o3 o4 o5 o6 o7, ρ = [some (false, dsp n S), some (false, tkD (pairK S)), some (false, lotsD (qsubs S pre)), o3, o4, o5, o6, o7]) (fun q => upTo_rng rfl (by omega)) ⟨none, none, none, none, none, rfl⟩ ?_) ?_
  · rintro pre x post e _ ⟨o3, o4, o5, o6, o7, rfl⟩
    obtain ⟨rfl, hx⟩ := upTo_snoc pre x post e
    refine ⟨_, rfl, ?_⟩
    have hlen : (qsubs S (Sd.upTo x)).length ≤ 1024 := by
      have := qsubs_len S (Sd.upTo x)
      rw [upTo_len] at this
      exact Nat.le_trans this (Nat.pow_le_pow_right (by decide) (by omega : x.toNat ≤ 10))
    refine p_if (c := !decide ((x, x) ∈ S)) (fun q => ap2_ev (d := .tuple [.int x, .int x]) (e1 := tkD (pairK S)) rfl rfl (in_pairs S true x x |>.trans (by cases decide ((x, x) ∈ S) <;> rfl))) (fun c => ?_) (fun c => ?_)
    · have c : (x, x) ∉ S := by simpa using c
      refine p_seq (S := fun ρ => ∃ o3 o5 o6 o7, ρ = [some (false, dsp n S), some (false, tkD (pairK S)), some (false, lotsD (qsubs S (Sd.upTo x))), some (false, .int x), some (false, lotsD ((qsubs S (Sd.upTo x)).filter fun l => !clash S x l)), o5, o6, o7] ∧ o3 = 0) (p_set (d := lotsD ((qsubs S (Sd.upTo x)).filter fun l => !clash S x l)) (fun q => ?_) ⟨0, _, _, _, rfl, rfl⟩) ?_
      · refine lcE_map (qsubs S (Sd.upTo x)) tpI (fun l => [(6, tpI l)]) (fun l => !clash S x l) tpI (q1 := q) (it_ev (d := lotsD (qsubs S (Sd.upTo x))) rfl rfl) rfl fun l _ => ⟨rfl, ap1_ev (d := .bool (clash S x l)) (ap_1 (lcE_map l iD (fun o => [(7, iD o)]) (fun _ => true) (fun o => .bool (decide ((x, o) ∈ S) || decide ((o, x) ∈ S))) (q1 := q) (it_ev (d := tpI l) rfl rfl) rfl fun o _ => ⟨rfl, rfl, fun _ => or_b (ap2_ev (d := .tuple [.int x, .int o]) (e1 := tkD (pairK S)) rfl rfl ((in_pairs S false x o).trans (by cases decide ((x, o) ∈ S) <;> rfl))) (ap2_ev (d := .tuple [.int o, .int x]) (e1 := tkD (pairK S)) rfl rfl ((in_pairs S false o x).trans (by cases decide ((o, x) ∈ S) <;> rfl)))⟩) ?_) rfl, fun _ => rfl⟩
        rw [filter_true, any_map]; rfl
      rintro _ ⟨_, o5, o6, o7, rfl, rfl⟩
      refine p_set (d := lotsD (qsubs S (Sd.upTo x ++ [x]))) (fun q => ?_) ⟨_, _, _, _, _, rfl⟩
      refine ap2_ev (d := lotsD (qsubs S (Sd.upTo x))) (e1 := .list (((qsubs S (Sd.upTo x)).filter fun l => !clash S x l).map fun l => tpI (l ++ [x]))) rfl ?_ ?_
      · refine (lcE_map ((qsubs S (Sd.upTo x)).filter fun l => !clash S x l) tpI (fun l => [(6, tpI l)]) (fun _ => true) (fun l => tpI (l ++ [x])) (q1 := q) (it_ev (d := lotsD _) rfl rfl) rfl fun l hl => ⟨rfl, rfl, fun _ => ap2_ev (d := tpI l) (e1 := .tuple [.int x]) rfl rfl ?_⟩).trans ?_
        · have hl2 := (mem_qsubs.mp (List.mem_filter.mp hl).1).1.length_le
          rw [upTo_len] at hl2
          show (if (l.map iD).length + 1 ≤ 1000000 then some (PyData.tuple (l.map iD ++ [.int x])) else none) = _
          rw [if_pos (by rw [List.length_map]; omega)]
          show some (PyData.tuple (l.map iD ++ [iD x])) = some (PyData.tuple ((l ++ [x]).map iD))
          rw [List.map_append]; rfl
        · rw [filter_true]
      · show (if _ then _ else _) = _
        have := List.length_filter_le (fun l => !clash S x l) (qsubs S (Sd.upTo x))
        rw [if_pos (by rw [List.length_map, List.length_map]; omega)]
        rw [qsubs_snoc]
        unfold qstep
        rw [if_neg c]
        show some (PyData.list _) = some (PyData.list _)
        rw [List.map_append, List.map_map]; rfl
    · have c : (x, x) ∈ S := by simpa using c
      have : qsubs S (Sd.upTo x ++ [x]) = qsubs S (Sd.upTo x) := by
        rw [qsubs_snoc]; unfold qstep; rw [if_pos c]
      exact p_nil ⟨_, _, _, _, _, by rw [this]; rfl⟩
  · rintro _ ⟨o3, o4, o5, o6, o7, rfl⟩
    exact p_ret fun q => ap_1 (d := lotsD (qsubs S (Sd.upTo n))) rfl (sorted_any _)
theorem mem_quiet {n : Int} {S : List (Int × Int)} {l : List Int} : l ∈ sortK (qsubs S (Sd.upTo n)) ↔ List.Sublist l (Sd.upTo n) ∧ ∀ a ∈ l, ∀ b ∈ l, (a, b) ∉ S := by
  rw [(sortK_perm _).mem_iff, mem_qsubs]
def upheldL (n : Int) (S : List (Int × Int)) : List (List Int) := (sortK (qsubs S (Sd.upTo n))).filter fun l => upheldB n S l
theorem e_upheld_lots {n : Int} {S : List (Int × Int)} (v : VD n S) (q : Pot) : s_upheld_lots [dsp n S] q = some (lotsD (upheldL n S), q) :=
  def_rt (ret_ev (lcE_map (sortK (qsubs S (Sd.upTo n))) tpI (fun l => [(1, tpI l)]) (fun l => upheldB n S l) tpI (q1 := q) (it_ev (d := lotsD _) (call_ev (ds := [dsp n S]) (sq_cons rfl sq_nil) (e_quiet_lots v q)) rfl) rfl fun l _ => ⟨rfl, call_ev (ds := [dsp n S, tpI l]) (sq_cons rfl (sq_cons rfl sq_nil)) (e_is_upheld v l q), fun _ => rfl⟩))
def settledL (n : Int) (S : List (Int × Int)) : List (List Int) := (sortK (qsubs S (Sd.upTo n))).filter fun l => settledB n S l
theorem eqW {a b : Str} {c : Bool} (h : (SeqAt.shaped (.str a) && SeqAt.shaped (.str b) && (decide (a = b) == c)) = true) : eqD (.str a) (.str b) = some (.bool c) := by
  simp only [Bool.and_eq_true, beq_iff_eq] at h
  exact eq_PE ⟨rfl, h.1.1⟩ ⟨rfl, h.1.2⟩ (by rw [← h.2, decide_eq_true_iff, PyData.str.injEq])
theorem neW {a b : Str} {c : Bool} (h : (SeqAt.shaped (.str a) && SeqAt.shaped (.str b) && (decide (a = b) == c)) = true) : neD (.str a) (.str b) = some (.bool (!c)) := by
  simp only [Bool.and_eq_true, beq_iff_eq] at h
  exact ne_PE ⟨rfl, h.1.1⟩ ⟨rfl, h.1.2⟩ (by rw [← h.2, decide_eq_true_iff, PyData.str.injEq])
theorem eq_word {a b : Str} (ha : PE (.str a)) (hb : PE (.str b)) : eqD (.str a) (.str b) = some (.bool (decide (a = b))) := eq_PE ha hb (by rw [decide_eq_true_iff, PyData.str.injEq])
theorem e_lots_settled {n : Int} {S : List (Int × Int)} (v : VD n S) (q : Pot) : s_lots_of [dsp n S, .str "settled"] q = some (lotsD (settledL n S), q) := by
  refine p_def ?_ q
  have k : ∀ (w : Str) (b : Bool), eqD (.str "settled") (.str w) = some (.bool b) → ∀ ρ : Sd.Env, ρ[1]? = some (some (false, .str "settled")) → PV (ap2 eqD (vr 1) (cst (.str w))) ρ (.bool b) := fun w b h ρ hr q => ap2_ev (d := .str "settled") (e1 := .str w) (by unfold vr; rw [hr]; rfl) rfl h
  refine p_seqR (S := fun ρ => ρ = [some (false, dsp n S), some (false, .str "settled"), none, none]) (p_ifF (k "plain" false (eqW (by decide +kernel)) _ rfl) (p_nil rfl)) ?_
  rintro _ rfl
  refine p_seqR (S := fun ρ => ρ = [some (false, dsp n S), some (false, .str "settled"), none, none]) (p_ifF (k "greatest" false (eqW (by decide +kernel)) _ rfl) (p_nil rfl)) ?_
  rintro _ rfl
  refine p_seqR (S := fun ρ => ρ = [some (false, dsp n S), some (false, .str "settled"), some (false, lotsD (sortK (qsubs S (Sd.upTo n)))), none]) (p_set (fun q => call_ev (ds := [dsp n S]) (sq_cons rfl sq_nil) (e_quiet_lots v q)) rfl) ?_
  rintro _ rfl
  refine p_seqR (S := fun ρ => ρ = [some (false, dsp n S), some (false, .str "settled"), some (false, lotsD (sortK (qsubs S (Sd.upTo n)))), none]) (p_ifF (k "upheld" false (eqW (by decide +kernel)) _ rfl) (p_nil rfl)) ?_
  rintro _ rfl
  refine p_seqR (S := fun ρ => ρ = [some (false, dsp n S), some (false, .str "settled"), some (false, lotsD (sortK (qsubs S (Sd.upTo n)))), none]) (p_ifF (k "full" false (eqW (by decide +kernel)) _ rfl) (p_nil rfl)) ?_
  rintro _ rfl
  exact p_ret fun q => ite_t (k "settled" true (eqW (by decide +kernel)) _ rfl q) (lcE_map (sortK (qsubs S (Sd.upTo n))) tpI (fun l => [(3, tpI l)]) (fun l => settledB n S l) tpI (q1 := q) (it_ev (d := lotsD _) rfl rfl) rfl fun l _ => ⟨rfl, call_ev (ds := [dsp n S, tpI l]) (sq_cons rfl (sq_cons rfl sq_nil)) (e_is_settled v l q), fun _ => rfl⟩)
end Cm
/-! the plain lot; whether questions are true -/
namespace Cm
open PySem PySem.Spec PyProof.Rows Sd
/-! ### lots as sets -/
theorem lot_ext {n : Int} {l m : List Int} (h1 : List.Sublist l (Sd.upTo n)) (h2 : List.Sublist m (Sd.upTo n)) (h : ∀ x, x ∈ l ↔ x ∈ m) : l = m := by
  have p1 : l.Pairwise (· < ·) := (upTo_pw n).sublist h1
  have p2 : m.Pairwise (· < ·) := (upTo_pw n).sublist h2
  have n1 : l.Nodup := p1.imp fun h e => by omega
  have n2 : m.Nodup := p2.imp fun h e => by omega
  exact List.Perm.eq_of_pairwise (le := (· ≤ ·)) (fun a b _ _ h1 h2 => by omega) (p1.imp fun h => by omega) (p2.imp fun h => by omega) (perm_of_mem n1 n2 h)
theorem sub_nodup {n : Int} {l : List Int} (h : List.Sublist l (Sd.upTo n)) : l.Nodup := (upTo_nodup n).sublist h
theorem sub_len {n : Int} {l : List Int} (h : List.Sublist l (Sd.upTo n)) : l.length ≤ n.toNat := by
  have := h.length_le
  rwa [upTo_len] at this
theorem strL_mono {S : List (Int × Int)} {l m : List Int} (h : ∀ x ∈ l, x ∈ m) : ∀ x ∈ strL S l, x ∈ strL S m := fun x hx => by
  obtain ⟨a, h1, h2⟩ := mem_strL'.mp hx
  exact mem_strL'.mpr ⟨a, h a h1, h2⟩
theorem defL_mono {n : Int} {S : List (Int × Int)} {l m : List Int} (h : ∀ x ∈ l, x ∈ m) : ∀ x ∈ defL n S l, x ∈ defL n S m := fun x hx => by
  obtain ⟨h1, h2⟩ := mem_defL.mp hx
  exact mem_defL.mpr ⟨h1, fun a ha => strL_mono h a (h2 a ha)⟩
def itL (n : Int) (S : List (Int × Int)) : Nat → List Int
  | 0 => []
  | k + 1 => defL n S (itL n S k)
theorem itL_sub (n : Int) (S : List (Int × Int)) : ∀ k, List.Sublist (itL n S k) (Sd.upTo n)
  | 0 => List.nil_sublist _
  | k + 1 => defL_sub n S _
theorem itL_up (n : Int) (S : List (Int × Int)) : ∀ k, ∀ x ∈ itL n S k, x ∈ itL n S (k + 1)
  | 0 => fun _ h => nomatch h
  | k + 1 => defL_mono (itL_up n S k)
theorem itL_stay {n : Int} {S : List (Int × Int)} {k : Nat} (h : itL n S (k + 1) = itL n S k) : ∀ i, itL n S (k + i) = itL n S k
  | 0 => rfl
  | i + 1 => by
    show defL n S (itL n S (k + i)) = _
    rw [itL_stay h i]; exact h
theorem itL_grow (n : Int) (S : List (Int × Int)) : ∀ k, (∃ j < k, itL n S (j + 1) = itL n S j) ∨ k ≤ (itL n S k).length
  | 0 => .inr (Nat.zero_le _)
  | k + 1 => by
    rcases itL_grow n S k with ⟨j, h1, h2⟩ | h
    · exact .inl ⟨j, by omega, h2⟩
    · by_cases e : itL n S (k + 1) = itL n S k
      · exact .inl ⟨k, by omega, e⟩
      · right
        have h1 := nodup_sub (sub_nodup (itL_sub n S k)) (itL_up n S k)
        by_cases c : (itL n S (k + 1)).length = (itL n S k).length
        · exfalso
          refine e (lot_ext (itL_sub n S _) (itL_sub n S _) fun x => ⟨fun hx => ?_, itL_up n S k x⟩)
          by_cases hk : x ∈ itL n S k
          · exact hk
          · exfalso
            have := nodup_sub (a := x :: itL n S k) (b := itL n S (k + 1)) (List.nodup_cons.mpr ⟨hk, sub_nodup (itL_sub n S k)⟩) fun y hy => by
              rcases List.mem_cons.mp hy with z | z
              · rw [z]; exact hx
              · exact itL_up n S k y z
            rw [List.length_cons] at this
            omega
        · omega
theorem itL_stab (n : Int) (S : List (Int × Int)) {k : Nat} (hk : n.toNat ≤ k) : itL n S (k + 1) = itL n S k ∧ itL n S k = itL n S n.toNat := by
  rcases itL_grow n S (n.toNat + 1) with ⟨j, h1, h2⟩ | h
  · have e1 := itL_stay h2 (n.toNat - j)
    have e2 := itL_stay h2 (k - j)
    have e3 := itL_stay h2 (k + 1 - j)
    rw [show j + (n.toNat - j) = n.toNat by omega] at e1
    rw [show j + (k - j) = k by omega] at e2
    rw [show j + (k + 1 - j) = k + 1 by omega] at e3
    exact ⟨e3.trans e2.symm, e2.trans e1.symm⟩
  · have := sub_len (itL_sub n S (n.toNat + 1))
    omega
def plainL (n : Int) (S : List (Int × Int)) : List Int := itL n S n.toNat
theorem plainL_fix (n : Int) (S : List (Int × Int)) : defL n S (plainL n S) = plainL n S := (itL_stab n S (Nat.le_refl _)).1
theorem itL_eq {n : Int} {S : List (Int × Int)} {k : Nat} (h : itL n S (k + 1) = itL n S k) : itL n S k = plainL n S := by
  by_cases c : n.toNat ≤ k
  · exact (itL_stab n S c).2
  · have e1 := itL_stay h (n.toNat - k)
    rw [show k + (n.toNat - k) = n.toNat by omega] at e1
    exact e1.symm
theorem e_plain_of {n : Int} {S : List (Int × Int)} (v : VD n S) (q : Pot) : s_plain_of [dsp n S] q = some (tpI (plainL n S), q) := by
  refine def_rt (seq_n (par2_ev (d := .none) (e := .tuple []) rfl rfl) (seq_n (ρ' := [some (false, dsp n S), some (false, tpI (plainL n S)), some (false, tpI (plainL n S))]) ?_ (ret_ev rfl)))
  have body : ∀ (d : D) (k : Nat), parS [1, 2] [(false, vr 2), (false, callE s_defended_by [vr 0, vr 2])] [some (false, dsp n S), some (false, d), some (false, tpI (itL n S k))] q = some ((.nx, [some (false, dsp n S), some (false, tpI (itL n S k)), some (false, tpI (itL n S (k + 1)))]), q) := fun d k =>
    par2_ev (d := tpI (itL n S k)) rfl (call_ev (ds := [dsp n S, tpI (itL n S k)]) (sq_cons rfl (sq_cons rfl sq_nil)) (e_defended_by v (isT _) q))
  have key : ∀ (m k fuel : Nat), n.toNat ≤ k + m → m ≤ fuel → whileS (ap2 neD (vr 2) (vr 1)) (parS [1, 2] [(false, vr 2), (false, callE s_defended_by [vr 0, vr 2])]) (fuel + 1) [some (false, dsp n S), some (false, tpI (itL n S k)), some (false, tpI (itL n S (k + 1)))] q = some ((.nx, [some (false, dsp n S), some (false, tpI (plainL n S)), some (false, tpI (plainL n S))]), q) := by
    intro m
    induction m with
    | zero =>
      intro k fuel h1 _
      obtain ⟨e1, e2⟩ := itL_stab n S (k := k) (by omega)
      have t : ap2 neD (vr 2) (vr 1) [some (false, dsp n S), some (false, tpI (itL n S k)), some (false, tpI (itL n S (k + 1)))] q = some (.bool false, q) := ap2_ev (d := tpI (itL n S (k + 1))) (e1 := tpI (itL n S k)) rfl rfl (by rw [ne_tI, e1]; simp)
      rw [while_f t, e1, e2]; rfl
    | succ m ih =>
      intro k fuel h1 h2
      by_cases c : itL n S (k + 1) = itL n S k
      · have t : ap2 neD (vr 2) (vr 1) [some (false, dsp n S), some (false, tpI (itL n S k)), some (false, tpI (itL n S (k + 1)))] q = some (.bool false, q) := ap2_ev (d := tpI (itL n S (k + 1))) (e1 := tpI (itL n S k)) rfl rfl (by rw [ne_tI, c]; simp)
        rw [while_f t, c, itL_eq c]
      · have t : ap2 neD (vr 2) (vr 1) [some (false, dsp n S), some (false, tpI (itL n S k)), some (false, tpI (itL n S (k + 1)))] q = some (.bool true, q) := ap2_ev (d := tpI (itL n S (k + 1))) (e1 := tpI (itL n S k)) rfl rfl (by rw [ne_tI]; simp [c])
        obtain ⟨fuel, rfl⟩ : ∃ f, fuel = f + 1 := ⟨fuel - 1, by omega⟩
        exact while_t t (body _ (k + 1)) (ih (k + 1) fuel (by omega) (by omega))
  have n10 := v.n10
  refine while_t (n := 99999) (q1 := q) (ap2_ev (d := tpI []) (e1 := .none) rfl rfl (ne_PE (b := false) (pe_tI []) pe_none (by simp))) (body .none 0) (key n.toNat 0 99998 (by omega) (by omega))
/-! ### only who strikes whom matters -/
def Alike (S T : List (Int × Int)) : Prop := ∀ z, z ∈ S ↔ z ∈ T
theorem Alike.strL {S T : List (Int × Int)} (h : Alike S T) (l : List Int) (x : Int) : x ∈ Cm.strL S l ↔ x ∈ Cm.strL T l := by
  rw [mem_strL', mem_strL']
  exact ⟨fun ⟨a, h1, h2⟩ => ⟨a, h1, (h _).mp h2⟩, fun ⟨a, h1, h2⟩ => ⟨a, h1, (h _).mpr h2⟩⟩
theorem Alike.defL {S T : List (Int × Int)} (h : Alike S T) (n : Int) (l : List Int) : Cm.defL n S l = Cm.defL n T l := by
  refine lot_ext (defL_sub _ _ _) (defL_sub _ _ _) fun x => ?_
  rw [mem_defL, mem_defL]
  exact and_congr Iff.rfl ⟨fun k a ha => (h.strL l a).mp (k a ((h _).mpr ha)), fun k a ha => (h.strL l a).mpr (k a ((h _).mp ha))⟩
theorem Alike.itL {S T : List (Int × Int)} (h : Alike S T) (n : Int) : ∀ k, Cm.itL n S k = Cm.itL n T k
  | 0 => rfl
  | k + 1 => by
    show Cm.defL n S (Cm.itL n S k) = Cm.defL n T (Cm.itL n T k)
    rw [Alike.itL h n k, h.defL]
theorem Alike.plainL {S T : List (Int × Int)} (h : Alike S T) (n : Int) : Cm.plainL n S = Cm.plainL n T := h.itL n _
/-- upheld, settled: as sets -/
def UpL (n : Int) (S : List (Int × Int)) (l : List Int) : Prop := List.Sublist l (Sd.upTo n) ∧ (∀ a ∈ l, ∀ b ∈ l, (a, b) ∉ S) ∧ ∀ x ∈ l, ∀ a, (a, x) ∈ S → ∃ b ∈ l, (b, a) ∈ S
def StL (n : Int) (S : List (Int × Int)) (l : List Int) : Prop := List.Sublist l (Sd.upTo n) ∧ ∀ x, 0 ≤ x → x < n → (x ∉ l ↔ ∃ b ∈ l, (b, x) ∈ S)
theorem Alike.up {S T : List (Int × Int)} (h : Alike S T) {n : Int} {l : List Int} : UpL n S l ↔ UpL n T l := by
  have key : ∀ {S T : List (Int × Int)}, Alike S T → UpL n S l → UpL n T l := fun h ⟨h1, h2, h3⟩ => ⟨h1, fun a ha b hb z => h2 a ha b hb ((h _).mpr z), fun x hx a ha => by
    obtain ⟨b, k1, k2⟩ := h3 x hx a ((h _).mpr ha)
    exact ⟨b, k1, (h _).mp k2⟩⟩
  exact ⟨key h, key fun z => (h z).symm⟩
theorem Alike.st {S T : List (Int × Int)} (h : Alike S T) {n : Int} {l : List Int} : StL n S l ↔ StL n T l := by
  unfold StL
  refine and_congr Iff.rfl (forall_congr' fun x => imp_congr Iff.rfl (imp_congr Iff.rfl (iff_congr Iff.rfl ?_)))
  exact ⟨fun ⟨b, h1, h2⟩ => ⟨b, h1, (h _).mp h2⟩, fun ⟨b, h1, h2⟩ => ⟨b, h1, (h _).mpr h2⟩⟩
theorem mem_upheldL {n : Int} {S : List (Int × Int)} {l : List Int} : l ∈ upheldL n S ↔ UpL n S l := by
  unfold upheldL UpL upheldB
  rw [List.mem_filter, mem_quiet, Bool.and_eq_true, quietB_iff, List.all_eq_true]
  constructor
  · rintro ⟨⟨h1, h2⟩, _, h3⟩
    refine ⟨h1, h2, fun x hx a ha => ?_⟩
    obtain ⟨_, h4⟩ := mem_defL.mp (of_decide_eq_true (h3 x hx))
    exact mem_strL'.mp (h4 a ha)
  · rintro ⟨h1, h2, h3⟩
    refine ⟨⟨h1, h2⟩, h2, fun x hx => decide_eq_true (mem_defL.mpr ⟨Sd.mem_upTo.mp (h1.subset hx), fun a ha => mem_strL'.mpr (h3 x hx a ha)⟩)⟩
theorem struck_sub {n : Int} {S : List (Int × Int)} (v : VD n S) (l : List Int) : List.Sublist (struck S l) (Sd.upTo n) := by
  have nd : (struck S l).Nodup := by unfold struck; exact (sortI_perm _).nodup_iff.mpr (nodup_dedI _)
  have e : struck S l = (Sd.upTo n).filter fun c => decide (c ∈ struck S l) := by
    refine List.Perm.eq_of_pairwise (le := (· ≤ ·)) (fun a b _ _ h1 h2 => by omega) ?_ (((upTo_pw n).filter _).imp fun h => by omega) (perm_of_mem nd ((upTo_nodup n).filter _) fun x => ?_)
    · unfold struck; exact sortI_pw _
    · rw [List.mem_filter, Sd.mem_upTo, decide_eq_true_iff]
      exact ⟨fun h => ⟨strL_rng v l x (mem_struck.mp h), h⟩, fun h => h.2⟩
  rw [e]; exact List.filter_sublist
theorem settledB_iff {n : Int} {S : List (Int × Int)} (v : VD n S) {l : List Int} : settledB n S l = true ↔ ∀ x, 0 ≤ x → x < n → (x ∉ l ↔ ∃ b ∈ l, (b, x) ∈ S) := by
  unfold settledB
  rw [decide_eq_true_iff]
  constructor
  · intro h x h0 h1
    have : x ∈ struck S l ↔ x ∈ (Sd.upTo n).filter fun c => !decide (c ∈ l) := by rw [h]
    rw [mem_struck, mem_strL', List.mem_filter, Sd.mem_upTo] at this
    rw [this]
    simp [h0, h1]
  · intro h
    refine lot_ext (struck_sub v l) List.filter_sublist fun x => ?_
    rw [mem_struck, mem_strL', List.mem_filter, Sd.mem_upTo]
    constructor
    · rintro ⟨a, h1, h2⟩
      have r := v.rng _ h2
      dsimp only at r
      have := (h x (by omega) (by omega)).mpr ⟨a, h1, h2⟩
      exact ⟨by omega, by simp [this]⟩
    · rintro ⟨h1, h2⟩
      exact (h x h1.1 h1.2).mp (by simpa using h2)
theorem mem_settledL {n : Int} {S : List (Int × Int)} (v : VD n S) {l : List Int} : l ∈ settledL n S ↔ StL n S l := by
  unfold settledL StL
  rw [List.mem_filter, mem_quiet, settledB_iff v]
  constructor
  · rintro ⟨⟨h1, _⟩, h2⟩; exact ⟨h1, h2⟩
  · rintro ⟨h1, h2⟩
    refine ⟨⟨h1, fun a ha b hb hs => ?_⟩, h2⟩
    have hb2 := Sd.mem_upTo.mp (h1.subset hb)
    exact (h2 b hb2.1 hb2.2).mpr ⟨a, ha, hs⟩ hb
/-! ### questions -/
inductive W4 where
  | pl | up | so | al
def W4.str : W4 → Str
  | .pl => "plain"
  | .up => "upheld"
  | .so => "some"
  | .al => "all"
abbrev quD (w : W4) (c : Int) : D := .tuple [.str w.str, .int c]
def trB (n : Int) (S : List (Int × Int)) (w : W4) (c : Int) : Bool := match w with
  | .pl => decide (c ∈ plainL n S)
  | .up => (upheldL n S).any fun l => decide (c ∈ l)
  | .so => (settledL n S).any fun l => decide (c ∈ l)
  | .al => (settledL n S).all fun l => decide (c ∈ l)
theorem e_is_true_of {n : Int} {S : List (Int × Int)} (v : VD n S) (w : W4) (c : Int) (q : Pot) : s_is_true_of [dsp n S, quD w c] q = some (.bool (trB n S w c), q) := by
  refine p_def ?_ q
  refine p_seqR (S := fun ρ => ρ = [some (false, dsp n S), some (false, quD w c), some (false, .str w.str), some (false, .int c), none, none]) (p_asg (d := quD w c) (fun _ => rfl) rfl rfl) ?_
  rintro _ rfl
  have k : ∀ (x : Str) (b : Bool), eqD (.str w.str) (.str x) = some (.bool b) → ∀ ρ : Sd.Env, ρ[2]? = some (some (false, .str w.str)) → PV (ap2 eqD (vr 2) (cst (.str x))) ρ (.bool b) := fun x b h ρ hr q => ap2_ev (d := .str w.str) (e1 := .str x) (by unfold vr; rw [hr]; rfl) rfl h
  cases w with
  | pl =>
    refine p_seqL (p_ifR (k _ _ (eqW (by decide +kernel)) _ rfl) (p_ret fun q => ap2_ev (d := .int c) (e1 := tpI (plainL n S)) rfl (call_ev (ds := [dsp n S]) (sq_cons rfl sq_nil) (e_plain_of v q)) (in0 c _)))
  | up =>
    refine p_seqR (p_ifF (S := fun ρ => ρ = [some (false, dsp n S), some (false, quD .up c), some (false, .str W4.up.str), some (false, .int c), none, none]) (k _ _ (eqW (by decide +kernel)) _ rfl) (p_nil rfl)) ?_
    rintro _ rfl
    refine p_seqL (p_ifR (k _ _ (eqW (by decide +kernel)) _ rfl) (p_ret fun q => ap_1 (lcE_map (upheldL n S) tpI (fun l => [(5, tpI l)]) (fun _ => true) (fun l => .bool (decide (c ∈ l))) (q1 := q) (it_ev (d := lotsD (upheldL n S)) (call_ev (ds := [dsp n S]) (sq_cons rfl sq_nil) (e_upheld_lots v q)) rfl) rfl fun l _ => ⟨rfl, rfl, fun _ => ap2_ev rfl rfl (in0 c l)⟩) (by rw [filter_true, any_map]; rfl)))
  | so =>
    refine p_seqR (p_ifF (S := fun ρ => ρ = [some (false, dsp n S), some (false, quD .so c), some (false, .str W4.so.str), some (false, .int c), none, none]) (k _ _ (eqW (by decide +kernel)) _ rfl) (p_nil rfl)) ?_
    rintro _ rfl
    refine p_seqR (p_ifF (S := fun ρ => ρ = [some (false, dsp n S), some (false, quD .so c), some (false, .str W4.so.str), some (false, .int c), none, none]) (k _ _ (eqW (by decide +kernel)) _ rfl) (p_nil rfl)) ?_
    rintro _ rfl
    refine p_seqR (S := fun ρ => ρ = [some (false, dsp n S), some (false, quD .so c), some (false, .str W4.so.str), some (false, .int c), some (false, .list ((settledL n S).map fun l => .bool (decide (c ∈ l)))), none]) (p_set (fun q => (lcE_map (settledL n S) tpI (fun l => [(5, tpI l)]) (fun _ => true) (fun l => .bool (decide (c ∈ l))) (q1 := q) (it_ev (d := lotsD (settledL n S)) (call_ev (ds := [dsp n S, .str "settled"]) (sq_cons rfl (sq_cons rfl sq_nil)) (e_lots_settled v q)) rfl) rfl fun l _ => ⟨rfl, rfl, fun _ => ap2_ev rfl rfl (in0 c l)⟩).trans (by rw [filter_true])) rfl) ?_
    rintro _ rfl
    exact p_ret fun q => ite_t (k _ _ (eqW (by decide +kernel)) _ rfl q) (ap_1 (d := .list ((settledL n S).map fun l => .bool (decide (c ∈ l)))) rfl (any_map _ _))
  | al =>
    refine p_seqR (p_ifF (S := fun ρ => ρ = [some (false, dsp n S), some (false, quD .al c), some (false, .str W4.al.str), some (false, .int c), none, none]) (k _ _ (eqW (by decide +kernel)) _ rfl) (p_nil rfl)) ?_
    rintro _ rfl
    refine p_seqR (p_ifF (S := fun ρ => ρ = [some (false, dsp n S), some (false, quD .al c), some (false, .str W4.al.str), some (false, .int c), none, none]) (k _ _ (eqW (by decide +kernel)) _ rfl) (p_nil rfl)) ?_
    rintro _ rfl
    refine p_seqR (S := fun ρ => ρ = [some (false, dsp n S), some (false, quD .al c), some (false, .str W4.al.str), some (false, .int c), some (false, .list ((settledL n S).map fun l => .bool (decide (c ∈ l)))), none]) (p_set (fun q => (lcE_map (settledL n S) tpI (fun l => [(5, tpI l)]) (fun _ => true) (fun l => .bool (decide (c ∈ l))) (q1 := q) (it_ev (d := lotsD (settledL n S)) (call_ev (ds := [dsp n S, .str "settled"]) (sq_cons rfl (sq_cons rfl sq_nil)) (e_lots_settled v q)) rfl) rfl fun l _ => ⟨rfl, rfl, fun _ => ap2_ev rfl rfl (in0 c l)⟩).trans (by rw [filter_true])) rfl) ?_
    rintro _ rfl
    exact p_ret fun q => ite_f (k _ _ (eqW (by decide +kernel)) _ rfl q) (ap_1 (d := .list ((settledL n S).map fun l => .bool (decide (c ∈ l)))) rfl (all_map _ _))
end Cm
/-! unsure disputes: the law's own truths, verdicts -/
namespace Cm
open PySem PySem.Spec PyProof.Rows Sd
/-- strikes in any sequence, told by a tuple -/
theorem e_lstruck (T : List (Int × Int)) {dl : D} {l : List Int} (h : IsSeq dl l) (q : Pot) : s__law_struck [tpP T, dl] q = some (.list ((strL T l).map iD), q) := by
  refine def_rt (ret_ev ((lcE_map T pD (fun z => [(2, iD z.1), (3, iD z.2)]) (fun z => decide (z.1 ∈ l)) (fun z => iD z.2) (q1 := q) (it_ev (d := tpP T) rfl rfl) rfl fun z _ => ⟨rfl, ap2_ev rfl rfl (h.in_ z.1), fun _ => rfl⟩).trans ?_))
  unfold strL; rw [List.map_map]; rfl
def okc (T : List (Int × Int)) (l : List Int) (c : Int) : Bool := (T.filter fun z => decide (z.2 = c)).all fun z => decide (z.1 ∈ strL T l)
theorem okc_iff {T : List (Int × Int)} {l : List Int} {c : Int} : okc T l c = true ↔ ∀ a, (a, c) ∈ T → a ∈ strL T l := by
  unfold okc
  rw [List.all_eq_true]
  constructor
  · intro h a ha
    exact of_decide_eq_true (h (a, c) (List.mem_filter.mpr ⟨ha, by simp⟩))
  · intro h z hz
    obtain ⟨h1, h2⟩ := List.mem_filter.mp hz
    have h2 : z.2 = c := by simpa using h2
    exact decide_eq_true (h z.1 (by rw [← h2]; exact h1))
theorem defL_okc (n : Int) (T : List (Int × Int)) (l : List Int) : (Sd.upTo n).filter (okc T l) = defL n T l := by
  refine lot_ext List.filter_sublist (defL_sub n T l) fun x => ?_
  rw [List.mem_filter, Sd.mem_upTo, okc_iff, mem_defL]
theorem e_ldefended {n : Int} (hn : 0 ≤ n ∧ n ≤ 1000) (T : List (Int × Int)) {dl : D} {l : List Int} (h : IsSeq dl l) (q : Pot) : s__law_defended [.int n, tpP T, dl] q = some (.list ((defL n T l).map iD), q) := by
  refine p_def ?_ q
  refine p_seqR (S := fun ρ => ρ = [some (false, .int n), some (false, tpP T), some (false, dl), some (false, .list ((strL T l).map iD)), some (true, .list []), none, none, none]) (p_par2 (fun q => call_ev (ds := [tpP T, dl]) (sq_cons rfl (sq_cons rfl sq_nil)) (e_lstruck T h q)) (fun _ => rfl) ⟨Nat.le_of_ble_eq_true rfl, Nat.le_of_ble_eq_true rfl⟩ (fun z => by cases z) (fun _ => rfl) rfl) ?_
  rintro _ rfl
  refine p_seqR (p_for (Sd.upTo n) iD (fun pre ρ => ∃ o5 o6 o7, ρ = [some (false, .int n), some (false, tpP T), some (false, dl), some (false, .list ((strL T l).map iD)), some (true, .list ((pre.filter (okc T l)).map iD)), o5, o6, o7]) (fun q => upTo_rng rfl (by omega)) ⟨none, none, none, rfl⟩ ?_) ?_
  · rintro pre x post e _ ⟨o5, o6, o7, rfl⟩
    refine ⟨_, rfl, ?_⟩
    have hl : pre.length ≤ 1000 := by
      have := congrArg List.length e
      rw [upTo_len, List.length_append, List.length_cons] at this
      omega
    refine p_ext (ds := (pre.filter (okc T l)).map iD) (xs := if okc T l x = true then [iD x] else []) (fun q => ?_) rfl ?_ ⟨some (false, iD x), o6, o7, ?_⟩
    · have t : ap allD [lcE [6, 7] (itE (vr 1)) (gT [gN 6, gN 7]) (ap2 eqD (vr 7) (vr 5)) (ap2 (inG false) (vr 6) (vr 3))] [some (false, .int n), some (false, tpP T), some (false, dl), some (false, .list ((strL T l).map iD)), some (true, .list ((pre.filter (okc T l)).map iD)), some (false, iD x), o6, o7] q = some (.bool (okc T l x), q) := by
        refine ap_1 (lcE_map T pD (fun z => [(6, iD z.1), (7, iD z.2)]) (fun z => decide (z.2 = x)) (fun z => .bool (decide (z.1 ∈ strL T l))) (q1 := q) (it_ev (d := tpP T) rfl rfl) rfl fun z _ => ⟨rfl, ap2_ev rfl rfl (eq_i z.2 x), fun _ => ap2_ev rfl rfl (in1 z.1 _)⟩) ?_
        rw [all_map]; rfl
      cases c : okc T l x with
      | true => rw [c] at t; exact ite_t t rfl
      | false => rw [c] at t; exact ite_f t rfl
    · have := List.length_filter_le (okc T l) pre
      rw [List.length_map]
      split <;> simp <;> omega
    · show [_, _, _, _, _, _, _, _] = _
      rw [List.filter_append]
      cases c : okc T l x with
      | true => simp [c]
      | false => simp [c]
  · rintro _ ⟨o5, o6, o7, rfl⟩
    rw [defL_okc]
    exact p_ret fun q => rfl
theorem e_lplain {n : Int} (hn : 0 ≤ n ∧ n ≤ 100) (T : List (Int × Int)) (q : Pot) : s__law_plain [.int n, tpP T] q = some (.list ((plainL n T).map iD), q) := by
  refine p_def ?_ q
  refine p_seqR (S := fun ρ => ρ = [some (false, .int n), some (false, tpP T), some (false, .list []), none]) (p_set (fun _ => rfl) rfl) ?_
  rintro _ rfl
  refine p_seqR (p_for (Sd.upTo (n + 1)) iD (fun pre ρ => ∃ o3, ρ = [some (false, .int n), some (false, tpP T), some (false, .list ((itL n T pre.length).map iD)), o3]) (fun q => upTo_rng (n := n + 1) rfl (by omega)) ⟨none, rfl⟩ ?_) ?_
  · rintro pre x post e _ ⟨o3, rfl⟩
    refine ⟨_, rfl, p_set (d := .list ((itL n T (pre ++ [x]).length).map iD)) (fun q => ?_) ⟨_, rfl⟩⟩
    rw [List.length_append, List.length_singleton]
    exact call_ev (ds := [.int n, tpP T, .list ((itL n T pre.length).map iD)]) (sq_cons rfl (sq_cons rfl (sq_cons rfl sq_nil))) (e_ldefended (by omega) T (isLs _) q)
  · rintro _ ⟨o3, rfl⟩
    have e : itL n T (Sd.upTo (n + 1)).length = plainL n T := by
      rw [upTo_len]
      exact (itL_stab n T (k := (n + 1).toNat) (by omega)).2
    rw [e]
    exact p_ret fun q => rfl
theorem addC_lots {L : List (List Int)} {x : Int} (h : L.length ≤ 100000) (hl : ∀ l ∈ L, l.length ≤ 100) {ρ : Sd.Env} {q : Pot} {i j k : Nat} {own : List Nat} (hi : vr i ρ q = some (lotsD L, q)) (hown : own.all (fun i => decide (i < ρ.length)) = true)
    (hk : ∀ l, vr k (sets (wipeD ρ own) [k] [(false, tpI l)]) q = some (tpI l, q)) (hj : ∀ l, vr j (sets (wipeD ρ own) [k] [(false, tpI l)]) q = some (.int x, q)) : ap2 addD (vr i) (lcE own (itE (vr i)) (gN k) (cst (.bool true)) (ap2 addD (vr k) (tupE [vr j]))) ρ q = some (lotsD (addC L x), q) := by
  refine ap2_ev (d := lotsD L) (e1 := .list (L.map fun l => tpI (l ++ [x]))) hi ?_ ?_
  · refine (lcE_map L tpI (fun l => [(k, tpI l)]) (fun _ => true) (fun l => tpI (l ++ [x])) (q1 := q) (it_ev (d := lotsD L) hi rfl) hown fun l hl2 => ⟨rfl, rfl, fun _ => ap2_ev (d := tpI l) (e1 := .tuple [.int x]) (hk l) (tup_ev (sq_cons (hj l) sq_nil)) ?_⟩).trans (by rw [filter_true])
    show (if (l.map iD).length + 1 ≤ 1000000 then some (PyData.tuple (l.map iD ++ [.int x])) else none) = _
    have := hl l hl2
    rw [if_pos (by rw [List.length_map]; omega)]
    show some (PyData.tuple (l.map iD ++ [iD x])) = some (PyData.tuple ((l ++ [x]).map iD))
    rw [List.map_append]; rfl
  · show (if _ then _ else _) = _
    rw [if_pos (by rw [List.length_map, List.length_map]; omega)]
    unfold addC
    show some (PyData.list _) = some (PyData.list _)
    rw [List.map_append, List.map_map]; rfl
theorem e_llots {n : Int} (hn : 0 ≤ n ∧ n ≤ 10) (q : Pot) : s__law_lots [.int n] q = some (lotsD (sortK (subsL (Sd.upTo n))), q) := by
  refine p_def ?_ q
  refine p_seqR (S := fun ρ => ρ = [some (false, .int n), some (false, lotsD [[]]), none, none]) (p_set (fun _ => rfl) rfl) ?_
  rintro _ rfl
  refine p_seqR (p_for (Sd.upTo n) iD (fun pre ρ => ∃ o2 o3, ρ = [some (false, .int n), some (false, lotsD (subsL pre)), o2, o3]) (fun q => upTo_rng rfl (by omega)) ⟨none, none, rfl⟩ ?_) ?_
  · rintro pre x post e _ ⟨o2, o3, rfl⟩
    have hp : pre.length ≤ 10 := by
      have := congrArg List.length e
      rw [upTo_len, List.length_append, List.length_cons] at this
      omega
    refine ⟨_, rfl, p_set (d := lotsD (subsL (pre ++ [x]))) (fun q => ?_) ⟨_, _, rfl⟩⟩
    rw [subsL_snoc]
    refine addC_lots (x := x) ?_ (fun l hl => ?_) rfl rfl (fun _ => rfl) (fun _ => rfl)
    · rw [subsL_len]
      exact Nat.le_trans (Nat.pow_le_pow_right (by decide) hp) (by decide)
    · have := (mem_subsL.mp hl).length_le
      omega
  · rintro _ ⟨o2, o3, rfl⟩
    exact p_ret fun q => ap_1 (d := lotsD (subsL (Sd.upTo n))) rfl (sorted_any _)
/-! ### the law's own truth -/
def lupB (n : Int) (T : List (Int × Int)) (l : List Int) : Bool := (!l.any fun x => decide (x ∈ strL T l)) && l.all fun x => decide (x ∈ defL n T l)
def lstB (n : Int) (T : List (Int × Int)) (l : List Int) : Bool := (Sd.upTo n).all fun x => !decide (decide (x ∈ strL T l) = decide (x ∈ l))
def loneB (n : Int) (T : List (Int × Int)) (w : W4) (l : List Int) : Bool := match w with
  | .up => lupB n T l
  | _ => lstB n T l
def ltrB (n : Int) (T : List (Int × Int)) (w : W4) (c : Int) : Bool := match w with
  | .pl => decide (c ∈ plainL n T)
  | .al => ((sortK (subsL (Sd.upTo n))).filter (loneB n T w)).all fun l => decide (c ∈ l)
  | _ => ((sortK (subsL (Sd.upTo n))).filter (loneB n T w)).any fun l => decide (c ∈ l)
theorem ne_b (a b : Bool) : neD (.bool a) (.bool b) = some (.bool (!decide (a = b))) := by cases a <;> cases b <;> rfl
abbrev truEnv (n : Int) (T : List (Int × Int)) (w : W4) (c : Int) (F : List (List Int)) (o6 o7 o8 o9 : Option (Bool × D)) : Sd.Env := [some (false, .int n), some (false, tpP T), some (false, quD w c), some (false, .str w.str), some (false, .int c), some (true, .list (F.map fun l => .bool (decide (c ∈ l)))), o6, o7, o8, o9]
theorem e_lis_true {n : Int} (hn : 0 ≤ n ∧ n ≤ 10) (T : List (Int × Int)) (w : W4) (c : Int) (q : Pot) : s__law_is_true [.int n, tpP T, quD w c] q = some (.bool (ltrB n T w c), q) := by
  refine p_def ?_ q
  refine p_seqR (S := fun ρ => ρ = [some (false, .int n), some (false, tpP T), some (false, quD w c), some (false, .str w.str), some (false, .int c), none, none, none, none, none]) (p_asg (d := quD w c) (fun _ => rfl) rfl rfl) ?_
  rintro _ rfl
  have k : ∀ (x : Str) (b : Bool), eqD (.str w.str) (.str x) = some (.bool b) → ∀ ρ : Sd.Env, ρ[3]? = some (some (false, .str w.str)) → PV (ap2 eqD (vr 3) (cst (.str x))) ρ (.bool b) := fun x b h ρ hr q => ap2_ev (d := .str w.str) (e1 := .str x) (by unfold vr; rw [hr]; rfl) rfl h
  have rest : w ≠ .pl → PR (seqS (setB 5 (lstE [])) (seqS (forS (itE (callE s__law_lots [vr 0])) (gN 6) (seqS (setS 7 (callE s__law_struck [vr 1, vr 6])) (seqS (ifS (ap2 eqD (vr 3) (cst (.str "upheld"))) (setS 8 (andE (ap1 notD (ap anyD [lcE [9] (itE (vr 6)) (gN 9) (cst (.bool true)) (ap2 (inG false) (vr 9) (vr 7))])) (ap allD [lcE [9] (itE (vr 6)) (gN 9) (cst (.bool true)) (ap2 (inG false) (vr 9) (callE s__law_defended [vr 0, vr 1, vr 6]))]))) (setS 8 (ap allD [lcE [9] (rngE (vr 0)) (gN 9) (cst (.bool true)) (ap2 neD (ap2 (inG false) (vr 9) (vr 7)) (ap2 (inG false) (vr 9) (vr 6)))]))) (bldS 5 extL (iteE (vr 8) (lstE [ap2 (inG false) (vr 4) (vr 6)]) (lstE [])))))) (retS (iteE (ap2 eqD (vr 3) (cst (.str "all"))) (ap allD [vrC 5]) (ap anyD [vrC 5])))))
      [some (false, .int n), some (false, tpP T), some (false, quD w c), some (false, .str w.str), some (false, .int c), none, none, none, none, none] (.bool (ltrB n T w c)) := fun hw => by
    refine p_seqR (S := fun ρ => ρ = truEnv n T w c [] none none none none) (p_setB (fun _ => rfl) rfl rfl) ?_
    rintro _ rfl
    refine p_seqR (p_for (sortK (subsL (Sd.upTo n))) tpI (fun pre ρ => ∃ o6 o7 o8 o9, ρ = truEnv n T w c (pre.filter (loneB n T w)) o6 o7 o8 o9) (fun q => it_ev (d := lotsD _) (call_ev (ds := [.int n]) (sq_cons rfl sq_nil) (e_llots hn q)) rfl) ⟨_, _, _, _, rfl⟩ ?_) ?_
    · rintro pre l post e _ ⟨o6, o7, o8, o9, rfl⟩
      refine ⟨_, rfl, ?_⟩
      have hp : pre.length ≤ 1024 := by
        have h1 := congrArg List.length e
        rw [(sortK_perm _).length_eq, subsL_len, List.length_append, List.length_cons, upTo_len] at h1
        have h2 : 2 ^ n.toNat ≤ 2 ^ 10 := Nat.pow_le_pow_right (by decide) (by omega)
        omega
      refine p_seq (S := fun ρ => ρ = truEnv n T w c (pre.filter (loneB n T w)) (some (false, tpI l)) (some (false, .list ((strL T l).map iD))) o8 o9) (p_set (fun q => call_ev (ds := [tpP T, tpI l]) (sq_cons rfl (sq_cons rfl sq_nil)) (e_lstruck T (isT l) q)) rfl) ?_
      rintro _ rfl
      refine p_seq (S := fun ρ => ρ = truEnv n T w c (pre.filter (loneB n T w)) (some (false, tpI l)) (some (false, .list ((strL T l).map iD))) (some (false, .bool (loneB n T w l))) o9) ?_ ?_
      · have tu : PV (andE (ap1 notD (ap anyD [lcE [9] (itE (vr 6)) (gN 9) (cst (.bool true)) (ap2 (inG false) (vr 9) (vr 7))])) (ap allD [lcE [9] (itE (vr 6)) (gN 9) (cst (.bool true)) (ap2 (inG false) (vr 9) (callE s__law_defended [vr 0, vr 1, vr 6]))])) (truEnv n T w c (pre.filter (loneB n T w)) (some (false, tpI l)) (some (false, .list ((strL T l).map iD))) o8 o9) (.bool (lupB n T l)) := fun q => by
          refine and_b (ap1_ev (d := .bool (l.any fun x => decide (x ∈ strL T l))) (ap_1 (lcE_map l iD (fun x => [(9, iD x)]) (fun _ => true) (fun x => .bool (decide (x ∈ strL T l))) (q1 := q) (it_ev (d := tpI l) rfl rfl) rfl fun x _ => ⟨rfl, rfl, fun _ => ap2_ev rfl rfl (in1 x _)⟩) (by rw [filter_true, any_map])) rfl) (ap_1 (lcE_map l iD (fun x => [(9, iD x)]) (fun _ => true) (fun x => .bool (decide (x ∈ defL n T l))) (q1 := q) (it_ev (d := tpI l) rfl rfl) rfl fun x _ => ⟨rfl, rfl, fun _ => ap2_ev (e1 := .list ((defL n T l).map iD)) rfl (call_ev (ds := [.int n, tpP T, tpI l]) (sq_cons rfl (sq_cons rfl (sq_cons rfl sq_nil))) (e_ldefended (by omega) T (isT l) q)) (in1 x _)⟩) (by rw [filter_true, all_map]))
        have ts : PV (ap allD [lcE [9] (rngE (vr 0)) (gN 9) (cst (.bool true)) (ap2 neD (ap2 (inG false) (vr 9) (vr 7)) (ap2 (inG false) (vr 9) (vr 6)))]) (truEnv n T w c (pre.filter (loneB n T w)) (some (false, tpI l)) (some (false, .list ((strL T l).map iD))) o8 o9) (.bool (lstB n T l)) := fun q => by
          refine ap_1 (lcE_map (Sd.upTo n) iD (fun x => [(9, iD x)]) (fun _ => true) (fun x => .bool (!decide (decide (x ∈ strL T l) = decide (x ∈ l)))) (q1 := q) (upTo_rng rfl (by omega)) rfl fun x _ => ⟨rfl, rfl, fun _ => ap2_ev (ap2_ev rfl rfl (in1 x _)) (ap2_ev rfl rfl (in0 x l)) (ne_b _ _)⟩) (by rw [filter_true, all_map]; rfl)
        cases w with
        | pl => exact absurd rfl hw
        | up => exact p_ifT (k _ _ (eqW (by decide +kernel)) _ rfl) (p_set tu rfl)
        | so => exact p_ifF (k _ _ (eqW (by decide +kernel)) _ rfl) (p_set ts rfl)
        | al => exact p_ifF (k _ _ (eqW (by decide +kernel)) _ rfl) (p_set ts rfl)
      · rintro _ rfl
        have hf := List.length_filter_le (loneB n T w) pre
        refine p_ext (ds := (pre.filter (loneB n T w)).map fun l => .bool (decide (c ∈ l))) (xs := if loneB n T w l = true then [.bool (decide (c ∈ l))] else []) (fun q => ?_) rfl ?_ ⟨some (false, tpI l), some (false, .list ((strL T l).map iD)), some (false, .bool (loneB n T w l)), o9, ?_⟩
        · cases z : loneB n T w l with
          | true => exact ite_t (q1 := q) rfl (lst_ev (sq_cons (ap2_ev (d := .int c) (e1 := tpI l) rfl rfl (in0 c l)) sq_nil))
          | false => exact ite_f (q1 := q) rfl rfl
        · rw [List.length_map]
          split <;> simp <;> omega
        · show [_, _, _, _, _, _, _, _, _, _] = _
          rw [List.filter_append]
          cases z : loneB n T w l with
          | true => simp [z]
          | false => simp [z]
    · rintro _ ⟨o6, o7, o8, o9, rfl⟩
      refine p_ret fun q => ?_
      cases w with
      | pl => exact absurd rfl hw
      | up => exact ite_f (k _ _ (eqW (by decide +kernel)) _ rfl q) (ap_1 (d := .list _) rfl (any_map _ _))
      | so => exact ite_f (k _ _ (eqW (by decide +kernel)) _ rfl q) (ap_1 (d := .list _) rfl (any_map _ _))
      | al => exact ite_t (k _ _ (eqW (by decide +kernel)) _ rfl q) (ap_1 (d := .list _) rfl (all_map _ _))
  have go : w ≠ .pl → PV (ap2 eqD (vr 3) (cst (.str "plain"))) [some (false, .int n), some (false, tpP T), some (false, quD w c), some (false, .str w.str), some (false, .int c), none, none, none, none, none] (.bool false) := fun hw => by
    cases w with
    | pl => exact absurd rfl hw
    | up => exact k _ _ (eqW (by decide +kernel)) _ rfl
    | so => exact k _ _ (eqW (by decide +kernel)) _ rfl
    | al => exact k _ _ (eqW (by decide +kernel)) _ rfl
  by_cases hw : w = .pl
  · subst hw
    exact p_seqL (p_ifR (k _ _ (eqW (by decide +kernel)) _ rfl) (p_ret fun q => ap2_ev (d := .int c) (e1 := .list ((plainL n T).map iD)) rfl (call_ev (ds := [.int n, tpP T]) (sq_cons rfl (sq_cons rfl sq_nil)) (e_lplain (by omega) T q)) (in1 c _)))
  · refine p_seqR (p_ifF (S := fun ρ => ρ = [some (false, .int n), some (false, tpP T), some (false, quD w c), some (false, .str w.str), some (false, .int c), none, none, none, none, none]) (go hw) (p_nil rfl)) ?_
    rintro _ rfl
    exact rest hw
/-- the two truths are one -/
theorem lup_iff {n : Int} {T : List (Int × Int)} {l : List Int} (h : List.Sublist l (Sd.upTo n)) : lupB n T l = true ↔ UpL n T l := by
  unfold lupB UpL
  rw [Bool.and_eq_true, Bool.not_eq_true', List.any_eq_false, List.all_eq_true]
  constructor
  · rintro ⟨h1, h2⟩
    refine ⟨h, fun a ha b hb hs => h1 b hb (decide_eq_true (mem_strL'.mpr ⟨a, ha, hs⟩)), fun x hx a ha => mem_strL'.mp ((mem_defL.mp (of_decide_eq_true (h2 x hx))).2 a ha)⟩
  · rintro ⟨_, h1, h2⟩
    refine ⟨fun x hx hd => ?_, fun x hx => decide_eq_true (mem_defL.mpr ⟨Sd.mem_upTo.mp (h.subset hx), fun a ha => mem_strL'.mpr (h2 x hx a ha)⟩)⟩
    obtain ⟨a, ha, hs⟩ := mem_strL'.mp (of_decide_eq_true hd)
    exact h1 a ha x hx hs
theorem lst_iff {n : Int} {T : List (Int × Int)} {l : List Int} (h : List.Sublist l (Sd.upTo n)) : lstB n T l = true ↔ StL n T l := by
  unfold lstB StL
  rw [List.all_eq_true]
  constructor
  · intro h1
    refine ⟨h, fun x h0 h2 => ?_⟩
    have := h1 x (Sd.mem_upTo.mpr ⟨h0, h2⟩)
    rw [← mem_strL']
    by_cases c : x ∈ l <;> by_cases d : x ∈ strL T l <;> simp [c, d] at this ⊢
  · rintro ⟨_, h1⟩ x hx
    have := h1 x (Sd.mem_upTo.mp hx).1 (Sd.mem_upTo.mp hx).2
    rw [← mem_strL'] at this
    by_cases c : x ∈ l <;> by_cases d : x ∈ strL T l <;> simp [c, d] at this ⊢
theorem mem_all {n : Int} {l : List Int} : l ∈ sortK (subsL (Sd.upTo n)) ↔ List.Sublist l (Sd.upTo n) := by rw [(sortK_perm _).mem_iff, mem_subsL]
theorem tr_eq {n : Int} {S T : List (Int × Int)} (v : VD n S) (h : Alike S T) (w : W4) (c : Int) : trB n S w c = ltrB n T w c := by
  cases w with
  | pl => show decide _ = decide _; rw [h.plainL]
  | up =>
    refine any_mem fun l => ?_
    rw [mem_upheldL, List.mem_filter, mem_all, h.up]
    exact ⟨fun z => ⟨z.1, (lup_iff z.1).mpr z⟩, fun z => (lup_iff z.1).mp z.2⟩
  | so =>
    refine any_mem fun l => ?_
    rw [mem_settledL v, List.mem_filter, mem_all, h.st]
    exact ⟨fun z => ⟨z.1, (lst_iff z.1).mpr z⟩, fun z => (lst_iff z.1).mp z.2⟩
  | al =>
    refine all_mem fun l => ?_
    rw [mem_settledL v, List.mem_filter, mem_all, h.st]
    exact ⟨fun z => ⟨z.1, (lst_iff z.1).mpr z⟩, fun z => (lst_iff z.1).mp z.2⟩
end Cm
/-! unsure disputes: parts, completions, verdicts -/
namespace Cm
open PySem PySem.Spec PyProof.Rows Sd
/-! ### pairs sorted -/
def sortP (L : List (Int × Int)) : List (Int × Int) := L.mergeSort fun a b => decide (keyP a ≤ keyP b)
theorem sortP_key (L : List (Int × Int)) : (sortP L).map keyP = sortK (L.map keyP) := by
  unfold sortP sortK
  exact List.map_mergeSort fun a _ b _ => rfl
theorem sortP_perm (L : List (Int × Int)) : (sortP L).Perm L := List.mergeSort_perm _ _
theorem mem_sortP {L : List (Int × Int)} {z : Int × Int} : z ∈ sortP L ↔ z ∈ L := (sortP_perm L).mem_iff
theorem keyP_inj {a b : Int × Int} (h : keyP a = keyP b) : a = b := by
  unfold keyP at h
  simp only [List.cons.injEq, and_true] at h
  exact Prod.ext h.1 h.2
theorem sortP_pw {L : List (Int × Int)} (h : L.Nodup) : (sortP L).Pairwise ltP := by
  have h1 : ((sortP L).map keyP).Pairwise (· ≤ ·) := by rw [sortP_key]; exact sortK_pw _
  rw [List.pairwise_map] at h1
  have h2 : (sortP L).Nodup := (sortP_perm L).nodup_iff.mpr h
  refine List.Pairwise.imp₂ (fun a b h1 h2 => ?_) h1 h2
  have h2 : a ≠ b := h2
  have h1 : keyP a ≤ keyP b := h1
  by_cases c : ltP a b
  · exact c
  · exfalso
    have d : ltP b a := by
      unfold ltP at c ⊢
      have : ¬ (a.1 = b.1 ∧ a.2 = b.2) := fun z => h2 (Prod.ext z.1 z.2)
      omega
    exact h2 (keyP_inj (List.le_antisymm h1 (keyP_le d)))
theorem flat_pairs (L : List (Int × Int)) : flatD (L.map pD) = true := by
  unfold flatD
  rw [List.all_eq_true]
  intro d hd
  obtain ⟨z, _, rfl⟩ := List.mem_map.mp hd
  rfl
theorem sorted_tupP (L : List (Int × Int)) : sortedG [.tuple (L.map pD)] = some (.list ((sortP L).map pD)) := by
  show (if (flatD (L.map pD) && okS (L.map pD)) = true then some (PyData.list (srt (L.map pD))) else none) = _
  rw [if_pos (by rw [flat_pairs, pD_map, okS_any]; rfl), pD_map, srt_tups, ← sortP_key, ← pD_map]
theorem sorted_lstP (L : List (Int × Int)) : sortedG [.list (L.map pD)] = some (.list ((sortP L).map pD)) := by
  show sortedD [.list (L.map pD)] = _
  rw [pD_map, sorted_any, ← sortP_key, ← pD_map]
/-! ### unsure disputes -/
abbrev unsD (n : Int) (S M : List (Int × Int)) : D := .tuple [.str "unsure", .int n, tpP S, tpP M]
structure VU (n : Int) (S M : List (Int × Int)) : Prop where
  n1 : 1 ≤ n
  n8 : n ≤ 8
  rS : ∀ z ∈ S, 0 ≤ z.1 ∧ z.1 < n ∧ 0 ≤ z.2 ∧ z.2 < n
  rM : ∀ z ∈ M, 0 ≤ z.1 ∧ z.1 < n ∧ 0 ≤ z.2 ∧ z.2 < n
  pS : S.Pairwise ltP
  pM : M.Pairwise ltP
  few : M.length ≤ 6
  dis : ∀ z ∈ M, z ∉ S
theorem VU.nd {n : Int} {S M P : List (Int × Int)} (v : VU n S M) (h : List.Sublist P M) : (S ++ P).Nodup := by
  rw [List.nodup_append]
  refine ⟨pw_nodup v.pS, (pw_nodup v.pM).sublist h, fun a ha b hb e => ?_⟩
  subst e
  exact v.dis a (h.subset hb) ha
theorem VU.vd {n : Int} {S M P : List (Int × Int)} (v : VU n S M) (h : List.Sublist P M) : VD n (sortP (S ++ P)) := by
  refine ⟨v.n1, by have := v.n8; omega, fun z hz => ?_, sortP_pw (v.nd h)⟩
  rcases List.mem_append.mp (mem_sortP.mp hz) with c | c
  · exact v.rS z c
  · exact v.rM z (h.subset c)
theorem VU.fewS {n : Int} {S M : List (Int × Int)} (v : VU n S M) : S.length ≤ 64 := by
  have h := few_pairs v.pS v.rS
  have h2 : n.toNat ≤ 8 := by have := v.n8; omega
  have := Nat.mul_le_mul h2 h2
  omega
theorem addC_gen {α : Type} (ed : α → D) {L : List (List α)} {x : α} (h : L.length ≤ 100000) (hl : ∀ l ∈ L, l.length ≤ 100) {ρ : Sd.Env} {q : Pot} {i j k : Nat} {own : List Nat} (hi : vr i ρ q = some (.list (L.map fun l => .tuple (l.map ed)), q)) (hown : own.all (fun i => decide (i < ρ.length)) = true)
    (hk : ∀ l : List α, vr k (sets (wipeD ρ own) [k] [(false, .tuple (l.map ed))]) q = some (.tuple (l.map ed), q)) (hj : ∀ l : List α, vr j (sets (wipeD ρ own) [k] [(false, .tuple (l.map ed))]) q = some (ed x, q)) : ap2 addD (vr i) (lcE own (itE (vr i)) (gN k) (cst (.bool true)) (ap2 addD (vr k) (tupE [vr j]))) ρ q = some (.list ((addC L x).map fun l => .tuple (l.map ed)), q) := by
  refine ap2_ev (d := .list (L.map fun l => .tuple (l.map ed))) (e1 := .list (L.map fun l => .tuple ((l ++ [x]).map ed))) hi ?_ ?_
  · refine (lcE_map L (fun l => .tuple (l.map ed)) (fun l => [(k, .tuple (l.map ed))]) (fun _ => true) (fun l => .tuple ((l ++ [x]).map ed)) (q1 := q) (it_ev (d := .list _) hi rfl) hown fun l hl2 => ⟨rfl, rfl, fun _ => ap2_ev (d := .tuple (l.map ed)) (e1 := .tuple [ed x]) (hk l) (tup_ev (sq_cons (hj l) sq_nil)) ?_⟩).trans (by rw [filter_true])
    show (if (l.map ed).length + 1 ≤ 1000000 then some (PyData.tuple (l.map ed ++ [ed x])) else none) = _
    have := hl l hl2
    rw [if_pos (by rw [List.length_map]; omega), List.map_append]; rfl
  · show (if _ then _ else _) = _
    rw [if_pos (by rw [List.length_map, List.length_map]; omega)]
    unfold addC
    rw [List.map_append, List.map_map]; rfl
theorem e_parts_of {n : Int} {S M : List (Int × Int)} (v : VU n S M) (q : Pot) : s_parts_of [unsD n S M] q = some (.list ((subsL M).map tpP), q) := by
  refine p_def ?_ q
  refine p_seqR (S := fun ρ => ρ = [some (false, unsD n S M), some (false, .list [.tuple []]), none, none]) (p_set (fun _ => rfl) rfl) ?_
  rintro _ rfl
  refine p_seqR (p_for M pD (fun pre ρ => ∃ o2 o3, ρ = [some (false, unsD n S M), some (false, .list ((subsL pre).map tpP)), o2, o3]) (fun q => it_ev (d := tpP M) rfl rfl) ⟨none, none, rfl⟩ ?_) ?_
  · rintro pre x post e _ ⟨o2, o3, rfl⟩
    have hp : pre.length ≤ 6 := by
      have := congrArg List.length e
      rw [List.length_append, List.length_cons] at this
      have := v.few
      omega
    refine ⟨_, rfl, p_set (d := .list ((subsL (pre ++ [x])).map tpP)) (fun q => ?_) ⟨_, _, rfl⟩⟩
    rw [subsL_snoc]
    refine addC_gen pD (x := x) ?_ (fun l hl => ?_) rfl rfl (fun _ => rfl) (fun _ => rfl)
    · rw [subsL_len]
      exact Nat.le_trans (Nat.pow_le_pow_right (by decide) hp) (by decide)
    · have := (mem_subsL.mp hl).length_le
      omega
  · rintro _ ⟨o2, o3, rfl⟩
    exact p_ret fun q => rfl
theorem e_lparts {n : Int} {S M : List (Int × Int)} (v : VU n S M) (q : Pot) : s__law_parts [unsD n S M] q = some (.list ((subsL M).map tpP), q) := e_parts_of v q
theorem e_completed {n : Int} {S M P : List (Int × Int)} (v : VU n S M) (h : List.Sublist P M) (q : Pot) : s_completed [unsD n S M, tpP P] q = some (dsp n (sortP (S ++ P)), q) := by
  refine def_rt (ret_ev (tup_ev (sq_cons rfl (sq_cons rfl (sq_cons (ap_1 (d := .list ((sortP (S ++ P)).map pD)) (ap_1 (d := .tuple ((S ++ P).map pD)) (ap2_ev (d := tpP S) (e1 := tpP P) rfl (ap_1 (d := tpP P) rfl rfl) ?_) (sorted_tupP _)) rfl) sq_nil)))))
  have h1 := v.fewS
  have h2 := h.length_le
  have h3 := v.few
  show (if _ then _ else _) = _
  rw [if_pos (by rw [List.length_map, List.length_map]; omega), List.map_append]
def verdW (ts : List Bool) : Str := if ts.all id = true then "surely" else if ts.any id = true then "perhaps" else "never"
theorem e_truths_of {n : Int} {S M : List (Int × Int)} (v : VU n S M) (w : W4) (c : Int) (q : Pot) : s_truths_of [unsD n S M, quD w c] q = some (.list ((subsL M).map fun P => .bool (trB n (sortP (S ++ P)) w c)), q) := by
  refine def_rt (ret_ev ((lcE_map (subsL M) tpP (fun P => [(2, tpP P)]) (fun _ => true) (fun P => .bool (trB n (sortP (S ++ P)) w c)) (q1 := q) (it_ev (d := .list ((subsL M).map tpP)) (call_ev (ds := [unsD n S M]) (sq_cons rfl sq_nil) (e_parts_of v q)) rfl) rfl fun P hP => ⟨rfl, rfl, fun _ => ?_⟩).trans (by rw [filter_true])))
  have hP := mem_subsL.mp hP
  exact call_ev (ds := [dsp n (sortP (S ++ P)), quD w c]) (sq_cons (call_ev (ds := [unsD n S M, tpP P]) (sq_cons rfl (sq_cons rfl sq_nil)) (e_completed v hP q)) (sq_cons rfl sq_nil)) (e_is_true_of (v.vd hP) w c q)
theorem all_bools {α : Type} (f : α → Bool) (L : List α) : allD [.list (L.map fun x => .bool (f x))] = some (.bool ((L.map f).all id)) := by
  rw [all_map, List.all_map]; rfl
theorem any_bools {α : Type} (f : α → Bool) (L : List α) : anyD [.list (L.map fun x => .bool (f x))] = some (.bool ((L.map f).any id)) := by
  rw [any_map, List.any_map]; rfl
theorem e_verdict_of {n : Int} {S M : List (Int × Int)} (v : VU n S M) (w : W4) (c : Int) (q : Pot) : s_verdict_of [unsD n S M, quD w c] q = some (.str (verdW ((subsL M).map fun P => trB n (sortP (S ++ P)) w c)), q) := by
  refine p_def ?_ q
  refine p_seqR (S := fun ρ => ρ = [some (false, unsD n S M), some (false, quD w c), some (false, .list ((subsL M).map fun P => .bool (trB n (sortP (S ++ P)) w c)))]) (p_set (fun q => call_ev (ds := [unsD n S M, quD w c]) (sq_cons rfl (sq_cons rfl sq_nil)) (e_truths_of v w c q)) rfl) ?_
  rintro _ rfl
  have t1 : PV (ap allD [vr 2]) [some (false, unsD n S M), some (false, quD w c), some (false, .list ((subsL M).map fun P => .bool (trB n (sortP (S ++ P)) w c)))] (.bool (((subsL M).map fun P => trB n (sortP (S ++ P)) w c).all id)) := fun q => ap_1 (d := .list _) rfl (all_bools _ _)
  have t2 : PV (ap anyD [vr 2]) [some (false, unsD n S M), some (false, quD w c), some (false, .list ((subsL M).map fun P => .bool (trB n (sortP (S ++ P)) w c)))] (.bool (((subsL M).map fun P => trB n (sortP (S ++ P)) w c).any id)) := fun q => ap_1 (d := .list _) rfl (any_bools _ _)
  unfold verdW
  cases z : ((subsL M).map fun P => trB n (sortP (S ++ P)) w c).all id with
  | true =>
    rw [z] at t1
    exact p_seqL (p_ifR t1 (p_ret fun _ => rfl))
  | false =>
    rw [z] at t1
    refine p_seqR (p_ifF (S := fun ρ => ρ = [some (false, unsD n S M), some (false, quD w c), some (false, .list ((subsL M).map fun P => .bool (trB n (sortP (S ++ P)) w c)))]) t1 (p_nil rfl)) ?_
    rintro _ rfl
    cases y : ((subsL M).map fun P => trB n (sortP (S ++ P)) w c).any id with
    | true => rw [y] at t2; exact p_ret fun q => ite_t (t2 q) rfl
    | false => rw [y] at t2; exact p_ret fun q => ite_f (t2 q) rfl
/-! ### whether it is one -/
theorem e_are_strikes {n : Int} {S : List (Int × Int)} (r : ∀ z ∈ S, 0 ≤ z.1 ∧ z.1 < n ∧ 0 ≤ z.2 ∧ z.2 < n) (p : S.Pairwise ltP) (q : Pot) : s_are_strikes [.int n, tpP S] q = some (.bool true, q) := by
  have a1 : orE (ap1 notD (ap1 (isiD "tuple") (vr 1))) (ap1 notD (ap allD [lcE [4] (itE (vr 1)) (gN 4) (cst (.bool true)) (callE s_is_strike_among [vr 0, vr 4])])) (startE 5 [.int n, tpP S]) q = some (.bool false, q) := by
    refine or_ff (ap1_ev (ap1_ev (d := tpP S) rfl rfl) rfl) (ap1_ev (d := .bool true) (ap_1 (lcE_map S pD (fun z => [(4, pD z)]) (fun _ => true) (fun _ => .bool true) (q1 := q) (it_ev (d := tpP S) rfl rfl) rfl fun z hz => ⟨rfl, rfl, fun _ => call_ev (ds := [.int n, pD z]) (sq_cons rfl (sq_cons rfl sq_nil)) (e_is_strike_among (r z hz) q)⟩) ?_) rfl)
    rw [filter_true, all_map (fun _ => true)]; simp
  have hz : zipE [vr 1, sliE (vr 1) (soO (cst (.int 1))) noO] (startE 5 [.int n, tpP S]) q = some ((S.zip (S.drop 1)).map fun z => (.tuple [pD z.1, pD z.2] : D), q) := by
    refine bind2 (a := [tpP S, .tuple ((S.map pD).drop 1)]) (q1 := q) (sq_cons rfl (sq_cons ?_ sq_nil)) (of_eq ?_)
    · rw [← cut_1]; rfl
    · show some (((S.map pD).zip ((S.map pD).drop 1)).map _) = _
      rw [zip_drop, List.map_map]; rfl
  have hl2 := lcE_map (own := [2, 3]) (g := gT [gN 2, gN 3]) (tt := cst (.bool true)) (te := ap2 ltD (vr 2) (vr 3)) (S.zip (S.drop 1)) (fun z => (.tuple [pD z.1, pD z.2] : D)) (fun z => [(2, pD z.1), (3, pD z.2)]) (fun _ => true) (fun z => .bool (decide (ltP z.1 z.2))) hz rfl fun z _ => ⟨rfl, rfl, fun _ => ap2_ev rfl rfl (ltD_p z.1 z.2)⟩
  refine def_rt (ρ := startE 5 [.int n, tpP S]) (seq_n (if_ff a1 rfl) (ret_ev (ap_1 hl2 ?_)))
  rw [filter_true, all_map]
  rw [List.all_eq_true.mpr fun z hz => by simpa using pw_next p z hz]
theorem pe_pair (z : Int × Int) : PE (pD z) := pe_tI [z.1, z.2]
theorem lay_pairs : ∀ l : List (Int × Int), PyData.canLayAll0 (l.map pD) = true
  | [] => by simp [PyData.canLayAll0]
  | z :: l => by
    have : (pD z).canLay0 = true := by
      show PyData.canLay0 (.tuple _) = true
      simp only [PyData.canLay0]
      exact lay_ints [z.1, z.2]
    simp only [List.map_cons, PyData.canLayAll0, this, lay_pairs l, Bool.and_self]
theorem pe_pairs (L : List (Int × Int)) : PE (tpP L) := by
  refine ⟨by simp only [nb]; exact nbL_iff.mpr fun d hd => (by
    obtain ⟨z, _, rfl⟩ := List.mem_map.mp hd; exact (pe_pair z).1), ?_⟩
  unfold SeqAt.shaped
  have dp : PyData.depthAll (L.map pD) ≤ 1 := depthAll_le fun d hd => by
    obtain ⟨z, _, rfl⟩ := List.mem_map.mp hd
    show (PyData.tuple ([z.1, z.2].map iD)).depth ≤ 1
    simp only [PyData.depth, dep_ints]
    omega
  simp only [PyData.canLay0, PyData.depth, lay_pairs, Bool.true_and, decide_eq_true_eq]
  exact decide_eq_true (by omega)
theorem pD_inj {a b : Int × Int} : pD a = pD b ↔ a = b := by
  constructor
  · intro h
    have h : tpI [a.1, a.2] = tpI [b.1, b.2] := h
    have := tI_inj.mp h
    simp only [List.cons.injEq, and_true] at this
    exact Prod.ext this.1 this.2
  · rintro rfl; rfl
theorem mem_pDs {z : Int × Int} {L : List (Int × Int)} : pD z ∈ L.map pD ↔ z ∈ L := by
  rw [List.mem_map]
  exact ⟨fun ⟨y, h1, h2⟩ => pD_inj.mp h2 ▸ h1, fun h => ⟨z, h, rfl⟩⟩
theorem in_pairsT (neg : Bool) (z : Int × Int) (L : List (Int × Int)) : inG neg (pD z) (tpP L) = some (.bool (neg != decide (z ∈ L))) :=
  in_PE rfl (pe_pair z) (pe_pairs L) (fun d hd => by obtain ⟨y, _, rfl⟩ := List.mem_map.mp hd; exact (pe_pair y).1) neg (by rw [decide_eq_true_iff, mem_pDs])
theorem e_is_unsure {n : Int} {S M : List (Int × Int)} (v : VU n S M) (q : Pot) : s_is_unsure_any [unsD n S M] q = some (.bool true, q) := by
  have n1 := v.n1
  have n8 := v.n8
  refine p_def ?_ q
  refine p_seqR (S := fun ρ => ρ = [some (false, unsD n S M), none]) (p_ifF (fun q => or_ff (ap1_ev (call_ev (ds := [unsD n S M, .int 4]) (sq_cons rfl (sq_cons rfl sq_nil)) (e_is_tuple rfl q)) rfl) (or_ff (ap1_ev (ap1_ev (d := .str "unsure") rfl rfl) rfl) (ap2_ev (d := .str "unsure") (e1 := .str "unsure") rfl rfl (ne_str (by decide +kernel))))) (p_nil rfl)) ?_
  rintro _ rfl
  refine p_seqR (S := fun ρ => ρ = [some (false, unsD n S M), none]) (p_ifF (fun q => or_ff (ap1_ev (call_ev (ds := [.int n, .int 1, .int 8]) (sq_cons rfl (sq_cons rfl (sq_cons rfl sq_nil))) (e_is_within ⟨n1, n8⟩ q)) rfl) (ap1_ev (d := .bool true) (ap_1 (d := .list [.bool true, .bool true]) ?_ rfl) rfl)) (p_nil rfl)) ?_
  · refine lcE_of (q1 := q) (xs := [tpP S, tpP M]) (it_ev (d := .tuple [tpP S, tpP M]) rfl rfl) rfl ?_
    exact lcGo_yes (as := [(1, tpP S)]) (q1 := q) (q2 := q) rfl rfl (call_ev (ds := [.int n, tpP S]) (sq_cons rfl (sq_cons rfl sq_nil)) (e_are_strikes v.rS v.pS q)) (lcGo_yes (as := [(1, tpP M)]) (q1 := q) (q2 := q) rfl rfl (call_ev (ds := [.int n, tpP M]) (sq_cons rfl (sq_cons rfl sq_nil)) (e_are_strikes v.rM v.pM q)) rfl)
  rintro _ rfl
  refine p_ret fun q => and_tt (ap2_ev (d := .int M.length) (e1 := .int 6) (ap_1 (d := tpP M) rfl ?_) rfl ?_) (ap1_ev (d := .bool false) (ap_1 (lcE_map M pD (fun z => [(1, pD z)]) (fun _ => true) (fun z => .bool (decide (z ∈ S))) (q1 := q) (it_ev (d := tpP M) rfl rfl) rfl fun z _ => ⟨rfl, rfl, fun _ => ap2_ev (d := pD z) (e1 := tpP S) rfl rfl ((in_pairsT false z S).trans (by cases decide (z ∈ S) <;> rfl))⟩) ?_) rfl)
  · show some (PyData.int ((M.map pD).length : Nat)) = _
    rw [List.length_map]
  · show some (PyData.bool (decide ((M.length : Int) ≤ 6))) = _
    have := v.few
    simp; omega
  · rw [filter_true, any_map]
    have : (M.any fun z => decide (z ∈ S)) = false := by
      rw [List.any_eq_false]
      intro z hz
      simpa using v.dis z hz
    rw [this]
theorem e_is_question {n : Int} {S M : List (Int × Int)} (w : W4) {c : Int} (h : 0 ≤ c ∧ c < n) (q : Pot) : s_is_question_of [unsD n S M, quD w c] q = some (.bool true, q) := by
  refine def_rt (seq_n (if_ff (or_ff (ap1_ev (call_ev (ds := [quD w c, .int 2]) (sq_cons rfl (sq_cons rfl sq_nil)) (e_is_tuple rfl q)) rfl) (or_ff (ap1_ev (ap1_ev (d := .str w.str) rfl rfl) rfl) (ap1_ev (d := .str w.str) rfl ?_))) rfl) (ret_ev (call_ev (ds := [.int c, .int 0, .int (n - 1)]) (sq_cons rfl (sq_cons rfl (sq_cons rfl sq_nil))) (e_is_within (by omega) q))))
  cases w <;> exact in_PE (ds := [.str "plain", .str "upheld", .str "some", .str "all"]) (b := true) rfl ⟨rfl, by decide +kernel⟩ ⟨rfl, by decide +kernel⟩ (fun z hz => by
    simp only [List.mem_cons, List.mem_nil_iff, or_false] at hz
    rcases hz with rfl | rfl | rfl | rfl <;> rfl) true (by simp [W4.str])
theorem e_want_asked {n : Int} {S M : List (Int × Int)} (v : VU n S M) (w : W4) {c : Int} (h : 0 ≤ c ∧ c < n) (q : Pot) : s_want_asked [unsD n S M, quD w c] q = some (.none, q) := by
  have a1 : s_want_unsure [unsD n S M] q = some (.none, q) := def_nx (if_ff (ap1_ev (call_ev (ds := [unsD n S M]) (sq_cons rfl sq_nil) (e_is_unsure v q)) rfl) rfl)
  have a2 : s_want_question [unsD n S M, quD w c] q = some (.none, q) := def_nx (if_ff (ap1_ev (call_ev (ds := [unsD n S M, quD w c]) (sq_cons rfl (sq_cons rfl sq_nil)) (e_is_question w h q)) rfl) rfl)
  exact def_nx (seq_n (exp_ev (call_ev (ds := [unsD n S M]) (sq_cons rfl sq_nil) a1)) (exp_ev (call_ev (ds := [unsD n S M, quD w c]) (sq_cons rfl (sq_cons rfl sq_nil)) a2)))
def vdU (n : Int) (S M : List (Int × Int)) (w : W4) (c : Int) : Str := verdW ((subsL M).map fun P => trB n (sortP (S ++ P)) w c)
theorem e_verdict {n : Int} {S M : List (Int × Int)} (v : VU n S M) (w : W4) {c : Int} (h : 0 ≤ c ∧ c < n) (q : Pot) : s_verdict [unsD n S M, quD w c] q = some (.str (vdU n S M w c), q) :=
  def_rt (seq_n (exp_ev (call_ev (ds := [unsD n S M, quD w c]) (sq_cons rfl (sq_cons rfl sq_nil)) (e_want_asked v w h q))) (ret_ev (call_ev (ds := [unsD n S M, quD w c]) (sq_cons rfl (sq_cons rfl sq_nil)) (e_verdict_of v w c q))))
/-! ### the law's own verdicts -/
theorem e_ltruths {n : Int} {S M : List (Int × Int)} (v : VU n S M) (w : W4) (c : Int) (q : Pot) : s__law_truths [unsD n S M, quD w c] q = some (.list ((subsL M).map fun P => .tuple [tpP P, .bool (ltrB n (S ++ P) w c)]), q) := by
  have n1 := v.n1
  have n8 := v.n8
  refine def_rt (ret_ev ((lcE_map (subsL M) tpP (fun P => [(2, tpP P)]) (fun _ => true) (fun P => .tuple [tpP P, .bool (ltrB n (S ++ P) w c)]) (q1 := q) (it_ev (d := .list ((subsL M).map tpP)) (call_ev (ds := [unsD n S M]) (sq_cons rfl sq_nil) (e_lparts v q)) rfl) rfl fun P hP => ⟨rfl, rfl, fun _ => ?_⟩).trans (by rw [filter_true])))
  have hP := (mem_subsL.mp hP).length_le
  have h1 := v.fewS
  have h3 := v.few
  refine tup_ev (sq_cons rfl (sq_cons (call_ev (ds := [.int n, tpP (S ++ P), quD w c]) (sq_cons rfl (sq_cons (ap2_ev (d := tpP S) (e1 := tpP P) rfl rfl ?_) (sq_cons rfl sq_nil))) (e_lis_true (by omega) _ w c q)) sq_nil))
  show (if _ then _ else _) = _
  rw [if_pos (by rw [List.length_map, List.length_map]; omega)]
  show some (PyData.tuple _) = some (PyData.tuple _)
  rw [List.map_append]
theorem e_lverdict {α : Type} (L : List α) (f : α → D) (g : α → Bool) (q : Pot) : s__law_verdict [.list (L.map fun x => .tuple [f x, .bool (g x)])] q = some (.str (verdW (L.map g)), q) := by
  refine p_def ?_ q
  refine p_seqR (S := fun ρ => ρ = [some (false, .list (L.map fun x => .tuple [f x, .bool (g x)])), some (false, .list (L.map fun x => .bool (g x))), none, none]) (p_set (fun q => (lcE_map L (fun x => .tuple [f x, .bool (g x)]) (fun x => [(2, f x), (3, .bool (g x))]) (fun _ => true) (fun x => .bool (g x)) (q1 := q) (it_ev (d := .list _) rfl rfl) rfl fun x _ => ⟨rfl, rfl, fun _ => rfl⟩).trans (by rw [filter_true])) rfl) ?_
  rintro _ rfl
  have t1 : PV (ap allD [vr 1]) [some (false, .list (L.map fun x => .tuple [f x, .bool (g x)])), some (false, .list (L.map fun x => .bool (g x))), none, none] (.bool ((L.map g).all id)) := fun q => ap_1 (d := .list _) rfl (all_bools _ _)
  have t2 : PV (ap anyD [vr 1]) [some (false, .list (L.map fun x => .tuple [f x, .bool (g x)])), some (false, .list (L.map fun x => .bool (g x))), none, none] (.bool ((L.map g).any id)) := fun q => ap_1 (d := .list _) rfl (any_bools _ _)
  unfold verdW
  refine p_ret fun q => ?_
  cases z : (L.map g).all id with
  | true => rw [z] at t1; exact ite_t (t1 q) rfl
  | false =>
    rw [z] at t1
    refine ite_f (t1 q) ?_
    cases y : (L.map g).any id with
    | true => rw [y] at t2; exact ite_t (t2 q) rfl
    | false => rw [y] at t2; exact ite_f (t2 q) rfl
theorem alike_sort (L : List (Int × Int)) : Alike (sortP L) L := fun z => mem_sortP
theorem vd_eq {n : Int} {S M : List (Int × Int)} (v : VU n S M) (w : W4) (c : Int) : verdW ((subsL M).map fun P => ltrB n (S ++ P) w c) = vdU n S M w c := by
  unfold vdU
  congr 1
  refine List.map_congr_left fun P hP => ?_
  exact (tr_eq (v.vd (mem_subsL.mp hP)) (alike_sort _) w c).symm
end Cm
/-! drawn unsure disputes -/
namespace Cm
open PySem PySem.Spec PyProof.Rows Sd
section
variable {e t a b c : Sd.Env → M D} {f g s : SE} {ρ : Sd.Env} {R R' : D → Prop} {S S' : Sd.Env → Prop} {i n : Nat} {d : D}
theorem ss_p (h : PS f ρ S) : SS f ρ S := fun q hq => by
  obtain ⟨ρ', h1, h2⟩ := h q; exact ⟨ρ', q, h1, hq, h2⟩
theorem rs_p (h : PR f ρ d) (r : R d) : RS f ρ R := fun q hq => by
  obtain ⟨ρ', h1⟩ := h q; exact ⟨d, ρ', q, h1, hq, r⟩
theorem fs_p {φ : List D → M D} {ds : List D} (h : ∀ q, φ ds q = some (d, q)) (r : R d) : FS φ ds R := fun q hq => ⟨d, q, h q, hq, r⟩
theorem ss_ifR {Pt : Prop} (h : ES t ρ fun d => ∃ b, d = .bool b ∧ (b = true → Pt)) (h1 : Pt → SS f ρ S) (h2 : SS g ρ S) : SS (ifS t f g) ρ S := fun q hq => by
  obtain ⟨d, q1, e1, k1, c, rfl, hp⟩ := h q hq
  cases c with
  | true => obtain ⟨ρ', q2, e2, k2, r⟩ := h1 (hp rfl) q1 k1; exact ⟨ρ', q2, if_tt e1 e2, k2, r⟩
  | false => obtain ⟨ρ', q2, e2, k2, r⟩ := h2 q1 k1; exact ⟨ρ', q2, if_ff e1 e2, k2, r⟩
theorem ss_ifE (h : ES t ρ fun d => d = .bool false) (h2 : SS g ρ S) : SS (ifS t f g) ρ S := fun q hq => by
  obtain ⟨d, q1, e1, k1, rfl⟩ := h q hq
  obtain ⟨ρ', q2, e2, k2, r⟩ := h2 q1 k1; exact ⟨ρ', q2, if_ff e1 e2, k2, r⟩
theorem rs_seqL (h : RS f ρ R) : RS (seqS f g) ρ R := fun q hq => by
  obtain ⟨d, ρ', q', e1, k1, r⟩ := h q hq
  exact ⟨d, ρ', q', bind2 e1 rfl, k1, r⟩
theorem rs_ifT (h : ∀ q, t ρ q = some (.bool true, q)) (h1 : RS f ρ R) : RS (ifS t f g) ρ R := fun q hq => by
  obtain ⟨d, ρ', q', e1, k1, r⟩ := h1 q hq
  exact ⟨d, ρ', q', if_tt (h q) e1, k1, r⟩
theorem es_andR {x : Bool} (h1 : TS a ρ) (h2 : ∀ q, b ρ q = some (.bool x, q)) : ES (andE a b) ρ fun d => ∃ y, d = .bool y ∧ (y = true → x = true) := fun q hq => by
  obtain ⟨d, q1, e1, k1, c, rfl⟩ := h1 q hq
  cases c with
  | true => exact ⟨.bool x, q1, bind2 e1 (h2 q1), k1, x, rfl, id⟩
  | false => exact ⟨.bool false, q1, bind2 e1 rfl, k1, false, rfl, fun z => by cases z⟩
theorem forGo_sl {α : Type} {gd : Gd} {body : SE} (ed : α → D) (I : List α → Sd.Env → Prop) : ∀ (post pre : List α) (ρ : Sd.Env), I pre ρ → (∀ pre' x post', pre ++ post = pre' ++ x :: post' → ∀ ρ, I pre' ρ → ∃ as, gd (ed x) = some as ∧ SS body (sets ρ (as.map (·.1)) (cl as)) (I (pre' ++ [x]))) → SS (forGo gd body (post.map ed)) ρ (I (pre ++ post))
  | [], pre, ρ, h, _ => fun q hq => ⟨ρ, q, rfl, hq, by rw [List.append_nil]; exact h⟩
  | x :: post, pre, ρ, h, st => fun q hq => by
    obtain ⟨as, e0, k⟩ := st pre x post rfl ρ h
    obtain ⟨ρ1, q1, e1, k1, r1⟩ := k q hq
    obtain ⟨ρ2, q2, e2, k2, r2⟩ := forGo_sl ed I post (pre ++ [x]) ρ1 r1 (fun pre' y post' e => st pre' y post' (by rw [← e, List.append_assoc]; rfl)) q1 k1
    refine ⟨ρ2, q2, bind2 (of_eq e0) (bind2 e1 e2), k2, ?_⟩
    rw [List.append_assoc] at r2; exact r2
theorem ss_for {α : Type} {gd : Gd} {body : SE} {it : IE} (L : List α) (ed : α → D) (I : List α → Sd.Env → Prop) (hit : ∀ q, it ρ q = some (L.map ed, q)) (h0 : I [] ρ) (st : ∀ pre x post, L = pre ++ x :: post → ∀ ρ, I pre ρ → ∃ as, gd (ed x) = some as ∧ SS body (sets ρ (as.map (·.1)) (cl as)) (I (pre ++ [x]))) : SS (forS it gd body) ρ (I L) := fun q hq => by
  obtain ⟨ρ', q', e1, k1, r⟩ := forGo_sl (gd := gd) (body := body) ed I L [] ρ h0 (fun pre x post e => st pre x post (by simpa using e)) q hq
  exact ⟨ρ', q', bind2 (hit q) e1, k1, r⟩
theorem ss_par3 {i j k : Nat} {ba bb bc : Bool} {R1 R2 R3 : D → Prop} (hi : i < ρ.length ∧ j < ρ.length ∧ k < ρ.length) (h1 : ES a ρ R1) (h2 : ES b ρ R2) (h3 : ES c ρ R3) (n1 : ba = true → ∀ d, R1 d → isLD d = true) (n2 : bb = true → ∀ d, R2 d → isLD d = true) (n3 : bc = true → ∀ d, R3 d → isLD d = true) (z : ∀ d e f, R1 d → R2 e → R3 f → S (((ρ.set i (some (ba, d))).set j (some (bb, e))).set k (some (bc, f)))) : SS (parS [i, j, k] [(ba, a), (bb, b), (bc, c)]) ρ S := fun q hq => by
  obtain ⟨d, q1, e1, k1, r1⟩ := h1 q hq
  obtain ⟨d2, q2, e2, k2, r2⟩ := h2 q1 k1
  obtain ⟨d3, q3, e3, k3, r3⟩ := h3 q2 k2
  refine ⟨_, q3, ?_, k3, z d d2 d3 r1 r2 r3⟩
  show (if ([i, j, k].all fun i => decide (i < ρ.length)) = true then _ else _ : M (Fl × Sd.Env)) q = _
  rw [if_pos (by simp [hi.1, hi.2.1, hi.2.2])]
  have s3 : seqB [(bc, c)] ρ q2 = some ([(bc, d3)], q3) := by
    refine bind2 e3 ?_
    rw [if_neg (by rintro ⟨x, y⟩; rw [n3 x d3 r3] at y; cases y)]
    rfl
  have s2 : seqB [(bb, b), (bc, c)] ρ q1 = some ([(bb, d2), (bc, d3)], q3) := by
    refine bind2 e2 ?_
    rw [if_neg (by rintro ⟨x, y⟩; rw [n2 x d2 r2] at y; cases y)]
    exact bind2 s3 rfl
  have s1 : seqB [(ba, a), (bb, b), (bc, c)] ρ q = some ([(ba, d), (bb, d2), (bc, d3)], q3) := by
    refine bind2 e1 ?_
    rw [if_neg (by rintro ⟨x, y⟩; rw [n1 x d r1] at y; cases y)]
    exact bind2 s2 rfl
  exact bind2 s1 rfl
end
/-- what is found before (a, b) -/
structure Fd (n a b : Int) (F : List (Int × Int)) : Prop where
  rng : ∀ z ∈ F, 0 ≤ z.1 ∧ z.1 < n ∧ 0 ≤ z.2 ∧ z.2 < n
  pw : F.Pairwise ltP
  bef : ∀ z ∈ F, ltP z (a, b)
theorem Fd.next {n a b : Int} {F : List (Int × Int)} (h : Fd n a b F) : Fd n a (b + 1) F := ⟨h.rng, h.pw, fun z hz => by
  have := h.bef z hz
  unfold ltP at *
  dsimp only at *
  omega⟩
theorem Fd.line {n a b : Int} {F : List (Int × Int)} (h : Fd n a b F) : Fd n (a + 1) 0 F := ⟨h.rng, h.pw, fun z hz => by
  have := h.bef z hz
  unfold ltP at *
  dsimp only at *
  omega⟩
theorem Fd.app {n a b : Int} {F : List (Int × Int)} (h : Fd n a b F) (ha : 0 ≤ a ∧ a < n) (hb : 0 ≤ b ∧ b < n) : Fd n a (b + 1) (F ++ [(a, b)]) := by
  refine ⟨fun z hz => ?_, ?_, fun z hz => ?_⟩
  · rcases List.mem_append.mp hz with c | c
    · exact h.rng z c
    · rw [List.mem_singleton.mp c]; exact ⟨ha.1, ha.2, hb.1, hb.2⟩
  · rw [List.pairwise_append]
    refine ⟨h.pw, by simp, fun z hz w hw => ?_⟩
    rw [List.mem_singleton.mp hw]; exact h.bef z hz
  · rcases List.mem_append.mp hz with c | c
    · exact h.next.bef z c
    · rw [List.mem_singleton.mp c]; exact .inr ⟨rfl, by show b < b + 1; omega⟩
theorem Fd.few {n a b : Int} {F : List (Int × Int)} (h : Fd n a b F) (hn : n ≤ 10) : F.length ≤ 100 := by
  have z := few_pairs h.pw h.rng
  have h2 : n.toNat ≤ 10 := by omega
  have := Nat.mul_le_mul h2 h2
  omega
theorem Fd.new {n a b : Int} {F : List (Int × Int)} (h : Fd n a b F) : (a, b) ∉ F := fun z => by
  have := h.bef _ z
  unfold ltP at this
  dsimp only at this
  omega
structure Fu (k n a b : Int) (F G : List (Int × Int)) : Prop where
  s : Fd n a b F
  m : Fd n a b G
  dis : ∀ z ∈ G, z ∉ F
  len : (G.length : Int) ≤ k
abbrev uE (m k n : Int) (F G : List (Int × Int)) (o6 o7 o8 : Option (Bool × D)) : Sd.Env := [some (false, potD), some (false, .int m), some (false, .int k), some (false, .int n), some (true, .list (F.map pD)), some (true, .list (G.map pD)), o6, o7, o8]
theorem lt_i (a b : Int) : ltD (.int a) (.int b) = some (.bool (decide (a < b))) := rfl
theorem e_unsure (A B C : Int) {m k : Int} (hm : 1 ≤ m ∧ m ≤ 8) (hk : 0 ≤ k ∧ k ≤ 6) : FS (s__law_unsure A B C) [potD, .int m, .int k] fun d => ∃ n S M, d = unsD n S M ∧ VU n S M ∧ n ≤ m ∧ (M.length : Int) ≤ k := by
  refine fs_def ?_
  refine rs_seq (S := fun ρ => ∃ n, ρ = uE m k n [] [] none none none ∧ (1 ≤ n ∧ n ≤ m)) (ss_par3 (show 3 < 9 ∧ 4 < 9 ∧ 5 < 9 by decide) (es_drawP (m := m) (by omega) (fun _ => rfl) fun _ => rfl) (es_p (R := fun d => d = .list []) (fun _ => rfl) rfl) (es_p (R := fun d => d = .list []) (fun _ => rfl) rfl) (fun z => by cases z) (fun _ d h => by subst h; rfl) (fun _ d h => by subst h; rfl) ?_) ?_
  · rintro d e f ⟨n, rfl, h1, h2⟩ rfl rfl
    exact ⟨n, rfl, by omega, by omega⟩
  rintro _ ⟨n, rfl, hn⟩
  have inner : ∀ (a b : Int) (F G : List (Int × Int)) (o8 : Option (Bool × D)), 0 ≤ a ∧ a < n → 0 ≤ b ∧ b < n → Fu k n a b F G → SS (seqS (setS 8 (callE (s__law_draw A B C) [vr 0, iteE (ap2 neD (vr 6) (vr 7)) (cst (.int 6)) (cst (.int 12))])) (ifS (ap2 eqD (vr 8) (cst (.int 0))) (bldS 4 appH (tupE [vr 6, vr 7])) (ifS (andE (ap2 ltD (vr 8) (cst (.int 3))) (ap2 ltD (ap lenD [vrC 5]) (vr 2))) (bldS 5 appH (tupE [vr 6, vr 7])) (nilS))))
      (uE m k n F G (some (false, .int a)) (some (false, .int b)) o8) fun ρ => ∃ F' G' o8, ρ = uE m k n F' G' (some (false, .int a)) (some (false, .int b)) o8 ∧ Fu k n a (b + 1) F' G' := fun a b F G o8 ha hb h => by
    refine ss_seq (S := fun ρ => ∃ r, ρ = uE m k n F G (some (false, .int a)) (some (false, .int b)) (some (false, .int r))) (ss_set (es_draw (m := if a = b then 12 else 6) (by split <;> omega) (fun _ => rfl) fun q => ?_) ?_) ?_
    · by_cases c : a = b
      · rw [if_pos c]; exact ite_f (q1 := q) (ap2_ev (d := .int a) (e1 := .int b) rfl rfl ((ne_i a b).trans (by simp [c]))) rfl
      · rw [if_neg c]; exact ite_t (q1 := q) (ap2_ev (d := .int a) (e1 := .int b) rfl rfl ((ne_i a b).trans (by simp [c]))) rfl
    · rintro d ⟨r, rfl, _⟩; exact ⟨r, rfl⟩
    rintro _ ⟨r, rfl⟩
    refine ss_if (ts_p (c := decide (r = 0)) fun q => ap2_ev rfl rfl (eq_i r 0)) ?_ (ss_ifR (Pt := (G.length : Int) < k) ((es_andR (x := decide ((G.length : Int) < k)) (ts_p (c := decide (r < 3)) fun q => rfl) fun q => ?_).imp fun d ⟨y, e, h⟩ => ⟨y, e, fun z => of_decide_eq_true (h z)⟩) (fun hl => ?_) (ss_nil ⟨F, G, _, rfl, h.s.next, h.m.next, h.dis, h.len⟩))
    · refine ss_app (d := pD (a, b)) (ds := F.map pD) (fun q => rfl) rfl ?_ ⟨F ++ [(a, b)], G, some (false, .int r), ?_, h.s.app ha hb, h.m.next, fun z hz => ?_, h.len⟩
      · rw [List.length_map]
        have := h.s.few (by omega)
        omega
      · show [_, _, _, _, _, _, _, _, _] = uE m k n _ _ _ _ _
        unfold uE
        rw [List.map_append]; rfl
      · intro c
        rcases List.mem_append.mp c with c | c
        · exact h.dis z hz c
        · rw [List.mem_singleton.mp c] at hz; exact h.m.new hz
    · refine ap2_ev (d := .int G.length) (e1 := .int k) (ap_1 (d := .list (G.map pD)) rfl ?_) rfl rfl
      show some (PyData.int ((G.map pD).length : Nat)) = _
      rw [List.length_map]
    · refine ss_app (d := pD (a, b)) (ds := G.map pD) (fun q => rfl) rfl ?_ ⟨F, G ++ [(a, b)], some (false, .int r), ?_, h.s.next, h.m.app ha hb, fun z hz => ?_, ?_⟩
      · rw [List.length_map]
        have := h.m.few (by omega)
        omega
      · show [_, _, _, _, _, _, _, _, _] = uE m k n _ _ _ _ _
        unfold uE
        rw [List.map_append]; rfl
      · rcases List.mem_append.mp hz with c | c
        · exact h.dis z c
        · rw [List.mem_singleton.mp c]; exact h.s.new
      · rw [List.length_append, List.length_singleton]; omega
  refine rs_seq (ss_range (m := n) (fun i ρ => ∃ F G o6 o7 o8, ρ = uE m k n F G o6 o7 o8 ∧ Fu k n i 0 F G) (fun _ => rfl) (by omega) ⟨[], [], none, none, none, rfl, ⟨fun _ z => (by cases z), .nil, fun _ z => (by cases z)⟩, ⟨fun _ z => (by cases z), .nil, fun _ z => (by cases z)⟩, fun _ z => (by cases z), hk.1⟩ ?_) ?_
  · rintro a ha _ ⟨F, G, o6, o7, o8, rfl, hF⟩
    refine ⟨_, rfl, ?_⟩
    refine (ss_range (ρ := uE m k n F G (some (false, .int a)) o7 o8) (m := n) (fun i ρ => ∃ F G o7 o8, ρ = uE m k n F G (some (false, .int a)) o7 o8 ∧ Fu k n a i F G) (fun _ => rfl) (by omega) ⟨F, G, o7, o8, rfl, hF⟩ ?_).imp ?_
    · rintro b hb _ ⟨F, G, o7, o8, rfl, hF⟩
      refine ⟨_, rfl, (inner a b F G o8 (by omega) (by omega) hF).imp ?_⟩
      rintro _ ⟨F', G', o8, rfl, h⟩
      exact ⟨F', G', _, o8, rfl, h⟩
    · rintro _ ⟨F, G, o7, o8, rfl, h⟩
      exact ⟨F, G, _, o7, o8, rfl, h.s.line, h.m.line, h.dis, h.len⟩
  · rintro _ ⟨F, G, o6, o7, o8, rfl, h⟩
    refine rs_ret (es_p (d := unsD n F G) (fun q => rfl) ⟨n, F, G, rfl, ⟨hn.1, by omega, h.s.rng, h.m.rng, h.s.pw, h.m.pw, ?_, h.dis⟩, hn.2, h.len⟩)
    have := h.len
    omega
theorem e_pick (A B C : Int) {α : Type} (L : List α) (ed : α → D) (h : 0 < L.length ∧ L.length < 1000000) : FS (s__law_pick A B C) [potD, .list (L.map ed)] fun d => ∃ x ∈ L, d = ed x := by
  refine fs_def (rs_ret ?_)
  refine es_ap2 (R1 := fun d => d = .list (L.map ed)) (R2 := fun d => ∃ r, d = .int r ∧ 0 ≤ r ∧ r < (L.length : Int)) (es_p (fun q => rfl) rfl) (es_draw (m := L.length) (by omega) (fun q => rfl) fun q => ap_1 (d := .list (L.map ed)) rfl ?_) ?_
  · show some (PyData.int ((L.map ed).length : Nat)) = _
    rw [List.length_map]
  · rintro _ _ rfl ⟨r, rfl, h1, h2⟩
    obtain ⟨j, rfl⟩ : ∃ j : Nat, r = j := ⟨r.toNat, by omega⟩
    have hj : j < L.length := by omega
    refine ⟨ed L[j], ?_, L[j], List.getElem_mem hj, rfl⟩
    show L2.atI (L.map ed) (j : Int) = _
    exact atI_nat (by omega) (by rw [Int.toNat_natCast, List.getElem?_map, List.getElem?_eq_getElem hj]; rfl)
/-! ### one strike decided -/
def decS (S : List (Int × Int)) (s : Int × Int) (b : Bool) : List (Int × Int) := sortP (S ++ if b = true then [s] else [])
def decM (M : List (Int × Int)) (s : Int × Int) : List (Int × Int) := M.filter fun z => !decide (z = s)
theorem mem_decM {M : List (Int × Int)} {s z : Int × Int} : z ∈ decM M s ↔ z ∈ M ∧ z ≠ s := by
  unfold decM
  rw [List.mem_filter]
  simp
theorem mem_decS {S : List (Int × Int)} {s z : Int × Int} {b : Bool} : z ∈ decS S s b ↔ z ∈ S ∨ (b = true ∧ z = s) := by
  unfold decS
  rw [mem_sortP, List.mem_append]
  cases b <;> simp
theorem VU.dec {n : Int} {S M : List (Int × Int)} (v : VU n S M) {s : Int × Int} (hs : s ∈ M) (b : Bool) : VU n (decS S s b) (decM M s) := by
  refine ⟨v.n1, v.n8, fun z hz => ?_, fun z hz => v.rM z (mem_decM.mp hz).1, ?_, v.pM.sublist List.filter_sublist, ?_, fun z hz h => ?_⟩
  · rcases mem_decS.mp hz with c | ⟨_, c⟩
    · exact v.rS z c
    · rw [c]; exact v.rM s hs
  · refine sortP_pw ?_
    cases b with
    | true => exact v.nd (P := [s]) (List.singleton_sublist.mpr hs)
    | false => exact v.nd (P := []) (List.nil_sublist _)
  · have := v.few
    have h2 := List.length_filter_le (fun z => !decide (z = s)) M
    unfold decM
    omega
  · obtain ⟨h1, h2⟩ := mem_decM.mp hz
    rcases mem_decS.mp h with c | ⟨_, c⟩
    · exact v.dis z h1 c
    · exact h2 c
theorem ne_pD (a b : Int × Int) : neD (pD a) (pD b) = some (.bool (!decide (a = b))) := ne_PE (pe_pair a) (pe_pair b) (by rw [decide_eq_true_iff, pD_inj])
theorem e_decided {n : Int} {S M : List (Int × Int)} (v : VU n S M) (s : Int × Int) (b : Bool) (q : Pot) : s__law_decided [unsD n S M, pD s, .bool b] q = some (unsD n (decS S s b) (decM M s), q) := by
  refine p_def ?_ q
  refine p_seqR (S := fun ρ => ρ = [some (false, unsD n S M), some (false, pD s), some (false, .bool b), some (false, tpP (decM M s)), none]) (p_set (fun q => ap_1 (lcE_map M pD (fun z => [(4, pD z)]) (fun z => !decide (z = s)) pD (q1 := q) (it_ev (d := tpP M) rfl rfl) rfl fun z _ => ⟨rfl, ap2_ev (d := pD z) (e1 := pD s) rfl rfl (ne_pD z s), fun _ => rfl⟩) rfl) rfl) ?_
  rintro _ rfl
  refine p_ret fun q => tup_ev (sq_cons rfl (sq_cons rfl (sq_cons (ap_1 (d := .list ((decS S s b).map pD)) (ap_1 (d := .tuple ((S ++ if b = true then [s] else []).map pD)) (ap2_ev (d := tpP S) (e1 := tpP (if b = true then [s] else [])) rfl ?_ ?_) (sorted_tupP _)) rfl) (sq_cons rfl sq_nil))))
  · cases b with
    | true => exact ite_t (q1 := q) rfl rfl
    | false => exact ite_f (q1 := q) rfl rfl
  · have h1 := v.fewS
    have h2 : (if b = true then [s] else []).length ≤ 1 := by cases b <;> simp
    show (if _ then _ else _) = _
    rw [if_pos (by rw [List.length_map, List.length_map]; omega), List.map_append]
end Cm
/-! claims alone, fronts, rests (turned from k84) -/
namespace Cm
open PySem PySem.Spec PyProof.Rows Sd
def plc (l : List Int) (c : Int) : Int := (l.idxOf c : Nat)
def pairsK (S : List (Int × Int)) (l : List Int) : List (Int × Int) := (S.filter fun z => decide (z.1 ∈ l) && decide (z.2 ∈ l)).map fun z => (plc l z.1, plc l z.2)
def looseK (x l : List Int) : List (Int × Int) := (x.filter fun c => decide (c ∈ l)).map fun c => (plc l c, plc l c)
def allK (S : List (Int × Int)) (x l : List Int) : List (List Int) := (pairsK S l ++ looseK x l).map keyP
def aloneD (S : List (Int × Int)) (l x : List Int) : D := .tuple [.str "dispute", .int l.length, .tuple ((sortK (ded (allK S x l))).map tupOf)]
theorem plc_lt {l : List Int} {c : Int} (h : c ∈ l) : 0 ≤ plc l c ∧ plc l c < l.length := by
  have := List.idxOf_lt_length_iff.mpr h
  unfold plc
  omega
theorem mem_allK {S : List (Int × Int)} {x l : List Int} {k : List Int} : k ∈ allK S x l ↔ (∃ z ∈ S, z.1 ∈ l ∧ z.2 ∈ l ∧ k = [plc l z.1, plc l z.2]) ∨ ∃ c ∈ x, c ∈ l ∧ k = [plc l c, plc l c] := by
  unfold allK pairsK looseK
  rw [List.map_append, List.mem_append, List.map_map, List.map_map]
  refine or_congr ?_ ?_
  · rw [List.mem_map]
    constructor
    · rintro ⟨z, hz, e⟩
      obtain ⟨h1, h2⟩ := List.mem_filter.mp hz
      simp only [Bool.and_eq_true, decide_eq_true_eq] at h2
      exact ⟨z, h1, h2.1, h2.2, e.symm⟩
    · rintro ⟨z, h1, h2, h3, e⟩
      exact ⟨z, List.mem_filter.mpr ⟨h1, by simp [h2, h3]⟩, e.symm⟩
  · rw [List.mem_map]
    constructor
    · rintro ⟨z, hz, e⟩
      obtain ⟨h1, h2⟩ := List.mem_filter.mp hz
      exact ⟨z, h1, by simpa using h2, e.symm⟩
    · rintro ⟨z, h1, h2, e⟩
      exact ⟨z, List.mem_filter.mpr ⟨h1, by simp [h2]⟩, e.symm⟩
theorem alone_congr {S : List (Int × Int)} {l x x' : List Int} (h : ∀ c, c ∈ x ↔ c ∈ x') : aloneD S l x = aloneD S l x' := by
  unfold aloneD
  rw [sortK_ded (b := allK S x' l) fun k => by
    rw [mem_allK, mem_allK]
    refine or_congr Iff.rfl ⟨?_, ?_⟩
    · rintro ⟨c, h1, h2⟩; exact ⟨c, (h c).mp h1, h2⟩
    · rintro ⟨c, h1, h2⟩; exact ⟨c, (h c).mpr h1, h2⟩]
theorem allK_few {S : List (Int × Int)} {x l : List Int} (h : l.length ≤ 8) : (ded (allK S x l)).length ≤ 76 := by
  have z := nodup_sub (b := (pairsOf l.length).map keyP) (nodup_ded (allK S x l)) fun k hk => by
    rw [mem_ded] at hk
    rw [List.mem_map]
    rcases mem_allK.mp hk with ⟨z, _, h1, h2, e⟩ | ⟨c, _, h1, e⟩
    · exact ⟨(plc l z.1, plc l z.2), mem_pairs.mpr ⟨plc_lt h1, plc_lt h2⟩, e.symm⟩
    · exact ⟨(plc l c, plc l c), mem_pairs.mpr ⟨plc_lt h1, plc_lt h1⟩, e.symm⟩
  rw [List.length_map, Sd.pairs_len] at z
  have h2 : ((l.length : Nat) : Int).toNat ≤ 8 := by omega
  have := Nat.mul_le_mul h2 h2
  omega
theorem allK_ne {S : List (Int × Int)} {x l : List Int} : ∀ k ∈ allK S x l, k ≠ [] := fun k hk => by
  rcases mem_allK.mp hk with ⟨z, _, _, _, e⟩ | ⟨c, _, _, e⟩ <;> rw [e] <;> exact List.cons_ne_nil _ _
theorem allK_map (S : List (Int × Int)) (x l : List Int) : (pairsK S l).map pD ++ (looseK x l).map pD = (allK S x l).map tupOf := by
  unfold allK
  rw [← List.map_append, pD_map]
theorem add_few {S : List (Int × Int)} {x l : List Int} (hf : S.length + x.length ≤ 1000000) : addD (.list ((pairsK S l).map pD)) (.list ((looseK x l).map pD)) = some (.list ((allK S x l).map tupOf)) := by
  rw [← allK_map]
  refine if_pos ?_
  rw [List.length_map, List.length_map]
  unfold pairsK looseK
  rw [List.length_map, List.length_map]
  have h1 := List.length_filter_le (fun z => decide (z.1 ∈ l) && decide (z.2 ∈ l)) S
  have h2 := List.length_filter_le (fun c => decide (c ∈ l)) x
  omega
theorem e_alone {n : Int} {S : List (Int × Int)} {l x : List Int} {dx : D} (hx : items dx = some (x.map iD)) (ne : l ≠ []) (nd : l.Nodup) (h8 : l.length ≤ 8) (hf : S.length + x.length ≤ 1000000) (q : Pot) : s_alone [dsp n S, tpI l, dx] q = some (aloneD S l x, q) := by
  have h1 : dcE [5, 6] (enuE (vr 1)) (gT [gN 5, gN 6]) (cst (.bool true)) (vr 6) (vr 5) (startE 8 [dsp n S, tpI l, dx]) q = some (dkD (placeD l 0), q) := by
    refine dcE_map (l.zipIdx 0) (fun z => (.tuple [.int (z.2 : Nat), iD z.1] : D)) (fun z => [(5, .int (z.2 : Nat)), (6, iD z.1)]) (fun z => z.1) (fun z => iD (z.2 : Nat)) (bind2 (a := tpI l) rfl (of_eq ?_)) rfl ?_ fun z _ => ⟨rfl, rfl, rfl, rfl⟩
    · show some (numFrom 0 (l.map iD)) = _
      rw [numFrom_ints]
    · rw [List.zipIdx_map_fst]; exact nd
  have in' : ∀ c : Int, inDk false (.int c) (dkD (placeD l 0)) = some (.bool (decide (c ∈ l))) := fun c => by
    rw [in_place ne]; cases decide (c ∈ l) <;> rfl
  refine def_rt (seq_n (set_ev h1) (seq_n (set_ev (lcE_map S pD (fun z => [(6, iD z.1), (7, iD z.2)]) (fun z => decide (z.1 ∈ l) && decide (z.2 ∈ l)) (fun z => pD (plc l z.1, plc l z.2)) (it_ev (d := tpP S) rfl rfl) rfl fun z _ => ⟨rfl, and_b (ap2_ev rfl rfl (in' z.1)) (ap2_ev rfl rfl (in' z.2)), fun m => ?_⟩)) (seq_n (set_ev (ap2_ev (q1 := q) (q2 := q) (d := .list ((pairsK S l).map pD)) (e1 := .list ((looseK x l).map pD)) ?_ ?_ (add_few hf))) (ret_ev ?_))))
  · simp only [Bool.and_eq_true, decide_eq_true_eq] at m
    exact tup_ev (ds := [iD (plc l z.1), iD (plc l z.2)]) (sq_cons (ap2_ev rfl rfl (get_place m.1)) (sq_cons (ap2_ev rfl rfl (get_place m.2)) sq_nil))
  · unfold pairsK; rw [List.map_map]; rfl
  · have z := lcE_map (own := [6]) (it := itE (vr 2)) (g := gN 6) (tt := ap2 (inDk false) (vr 6) (vr 3)) (te := tupE [ap2 getD' (vr 3) (vr 6), ap2 getD' (vr 3) (vr 6)]) (ρ := (((startE 8 [dsp n S, tpI l, dx]).set 3 (some (false, dkD (placeD l 0)))).set 4 (some (false, .list ((S.filter fun z => decide (z.1 ∈ l) && decide (z.2 ∈ l)).map fun z => pD (plc l z.1, plc l z.2)))))) (q := q) (q1 := q)
      x iD (fun c => [(6, iD c)]) (fun c => decide (c ∈ l)) (fun c => pD (plc l c, plc l c)) (it_ev (d := dx) rfl hx) rfl fun c _ => ⟨rfl, ap2_ev rfl rfl (in' c), fun m => tup_ev (ds := [iD (plc l c), iD (plc l c)]) (sq_cons (ap2_ev rfl rfl (get_place (by simpa using m))) (sq_cons (ap2_ev rfl rfl (get_place (by simpa using m))) sq_nil))⟩
    rw [z]; unfold looseK; rw [List.map_map]; rfl
  · refine tup_ev (sq_cons rfl (sq_cons ?_ (sq_cons (ap_1 (ap1_ev (d := .list ((allK S x l).map tupOf)) rfl (srtSet_any _ allK_ne (allK_few h8))) rfl) sq_nil)))
    show some (PyData.int ((l.map iD).length : Nat), q) = _
    rw [List.length_map]

theorem idx0 {l : List Int} {c : Int} (h : c ∈ l) : idxD (tpI l) (.int c) = some (iD (plc l c)) := idx_tI rfl h
theorem e__law_alone {n : Int} {S : List (Int × Int)} {l x : List Int} {dx : D} (hx : items dx = some (x.map iD)) (h8 : l.length ≤ 8) (hf : S.length + x.length ≤ 1000000) (q : Pot) : s__law_alone [dsp n S, tpI l, dx] q = some (aloneD S l x, q) := by
  refine def_rt (seq_n (set_ev (lcE_map S pD (fun z => [(4, iD z.1), (5, iD z.2)]) (fun z => decide (z.1 ∈ l) && decide (z.2 ∈ l)) (fun z => pD (plc l z.1, plc l z.2)) (it_ev (d := tpP S) rfl rfl) rfl fun z _ => ⟨rfl, and_b (ap2_ev rfl rfl (in0 z.1 l)) (ap2_ev rfl rfl (in0 z.2 l)), fun m => ?_⟩)) (ret_ev ?_))
  · simp only [Bool.and_eq_true, decide_eq_true_eq] at m
    exact tup_ev (ds := [iD (plc l z.1), iD (plc l z.2)]) (sq_cons (ap2_ev rfl rfl (idx0 m.1)) (sq_cons (ap2_ev rfl rfl (idx0 m.2)) sq_nil))
  · have z := lcE_map (own := [4]) (it := itE (vr 2)) (g := gN 4) (tt := ap2 (inG false) (vr 4) (vr 1)) (te := tupE [ap2 idxD (vr 1) (vr 4), ap2 idxD (vr 1) (vr 4)]) (ρ := ((startE 6 [dsp n S, tpI l, dx]).set 3 (some (false, .list ((S.filter fun z => decide (z.1 ∈ l) && decide (z.2 ∈ l)).map fun z => pD (plc l z.1, plc l z.2)))))) (q := q) (q1 := q)
      x iD (fun c => [(4, iD c)]) (fun c => decide (c ∈ l)) (fun c => pD (plc l c, plc l c)) (it_ev (d := dx) rfl hx) rfl fun c _ => ⟨rfl, ap2_ev rfl rfl (in0 c l), fun m => tup_ev (ds := [iD (plc l c), iD (plc l c)]) (sq_cons (ap2_ev rfl rfl (idx0 (by simpa using m))) (sq_cons (ap2_ev rfl rfl (idx0 (by simpa using m))) sq_nil))⟩
    refine tup_ev (sq_cons rfl (sq_cons (q1 := q) ?_ (sq_cons (ap_1 (ap1_ev (d := .list ((allK S x l).map tupOf)) (ap2_ev (q1 := q) (q2 := q) (d := .list ((pairsK S l).map pD)) (e1 := .list ((looseK x l).map pD)) ?_ ?_ (add_few hf)) (srtSet_any _ allK_ne (allK_few h8))) rfl) sq_nil)))
    · show some (PyData.int ((l.map iD).length : Nat), q) = _
      rw [List.length_map]
    · unfold pairsK; rw [List.map_map]; rfl
    · rw [z]; unfold looseK; rw [List.map_map]; rfl
/-! ### the rest -/
def openL (n : Int) (l st : List Int) : List Int := (Sd.upTo n).filter fun c => !decide (c ∈ l) && !decide (c ∈ st)
def looseL (l m st : List Int) : List Int := l.filter fun c => !decide (c ∈ m) && !decide (c ∈ st)
theorem openL_congr {n : Int} {l st st' : List Int} (h : ∀ c, c ∈ st ↔ c ∈ st') : openL n l st = openL n l st' := by
  unfold openL
  congr 1
  funext c
  rw [decide_eq_decide.mpr (h c)]
theorem looseL_congr {l m st st' : List Int} (h : ∀ c, c ∈ st ↔ c ∈ st') : looseL l m st = looseL l m st' := by
  unfold looseL
  congr 1
  funext c
  rw [decide_eq_decide.mpr (h c)]
def restD (n : Int) (S : List (Int × Int)) (l m : List Int) : D :=
  if openL n l (strL S m) = [] then .tuple [.none, .tuple []] else .tuple [aloneD S (openL n l (strL S m)) (strL S (looseL l m (strL S m))), tpI (openL n l (strL S m))]
theorem upTo_map (n : Int) : (Sd.upTo n).map iD = (List.range n.toNat).map fun i => (.int (i : Nat) : D) := by
  unfold Sd.upTo; rw [List.map_map]; rfl
theorem openL_few {n : Int} {l st : List Int} (h : n ≤ 8) : (openL n l st).length ≤ 8 := by
  have h1 := List.length_filter_le (fun c => !decide (c ∈ l) && !decide (c ∈ st)) (Sd.upTo n)
  rw [upTo_len] at h1
  unfold openL
  omega
theorem openL_nodup {n : Int} {l st : List Int} : (openL n l st).Nodup := (upTo_nodup n).filter _
theorem e_rest_of {n : Int} {S : List (Int × Int)} {l m : List Int} (v : VD n S) (h8 : n ≤ 8) (q : Pot) : s_rest_of [dsp n S, tpI l, tpI m] q = some (restD n S l m, q) := by
  have ms : ∀ c, c ∈ struck S m ↔ c ∈ strL S m := fun c => mem_struck
  have a1 : callE s_struck_by [vr 0, vr 2] (startE 7 [dsp n S, tpI l, tpI m]) q = some (.list ((struck S m).map iD), q) := call_ev (ds := [dsp n S, tpI m]) (sq_cons rfl (sq_cons rfl sq_nil)) (e_struck_by v m q)
  have n1 := v.n1
  have a2 : ap tupD [lcE [6] (rngE (ap2 ixD (vr 0) (cst (.int 1)))) (gN 6) (andE (ap2 (inG true) (vr 6) (vr 1)) (ap2 (inG true) (vr 6) (vr 3))) (vr 6)] ((startE 7 [dsp n S, tpI l, tpI m]).set 3 (some (false, .list ((struck S m).map iD)))) q = some (tpI (openL n l (struck S m)), q) := by
    refine ap_1 (lcE_map (Sd.upTo n) iD (fun c => [(6, iD c)]) (fun c => !decide (c ∈ l) && !decide (c ∈ struck S m)) iD (q1 := q) ?_ rfl fun c _ => ⟨rfl, and_b (ap2_ev rfl rfl (nin0 c l)) (ap2_ev rfl rfl (nin1 c (struck S m))), fun _ => rfl⟩) rfl
    rw [upTo_map]; exact rng_ev rfl (by omega)
  rw [openL_congr ms] at a2
  unfold restD
  generalize hC : openL n l (strL S m) = C at *
  by_cases ne : C = []
  · rw [if_pos ne]
    refine def_rt (seq_n (set_ev a1) (seq_n (set_ev a2) (seq_rt (if_tt (q1 := q) (ap2_ev (d := tpI C) (e1 := .tuple []) rfl rfl ?_) (ret_ev (tup_ev (ds := [.none, .tuple []]) (sq_cons rfl (sq_cons rfl sq_nil))))))))
    rw [eq_nil, ne]; rfl
  · rw [if_neg ne]
    have a3 : ap tupD [lcE [6] (itE (vr 1)) (gN 6) (andE (ap2 (inG true) (vr 6) (vr 2)) (ap2 (inG true) (vr 6) (vr 3))) (vr 6)] (((startE 7 [dsp n S, tpI l, tpI m]).set 3 (some (false, .list ((struck S m).map iD)))).set 4 (some (false, tpI C))) q = some (tpI (looseL l m (struck S m)), q) :=
      ap_1 (lcE_map l iD (fun c => [(6, iD c)]) (fun c => !decide (c ∈ m) && !decide (c ∈ struck S m)) iD (q1 := q) (it_ev (d := tpI l) rfl rfl) rfl fun c _ => ⟨rfl, and_b (ap2_ev rfl rfl (nin0 c m)) (ap2_ev rfl rfl (nin1 c (struck S m))), fun _ => rfl⟩) rfl
    rw [looseL_congr ms] at a3
    generalize looseL l m (strL S m) = Lo at *
    have f1 := v.few
    have f2 := struck_few v Lo
    have a4 := e_alone (n := n) (S := S) (l := C) (x := struck S Lo) (dx := .list ((struck S Lo).map iD)) rfl ne (hC ▸ openL_nodup) (hC ▸ openL_few h8) (by omega) q
    rw [alone_congr (x' := strL S Lo) fun c => mem_struck] at a4
    refine def_rt (seq_n (set_ev a1) (seq_n (set_ev a2) (seq_n (if_ff (q1 := q) (ap2_ev (d := tpI C) (e1 := .tuple []) rfl rfl ?_) rfl) (seq_n (set_ev a3) (ret_ev (tup_ev (sq_cons (call_ev (ds := [dsp n S, tpI C, .list ((struck S Lo).map iD)]) (sq_cons rfl (sq_cons rfl (sq_cons (call_ev (ds := [dsp n S, tpI Lo]) (sq_cons rfl (sq_cons rfl sq_nil)) (e_struck_by v Lo q)) sq_nil))) a4) (sq_cons rfl sq_nil))))))))
    rw [eq_nil]; simp [ne]
theorem e__law_rest {n : Int} {S : List (Int × Int)} {l m : List Int} (v : VD n S) (h8 : n ≤ 8) (q : Pot) : s__law_rest [dsp n S, tpI l, tpI m] q = some (restD n S l m, q) := by
  have n1 := v.n1
  have a1 : lcE [7, 8] (itE (ap2 ixD (vr 0) (cst (.int 2)))) (gT [gN 7, gN 8]) (ap2 (inG false) (vr 7) (vr 2)) (vr 8) (startE 9 [dsp n S, tpI l, tpI m]) q = some (.list ((strL S m).map iD), q) := by
    rw [lcE_map (q1 := q) S pD (fun z => [(7, iD z.1), (8, iD z.2)]) (fun z => decide (z.1 ∈ m)) (fun z => iD z.2) (it_ev (d := tpP S) rfl rfl) rfl fun z _ => ⟨rfl, ap2_ev rfl rfl (in0 z.1 m), fun _ => rfl⟩]
    unfold strL; rw [List.map_map]; rfl
  have a2 : ap tupD [lcE [7] (rngE (ap2 ixD (vr 0) (cst (.int 1)))) (gN 7) (andE (ap2 (inG true) (vr 7) (vr 1)) (ap2 (inG true) (vr 7) (vr 3))) (vr 7)] ((startE 9 [dsp n S, tpI l, tpI m]).set 3 (some (false, .list ((strL S m).map iD)))) q = some (tpI (openL n l (strL S m)), q) := by
    refine ap_1 (lcE_map (Sd.upTo n) iD (fun c => [(7, iD c)]) (fun c => !decide (c ∈ l) && !decide (c ∈ strL S m)) iD (q1 := q) ?_ rfl fun c _ => ⟨rfl, and_b (ap2_ev rfl rfl (nin0 c l)) (ap2_ev rfl rfl (nin1 c (strL S m))), fun _ => rfl⟩) rfl
    rw [upTo_map]; exact rng_ev rfl (by omega)
  unfold restD
  generalize hC : openL n l (strL S m) = C at *
  have a3 : lcE [7] (itE (vr 1)) (gN 7) (andE (ap2 (inG true) (vr 7) (vr 2)) (ap2 (inG true) (vr 7) (vr 3))) (vr 7) (((startE 9 [dsp n S, tpI l, tpI m]).set 3 (some (false, .list ((strL S m).map iD)))).set 4 (some (false, tpI C))) q = some (.list ((looseL l m (strL S m)).map iD), q) :=
    lcE_map l iD (fun c => [(7, iD c)]) (fun c => !decide (c ∈ m) && !decide (c ∈ strL S m)) iD (q1 := q) (it_ev (d := tpI l) rfl rfl) rfl fun c _ => ⟨rfl, and_b (ap2_ev rfl rfl (nin0 c m)) (ap2_ev rfl rfl (nin1 c (strL S m))), fun _ => rfl⟩
  generalize looseL l m (strL S m) = Lo at *
  have a4 : lcE [7, 8] (itE (ap2 ixD (vr 0) (cst (.int 2)))) (gT [gN 7, gN 8]) (ap2 (inG false) (vr 7) (vr 5)) (vr 8) ((((startE 9 [dsp n S, tpI l, tpI m]).set 3 (some (false, .list ((strL S m).map iD)))).set 4 (some (false, tpI C))).set 5 (some (false, .list (Lo.map iD)))) q = some (.list ((strL S Lo).map iD), q) := by
    rw [lcE_map (q1 := q) S pD (fun z => [(7, iD z.1), (8, iD z.2)]) (fun z => decide (z.1 ∈ Lo)) (fun z => iD z.2) (it_ev (d := tpP S) rfl rfl) rfl fun z _ => ⟨rfl, ap2_ev rfl rfl (in1 z.1 Lo), fun _ => rfl⟩]
    unfold strL; rw [List.map_map]; rfl
  refine def_rt (seq_n (set_ev a1) (seq_n (set_ev a2) (seq_n (set_ev a3) (seq_n (set_ev a4) (ret_ev ?_)))))
  by_cases ne : C = []
  · rw [if_pos ne]
    refine ite_t (q1 := q) (ap2_ev (d := tpI C) (e1 := .tuple []) rfl rfl ?_) (tup_ev (ds := [.none, .tuple []]) (sq_cons rfl (sq_cons rfl sq_nil)))
    rw [eq_nil, ne]; rfl
  · rw [if_neg ne]
    have f1 := v.few
    have f2 := strL_len S Lo
    have a5 := e__law_alone (n := n) (S := S) (l := C) (x := strL S Lo) (dx := .list ((strL S Lo).map iD)) rfl (hC ▸ openL_few h8) (by omega) q
    refine ite_f (q1 := q) (ap2_ev (d := tpI C) (e1 := .tuple []) rfl rfl ?_) (tup_ev (sq_cons (call_ev (ds := [dsp n S, tpI C, .list ((strL S Lo).map iD)]) (sq_cons rfl (sq_cons rfl (sq_cons rfl sq_nil))) a5) (sq_cons rfl sq_nil)))
    rw [eq_nil]; simp [ne]
/-! ### the answers -/
theorem e_front {n : Int} {S : List (Int × Int)} {l : List Int} (v : VD n S) (h8 : n ≤ 8) (h : AV n S l) (h9 : l.length ≤ 8) (q : Pot) : s_front [dsp n S, tpI l] q = some (aloneD S l [], q) := by
  have f1 := v.few
  exact def_rt (seq_n (exp_ev (call_ev (ds := [dsp n S, tpI l]) (sq_cons rfl (sq_cons rfl sq_nil)) (e_want_ahead v h q))) (ret_ev (call_ev (ds := [dsp n S, tpI l, .tuple []]) (sq_cons rfl (sq_cons rfl (sq_cons rfl sq_nil))) (e_alone (x := []) rfl h.ne (h.pw.imp fun a e => by omega) h9 (by simp; omega) q))))
def hitB (S : List (Int × Int)) (l : List Int) : Bool := S.any fun z => decide (z.2 ∈ l)
theorem e_is_behind {n k : Int} {S T : List (Int × Int)} {l : List Int} (v : VD n S) (h : AV n S l) (w : VD k T) (q : Pot) : s_is_behind [dsp n S, tpI l, dsp k T] q = some (.bool (!hitB T l), q) := by
  have hl := lcE_map (own := [3, 4]) (g := gT [gN 3, gN 4]) (tt := cst (.bool true)) (te := ap2 (inG false) (vr 4) (vr 1)) (it := itE (ap2 ixD (vr 2) (cst (.int 2)))) (ρ := startE 5 [dsp n S, tpI l, dsp k T]) (q := q) (q1 := q) T pD (fun z => [(3, iD z.1), (4, iD z.2)]) (fun _ => true) (fun z => .bool (decide (z.2 ∈ l))) (it_ev (d := tpP T) rfl rfl) rfl
    fun z _ => ⟨rfl, rfl, fun _ => ap2_ev rfl rfl (in0 z.2 l)⟩
  refine def_rt (seq_n (exp_ev (call_ev (ds := [dsp n S, tpI l]) (sq_cons rfl (sq_cons rfl sq_nil)) (e_want_ahead v h q))) (seq_n (exp_ev (call_ev (ds := [dsp k T]) (sq_cons rfl sq_nil) (e_want_more w q))) (ret_ev (ap1_ev (d := .bool (hitB T l)) (ap_1 hl ?_) rfl))))
  rw [List.filter_eq_self.mpr fun _ _ => rfl, any_map]
  rfl
end Cm
/-! drawn disputes, all lots, readings -/
namespace Cm
open PySem PySem.Spec PyProof.Rows Sd
abbrev dE (m n r : Int) (fl : Bool) (F : List (Int × Int)) (o6 o7 : Option (Bool × D)) : Sd.Env := [some (false, potD), some (false, .int m), some (false, .int n), some (false, .int r), some (false, .bool fl), some (true, .list (F.map pD)), o6, o7]
theorem e_dispute (A B C : Int) {m : Int} (hm : 1 ≤ m ∧ m ≤ 10) : FS (s__law_dispute A B C) [potD, .int m] fun d => ∃ n S, d = dsp n S ∧ VD n S ∧ n ≤ m := by
  refine fs_def ?_
  refine rs_seq (S := fun ρ => ∃ n r, ρ = [some (false, potD), some (false, .int m), some (false, .int n), some (false, .int r), none, none, none, none] ∧ (1 ≤ n ∧ n ≤ m) ∧ 2 ≤ r ∧ r ≤ 5) (ss_par2 (show 2 < 8 by decide) (show 3 < 8 by decide) (es_drawP (m := m) (by omega) (fun _ => rfl) fun _ => rfl) (es_drawP (m := 4) (by omega) (fun _ => rfl) fun _ => rfl) (fun z => by cases z) (fun z => by cases z) ?_) ?_
  · rintro d e ⟨n, rfl, h1, h2⟩ ⟨r, rfl, h3, h4⟩
    exact ⟨n, r, rfl, by omega, by omega, by omega⟩
  rintro _ ⟨n, r, rfl, hn, hr⟩
  refine rs_seq (S := fun ρ => ∃ fl, ρ = dE m n r fl [] none none) (ss_par2 (show 4 < 8 by decide) (show 5 < 8 by decide) (ts_draw (m := 3) (by omega) (fun _ => rfl) fun _ => rfl) (es_p (R := fun d => d = .list []) (fun _ => rfl) rfl) (fun z => by cases z) (fun _ d h => by subst h; rfl) ?_) ?_
  · rintro d e ⟨fl, rfl⟩ rfl
    exact ⟨fl, rfl⟩
  rintro _ ⟨fl, rfl⟩
  have inner : ∀ (a b : Int) (F : List (Int × Int)) , 0 ≤ a ∧ a < n → 0 ≤ b ∧ b < n → Fd n a b F → SS (ifS (andE (ap2 eqD (callE (s__law_draw A B C) [vr 0, vr 3]) (cst (.int 0))) (orE (ap2 neD (vr 6) (vr 7)) (ap2 eqD (callE (s__law_draw A B C) [vr 0, cst (.int 2)]) (cst (.int 0))))) (ifS (orE (ap1 notD (vr 4)) (orE (ap2 ltD (vr 6) (vr 7)) (ap2 eqD (callE (s__law_draw A B C) [vr 0, cst (.int 4)]) (cst (.int 0))))) (bldS 5 appH (tupE [vr 6, vr 7])) (nilS)) (nilS))
      (dE m n r fl F (some (false, .int a)) (some (false, .int b))) fun ρ => ∃ F', ρ = dE m n r fl F' (some (false, .int a)) (some (false, .int b)) ∧ Fd n a (b + 1) F' := fun a b F ha hb h => by
    refine ss_if (ts_and (ts_draw (m := r) (by omega) (fun _ => rfl) fun _ => rfl) (ts_or (ts_p (c := !decide (a = b)) fun q => ap2_ev (d := .int a) (e1 := .int b) rfl rfl (ne_i a b)) (ts_draw (m := 2) (by omega) (fun _ => rfl) fun _ => rfl))) (ss_if (ts_or (ts_p (c := !fl) fun q => rfl) (ts_or (ts_p (c := decide (a < b)) fun q => rfl) (ts_draw (m := 4) (by omega) (fun _ => rfl) fun _ => rfl))) ?_ (ss_nil ⟨F, rfl, h.next⟩)) (ss_nil ⟨F, rfl, h.next⟩)
    refine ss_app (d := pD (a, b)) (ds := F.map pD) (fun q => rfl) rfl ?_ ⟨F ++ [(a, b)], ?_, h.app ha hb⟩
    · rw [List.length_map]
      have := h.few (by omega)
      omega
    · show [_, _, _, _, _, _, _, _] = dE m n r fl _ _ _
      unfold dE
      rw [List.map_append]; rfl
  refine rs_seq (ss_range (m := n) (fun i ρ => ∃ F o6 o7, ρ = dE m n r fl F o6 o7 ∧ Fd n i 0 F) (fun _ => rfl) (by omega) ⟨[], none, none, rfl, fun _ z => (by cases z), .nil, fun _ z => (by cases z)⟩ ?_) ?_
  · rintro a ha _ ⟨F, o6, o7, rfl, hF⟩
    refine ⟨_, rfl, ?_⟩
    refine (ss_range (ρ := dE m n r fl F (some (false, .int a)) o7) (m := n) (fun i ρ => ∃ F o7, ρ = dE m n r fl F (some (false, .int a)) o7 ∧ Fd n a i F) (fun _ => rfl) (by omega) ⟨F, o7, rfl, hF⟩ ?_).imp ?_
    · rintro b hb _ ⟨F, o7, rfl, hF⟩
      refine ⟨_, rfl, (inner a b F (by omega) (by omega) hF).imp ?_⟩
      rintro _ ⟨F', rfl, h⟩
      exact ⟨F', _, rfl, h⟩
    · rintro _ ⟨F, o7, rfl, h⟩
      exact ⟨F, _, o7, rfl, h.line⟩
  · rintro _ ⟨F, o6, o7, rfl, hF⟩
    refine rs_ret (es_p (d := dsp n F) (fun q => tup_ev (sq_cons rfl (sq_cons rfl (sq_cons (ap_1 (d := .list (F.map pD)) (ap_1 (d := .list (F.map pD)) rfl (sorted_pairs hF.pw)) rfl) sq_nil)))) ⟨n, F, rfl, ⟨hn.1, by omega, hF.rng, hF.pw⟩, hn.2⟩)
theorem e_every {n : Int} (hn : 0 ≤ n ∧ n ≤ 10) (q : Pot) : s__law_every [.int n] q = some (lotsD (sortK (subsL (Sd.upTo n))), q) := e_llots hn q
/-! ### readings -/
inductive Rd5 where
  | up | fu | gr | se | pl
def Rd5.str : Rd5 → Str
  | .up => "upheld"
  | .fu => "full"
  | .gr => "greatest"
  | .se => "settled"
  | .pl => "plain"
theorem e_want_reading (r : Rd5) (q : Pot) : s_want_reading [.str r.str] q = some (.none, q) := by
  cases r <;> exact def_nx (if_ff (ap1_ev (call_ev (ds := [.str _]) (sq_cons rfl sq_nil) (def_rt (ret_ev (and_tt rfl (ap1_ev (d := .str _) rfl (in_PE (ds := [.str "upheld", .str "full", .str "greatest", .str "settled", .str "plain"]) (b := true) rfl ⟨rfl, by decide +kernel⟩ ⟨rfl, by decide +kernel⟩ (fun z hz => by
    simp only [List.mem_cons, List.mem_nil_iff, or_false] at hz
    rcases hz with rfl | rfl | rfl | rfl | rfl <;> rfl) false (by simp [Rd5.str]))))))) rfl) rfl)
end Cm
/-! lots in each reading -/
namespace Cm
open PySem PySem.Spec PyProof.Rows Sd
def withinB (l o : List Int) : Bool := l.all fun x => decide (x ∈ o)
theorem withinB_iff {l o : List Int} : withinB l o = true ↔ ∀ x ∈ l, x ∈ o := by
  unfold withinB
  rw [List.all_eq_true]
  exact ⟨fun h x hx => of_decide_eq_true (h x hx), fun h x hx => decide_eq_true (h x hx)⟩
theorem e_within_lot (l o : List Int) (q : Pot) : s_is_within_lot [tpI l, tpI o] q = some (.bool (withinB l o), q) :=
  def_rt (ret_ev (ap_1 (lcE_map l iD (fun x => [(2, iD x)]) (fun _ => true) (fun x => .bool (decide (x ∈ o))) (q1 := q) (it_ev (d := tpI l) rfl rfl) rfl fun x _ => ⟨rfl, rfl, fun _ => ap2_ev rfl rfl (in0 x o)⟩) (by rw [filter_true, all_map]; rfl)))
def fullL (n : Int) (S : List (Int × Int)) : List (List Int) := (sortK (qsubs S (Sd.upTo n))).filter fun l => fullB n S l
def topB (L : List (List Int)) (l : List Int) : Bool := !L.any fun o => !decide (o = l) && withinB l o
def greatL (n : Int) (S : List (Int × Int)) : List (List Int) := (upheldL n S).filter (topB (upheldL n S))
theorem e_greatest_lots {n : Int} {S : List (Int × Int)} (v : VD n S) (q : Pot) : s_greatest_lots [dsp n S] q = some (lotsD (greatL n S), q) := by
  refine p_def ?_ q
  refine p_seqR (S := fun ρ => ρ = [some (false, dsp n S), some (false, lotsD (upheldL n S)), none, none]) (p_set (fun q => call_ev (ds := [dsp n S]) (sq_cons rfl sq_nil) (e_upheld_lots v q)) rfl) ?_
  rintro _ rfl
  refine p_ret fun q => lcE_map (upheldL n S) tpI (fun l => [(2, tpI l)]) (topB (upheldL n S)) tpI (q1 := q) (it_ev (d := lotsD (upheldL n S)) rfl rfl) rfl fun l _ => ⟨rfl, ?_, fun _ => rfl⟩
  refine ap1_ev (d := .bool ((upheldL n S).any fun o => !decide (o = l) && withinB l o)) (ap_1 (lcE_map (upheldL n S) tpI (fun o => [(3, tpI o)]) (fun _ => true) (fun o => .bool (!decide (o = l) && withinB l o)) (q1 := q) (it_ev (d := lotsD (upheldL n S)) rfl rfl) rfl fun o _ => ⟨rfl, rfl, fun _ => ?_⟩) (by rw [filter_true, any_map])) rfl
  exact and_b (ap2_ev (d := tpI o) (e1 := tpI l) rfl rfl (ne_tI o l)) (call_ev (ds := [tpI l, tpI o]) (sq_cons rfl (sq_cons rfl sq_nil)) (e_within_lot l o q))
def readL (n : Int) (S : List (Int × Int)) : Rd5 → List (List Int)
  | .up => upheldL n S
  | .fu => fullL n S
  | .gr => greatL n S
  | .se => settledL n S
  | .pl => [plainL n S]
theorem rd_eq (r r' : Rd5) : eqD (.str r.str) (.str r'.str) = some (.bool (decide (r.str = r'.str))) := by
  cases r <;> cases r' <;> exact eq_word ⟨rfl, by decide +kernel⟩ ⟨rfl, by decide +kernel⟩
theorem e_lots_of {n : Int} {S : List (Int × Int)} (v : VD n S) (r : Rd5) (q : Pot) : s_lots_of [dsp n S, .str r.str] q = some (lotsD (readL n S r), q) := by
  have k : ∀ (x : Str) (b : Bool), eqD (.str r.str) (.str x) = some (.bool b) → ∀ ρ : Sd.Env, ρ[1]? = some (some (false, .str r.str)) → PV (ap2 eqD (vr 1) (cst (.str x))) ρ (.bool b) := fun x b h ρ hr q => ap2_ev (d := .str r.str) (e1 := .str x) (by unfold vr; rw [hr]; rfl) rfl h
  have qu : ∀ o3, PS (setS 2 (callE s_quiet_lots [vr 0])) [some (false, dsp n S), some (false, .str r.str), none, o3] fun ρ => ρ = [some (false, dsp n S), some (false, .str r.str), some (false, lotsD (sortK (qsubs S (Sd.upTo n)))), o3] := fun o3 => p_set (fun q => call_ev (ds := [dsp n S]) (sq_cons rfl sq_nil) (e_quiet_lots v q)) rfl
  refine p_def ?_ q
  cases r with
  | pl => exact p_seqL (p_ifR (k "plain" true (eqW (by decide +kernel)) _ rfl) (p_ret fun q => lst_ev (sq_cons (call_ev (ds := [dsp n S]) (sq_cons rfl sq_nil) (e_plain_of v q)) sq_nil)))
  | gr =>
    refine p_seqR (S := fun ρ => ρ = [some (false, dsp n S), some (false, .str Rd5.gr.str), none, none]) (p_ifF (k "plain" false (eqW (by decide +kernel)) _ rfl) (p_nil rfl)) ?_
    rintro _ rfl
    exact p_seqL (p_ifR (k "greatest" true (eqW (by decide +kernel)) _ rfl) (p_ret fun q => call_ev (ds := [dsp n S]) (sq_cons rfl sq_nil) (e_greatest_lots v q)))
  | up =>
    refine p_seqR (S := fun ρ => ρ = [some (false, dsp n S), some (false, .str Rd5.up.str), none, none]) (p_ifF (k "plain" false (eqW (by decide +kernel)) _ rfl) (p_nil rfl)) ?_
    rintro _ rfl
    refine p_seqR (S := fun ρ => ρ = [some (false, dsp n S), some (false, .str Rd5.up.str), none, none]) (p_ifF (k "greatest" false (eqW (by decide +kernel)) _ rfl) (p_nil rfl)) ?_
    rintro _ rfl
    refine p_seqR (qu none) ?_
    rintro _ rfl
    exact p_seqL (p_ifR (k "upheld" true (eqW (by decide +kernel)) _ rfl) (p_ret fun q => lcE_map (sortK (qsubs S (Sd.upTo n))) tpI (fun l => [(3, tpI l)]) (fun l => upheldB n S l) tpI (q1 := q) (it_ev (d := lotsD _) rfl rfl) rfl fun l _ => ⟨rfl, call_ev (ds := [dsp n S, tpI l]) (sq_cons rfl (sq_cons rfl sq_nil)) (e_is_upheld v l q), fun _ => rfl⟩))
  | fu =>
    refine p_seqR (S := fun ρ => ρ = [some (false, dsp n S), some (false, .str Rd5.fu.str), none, none]) (p_ifF (k "plain" false (eqW (by decide +kernel)) _ rfl) (p_nil rfl)) ?_
    rintro _ rfl
    refine p_seqR (S := fun ρ => ρ = [some (false, dsp n S), some (false, .str Rd5.fu.str), none, none]) (p_ifF (k "greatest" false (eqW (by decide +kernel)) _ rfl) (p_nil rfl)) ?_
    rintro _ rfl
    refine p_seqR (qu none) ?_
    rintro _ rfl
    refine p_seqR (S := fun ρ => ρ = [some (false, dsp n S), some (false, .str Rd5.fu.str), some (false, lotsD (sortK (qsubs S (Sd.upTo n)))), none]) (p_ifF (k "upheld" false (eqW (by decide +kernel)) _ rfl) (p_nil rfl)) ?_
    rintro _ rfl
    exact p_seqL (p_ifR (k "full" true (eqW (by decide +kernel)) _ rfl) (p_ret fun q => lcE_map (sortK (qsubs S (Sd.upTo n))) tpI (fun l => [(3, tpI l)]) (fun l => fullB n S l) tpI (q1 := q) (it_ev (d := lotsD _) rfl rfl) rfl fun l _ => ⟨rfl, call_ev (ds := [dsp n S, tpI l]) (sq_cons rfl (sq_cons rfl sq_nil)) (e_is_full v l q), fun _ => rfl⟩))
  | se =>
    have := e_lots_settled v
    intro q
    have h := this q
    obtain ⟨rr, h1, h2⟩ := defM_some h
    obtain ⟨fl, ρ'⟩ := rr
    rcases h2 with h2 | ⟨_, h2⟩
    · obtain rfl : fl = .rt (lotsD (settledL n S)) := h2
      exact ⟨ρ', h1⟩
    · cases h2
end Cm
/-! lots in each reading, by all lots -/
namespace Cm
open PySem PySem.Spec PyProof.Rows Sd
theorem clash_iff {S : List (Int × Int)} {c : Int} {l : List Int} : clash S c l = true ↔ ∃ o ∈ l, (c, o) ∈ S ∨ (o, c) ∈ S := by
  unfold clash
  rw [List.any_eq_true]
  refine exists_congr fun o => and_congr Iff.rfl ?_
  rw [Bool.or_eq_true, decide_eq_true_iff, decide_eq_true_iff]
theorem quiet_snoc {S : List (Int × Int)} {l : List Int} {x : Int} : quietB S (l ++ [x]) = true ↔ quietB S l = true ∧ clash S x l = false ∧ (x, x) ∉ S := by
  rw [← Bool.not_eq_true, clash_iff, quietB_iff, quietB_iff]
  constructor
  · intro h
    refine ⟨fun a ha b hb => h a (List.mem_append_left _ ha) b (List.mem_append_left _ hb), ?_, h x (by simp) x (by simp)⟩
    rintro ⟨o, ho, k | k⟩
    · exact h x (by simp) o (List.mem_append_left _ ho) k
    · exact h o (List.mem_append_left _ ho) x (by simp) k
  · rintro ⟨h1, h2, h3⟩ a ha b hb k
    rcases List.mem_append.mp ha with ha | ha
    · rcases List.mem_append.mp hb with hb | hb
      · exact h1 a ha b hb k
      · rw [List.mem_singleton.mp hb] at k; exact h2 ⟨a, ha, .inr k⟩
    · rw [List.mem_singleton.mp ha] at k
      rcases List.mem_append.mp hb with hb | hb
      · exact h2 ⟨b, hb, .inl k⟩
      · rw [List.mem_singleton.mp hb] at k; exact h3 k
theorem qsubs_eq (S : List (Int × Int)) : ∀ L : List Int, qsubs S L = (subsL L).filter (quietB S) := by
  refine snoc_ind ?_ fun L x ih => ?_
  · show [[]] = List.filter _ [[]]
    have : quietB S [] = true := quietB_iff.mpr fun a ha => by cases ha
    rw [List.filter_cons_of_pos this]; rfl
  · rw [qsubs_snoc, subsL_snoc, ih]
    unfold qstep addC
    rw [List.filter_append]
    by_cases c : (x, x) ∈ S
    · rw [if_pos c]
      have : ((subsL L).map (· ++ [x])).filter (quietB S) = [] := by
        rw [List.filter_eq_nil_iff]
        intro l hl
        obtain ⟨m, _, rfl⟩ := List.mem_map.mp hl
        intro h
        exact (quiet_snoc.mp h).2.2 c
      rw [this, List.append_nil]
    · rw [if_neg c]
      congr 1
      rw [List.filter_map, List.filter_filter]
      congr 1
      refine List.filter_congr fun l _ => ?_
      rw [Bool.eq_iff_iff]
      show _ ↔ quietB S (l ++ [x]) = true
      rw [quiet_snoc, Bool.and_eq_true, Bool.not_eq_true']
      exact ⟨fun h => ⟨h.2, h.1, c⟩, fun h => ⟨h.2.1, h.1⟩⟩
theorem sortK_self {L : List (List Int)} (h : L.Pairwise (· ≤ ·)) : sortK L = L := by
  unfold sortK
  exact List.mergeSort_of_pairwise (h.imp fun h => by simpa using h)
theorem sortK_filter (p : List Int → Bool) (L : List (List Int)) : (sortK L).filter p = sortK (L.filter p) := by
  rw [← sortK_self ((sortK_pw L).sublist List.filter_sublist)]
  exact sortK_of_perm ((sortK_perm L).filter p)
theorem quiet_all (n : Int) (S : List (Int × Int)) : (sortK (subsL (Sd.upTo n))).filter (quietB S) = sortK (qsubs S (Sd.upTo n)) := by
  rw [sortK_filter, qsubs_eq]
/-! ### the plain lot is the least full one -/
theorem defL_up {n : Int} {S : List (Int × Int)} {l m : List Int} (h : ∀ x ∈ l, x ∈ m) : ∀ x ∈ defL n S l, x ∈ defL n S m := fun x hx => by
  rw [mem_defL] at hx ⊢
  refine ⟨hx.1, fun a ha => ?_⟩
  obtain ⟨b, hb, k⟩ := mem_strL'.mp (hx.2 a ha)
  exact mem_strL'.mpr ⟨b, h b hb, k⟩
theorem itL_within {n : Int} {S : List (Int × Int)} {l : List Int} (h : defL n S l = l) : ∀ k, ∀ x ∈ itL n S k, x ∈ l
  | 0 => fun x hx => by cases hx
  | k + 1 => fun x hx => by
    have hx : x ∈ defL n S (itL n S k) := hx
    rw [← h]
    exact defL_up (itL_within h k) x hx
theorem plain_within {n : Int} {S : List (Int × Int)} {l : List Int} (h : defL n S l = l) : ∀ x ∈ plainL n S, x ∈ l := itL_within h _
theorem def_quiet {n : Int} {S : List (Int × Int)} {l : List Int} (h : quietB S l = true) : quietB S (defL n S l) = true := by
  rw [quietB_iff] at h ⊢
  intro a ha b hb k
  rw [mem_defL] at ha hb
  obtain ⟨e, he, k1⟩ := mem_strL'.mp (hb.2 a k)
  obtain ⟨e', he', k2⟩ := mem_strL'.mp (ha.2 e k1)
  exact h e' he' e he k2
theorem itL_quiet (n : Int) (S : List (Int × Int)) : ∀ k, quietB S (itL n S k) = true
  | 0 => quietB_iff.mpr fun a ha => by cases ha
  | k + 1 => def_quiet (itL_quiet n S k)
theorem plain_quiet (n : Int) (S : List (Int × Int)) : quietB S (plainL n S) = true := itL_quiet n S _
theorem plain_full (n : Int) (S : List (Int × Int)) : fullB n S (plainL n S) = true := by
  unfold fullB
  rw [plain_quiet, plainL_fix]; simp
end Cm
/-! the law's own lots are the lots -/
namespace Cm
open PySem PySem.Spec PyProof.Rows Sd
theorem pw_ext2 {α : Type} {R : α → α → Prop} (irr : ∀ a, ¬ R a a) (asy : ∀ a b, R a b → ¬ R b a) : ∀ {l m : List α}, l.Pairwise R → m.Pairwise R → (∀ x, x ∈ l ↔ x ∈ m) → l = m
  | [], [], _, _, _ => rfl
  | [], y :: m, _, _, h => by have := (h y).mpr List.mem_cons_self; cases this
  | x :: l, [], _, _, h => by have := (h x).mp List.mem_cons_self; cases this
  | x :: l, y :: m, h1, h2, h => by
    rw [List.pairwise_cons] at h1 h2
    have e : x = y := by
      rcases List.mem_cons.mp ((h x).mp List.mem_cons_self) with c | c
      · exact c
      · rcases List.mem_cons.mp ((h y).mpr List.mem_cons_self) with d | d
        · exact d.symm
        · exact absurd (h1.1 y d) (asy _ _ (h2.1 x c))
    subst e
    congr 1
    refine pw_ext2 irr asy h1.2 h2.2 fun z => ?_
    constructor
    · intro hz
      rcases List.mem_cons.mp ((h z).mp (List.mem_cons_of_mem _ hz)) with c | c
      · subst c; exact absurd (h1.1 z hz) (irr z)
      · exact c
    · intro hz
      rcases List.mem_cons.mp ((h z).mpr (List.mem_cons_of_mem _ hz)) with c | c
      · subst c; exact absurd (h2.1 z hz) (irr z)
      · exact c
theorem subs_nodup : ∀ L : List Int, L.Nodup → (subsL L).Nodup := by
  refine snoc_ind (fun _ => by simp [subsL]) fun L x ih h => ?_
  rw [subsL_snoc]
  unfold addC
  rw [List.nodup_append] at h ⊢
  have i := ih h.1
  refine ⟨i, ?_, fun a ha b hb e => ?_⟩
  · unfold List.Nodup
    rw [List.pairwise_map]
    refine List.Pairwise.imp (fun {a b} h e => ?_) i
    exact h (List.append_cancel_right e)
  · obtain ⟨m, _, rfl⟩ := List.mem_map.mp hb
    have hx : x ∈ L := (mem_subsL.mp ha).subset (by rw [e]; simp)
    exact h.2.2 x hx x (by simp) rfl
theorem quiet_mem {n : Int} {S : List (Int × Int)} {l : List Int} (h : l ∈ sortK (qsubs S (Sd.upTo n))) : quietB S l = true ∧ List.Sublist l (Sd.upTo n) := by
  rw [← quiet_all, List.mem_filter, mem_all] at h
  exact ⟨h.2, h.1⟩
theorem law_upheld (n : Int) (S : List (Int × Int)) : (sortK (qsubs S (Sd.upTo n))).filter (fun l => l.all fun c => decide (c ∈ defL n S l)) = upheldL n S := by
  refine List.filter_congr fun l hl => ?_
  unfold upheldB
  rw [(quiet_mem hl).1]; rfl
theorem law_full (n : Int) (S : List (Int × Int)) : (upheldL n S).filter (fun l => decide (defL n S l = l)) = fullL n S := by
  unfold upheldL fullL
  rw [List.filter_filter]
  refine List.filter_congr fun l hl => ?_
  unfold upheldB fullB
  rw [(quiet_mem hl).1, Bool.true_and, Bool.true_and]
  by_cases c : defL n S l = l
  · have : (l.all fun x => decide (x ∈ defL n S l)) = true := by
      rw [List.all_eq_true]
      intro x hx
      rw [c]; exact decide_eq_true hx
    rw [this]; simp
  · simp [c]
theorem sub_pw {n : Int} {l : List Int} (h : List.Sublist l (Sd.upTo n)) : l.Pairwise (· < ·) := (upTo_pw n).sublist h
theorem law_settled {n : Int} {S : List (Int × Int)} (v : VD n S) : (sortK (qsubs S (Sd.upTo n))).filter (fun l => decide (sortI (l ++ struck S l) = Sd.upTo n)) = settledL n S := by
  refine List.filter_congr fun l hl => ?_
  obtain ⟨hq, hs⟩ := quiet_mem hl
  unfold settledB
  refine decide_eq_decide.mpr ?_
  have hst : (struck S l).Pairwise (· < ·) := by
    unfold struck
    exact sortI_lt (nodup_dedI _)
  constructor
  · intro h
    have hp : (l ++ struck S l).Perm (Sd.upTo n) := by rw [← h]; exact (sortI_perm _).symm
    have nd : (l ++ struck S l).Nodup := hp.nodup_iff.mpr ((upTo_pw n).imp fun h => by have h : _ < _ := h; omega)
    refine pw_ext2 (R := (· < ·)) (fun a h => by omega) (fun a b h1 h2 => by omega) hst ((upTo_pw n).sublist List.filter_sublist) fun x => ?_
    rw [List.mem_filter, Bool.not_eq_true', decide_eq_false_iff_not]
    have hm := hp.mem_iff (a := x)
    rw [List.mem_append] at hm
    rw [List.nodup_append] at nd
    constructor
    · intro hx
      exact ⟨hm.mp (.inr hx), fun hl => nd.2.2 x hl x hx rfl⟩
    · rintro ⟨h1, h2⟩
      exact (hm.mpr h1).resolve_left h2
  · intro h
    refine pw_ext2 (R := (· < ·)) (fun a h => by omega) (fun a b h1 h2 => by omega) (sortI_lt ?_) (upTo_pw n) fun x => ?_
    · rw [List.nodup_append]
      refine ⟨(sub_pw hs).imp fun h => by have h : _ < _ := h; omega, hst.imp fun h => by have h : _ < _ := h; omega, fun a ha b hb e => ?_⟩
      subst e
      rw [h, List.mem_filter] at hb
      simp [ha] at hb
    · rw [(sortI_perm _).mem_iff, List.mem_append, h, List.mem_filter]
      constructor
      · rintro (k | k)
        · exact hs.subset k
        · exact k.1
      · intro k
        by_cases c : x ∈ l
        · exact .inl c
        · exact .inr ⟨k, by simp [c]⟩
theorem law_plain (n : Int) (S : List (Int × Int)) : (fullL n S).filter (fun l => (fullL n S).all fun o => withinB l o) = [plainL n S] := by
  have hs : List.Sublist (plainL n S) (Sd.upTo n) := itL_sub n S n.toNat
  have hq : plainL n S ∈ sortK (qsubs S (Sd.upTo n)) := by
    rw [← quiet_all, List.mem_filter, mem_all]
    exact ⟨hs, plain_quiet n S⟩
  have hin : plainL n S ∈ fullL n S := List.mem_filter.mpr ⟨hq, plain_full n S⟩
  have full : ∀ {l}, l ∈ fullL n S → defL n S l = l ∧ List.Sublist l (Sd.upTo n) := fun {l} h => by
    obtain ⟨h1, h2⟩ := List.mem_filter.mp h
    unfold fullB at h2
    rw [Bool.and_eq_true, decide_eq_true_iff] at h2
    exact ⟨h2.2, (quiet_mem h1).2⟩
  have one : ∀ l, l ∈ (fullL n S).filter (fun l => (fullL n S).all fun o => withinB l o) ↔ l = plainL n S := fun l => by
    rw [List.mem_filter, List.all_eq_true]
    constructor
    · rintro ⟨h1, h2⟩
      exact lot_ext (full h1).2 hs fun x => ⟨fun hx => withinB_iff.mp (h2 _ hin) x hx, fun hx => plain_within (full h1).1 x hx⟩
    · rintro rfl
      exact ⟨hin, fun o ho => withinB_iff.mpr (plain_within (full ho).1)⟩
  have nd : ((fullL n S).filter (fun l => (fullL n S).all fun o => withinB l o)).Nodup := by
    refine List.Nodup.sublist (List.filter_sublist.trans List.filter_sublist) ?_
    rw [(sortK_perm _).nodup_iff, qsubs_eq]
    exact (subs_nodup _ ((upTo_pw n).imp fun h => by have h : _ < _ := h; omega)).sublist List.filter_sublist
  generalize (fullL n S).filter (fun l => (fullL n S).all fun o => withinB l o) = L at one nd
  cases L with
  | nil => exact absurd ((one _).mpr rfl) (by simp)
  | cons a L =>
    have ha := (one a).mp List.mem_cons_self
    subst ha
    cases L with
    | nil => rfl
    | cons b L =>
      have hb := (one b).mp (by simp)
      subst hb
      simp at nd
end Cm
/-! claims alone, as a dispute -/
namespace Cm
open PySem PySem.Spec PyProof.Rows Sd
def gridL (k : Int) : List (Int × Int) := (Sd.upTo k).flatMap fun a => (Sd.upTo k).map fun b => (a, b)
theorem mem_gridL {k : Int} {z : Int × Int} : z ∈ gridL k ↔ (0 ≤ z.1 ∧ z.1 < k) ∧ 0 ≤ z.2 ∧ z.2 < k := by
  unfold gridL
  rw [List.mem_flatMap]
  constructor
  · rintro ⟨a, ha, h⟩
    obtain ⟨b, hb, rfl⟩ := List.mem_map.mp h
    exact ⟨Sd.mem_upTo.mp ha, Sd.mem_upTo.mp hb⟩
  · intro h
    exact ⟨z.1, Sd.mem_upTo.mpr h.1, List.mem_map.mpr ⟨z.2, Sd.mem_upTo.mpr h.2, rfl⟩⟩
theorem gridL_pw (k : Int) : (gridL k).Pairwise ltP := by
  unfold gridL
  rw [List.pairwise_flatMap]
  refine ⟨fun a _ => ?_, (upTo_pw k).imp fun {a b} h x hx y hy => ?_⟩
  · rw [List.pairwise_map]
    exact (upTo_pw k).imp fun h => .inr ⟨rfl, h⟩
  · obtain ⟨c, _, rfl⟩ := List.mem_map.mp hx
    obtain ⟨d, _, rfl⟩ := List.mem_map.mp hy
    exact .inl h
def aloneP (S : List (Int × Int)) (l x : List Int) : List (Int × Int) := (gridL l.length).filter fun z => decide (keyP z ∈ allK S x l)
theorem aloneP_pw (S : List (Int × Int)) (l x : List Int) : (aloneP S l x).Pairwise ltP := (gridL_pw _).sublist List.filter_sublist
theorem mem_aloneP {S : List (Int × Int)} {l x : List Int} {z : Int × Int} : z ∈ aloneP S l x ↔ keyP z ∈ allK S x l := by
  unfold aloneP
  rw [List.mem_filter, mem_gridL, decide_eq_true_iff]
  refine ⟨fun h => h.2, fun h => ⟨?_, h⟩⟩
  rcases mem_allK.mp h with ⟨y, _, h1, h2, e⟩ | ⟨c, _, h1, e⟩
  · have p1 := plc_lt h1
    have p2 := plc_lt h2
    have e : [z.1, z.2] = [plc l y.1, plc l y.2] := e
    simp only [List.cons.injEq, and_true] at e
    omega
  · have p1 := plc_lt h1
    have e : [z.1, z.2] = [plc l c, plc l c] := e
    simp only [List.cons.injEq, and_true] at e
    omega
theorem alone_keys (S : List (Int × Int)) (l x : List Int) : sortK (ded (allK S x l)) = (aloneP S l x).map keyP := by
  rw [← sortK_id (aloneP_pw S l x)]
  refine sortK_of_perm (perm_of_mem (nodup_ded _) ?_ fun k => ?_)
  · unfold List.Nodup
    rw [List.pairwise_map]
    exact (aloneP_pw S l x).imp fun {a b} h e => by
      have e := keyP_inj e
      subst e
      unfold ltP at h
      omega
  · rw [mem_ded, List.mem_map]
    constructor
    · intro h
      have : ∃ z : Int × Int, keyP z = k := by
        rcases mem_allK.mp h with ⟨y, _, _, _, e⟩ | ⟨c, _, _, e⟩
        · exact ⟨(plc l y.1, plc l y.2), e.symm⟩
        · exact ⟨(plc l c, plc l c), e.symm⟩
      obtain ⟨z, rfl⟩ := this
      exact ⟨z, mem_aloneP.mpr h, rfl⟩
    · rintro ⟨z, hz, rfl⟩
      exact mem_aloneP.mp hz
theorem alone_eq (S : List (Int × Int)) (l x : List Int) : aloneD S l x = dsp l.length (aloneP S l x) := by
  unfold aloneD dsp
  rw [alone_keys]
  show _ = PyData.tuple [_, _, PyData.tuple ((aloneP S l x).map pD)]
  rw [pD_map]
theorem alone_vd {l : List Int} (ne : l ≠ []) (h8 : l.length ≤ 8) (S : List (Int × Int)) (x : List Int) : VD l.length (aloneP S l x) := by
  have := List.length_pos_iff.mpr ne
  refine ⟨by omega, by omega, fun z hz => ?_, aloneP_pw S l x⟩
  have := mem_gridL.mp (List.mem_filter.mp hz).1
  omega
end Cm
/-! split rows -/
namespace Cm
open PySem PySem.Spec PyProof.Rows Sd
def telL (l m : List Int) : List Int := m.map fun i => l.getD i.toNat 0
theorem ix_tel {l : List Int} {i : Int} (h : 0 ≤ i ∧ i < l.length) : ixD (tpI l) (.int i) = some (iD (l.getD i.toNat 0)) := by
  show L2.atI (l.map iD) i = _
  refine atI_nat h.1 ?_
  have hl : i.toNat < l.length := by omega
  have e : l.getD i.toNat 0 = l[i.toNat] := by simp [List.getD, hl]
  rw [List.getElem?_map, List.getElem?_eq_getElem hl, e]; rfl
theorem tel_te {l m : List Int} (h : ∀ i ∈ m, 0 ≤ i ∧ i < l.length) {ρ : Sd.Env} {q : Pot} {i j k : Nat} {own : List Nat} (hi : vr i ρ q = some (tpI m, q)) (hown : own.all (fun i => decide (i < ρ.length)) = true) (hj : ∀ x : Int, vr j (sets (wipeD ρ own) [k] [(false, iD x)]) q = some (tpI l, q)) (hk : ∀ x : Int, vr k (sets (wipeD ρ own) [k] [(false, iD x)]) q = some (iD x, q)) :
    ap tupD [lcE own (itE (vr i)) (gN k) (cst (.bool true)) (ap2 ixD (vr j) (vr k))] ρ q = some (tpI (telL l m), q) := by
  refine ap_1 (d := .list ((telL l m).map iD)) ((lcE_map m iD (fun x => [(k, iD x)]) (fun _ => true) (fun x => iD (l.getD x.toNat 0)) (q1 := q) (it_ev (d := tpI m) hi rfl) hown fun x hx => ⟨rfl, rfl, fun _ => ap2_ev (d := tpI l) (e1 := .int x) (hj x) (hk x) (ix_tel (h x hx))⟩).trans ?_) rfl
  rw [filter_true]
  unfold telL
  rw [List.map_map]; rfl
theorem e_told_by {l m : List Int} (h : ∀ i ∈ m, 0 ≤ i ∧ i < l.length) (q : Pot) : s_told_by [tpI l, tpI m] q = some (tpI (telL l m), q) :=
  def_rt (ret_ev (tel_te h rfl rfl (fun _ => rfl) (fun _ => rfl)))
theorem settled_sub {n : Int} {S : List (Int × Int)} {l : List Int} (h : l ∈ sortK (qsubs S (Sd.upTo n))) : List.Sublist l (Sd.upTo n) := (quiet_mem h).2
theorem readL_sub {n : Int} {S : List (Int × Int)} {r : Rd5} {m : List Int} (h : m ∈ readL n S r) : List.Sublist m (Sd.upTo n) := by
  cases r with
  | up => exact (quiet_mem (List.mem_filter.mp h).1).2
  | fu => exact (quiet_mem (List.mem_filter.mp h).1).2
  | gr => exact (quiet_mem (List.mem_filter.mp (List.mem_filter.mp h).1).1).2
  | se => exact (quiet_mem (List.mem_filter.mp h).1).2
  | pl => rw [List.mem_singleton.mp h]; exact itL_sub n S n.toNat
theorem readL_rng {n : Int} {S : List (Int × Int)} {r : Rd5} {m : List Int} (h : m ∈ readL n S r) : ∀ i ∈ m, 0 ≤ i ∧ i < n := fun i hi => Sd.mem_upTo.mp ((readL_sub h).subset hi)
theorem sorted_lots (L : List (List Int)) : sortedG [lotsD L] = some (lotsD (sortK L)) := sorted_any L
def frontL (S : List (Int × Int)) (l : List Int) (r : Rd5) : List (List Int) := sortK ((readL l.length (aloneP S l []) r).map (telL l))
def restL (n : Int) (S : List (Int × Int)) (l m : List Int) (r : Rd5) : List (List Int) :=
  if openL n l (strL S m) = [] then [[]] else sortK ((readL (openL n l (strL S m)).length (aloneP S (openL n l (strL S m)) (strL S (looseL l m (strL S m)))) r).map (telL (openL n l (strL S m))))
theorem e_rest_lots {n : Int} {S : List (Int × Int)} {l m : List Int} (v : VD n S) (h8 : n ≤ 8) (r : Rd5) (q : Pot) : s_rest_lots [dsp n S, tpI l, tpI m, .str r.str] q = some (.tuple ((restL n S l m r).map tpI), q) := by
  refine p_def ?_ q
  unfold restL
  by_cases c : openL n l (strL S m) = []
  · rw [if_pos c]
    have hr : ∀ q, s_rest_of [dsp n S, tpI l, tpI m] q = some (.tuple [.none, .tuple []], q) := fun q => by rw [e_rest_of v h8]; unfold restD; rw [if_pos c]
    refine p_seqR (S := fun ρ => ρ = [some (false, dsp n S), some (false, tpI l), some (false, tpI m), some (false, .str r.str), some (false, .none), some (false, .tuple []), none]) (p_asg (d := .tuple [.none, .tuple []]) (fun q => call_ev (ds := [dsp n S, tpI l, tpI m]) (sq_cons rfl (sq_cons rfl (sq_cons rfl sq_nil))) (hr q)) rfl rfl) ?_
    rintro _ rfl
    exact p_seqL (p_ifR (fun q => rfl) (p_ret fun q => rfl))
  · rw [if_neg c]
    have h8' := openL_few (l := l) (st := strL S m) h8
    have hr : ∀ q, s_rest_of [dsp n S, tpI l, tpI m] q = some (.tuple [dsp (openL n l (strL S m)).length (aloneP S (openL n l (strL S m)) (strL S (looseL l m (strL S m)))), tpI (openL n l (strL S m))], q) := fun q => by rw [e_rest_of v h8]; unfold restD; rw [if_neg c, alone_eq]
    have vd := alone_vd c h8' S (strL S (looseL l m (strL S m)))
    generalize openL n l (strL S m) = op at *
    generalize aloneP S op (strL S (looseL l m (strL S m))) = T at *
    refine p_seqR (S := fun ρ => ρ = [some (false, dsp n S), some (false, tpI l), some (false, tpI m), some (false, .str r.str), some (false, dsp op.length T), some (false, tpI op), none]) (p_asg (d := .tuple [dsp op.length T, tpI op]) (fun q => call_ev (ds := [dsp n S, tpI l, tpI m]) (sq_cons rfl (sq_cons rfl (sq_cons rfl sq_nil))) (hr q)) rfl rfl) ?_
    rintro _ rfl
    refine p_seqR (S := fun ρ => ρ = [some (false, dsp n S), some (false, tpI l), some (false, tpI m), some (false, .str r.str), some (false, dsp op.length T), some (false, tpI op), none]) (p_ifF (fun q => rfl) (p_nil rfl)) ?_
    rintro _ rfl
    refine p_ret fun q => ap_1 (d := lotsD (sortK ((readL op.length T r).map (telL op)))) (ap_1 (d := lotsD ((readL op.length T r).map (telL op))) ?_ (sorted_lots _)) rfl
    refine (lcE_map (readL op.length T r) tpI (fun x => [(6, tpI x)]) (fun _ => true) (fun x => tpI (telL op x)) (q1 := q) (it_ev (d := lotsD _) (call_ev (ds := [dsp op.length T, .str r.str]) (sq_cons rfl (sq_cons rfl sq_nil)) (e_lots_of vd r q)) rfl) rfl fun x hx => ⟨rfl, rfl, fun _ => call_ev (ds := [tpI op, tpI x]) (sq_cons rfl (sq_cons rfl sq_nil)) (e_told_by (readL_rng hx) q)⟩).trans ?_
    rw [filter_true]
    show _ = some (PyData.list (((readL op.length T r).map (telL op)).map tpI), q)
    rw [List.map_map]; rfl
abbrev rowD (n : Int) (S : List (Int × Int)) (l m : List Int) (r : Rd5) : D := .tuple [tpI m, .tuple ((restL n S l m r).map tpI)]
theorem e_rows_of {n : Int} {S : List (Int × Int)} {l : List Int} (v : VD n S) (h8 : n ≤ 8) (ne : l ≠ []) (nd : l.Nodup) (l8 : l.length ≤ 8) (r : Rd5) (q : Pot) : s_rows_of [dsp n S, tpI l, .str r.str] q = some (.list ((frontL S l r).map fun m => rowD n S l m r), q) := by
  have vd := alone_vd ne l8 S []
  have hf := v.few
  have ea : ∀ q, s_alone [dsp n S, tpI l, .tuple []] q = some (dsp l.length (aloneP S l []), q) := fun q => by
    rw [← alone_eq]; exact e_alone (x := []) rfl ne nd l8 (by simp; omega) q
  refine p_def ?_ q
  refine p_seqR (S := fun ρ => ρ = [some (false, dsp n S), some (false, tpI l), some (false, .str r.str), some (false, lotsD (frontL S l r)), none]) (p_set (fun q => ap_1 (d := lotsD ((readL l.length (aloneP S l []) r).map (telL l))) ?_ (sorted_lots _)) rfl) ?_
  · refine (lcE_map (readL l.length (aloneP S l []) r) tpI (fun x => [(4, tpI x)]) (fun _ => true) (fun x => tpI (telL l x)) (q1 := q) (it_ev (d := lotsD _) (call_ev (ds := [dsp l.length (aloneP S l []), .str r.str]) (sq_cons (call_ev (ds := [dsp n S, tpI l, .tuple []]) (sq_cons rfl (sq_cons rfl (sq_cons rfl sq_nil))) (ea q)) (sq_cons rfl sq_nil)) (e_lots_of vd r q)) rfl) rfl fun x hx => ⟨rfl, rfl, fun _ => call_ev (ds := [tpI l, tpI x]) (sq_cons rfl (sq_cons rfl sq_nil)) (e_told_by (readL_rng hx) q)⟩).trans ?_
    rw [filter_true]
    show _ = some (PyData.list (((readL l.length (aloneP S l []) r).map (telL l)).map tpI), q)
    rw [List.map_map]; rfl
  rintro _ rfl
  refine p_ret fun q => (lcE_map (frontL S l r) tpI (fun m => [(4, tpI m)]) (fun _ => true) (fun m => rowD n S l m r) (q1 := q) (it_ev (d := lotsD (frontL S l r)) rfl rfl) rfl fun m _ => ⟨rfl, rfl, fun _ => tup_ev (sq_cons rfl (sq_cons (call_ev (ds := [dsp n S, tpI l, tpI m, .str r.str]) (sq_cons rfl (sq_cons rfl (sq_cons rfl (sq_cons rfl sq_nil)))) (e_rest_lots v h8 r q)) sq_nil))⟩).trans (by rw [filter_true])
end Cm
/-! put together; told lists changed -/
namespace Cm
open PySem PySem.Spec PyProof.Rows Sd
theorem ss_told {i : Nat} {f1 f2 ft : Sd.Env → M D} {g : SE} {ρ : Sd.Env} {xs : List D} {d2 : D} {S : Sd.Env → Prop} (h1 : ∀ q, f1 ρ q = some (.list xs, q)) (h2 : ∀ q, f2 ρ q = some (d2, q)) (hi : i < ρ.length) (hl : xs.length < 1000000) (h3 : ∀ q, ft (ρ.set i (some (false, .list [.list xs, d2]))) q = some (.bool false, q)) (h4 : SS g (ρ.set i none) S) : SS (toldS i f1 f2 ft g) ρ S := fun q hq => by
  obtain ⟨ρ', q', e1, k1, r⟩ := h4 q hq
  refine ⟨ρ', q', bind2 (h1 q) (bind2 (h2 q) ?_), k1, r⟩
  show (if _ then _ else _ : M (Fl × Sd.Env)) q = _
  rw [if_pos ⟨hi, hl⟩]
  exact bind2 (h3 q) e1
theorem flat_ints (l : List Int) : flatD (l.map iD) = true := by
  unfold flatD
  rw [List.all_eq_true]
  intro d hd
  obtain ⟨z, _, rfl⟩ := List.mem_map.mp hd
  rfl
theorem sorted_tupI (l : List Int) : sortedG [tpI l] = some (.list ((sortI l).map iD)) := by
  show (if (flatD (l.map iD) && okS (l.map iD)) = true then some (PyData.list (srt (l.map iD))) else none) = _
  rw [if_pos (by rw [flat_ints, okS_ints]; rfl)]
  have := sorted_ints l
  have h : (if okS (l.map iD) = true then some (PyData.list (srt (l.map iD))) else none) = some (.list ((sortI l).map iD)) := this
  rw [if_pos (okS_ints l)] at h
  exact h
abbrev Row := List Int × List (List Int)
def joinR (z : Row) : List (List Int) := z.2.map fun o => sortI (z.1 ++ o)
def togL (R : List Row) : List (List Int) := (R.map joinR).flatten
theorem togL_snoc (R : List Row) (z : Row) : togL (R ++ [z]) = togL R ++ joinR z := by
  unfold togL
  rw [List.map_append, List.flatten_append]; simp
abbrev rwD (z : Row) : D := .tuple [tpI z.1, .tuple (z.2.map tpI)]
theorem e_together_of {R : List Row} (hR : R.length ≤ 256) (h2 : ∀ z ∈ R, z.2.length ≤ 256 ∧ z.1.length ≤ 100 ∧ ∀ o ∈ z.2, o.length ≤ 100) (q : Pot) : s_together_of [.list (R.map rwD)] q = some (lotsD (sortK (togL R)), q) := by
  refine p_def ?_ q
  refine p_seqR (S := fun ρ => ρ = [some (false, .list (R.map rwD)), some (true, lotsD []), none, none, none]) (p_setB (fun _ => rfl) rfl rfl) ?_
  rintro _ rfl
  refine p_seqR (p_for R rwD (fun pre ρ => (togL pre).length ≤ pre.length * 256 ∧ ∃ o2 o3, ρ = [some (false, .list (R.map rwD)), some (true, lotsD (togL pre)), o2, o3, none]) (fun q => it_ev (d := .list (R.map rwD)) rfl rfl) ⟨by simp [togL], none, none, rfl⟩ ?_) ?_
  · rintro pre z post e _ ⟨hl, o2, o3, rfl⟩
    have hz := h2 z (by rw [e]; simp)
    have hp : pre.length < 256 := by
      have := congrArg List.length e
      rw [List.length_append, List.length_cons] at this
      omega
    refine ⟨[(2, tpI z.1), (3, .tuple (z.2.map tpI))], rfl, ?_⟩
    refine p_ext (ds := (togL pre).map tpI) (xs := (joinR z).map tpI) (fun q => ?_) rfl ?_ ⟨?_, some (false, tpI z.1), some (false, .tuple (z.2.map tpI)), ?_⟩
    · refine (lcE_map z.2 tpI (fun o => [(4, tpI o)]) (fun _ => true) (fun o => tpI (sortI (z.1 ++ o))) (q1 := q) (it_ev (d := .tuple (z.2.map tpI)) rfl rfl) rfl fun o ho => ⟨rfl, rfl, fun _ => ap_1 (d := .list ((sortI (z.1 ++ o)).map iD)) (ap_1 (d := tpI (z.1 ++ o)) (ap2_ev (d := tpI z.1) (e1 := tpI o) rfl rfl ?_) (sorted_tupI _)) rfl⟩).trans ?_
      · have := hz.2.2 o ho
        show (if _ then _ else _) = _
        rw [if_pos (by rw [List.length_map, List.length_map]; omega)]
        show some (PyData.tuple _) = some (PyData.tuple _)
        rw [List.map_append]
      · rw [filter_true]
        unfold joinR
        rw [List.map_map]; rfl
    · rw [List.length_map, List.length_map]
      unfold joinR
      rw [List.length_map]
      omega
    · rw [togL_snoc, List.length_append, List.length_append, List.length_singleton]
      have : (joinR z).length ≤ 256 := by unfold joinR; rw [List.length_map]; exact hz.1
      omega
    · show [_, _, _, _, _] = _
      rw [togL_snoc]
      show _ = [_, some (true, PyData.list ((togL pre ++ joinR z).map tpI)), _, _, _]
      rw [List.map_append]
  · rintro _ ⟨_, o2, o3, rfl⟩
    exact p_ret fun q => ap_1 (d := lotsD (togL R)) rfl (sorted_lots _)
end Cm
/-! claims alone: who strikes whom -/
namespace Cm
open PySem PySem.Spec PyProof.Rows Sd
def at0 (l : List Int) (i : Int) : Int := l.getD i.toNat 0
theorem at0_get {l : List Int} {i : Int} (h : 0 ≤ i ∧ i < l.length) : l[i.toNat]? = some (at0 l i) := by
  have hl : i.toNat < l.length := by omega
  unfold at0
  simp [List.getD, hl]
theorem at0_mem {l : List Int} {i : Int} (h : 0 ≤ i ∧ i < l.length) : at0 l i ∈ l := List.mem_of_getElem? (at0_get h)
theorem at0_plc {l : List Int} {c : Int} (h : c ∈ l) : at0 l (plc l c) = c := by
  have h1 := plc_lt h
  have h2 := at0_get h1
  have e : (plc l c).toNat = l.idxOf c := by unfold plc; omega
  rw [e, List.getElem?_eq_getElem (List.idxOf_lt_length_iff.mpr h)] at h2
  have h3 : l[l.idxOf c]'(List.idxOf_lt_length_iff.mpr h) = c := List.getElem_idxOf _
  rw [h3] at h2
  exact (Option.some.inj h2).symm
theorem at0_inj {l : List Int} (nd : l.Nodup) {i j : Int} (hi : 0 ≤ i ∧ i < l.length) (hj : 0 ≤ j ∧ j < l.length) (e : at0 l i = at0 l j) : i = j := by
  have h1 := at0_get hi
  have h2 := at0_get hj
  rw [e] at h1
  have := nodup_at nd h1 h2
  omega
theorem plc_at0 {l : List Int} (nd : l.Nodup) {i : Int} (h : 0 ≤ i ∧ i < l.length) : plc l (at0 l i) = i :=
  at0_inj nd (plc_lt (at0_mem h)) h (at0_plc (at0_mem h))
theorem mem_alone {S : List (Int × Int)} {l x : List Int} (nd : l.Nodup) {i j : Int} : (i, j) ∈ aloneP S l x ↔ ((0 ≤ i ∧ i < l.length) ∧ 0 ≤ j ∧ j < l.length) ∧ ((at0 l i, at0 l j) ∈ S ∨ (i = j ∧ at0 l i ∈ x)) := by
  rw [mem_aloneP, mem_allK]
  constructor
  · rintro (⟨z, hz, h1, h2, e⟩ | ⟨c, hc, h1, e⟩)
    · have e : [i, j] = [plc l z.1, plc l z.2] := e
      simp only [List.cons.injEq, and_true] at e
      obtain ⟨rfl, rfl⟩ := e
      refine ⟨⟨plc_lt h1, plc_lt h2⟩, .inl ?_⟩
      rw [at0_plc h1, at0_plc h2]; exact hz
    · have e : [i, j] = [plc l c, plc l c] := e
      simp only [List.cons.injEq, and_true] at e
      obtain ⟨rfl, rfl⟩ := e
      exact ⟨⟨plc_lt h1, plc_lt h1⟩, .inr ⟨rfl, by rw [at0_plc h1]; exact hc⟩⟩
  · rintro ⟨⟨hi, hj⟩, h | ⟨rfl, h⟩⟩
    · refine .inl ⟨_, h, at0_mem hi, at0_mem hj, ?_⟩
      show [i, j] = [plc l (at0 l i), plc l (at0 l j)]
      rw [plc_at0 nd hi, plc_at0 nd hj]
    · refine .inr ⟨_, h, at0_mem hi, ?_⟩
      show [i, i] = [plc l (at0 l i), plc l (at0 l i)]
      rw [plc_at0 nd hi]
theorem mem_telL {l m : List Int} {c : Int} : c ∈ telL l m ↔ ∃ i ∈ m, at0 l i = c := by
  unfold telL
  rw [List.mem_map]; rfl
/-- a lot of the whole, renumbered -/
def numL (l m : List Int) : List Int := (Sd.upTo l.length).filter fun i => decide (at0 l i ∈ m)
theorem mem_numL {l m : List Int} {i : Int} : i ∈ numL l m ↔ (0 ≤ i ∧ i < l.length) ∧ at0 l i ∈ m := by
  unfold numL
  rw [List.mem_filter, Sd.mem_upTo, decide_eq_true_iff]
theorem numL_sub (l m : List Int) : List.Sublist (numL l m) (Sd.upTo l.length) := List.filter_sublist
theorem mem_tel_num {l m : List Int} {c : Int} : c ∈ telL l (numL l m) ↔ c ∈ l ∧ c ∈ m := by
  rw [mem_telL]
  constructor
  · rintro ⟨i, hi, rfl⟩
    have := mem_numL.mp hi
    exact ⟨at0_mem this.1, this.2⟩
  · rintro ⟨h1, h2⟩
    exact ⟨plc l c, mem_numL.mpr ⟨plc_lt h1, by rw [at0_plc h1]; exact h2⟩, at0_plc h1⟩
theorem num_tel {l m : List Int} (nd : l.Nodup) (hm : List.Sublist m (Sd.upTo l.length)) : numL l (telL l m) = m := by
  refine lot_ext (numL_sub _ _) hm fun i => ?_
  rw [mem_numL, mem_telL]
  constructor
  · rintro ⟨hi, j, hj, e⟩
    have := at0_inj nd (Sd.mem_upTo.mp (hm.subset hj)) hi e
    rw [← this]; exact hj
  · intro hi
    exact ⟨Sd.mem_upTo.mp (hm.subset hi), i, hi, rfl⟩
end Cm
/-! upheld among claims alone, told by the whole's claims; the splitting of upheld lots -/
namespace Cm
open PySem PySem.Spec PyProof.Rows Sd
structure UpIn (S : List (Int × Int)) (l x m : List Int) : Prop where
  sub : ∀ c ∈ m, c ∈ l
  quiet : ∀ a ∈ m, ∀ b ∈ m, (a, b) ∉ S
  free : ∀ c ∈ m, c ∉ x
  ans : ∀ c ∈ m, ∀ a ∈ l, (a, c) ∈ S → ∃ b ∈ m, (b, a) ∈ S
theorem alone_up {S : List (Int × Int)} {l x k : List Int} (nd : l.Nodup) (hk : List.Sublist k (Sd.upTo l.length)) : UpL l.length (aloneP S l x) k ↔ UpIn S l x (telL l k) := by
  have rg : ∀ i ∈ k, 0 ≤ i ∧ i < l.length := fun i hi => Sd.mem_upTo.mp (hk.subset hi)
  have tm : ∀ i ∈ k, at0 l i ∈ telL l k := fun i hi => mem_telL.mpr ⟨i, hi, rfl⟩
  constructor
  · rintro ⟨_, h1, h2⟩
    refine ⟨fun c hc => ?_, fun a ha b hb => ?_, fun c hc => ?_, fun c hc a ha hz => ?_⟩
    · obtain ⟨i, hi, rfl⟩ := mem_telL.mp hc
      exact at0_mem (rg i hi)
    · obtain ⟨i, hi, rfl⟩ := mem_telL.mp ha
      obtain ⟨j, hj, rfl⟩ := mem_telL.mp hb
      exact fun z => h1 i hi j hj ((mem_alone nd).mpr ⟨⟨rg i hi, rg j hj⟩, .inl z⟩)
    · obtain ⟨i, hi, rfl⟩ := mem_telL.mp hc
      exact fun z => h1 i hi i hi ((mem_alone nd).mpr ⟨⟨rg i hi, rg i hi⟩, .inr ⟨rfl, z⟩⟩)
    · obtain ⟨i, hi, rfl⟩ := mem_telL.mp hc
      have e := at0_plc ha
      have hs : (plc l a, i) ∈ aloneP S l x := (mem_alone nd).mpr ⟨⟨plc_lt ha, rg i hi⟩, .inl (by rw [e]; exact hz)⟩
      obtain ⟨b, hb, hba⟩ := h2 i hi _ hs
      rcases ((mem_alone nd).mp hba).2 with z | ⟨z, _⟩
      · exact ⟨at0 l b, tm b hb, by rw [e] at z; exact z⟩
      · rw [← z] at hs
        exact absurd hs (h1 b hb i hi)
  · rintro ⟨_, h1, h3, h2⟩
    refine ⟨hk, fun i hi j hj hz => ?_, fun j hj i hz => ?_⟩
    · rcases ((mem_alone nd).mp hz).2 with z | ⟨_, z⟩
      · exact h1 _ (tm i hi) _ (tm j hj) z
      · exact h3 _ (tm i hi) z
    · obtain ⟨⟨hi, _⟩, hz⟩ := (mem_alone nd).mp hz
      rcases hz with z | ⟨e, z⟩
      · obtain ⟨b, hb, hba⟩ := h2 _ (tm j hj) _ (at0_mem hi) z
        obtain ⟨b', hb', rfl⟩ := mem_telL.mp hb
        exact ⟨b', hb', (mem_alone nd).mpr ⟨⟨rg b' hb', hi⟩, .inl hba⟩⟩
      · subst e
        exact absurd z (h3 _ (tm i hj))
/-- the splitting of upheld lots -/
theorem split_up {n : Int} {S : List (Int × Int)} {U L : List Int} (v : VD n S) (a : AV n S U) (hL : List.Sublist L (Sd.upTo n)) : UpL n S L ↔ UpIn S U [] (L.filter fun c => decide (c ∈ U)) ∧ UpIn S (openL n U (strL S (L.filter fun c => decide (c ∈ U)))) (strL S (looseL U (L.filter fun c => decide (c ∈ U)) (strL S (L.filter fun c => decide (c ∈ U))))) (L.filter fun c => !decide (c ∈ U)) := by
  have mm : ∀ c, c ∈ (L.filter fun c => decide (c ∈ U)) ↔ c ∈ L ∧ c ∈ U := fun c => by rw [List.mem_filter, decide_eq_true_iff]
  have mo : ∀ c, c ∈ (L.filter fun c => !decide (c ∈ U)) ↔ c ∈ L ∧ c ∉ U := fun c => by rw [List.mem_filter, Bool.not_eq_true', decide_eq_false_iff_not]
  generalize (L.filter fun c => decide (c ∈ U)) = m at *
  generalize (L.filter fun c => !decide (c ∈ U)) = o at *
  have op : ∀ c, c ∈ openL n U (strL S m) ↔ (0 ≤ c ∧ c < n) ∧ c ∉ U ∧ c ∉ strL S m := fun c => by
    unfold openL
    rw [List.mem_filter, Sd.mem_upTo, Bool.and_eq_true, Bool.not_eq_true', Bool.not_eq_true', decide_eq_false_iff_not, decide_eq_false_iff_not]
  have lo : ∀ c, c ∈ looseL U m (strL S m) ↔ c ∈ U ∧ c ∉ m ∧ c ∉ strL S m := fun c => by
    unfold looseL
    rw [List.mem_filter, Bool.and_eq_true, Bool.not_eq_true', Bool.not_eq_true', decide_eq_false_iff_not, decide_eq_false_iff_not]
  have rgL : ∀ c ∈ L, 0 ≤ c ∧ c < n := fun c hc => Sd.mem_upTo.mp (hL.subset hc)
  constructor
  · rintro ⟨_, h1, h2⟩
    refine ⟨⟨fun c hc => ((mm c).mp hc).2, fun x hx y hy => h1 x ((mm x).mp hx).1 y ((mm y).mp hy).1, fun c _ h => (by cases h), fun c hc b hb hz => ?_⟩, ⟨fun c hc => ?_, fun x hx y hy => h1 x ((mo x).mp hx).1 y ((mo y).mp hy).1, fun c hc hl => ?_, fun c hc b hb hz => ?_⟩⟩
    · obtain ⟨d, hd, hdb⟩ := h2 c ((mm c).mp hc).1 b hz
      exact ⟨d, (mm d).mpr ⟨hd, a.cl _ hdb hb⟩, hdb⟩
    · have hc := (mo c).mp hc
      refine (op c).mpr ⟨rgL c hc.1, hc.2, fun z => ?_⟩
      obtain ⟨b, hb, hbc⟩ := mem_strL'.mp z
      exact h1 b ((mm b).mp hb).1 c hc.1 hbc
    · obtain ⟨u, hu, huc⟩ := mem_strL'.mp hl
      obtain ⟨u1, u2, u3⟩ := (lo u).mp hu
      obtain ⟨d, hd, hdu⟩ := h2 c ((mo c).mp hc).1 u huc
      exact u3 (mem_strL'.mpr ⟨d, (mm d).mpr ⟨hd, a.cl _ hdu u1⟩, hdu⟩)
    · obtain ⟨d, hd, hdb⟩ := h2 c ((mo c).mp hc).1 b hz
      refine ⟨d, (mo d).mpr ⟨hd, fun hu => ?_⟩, hdb⟩
      exact ((op b).mp hb).2.2 (mem_strL'.mpr ⟨d, (mm d).mpr ⟨hd, hu⟩, hdb⟩)
  · rintro ⟨f, g⟩
    refine ⟨hL, fun x hx y hy hz => ?_, fun c hc b hz => ?_⟩
    · by_cases hyU : y ∈ U
      · have hxU : x ∈ U := a.cl _ hz hyU
        exact f.quiet x ((mm x).mpr ⟨hx, hxU⟩) y ((mm y).mpr ⟨hy, hyU⟩) hz
      · by_cases hxU : x ∈ U
        · exact ((op y).mp (g.sub y ((mo y).mpr ⟨hy, hyU⟩))).2.2 (mem_strL'.mpr ⟨x, (mm x).mpr ⟨hx, hxU⟩, hz⟩)
        · exact g.quiet x ((mo x).mpr ⟨hx, hxU⟩) y ((mo y).mpr ⟨hy, hyU⟩) hz
    · by_cases hcU : c ∈ U
      · obtain ⟨d, hd, k⟩ := f.ans c ((mm c).mpr ⟨hc, hcU⟩) b (a.cl _ hz hcU) hz
        exact ⟨d, ((mm d).mp hd).1, k⟩
      · have hco := (mo c).mpr ⟨hc, hcU⟩
        by_cases hs : b ∈ strL S m
        · obtain ⟨d, hd, k⟩ := mem_strL'.mp hs
          exact ⟨d, ((mm d).mp hd).1, k⟩
        · by_cases hbU : b ∈ U
          · by_cases hbm : b ∈ m
            · exact absurd (mem_strL'.mpr ⟨b, hbm, hz⟩) ((op c).mp (g.sub c hco)).2.2
            · exact absurd (mem_strL'.mpr ⟨b, (lo b).mpr ⟨hbU, hbm, hs⟩, hz⟩) (g.free c hco)
          · have hb : b ∈ openL n U (strL S m) := (op b).mpr ⟨⟨(v.rng _ hz).1, (v.rng _ hz).2.1⟩, hbU, hs⟩
            obtain ⟨d, hd, k⟩ := g.ans c hco b hb hz
            exact ⟨d, ((mo d).mp hd).1, k⟩
end Cm
/-! full lots, settled lots: among claims alone, split -/
namespace Cm
open PySem PySem.Spec PyProof.Rows Sd
theorem mem_fullL {n : Int} {S : List (Int × Int)} {l : List Int} : l ∈ fullL n S ↔ UpL n S l ∧ ∀ c, 0 ≤ c → c < n → (∀ a, (a, c) ∈ S → ∃ b ∈ l, (b, a) ∈ S) → c ∈ l := by
  rw [← law_full, List.mem_filter, mem_upheldL, decide_eq_true_iff]
  refine and_congr_right fun h => ?_
  constructor
  · intro e c h0 h1 hc
    rw [← e, mem_defL]
    exact ⟨⟨h0, h1⟩, fun a ha => mem_strL'.mpr (hc a ha)⟩
  · intro hc
    refine lot_ext (defL_sub n S l) h.1 fun c => ?_
    rw [mem_defL]
    constructor
    · rintro ⟨h1, h2⟩
      exact hc c h1.1 h1.2 fun a ha => mem_strL'.mp (h2 a ha)
    · intro hm
      exact ⟨Sd.mem_upTo.mp (h.1.subset hm), fun a ha => mem_strL'.mpr (h.2.2 c hm a ha)⟩
/-- full among l, with x striking themselves -/
def FuIn (S : List (Int × Int)) (l x m : List Int) : Prop := UpIn S l x m ∧ ∀ c ∈ l, c ∉ x → (∀ a ∈ l, (a, c) ∈ S → ∃ b ∈ m, (b, a) ∈ S) → c ∈ m
theorem alone_fu {S : List (Int × Int)} {l x k : List Int} (nd : l.Nodup) (hk : List.Sublist k (Sd.upTo l.length)) : k ∈ fullL l.length (aloneP S l x) ↔ FuIn S l x (telL l k) := by
  rw [mem_fullL, alone_up nd hk]
  unfold FuIn
  refine and_congr_right fun u => ?_
  have rg : ∀ i ∈ k, 0 ≤ i ∧ i < l.length := fun i hi => Sd.mem_upTo.mp (hk.subset hi)
  constructor
  · intro h c hc hx ha
    have e := at0_plc hc
    refine mem_telL.mpr ⟨plc l c, h _ (plc_lt hc).1 (plc_lt hc).2 fun i hz => ?_, e⟩
    obtain ⟨⟨hi, _⟩, hz⟩ := (mem_alone nd).mp hz
    rcases hz with z | ⟨z, z2⟩
    · rw [e] at z
      obtain ⟨b, hb, hba⟩ := ha _ (at0_mem hi) z
      obtain ⟨j, hj, rfl⟩ := mem_telL.mp hb
      exact ⟨j, hj, (mem_alone nd).mpr ⟨⟨rg j hj, hi⟩, .inl hba⟩⟩
    · rw [z, e] at z2
      exact absurd z2 hx
  · intro h i h0 h1 ha
    have hx : at0 l i ∉ x := fun hx => by
      obtain ⟨b, hb, hbi⟩ := ha i ((mem_alone nd).mpr ⟨⟨⟨h0, h1⟩, h0, h1⟩, .inr ⟨rfl, hx⟩⟩)
      obtain ⟨d, hd, hdb⟩ := ha b hbi
      have q := u.quiet _ (mem_telL.mpr ⟨d, hd, rfl⟩) _ (mem_telL.mpr ⟨b, hb, rfl⟩)
      rcases ((mem_alone nd).mp hdb).2 with z | ⟨z, z2⟩
      · exact q z
      · exact u.free _ (mem_telL.mpr ⟨d, hd, rfl⟩) z2
    have hm := h (at0 l i) (at0_mem ⟨h0, h1⟩) hx fun a hal hz => by
      have e := at0_plc hal
      obtain ⟨b, hb, hba⟩ := ha (plc l a) ((mem_alone nd).mpr ⟨⟨plc_lt hal, h0, h1⟩, .inl (by rw [e]; exact hz)⟩)
      rcases ((mem_alone nd).mp hba).2 with z | ⟨z, z2⟩
      · exact ⟨_, mem_telL.mpr ⟨b, hb, rfl⟩, by rw [e] at z; exact z⟩
      · exact absurd z2 (u.free _ (mem_telL.mpr ⟨b, hb, rfl⟩))
    obtain ⟨j, hj, e⟩ := mem_telL.mp hm
    rw [← at0_inj nd (rg j hj) ⟨h0, h1⟩ e]
    exact hj
end Cm
/-! the splitting of full lots -/
namespace Cm
open PySem PySem.Spec PyProof.Rows Sd
theorem split_fu {n : Int} {S : List (Int × Int)} {U L : List Int} (v : VD n S) (a : AV n S U) (hL : List.Sublist L (Sd.upTo n)) : L ∈ fullL n S ↔ FuIn S U [] (L.filter fun c => decide (c ∈ U)) ∧ FuIn S (openL n U (strL S (L.filter fun c => decide (c ∈ U)))) (strL S (looseL U (L.filter fun c => decide (c ∈ U)) (strL S (L.filter fun c => decide (c ∈ U))))) (L.filter fun c => !decide (c ∈ U)) := by
  rw [mem_fullL]
  have su := split_up v a hL
  have mm : ∀ c, c ∈ (L.filter fun c => decide (c ∈ U)) ↔ c ∈ L ∧ c ∈ U := fun c => by rw [List.mem_filter, decide_eq_true_iff]
  have mo : ∀ c, c ∈ (L.filter fun c => !decide (c ∈ U)) ↔ c ∈ L ∧ c ∉ U := fun c => by rw [List.mem_filter, Bool.not_eq_true', decide_eq_false_iff_not]
  generalize (L.filter fun c => decide (c ∈ U)) = m at *
  generalize (L.filter fun c => !decide (c ∈ U)) = o at *
  have op : ∀ c, c ∈ openL n U (strL S m) ↔ (0 ≤ c ∧ c < n) ∧ c ∉ U ∧ c ∉ strL S m := fun c => by
    unfold openL
    rw [List.mem_filter, Sd.mem_upTo, Bool.and_eq_true, Bool.not_eq_true', Bool.not_eq_true', decide_eq_false_iff_not, decide_eq_false_iff_not]
  have lo : ∀ c, c ∈ looseL U m (strL S m) ↔ c ∈ U ∧ c ∉ m ∧ c ∉ strL S m := fun c => by
    unfold looseL
    rw [List.mem_filter, Bool.and_eq_true, Bool.not_eq_true', Bool.not_eq_true', decide_eq_false_iff_not, decide_eq_false_iff_not]
  unfold FuIn
  constructor
  · rintro ⟨u, h⟩
    obtain ⟨f, g⟩ := su.mp u
    refine ⟨⟨f, fun c hc _ ha => ?_⟩, ⟨g, fun c hc hx ha => ?_⟩⟩
    · have r := a.rng c hc
      refine (mm c).mpr ⟨h c r.1 r.2 fun b hb => ?_, hc⟩
      obtain ⟨d, hd, k⟩ := ha b (a.cl _ hb hc) hb
      exact ⟨d, ((mm d).mp hd).1, k⟩
    · obtain ⟨r, hcU, hcs⟩ := (op c).mp hc
      refine (mo c).mpr ⟨h c r.1 r.2 fun b hb => ?_, hcU⟩
      by_cases hs : b ∈ strL S m
      · obtain ⟨d, hd, k⟩ := mem_strL'.mp hs
        exact ⟨d, ((mm d).mp hd).1, k⟩
      · by_cases hbU : b ∈ U
        · by_cases hbm : b ∈ m
          · exact absurd (mem_strL'.mpr ⟨b, hbm, hb⟩) hcs
          · exact absurd (mem_strL'.mpr ⟨b, (lo b).mpr ⟨hbU, hbm, hs⟩, hb⟩) hx
        · obtain ⟨d, hd, k⟩ := ha b ((op b).mpr ⟨⟨(v.rng _ hb).1, (v.rng _ hb).2.1⟩, hbU, hs⟩) hb
          exact ⟨d, ((mo d).mp hd).1, k⟩
  · rintro ⟨⟨f, hf⟩, ⟨g, hg⟩⟩
    have u := su.mpr ⟨f, g⟩
    refine ⟨u, fun c h0 h1 ha => ?_⟩
    by_cases hcU : c ∈ U
    · refine ((mm c).mp (hf c hcU (fun z => by cases z) fun b hbU hb => ?_)).1
      obtain ⟨d, hd, k⟩ := ha b hb
      exact ⟨d, (mm d).mpr ⟨hd, a.cl _ k hbU⟩, k⟩
    · have hcs : c ∉ strL S m := fun z => by
        obtain ⟨w, hw, hz⟩ := mem_strL'.mp z
        obtain ⟨d, hd, k⟩ := ha w hz
        exact u.2.1 d hd w ((mm w).mp hw).1 k
      have hco : c ∈ openL n U (strL S m) := (op c).mpr ⟨⟨h0, h1⟩, hcU, hcs⟩
      refine ((mo c).mp (hg c hco (fun z => ?_) fun b hbo hb => ?_)).1
      · obtain ⟨w, hw, hz⟩ := mem_strL'.mp z
        obtain ⟨w1, w2, w3⟩ := (lo w).mp hw
        obtain ⟨d, hd, k⟩ := ha w hz
        exact w3 (mem_strL'.mpr ⟨d, (mm d).mpr ⟨hd, a.cl _ k w1⟩, k⟩)
      · obtain ⟨d, hd, k⟩ := ha b hb
        refine ⟨d, (mo d).mpr ⟨hd, fun hu => ?_⟩, k⟩
        exact ((op b).mp hbo).2.2 (mem_strL'.mpr ⟨d, (mm d).mpr ⟨hd, hu⟩, k⟩)
end Cm
/-! settled lots: among claims alone -/
namespace Cm
open PySem PySem.Spec PyProof.Rows Sd
structure SeIn (S : List (Int × Int)) (l x m : List Int) : Prop where
  sub : ∀ c ∈ m, c ∈ l
  free : ∀ c ∈ m, c ∉ x
  ans : ∀ c ∈ l, (c ∉ m ↔ ∃ b ∈ m, (b, c) ∈ S)
theorem alone_se {S : List (Int × Int)} {l x k : List Int} (nd : l.Nodup) (hk : List.Sublist k (Sd.upTo l.length)) : StL l.length (aloneP S l x) k ↔ SeIn S l x (telL l k) := by
  have rg : ∀ i ∈ k, 0 ≤ i ∧ i < l.length := fun i hi => Sd.mem_upTo.mp (hk.subset hi)
  have tm : ∀ i : Int, 0 ≤ i ∧ i < (l.length : Int) → (at0 l i ∈ telL l k ↔ i ∈ k) := fun i hi => by
    rw [mem_telL]
    constructor
    · rintro ⟨j, hj, e⟩
      rw [← at0_inj nd (rg j hj) hi e]; exact hj
    · intro h; exact ⟨i, h, rfl⟩
  constructor
  · rintro ⟨_, h⟩
    have fr : ∀ c ∈ telL l k, c ∉ x := fun c hc => by
      obtain ⟨i, hi, rfl⟩ := mem_telL.mp hc
      exact fun z => (h i (rg i hi).1 (rg i hi).2).mpr ⟨i, hi, (mem_alone nd).mpr ⟨⟨rg i hi, rg i hi⟩, .inr ⟨rfl, z⟩⟩⟩ hi
    refine ⟨fun c hc => ?_, fr, fun c hc => ?_⟩
    · obtain ⟨i, hi, rfl⟩ := mem_telL.mp hc
      exact at0_mem (rg i hi)
    · have e := at0_plc hc
      have p := plc_lt hc
      have hh := h _ p.1 p.2
      rw [← tm _ p, e] at hh
      rw [hh]
      constructor
      · rintro ⟨b, hb, z⟩
        rcases ((mem_alone nd).mp z).2 with z | ⟨z, z2⟩
        · exact ⟨at0 l b, (tm b (rg b hb)).mpr hb, by rw [e] at z; exact z⟩
        · exact absurd z2 (fr _ ((tm b (rg b hb)).mpr hb))
      · rintro ⟨b, hb, z⟩
        obtain ⟨j, hj, rfl⟩ := mem_telL.mp hb
        exact ⟨j, hj, (mem_alone nd).mpr ⟨⟨rg j hj, p⟩, .inl (by rw [e]; exact z)⟩⟩
  · rintro ⟨_, fr, h⟩
    refine ⟨hk, fun i h0 h1 => ?_⟩
    have hi : 0 ≤ i ∧ i < l.length := ⟨h0, h1⟩
    have hh := h _ (at0_mem hi)
    rw [tm i hi] at hh
    rw [hh]
    constructor
    · rintro ⟨b, hb, z⟩
      obtain ⟨j, hj, rfl⟩ := mem_telL.mp hb
      exact ⟨j, hj, (mem_alone nd).mpr ⟨⟨rg j hj, hi⟩, .inl z⟩⟩
    · rintro ⟨b, hb, z⟩
      rcases ((mem_alone nd).mp z).2 with z | ⟨z, z2⟩
      · exact ⟨at0 l b, (tm b (rg b hb)).mpr hb, z⟩
      · exact absurd z2 (fr _ ((tm b (rg b hb)).mpr hb))
end Cm
/-! the splitting of settled lots -/
namespace Cm
open PySem PySem.Spec PyProof.Rows Sd
theorem split_se {n : Int} {S : List (Int × Int)} {U L : List Int} (v : VD n S) (a : AV n S U) (hL : List.Sublist L (Sd.upTo n)) : StL n S L ↔ SeIn S U [] (L.filter fun c => decide (c ∈ U)) ∧ SeIn S (openL n U (strL S (L.filter fun c => decide (c ∈ U)))) (strL S (looseL U (L.filter fun c => decide (c ∈ U)) (strL S (L.filter fun c => decide (c ∈ U))))) (L.filter fun c => !decide (c ∈ U)) := by
  have mm : ∀ c, c ∈ (L.filter fun c => decide (c ∈ U)) ↔ c ∈ L ∧ c ∈ U := fun c => by rw [List.mem_filter, decide_eq_true_iff]
  have mo : ∀ c, c ∈ (L.filter fun c => !decide (c ∈ U)) ↔ c ∈ L ∧ c ∉ U := fun c => by rw [List.mem_filter, Bool.not_eq_true', decide_eq_false_iff_not]
  generalize (L.filter fun c => decide (c ∈ U)) = m at *
  generalize (L.filter fun c => !decide (c ∈ U)) = o at *
  have op : ∀ c, c ∈ openL n U (strL S m) ↔ (0 ≤ c ∧ c < n) ∧ c ∉ U ∧ c ∉ strL S m := fun c => by
    unfold openL
    rw [List.mem_filter, Sd.mem_upTo, Bool.and_eq_true, Bool.not_eq_true', Bool.not_eq_true', decide_eq_false_iff_not, decide_eq_false_iff_not]
  have lo : ∀ c, c ∈ looseL U m (strL S m) ↔ c ∈ U ∧ c ∉ m ∧ c ∉ strL S m := fun c => by
    unfold looseL
    rw [List.mem_filter, Bool.and_eq_true, Bool.not_eq_true', Bool.not_eq_true', decide_eq_false_iff_not, decide_eq_false_iff_not]
  have rgL : ∀ c ∈ L, 0 ≤ c ∧ c < n := fun c hc => Sd.mem_upTo.mp (hL.subset hc)
  constructor
  · rintro ⟨_, h⟩
    refine ⟨⟨fun c hc => ((mm c).mp hc).2, fun c _ z => (by cases z), fun c hc => ?_⟩, ⟨fun c hc => ?_, fun c hc z => ?_, fun c hc => ?_⟩⟩
    · have r := a.rng c hc
      have hh := h c r.1 r.2
      rw [show (c ∉ m ↔ c ∉ L) from not_congr ((mm c).trans ⟨fun z => z.1, fun z => ⟨z, hc⟩⟩), hh]
      exact ⟨fun ⟨b, hb, z⟩ => ⟨b, (mm b).mpr ⟨hb, a.cl _ z hc⟩, z⟩, fun ⟨b, hb, z⟩ => ⟨b, ((mm b).mp hb).1, z⟩⟩
    · have hc := (mo c).mp hc
      have r := rgL c hc.1
      refine (op c).mpr ⟨r, hc.2, fun z => ?_⟩
      obtain ⟨b, hb, k⟩ := mem_strL'.mp z
      exact (h c r.1 r.2).mpr ⟨b, ((mm b).mp hb).1, k⟩ hc.1
    · obtain ⟨u, hu, _⟩ := mem_strL'.mp z
      obtain ⟨u1, u2, u3⟩ := (lo u).mp hu
      have r := a.rng u u1
      obtain ⟨b, hb, k⟩ := (h u r.1 r.2).mp fun q => u2 ((mm u).mpr ⟨q, u1⟩)
      exact u3 (mem_strL'.mpr ⟨b, (mm b).mpr ⟨hb, a.cl _ k u1⟩, k⟩)
    · obtain ⟨r, hcU, hcs⟩ := (op c).mp hc
      rw [show (c ∉ o ↔ c ∉ L) from not_congr ((mo c).trans ⟨fun z => z.1, fun z => ⟨z, hcU⟩⟩), h c r.1 r.2]
      exact ⟨fun ⟨b, hb, z⟩ => ⟨b, (mo b).mpr ⟨hb, fun q => hcs (mem_strL'.mpr ⟨b, (mm b).mpr ⟨hb, q⟩, z⟩)⟩, z⟩, fun ⟨b, hb, z⟩ => ⟨b, ((mo b).mp hb).1, z⟩⟩
  · rintro ⟨f, g⟩
    refine ⟨hL, fun c h0 h1 => ?_⟩
    by_cases hcU : c ∈ U
    · rw [show (c ∉ L ↔ c ∉ m) from not_congr ⟨fun z => (mm c).mpr ⟨z, hcU⟩, fun z => ((mm c).mp z).1⟩, f.ans c hcU]
      exact ⟨fun ⟨b, hb, z⟩ => ⟨b, ((mm b).mp hb).1, z⟩, fun ⟨b, hb, z⟩ => ⟨b, (mm b).mpr ⟨hb, a.cl _ z hcU⟩, z⟩⟩
    · have e : c ∉ L ↔ c ∉ o := not_congr ⟨fun z => (mo c).mpr ⟨z, hcU⟩, fun z => ((mo c).mp z).1⟩
      rw [e]
      by_cases hs : c ∈ strL S m
      · obtain ⟨b, hb, k⟩ := mem_strL'.mp hs
        exact ⟨fun _ => ⟨b, ((mm b).mp hb).1, k⟩, fun _ z => ((op c).mp (g.sub c z)).2.2 hs⟩
      · rw [g.ans c ((op c).mpr ⟨⟨h0, h1⟩, hcU, hs⟩)]
        exact ⟨fun ⟨b, hb, z⟩ => ⟨b, ((mo b).mp hb).1, z⟩, fun ⟨b, hb, z⟩ => ⟨b, (mo b).mpr ⟨hb, fun q => hs (mem_strL'.mpr ⟨b, (mm b).mpr ⟨hb, q⟩, z⟩)⟩, z⟩⟩
end Cm
/-! the lots of a reading among claims alone; the splitting in each reading -/
namespace Cm
open PySem PySem.Spec PyProof.Rows Sd
theorem UpIn.congr {S : List (Int × Int)} {l l' x x' m m' : List Int} (hl : ∀ c, c ∈ l ↔ c ∈ l') (hx : ∀ c ∈ l, (c ∈ x ↔ c ∈ x')) (hm : ∀ c, c ∈ m ↔ c ∈ m') (h : UpIn S l x m) : UpIn S l' x' m' := by
  refine ⟨fun c hc => (hl c).mp (h.sub c ((hm c).mpr hc)), fun a ha b hb => h.quiet a ((hm a).mpr ha) b ((hm b).mpr hb), fun c hc z => ?_, fun c hc a ha hz => ?_⟩
  · have hc := (hm c).mpr hc
    exact h.free c hc ((hx c (h.sub c hc)).mpr z)
  · obtain ⟨b, hb, k⟩ := h.ans c ((hm c).mpr hc) a ((hl a).mpr ha) hz
    exact ⟨b, (hm b).mp hb, k⟩
theorem FuIn.congr {S : List (Int × Int)} {l l' x x' m m' : List Int} (hl : ∀ c, c ∈ l ↔ c ∈ l') (hx : ∀ c ∈ l, (c ∈ x ↔ c ∈ x')) (hm : ∀ c, c ∈ m ↔ c ∈ m') (h : FuIn S l x m) : FuIn S l' x' m' := by
  refine ⟨h.1.congr hl hx hm, fun c hc hn ha => (hm c).mp (h.2 c ((hl c).mpr hc) (fun z => hn ((hx c ((hl c).mpr hc)).mp z)) fun a hal hz => ?_)⟩
  obtain ⟨b, hb, k⟩ := ha a ((hl a).mp hal) hz
  exact ⟨b, (hm b).mpr hb, k⟩
theorem SeIn.congr {S : List (Int × Int)} {l l' x x' m m' : List Int} (hl : ∀ c, c ∈ l ↔ c ∈ l') (hx : ∀ c ∈ l, (c ∈ x ↔ c ∈ x')) (hm : ∀ c, c ∈ m ↔ c ∈ m') (h : SeIn S l x m) : SeIn S l' x' m' := by
  refine ⟨fun c hc => (hl c).mp (h.sub c ((hm c).mpr hc)), fun c hc z => ?_, fun c hc => ?_⟩
  · have hc := (hm c).mpr hc
    exact h.free c hc ((hx c (h.sub c hc)).mpr z)
  · have := h.ans c ((hl c).mpr hc)
    rw [hm] at this
    rw [this]
    exact ⟨fun ⟨b, hb, k⟩ => ⟨b, (hm b).mp hb, k⟩, fun ⟨b, hb, k⟩ => ⟨b, (hm b).mpr hb, k⟩⟩
/-- a lot of a reading among l, with x striking themselves -/
def InR (S : List (Int × Int)) (l x : List Int) : Rd5 → List Int → Prop
  | .up, m => UpIn S l x m
  | .fu, m => FuIn S l x m
  | .gr, m => UpIn S l x m ∧ ∀ o, UpIn S l x o → (∀ c ∈ m, c ∈ o) → ∀ c ∈ o, c ∈ m
  | .se, m => SeIn S l x m
  | .pl, m => FuIn S l x m ∧ ∀ o, FuIn S l x o → ∀ c ∈ m, c ∈ o
theorem InR.congr {S : List (Int × Int)} {l l' x x' m m' : List Int} {r : Rd5} (hl : ∀ c, c ∈ l ↔ c ∈ l') (hx : ∀ c ∈ l, (c ∈ x ↔ c ∈ x')) (hm : ∀ c, c ∈ m ↔ c ∈ m') (h : InR S l x r m) : InR S l' x' r m' := by
  have hl' : ∀ c, c ∈ l' ↔ c ∈ l := fun c => (hl c).symm
  have hx' : ∀ c ∈ l', (c ∈ x' ↔ c ∈ x) := fun c hc => (hx c ((hl c).mpr hc)).symm
  cases r with
  | up => exact UpIn.congr hl hx hm h
  | fu => exact FuIn.congr hl hx hm h
  | se => exact SeIn.congr hl hx hm h
  | gr => exact ⟨UpIn.congr hl hx hm h.1, fun o ho hs c hc => (hm c).mp (h.2 o (UpIn.congr hl' hx' (fun _ => Iff.rfl) ho) (fun c hc => hs c ((hm c).mp hc)) c hc)⟩
  | pl => exact ⟨FuIn.congr hl hx hm h.1, fun o ho c hc => h.2 o (FuIn.congr hl' hx' (fun _ => Iff.rfl) ho) c ((hm c).mpr hc)⟩
theorem InR.sub {S : List (Int × Int)} {l x m : List Int} {r : Rd5} (h : InR S l x r m) : ∀ c ∈ m, c ∈ l := by
  cases r with
  | up => exact UpIn.sub h
  | fu => exact UpIn.sub h.1
  | se => exact SeIn.sub h
  | gr => exact UpIn.sub h.1
  | pl => exact UpIn.sub h.1.1
theorem full_sub {n : Int} {S : List (Int × Int)} {l : List Int} (h : l ∈ fullL n S) : List.Sublist l (Sd.upTo n) := (mem_fullL.mp h).1.1
theorem mem_greatL {n : Int} {S : List (Int × Int)} {l : List Int} : l ∈ greatL n S ↔ UpL n S l ∧ ∀ o, UpL n S o → (∀ c ∈ l, c ∈ o) → o = l := by
  unfold greatL
  rw [List.mem_filter, mem_upheldL]
  refine and_congr_right fun _ => ?_
  unfold topB
  rw [Bool.not_eq_true', List.any_eq_false]
  constructor
  · intro h o ho hs
    have := h o (mem_upheldL.mpr ho)
    rw [Bool.and_eq_true, Bool.not_eq_true', decide_eq_false_iff_not, withinB_iff] at this
    exact Decidable.byContradiction fun c => this ⟨c, hs⟩
  · intro h o ho hz
    rw [Bool.and_eq_true, Bool.not_eq_true', decide_eq_false_iff_not, withinB_iff] at hz
    exact hz.1 (h o (mem_upheldL.mp ho) hz.2)
theorem mem_plainL {n : Int} {S : List (Int × Int)} {l : List Int} : l ∈ [plainL n S] ↔ l ∈ fullL n S ∧ ∀ o ∈ fullL n S, ∀ c ∈ l, c ∈ o := by
  rw [← law_plain, List.mem_filter, List.all_eq_true]
  exact and_congr_right fun _ => ⟨fun h o ho => withinB_iff.mp (h o ho), fun h o ho => withinB_iff.mpr (h o ho)⟩
theorem tel_num_sub {l m : List Int} (h : ∀ c ∈ m, c ∈ l) : ∀ c, c ∈ telL l (numL l m) ↔ c ∈ m := fun c => mem_tel_num.trans ⟨fun z => z.2, fun z => ⟨h c z, z⟩⟩
theorem tel_within {l k k' : List Int} (nd : l.Nodup) (hk : List.Sublist k (Sd.upTo l.length)) (hk' : List.Sublist k' (Sd.upTo l.length)) : (∀ c ∈ telL l k, c ∈ telL l k') ↔ ∀ c ∈ k, c ∈ k' := by
  constructor
  · intro h i hi
    obtain ⟨j, hj, e⟩ := mem_telL.mp (h _ (mem_telL.mpr ⟨i, hi, rfl⟩))
    rw [← at0_inj nd (Sd.mem_upTo.mp (hk'.subset hj)) (Sd.mem_upTo.mp (hk.subset hi)) e]; exact hj
  · intro h c hc
    obtain ⟨i, hi, rfl⟩ := mem_telL.mp hc
    exact mem_telL.mpr ⟨i, h i hi, rfl⟩
theorem alone_rd {S : List (Int × Int)} {l x k : List Int} (nd : l.Nodup) (v : VD l.length (aloneP S l x)) (r : Rd5) : k ∈ readL l.length (aloneP S l x) r ↔ List.Sublist k (Sd.upTo l.length) ∧ InR S l x r (telL l k) := by
  constructor
  · intro h
    have hk := readL_sub h
    refine ⟨hk, ?_⟩
    cases r with
    | up => exact (alone_up nd hk).mp (mem_upheldL.mp h)
    | fu => exact (alone_fu nd hk).mp h
    | se => exact (alone_se nd hk).mp ((mem_settledL v).mp h)
    | gr =>
      obtain ⟨h1, h2⟩ := mem_greatL.mp h
      refine ⟨(alone_up nd hk).mp h1, fun o ho hs c hc => ?_⟩
      have tn := tel_num_sub ho.sub
      have hu := (alone_up nd (numL_sub l o)).mpr (UpIn.congr (fun _ => Iff.rfl) (fun _ _ => Iff.rfl) (fun c => (tn c).symm) ho)
      have e := h2 _ hu ((tel_within nd hk (numL_sub l o)).mp fun c hc => (tn c).mpr (hs c hc))
      rw [← e]
      exact (tn c).mpr hc
    | pl =>
      obtain ⟨h1, h2⟩ := mem_plainL.mp h
      refine ⟨(alone_fu nd hk).mp h1, fun o ho c hc => ?_⟩
      have tn := tel_num_sub ho.1.sub
      have hu := (alone_fu nd (numL_sub l o)).mpr (FuIn.congr (fun _ => Iff.rfl) (fun _ _ => Iff.rfl) (fun c => (tn c).symm) ho)
      exact (tn c).mp ((tel_within nd hk (numL_sub l o)).mpr (h2 _ hu) c hc)
  · rintro ⟨hk, h⟩
    cases r with
    | up => exact mem_upheldL.mpr ((alone_up nd hk).mpr h)
    | fu => exact (alone_fu nd hk).mpr h
    | se => exact (mem_settledL v).mpr ((alone_se nd hk).mpr h)
    | gr =>
      refine mem_greatL.mpr ⟨(alone_up nd hk).mpr h.1, fun o ho hs => ?_⟩
      have := h.2 _ ((alone_up nd ho.1).mp ho) ((tel_within nd hk ho.1).mpr hs)
      exact lot_ext ho.1 hk fun c => ⟨(tel_within nd ho.1 hk).mp this c, hs c⟩
    | pl =>
      refine mem_plainL.mpr ⟨(alone_fu nd hk).mpr h.1, fun o ho => ?_⟩
      exact (tel_within nd hk (full_sub ho)).mp (h.2 _ ((alone_fu nd (full_sub ho)).mp ho))
/-! ### the whole -/
theorem at0_upTo {n i : Int} (h : 0 ≤ i ∧ i < n) : at0 (Sd.upTo n) i = i := by
  unfold at0 Sd.upTo
  have : i.toNat < n.toNat := by omega
  simp [List.getD, this]
  omega
theorem tel_upTo {n : Int} {k : List Int} (h : ∀ i ∈ k, 0 ≤ i ∧ i < n) : telL (Sd.upTo n) k = k := by
  unfold telL
  have : k.map (fun i => (Sd.upTo n).getD i.toNat 0) = k.map id := List.map_congr_left fun i hi => at0_upTo (h i hi)
  rw [this, List.map_id]
theorem alone_whole {n : Int} {S : List (Int × Int)} (v : VD n S) : aloneP S (Sd.upTo n) [] = S := by
  have nn : ((Sd.upTo n).length : Int) = n := by rw [upTo_len]; have := v.n1; omega
  refine pw_ext2 (R := ltP) (fun a h => ?_) (fun a b h1 h2 => ?_) (aloneP_pw _ _ _) v.pw fun z => ?_
  · unfold ltP at h; omega
  · unfold ltP at h1 h2; omega
  · obtain ⟨i, j⟩ := z
    rw [mem_alone (upTo_nodup n), nn]
    constructor
    · rintro ⟨⟨h1, h2⟩, h | ⟨_, h⟩⟩
      · rw [at0_upTo h1, at0_upTo h2] at h; exact h
      · cases h
    · intro h
      have := v.rng _ h
      refine ⟨⟨⟨this.1, this.2.1⟩, this.2.2⟩, .inl ?_⟩
      rw [at0_upTo ⟨this.1, this.2.1⟩, at0_upTo this.2.2]; exact h
theorem mem_readL {n : Int} {S : List (Int × Int)} (v : VD n S) (r : Rd5) {L : List Int} : L ∈ readL n S r ↔ List.Sublist L (Sd.upTo n) ∧ InR S (Sd.upTo n) [] r L := by
  have nn : ((Sd.upTo n).length : Int) = n := by rw [upTo_len]; have := v.n1; omega
  have h := alone_rd (S := S) (l := Sd.upTo n) (x := []) (k := L) (upTo_nodup n) (by rw [alone_whole v, nn]; exact v) r
  rw [alone_whole v, nn] at h
  rw [h]
  refine and_congr_right fun hs => ?_
  rw [tel_upTo fun i hi => Sd.mem_upTo.mp (hs.subset hi)]
end Cm
/-! the splitting of the lots of each reading -/
namespace Cm
open PySem PySem.Spec PyProof.Rows Sd
abbrev opn (n : Int) (S : List (Int × Int)) (U m : List Int) : List Int := openL n U (strL S m)
abbrev los (S : List (Int × Int)) (U m : List Int) : List Int := strL S (looseL U m (strL S m))
theorem strL_mem {S : List (Int × Int)} {m m' : List Int} (h : ∀ c, c ∈ m ↔ c ∈ m') : strL S m = strL S m' := by
  unfold strL
  congr 1
  exact List.filter_congr fun z _ => decide_eq_decide.mpr (h z.1)
theorem opn_mem {n : Int} {S : List (Int × Int)} {U m m' : List Int} (h : ∀ c, c ∈ m ↔ c ∈ m') : opn n S U m = opn n S U m' := by
  unfold opn
  rw [strL_mem h]
theorem los_mem {S : List (Int × Int)} {U m m' : List Int} (h : ∀ c, c ∈ m ↔ c ∈ m') : los S U m = los S U m' := by
  unfold los
  rw [strL_mem h]
  congr 1
  unfold looseL
  exact List.filter_congr fun c _ => by rw [decide_eq_decide.mpr (h c)]
theorem mem_opn {n : Int} {S : List (Int × Int)} {U m : List Int} {c : Int} : c ∈ opn n S U m ↔ (0 ≤ c ∧ c < n) ∧ c ∉ U ∧ c ∉ strL S m := by
  unfold opn openL
  rw [List.mem_filter, Sd.mem_upTo, Bool.and_eq_true, Bool.not_eq_true', Bool.not_eq_true', decide_eq_false_iff_not, decide_eq_false_iff_not]
def inU (U L : List Int) : List Int := L.filter fun c => decide (c ∈ U)
def outU (U L : List Int) : List Int := L.filter fun c => !decide (c ∈ U)
theorem mem_inU {U L : List Int} {c : Int} : c ∈ inU U L ↔ c ∈ L ∧ c ∈ U := by
  unfold inU
  rw [List.mem_filter, decide_eq_true_iff]
theorem mem_outU {U L : List Int} {c : Int} : c ∈ outU U L ↔ c ∈ L ∧ c ∉ U := by
  unfold outU
  rw [List.mem_filter, Bool.not_eq_true', decide_eq_false_iff_not]
section
variable {n : Int} {S : List (Int × Int)} {U : List Int}
theorem split_b (v : VD n S) (a : AV n S U) {L : List Int} (hL : List.Sublist L (Sd.upTo n)) {r : Rd5} (hr : r = .up ∨ r = .fu ∨ r = .se) : InR S (Sd.upTo n) [] r L ↔ InR S U [] r (inU U L) ∧ InR S (opn n S U (inU U L)) (los S U (inU U L)) r (outU U L) := by
  have h := mem_readL v r (L := L)
  have h' : InR S (Sd.upTo n) [] r L ↔ L ∈ readL n S r := by rw [h]; exact ⟨fun z => ⟨hL, z⟩, fun z => z.2⟩
  rw [h']
  rcases hr with rfl | rfl | rfl
  · exact mem_upheldL.trans (split_up v a hL)
  · exact split_fu v a hL
  · exact (mem_settledL v).trans (split_se v a hL)
/-- put together -/
def both (n : Int) (m o : List Int) : List Int := (Sd.upTo n).filter fun c => decide (c ∈ m) || decide (c ∈ o)
theorem mem_both {m o : List Int} {c : Int} : c ∈ both n m o ↔ (0 ≤ c ∧ c < n) ∧ (c ∈ m ∨ c ∈ o) := by
  unfold both
  rw [List.mem_filter, Sd.mem_upTo, Bool.or_eq_true, decide_eq_true_iff, decide_eq_true_iff]
theorem both_sub (n : Int) (m o : List Int) : List.Sublist (both n m o) (Sd.upTo n) := List.filter_sublist
theorem both_in (a : AV n S U) {m o : List Int} (hm : ∀ c ∈ m, c ∈ U) (ho : ∀ c ∈ o, c ∈ opn n S U m) : ∀ c, c ∈ inU U (both n m o) ↔ c ∈ m := fun c => by
  rw [mem_inU, mem_both]
  constructor
  · rintro ⟨⟨_, h | h⟩, hu⟩
    · exact h
    · exact absurd hu (mem_opn.mp (ho c h)).2.1
  · intro h
    exact ⟨⟨a.rng c (hm c h), .inl h⟩, hm c h⟩
theorem both_out (a : AV n S U) {m o : List Int} (hm : ∀ c ∈ m, c ∈ U) (ho : ∀ c ∈ o, c ∈ opn n S U m) : ∀ c, c ∈ outU U (both n m o) ↔ c ∈ o := fun c => by
  rw [mem_outU, mem_both]
  constructor
  · rintro ⟨⟨_, h | h⟩, hu⟩
    · exact absurd (hm c h) hu
    · exact h
  · intro h
    have := mem_opn.mp (ho c h)
    exact ⟨⟨this.1, .inr h⟩, this.2.1⟩
theorem join_b (v : VD n S) (a : AV n S U) {m o : List Int} {r : Rd5} (hr : r = .up ∨ r = .fu ∨ r = .se) (h1 : InR S U [] r m) (h2 : InR S (opn n S U m) (los S U m) r o) : InR S (Sd.upTo n) [] r (both n m o) := by
  have e1 := both_in a h1.sub h2.sub
  have e2 := both_out a h1.sub h2.sub
  refine (split_b v a (both_sub n m o) hr).mpr ⟨h1.congr (fun _ => Iff.rfl) (fun _ _ => Iff.rfl) fun c => (e1 c).symm, ?_⟩
  rw [opn_mem e1, los_mem e1]
  exact h2.congr (fun _ => Iff.rfl) (fun _ _ => Iff.rfl) fun c => (e2 c).symm
theorem has_full (S : List (Int × Int)) {l : List Int} (x : List Int) (nd : l.Nodup) : ∃ p, FuIn S l x p := by
  have h := (mem_plainL (n := l.length) (S := aloneP S l x) (l := plainL l.length (aloneP S l x))).mp (by simp)
  exact ⟨_, (alone_fu nd (full_sub h.1)).mp h.1⟩
theorem opn_nodup (n : Int) (S : List (Int × Int)) (U m : List Int) : (opn n S U m).Nodup := openL_nodup
theorem split_pl1 (v : VD n S) (a : AV n S U) {L : List Int} (hL : List.Sublist L (Sd.upTo n)) (h : InR S (Sd.upTo n) [] .pl L) : InR S U [] .pl (inU U L) ∧ InR S (opn n S U (inU U L)) (los S U (inU U L)) .pl (outU U L) := by
  obtain ⟨h1, h2⟩ := h
  obtain ⟨f, g⟩ := (split_b v a hL (r := .fu) (.inr (.inl rfl))).mp h1
  refine ⟨⟨f, fun o ho c hc => ?_⟩, ⟨g, fun o ho c hc => ?_⟩⟩
  · obtain ⟨p, hp⟩ := has_full S (los S U o) (opn_nodup n S U o)
    have hw := join_b v a (r := .fu) (.inr (.inl rfl)) ho hp
    have hc := mem_inU.mp hc
    exact (both_in a ho.1.sub hp.1.sub c).mp (mem_inU.mpr ⟨h2 _ hw c hc.1, hc.2⟩)
  · have hw := join_b v a (r := .fu) (.inr (.inl rfl)) f ho
    have hc := mem_outU.mp hc
    exact (both_out a f.1.sub ho.1.sub c).mp (mem_outU.mpr ⟨h2 _ hw c hc.1, hc.2⟩)
theorem split_rd (v : VD n S) (a : AV n S U) {L : List Int} (hL : List.Sublist L (Sd.upTo n)) (r : Rd5) : InR S (Sd.upTo n) [] r L ↔ InR S U [] r (inU U L) ∧ InR S (opn n S U (inU U L)) (los S U (inU U L)) r (outU U L) := by
  cases r with
  | up => exact split_b v a hL (.inl rfl)
  | fu => exact split_b v a hL (.inr (.inl rfl))
  | se => exact split_b v a hL (.inr (.inr rfl))
  | gr =>
    constructor
    · rintro ⟨h1, h2⟩
      obtain ⟨f, g⟩ := (split_b v a hL (r := .up) (.inl rfl)).mp h1
      refine ⟨⟨f, fun o ho hs c hc => ?_⟩, ⟨g, fun o ho hs c hc => ?_⟩⟩
      · have hi : ∀ c ∈ L, c ∈ U → c ∈ o := fun c h1 h2 => hs c (mem_inU.mpr ⟨h1, h2⟩)
        have q := h1.quiet
        have w : UpIn S (Sd.upTo n) [] (both n L o) := by
          refine ⟨fun c hc => (both_sub n L o).subset hc, fun x hx y hy hz => ?_, fun c _ h => (by cases h), fun c hc x hx hz => ?_⟩
          · rcases (mem_both.mp hx).2 with hx | hx <;> rcases (mem_both.mp hy).2 with hy | hy
            · exact q x hx y hy hz
            · exact ho.quiet x (hi x hx (a.cl _ hz (ho.sub y hy))) y hy hz
            · obtain ⟨d, hd, k⟩ := h1.ans y hy x (Sd.mem_upTo.mpr (a.rng x (ho.sub x hx))) hz
              exact ho.quiet d (hi d hd (a.cl _ k (ho.sub x hx))) x hx k
            · exact ho.quiet x hx y hy hz
          · rcases (mem_both.mp hc).2 with hc | hc
            · obtain ⟨d, hd, k⟩ := h1.ans c hc x hx hz
              exact ⟨d, mem_both.mpr ⟨Sd.mem_upTo.mp (h1.sub d hd), .inl hd⟩, k⟩
            · obtain ⟨d, hd, k⟩ := ho.ans c hc x (a.cl _ hz (ho.sub c hc)) hz
              exact ⟨d, mem_both.mpr ⟨a.rng d (ho.sub d hd), .inr hd⟩, k⟩
        have hU := ho.sub c hc
        exact mem_inU.mpr ⟨h2 _ w (fun c hc => mem_both.mpr ⟨Sd.mem_upTo.mp (h1.sub c hc), .inl hc⟩) c (mem_both.mpr ⟨a.rng c hU, .inr hc⟩), hU⟩
      · have w := join_b v a (r := .up) (.inl rfl) f ho
        have hp := mem_opn.mp (ho.sub c hc)
        refine mem_outU.mpr ⟨h2 _ w (fun d hd => mem_both.mpr ⟨Sd.mem_upTo.mp (h1.sub d hd), ?_⟩) c (mem_both.mpr ⟨hp.1, .inr hc⟩), hp.2.1⟩
        by_cases hu : d ∈ U
        · exact .inl (mem_inU.mpr ⟨hd, hu⟩)
        · exact .inr (hs d (mem_outU.mpr ⟨hd, hu⟩))
    · rintro ⟨⟨f, hf⟩, ⟨g, hg⟩⟩
      refine ⟨(split_b v a hL (r := .up) (.inl rfl)).mpr ⟨f, g⟩, fun o ho hs c hc => ?_⟩
      -- as a lot
      have ho' : UpIn S (Sd.upTo n) [] (both n o []) := ho.congr (fun _ => Iff.rfl) (fun _ _ => Iff.rfl) fun c => by
        rw [mem_both]
        exact ⟨fun h => ⟨Sd.mem_upTo.mp (ho.sub c h), .inl h⟩, fun h => h.2.resolve_right (by simp)⟩
      have mo : ∀ c, c ∈ both n o [] ↔ c ∈ o := fun c => by
        rw [mem_both]
        exact ⟨fun h => h.2.resolve_right (by simp), fun h => ⟨Sd.mem_upTo.mp (ho.sub c h), .inl h⟩⟩
      obtain ⟨f', g'⟩ := (split_b v a (both_sub n o []) (r := .up) (.inl rfl)).mp ho'
      have e1 : ∀ c, c ∈ inU U (both n o []) ↔ c ∈ inU U L := fun c => by
        refine ⟨hf _ f' (fun c hc => ?_) c, fun hc => ?_⟩
        · have := mem_inU.mp hc
          exact mem_inU.mpr ⟨(mo c).mpr (hs c this.1), this.2⟩
        · have := mem_inU.mp hc
          exact mem_inU.mpr ⟨(mo c).mpr (hs c this.1), this.2⟩
      rw [opn_mem e1, los_mem e1] at g'
      by_cases hu : c ∈ U
      · exact (mem_inU.mp ((e1 c).mp (mem_inU.mpr ⟨(mo c).mpr hc, hu⟩))).1
      · refine (mem_outU.mp (hg _ g' (fun d hd => ?_) c (mem_outU.mpr ⟨(mo c).mpr hc, hu⟩))).1
        have := mem_outU.mp hd
        exact mem_outU.mpr ⟨(mo d).mpr (hs d this.1), this.2⟩
  | pl =>
    refine ⟨split_pl1 v a hL, ?_⟩
    rintro ⟨⟨f, hf⟩, ⟨g, hg⟩⟩
    have hP := (mem_readL v .pl (L := plainL n S)).mp (by simp [readL])
    obtain ⟨⟨f', hf'⟩, ⟨g', hg'⟩⟩ := split_pl1 v a hP.1 hP.2
    have e1 : ∀ c, c ∈ inU U (plainL n S) ↔ c ∈ inU U L := fun c => ⟨hf' _ f c, hf _ f' c⟩
    rw [opn_mem e1, los_mem e1] at g' hg'
    have e2 : ∀ c, c ∈ outU U (plainL n S) ↔ c ∈ outU U L := fun c => ⟨hg' _ g c, hg _ g' c⟩
    refine hP.2.congr (fun _ => Iff.rfl) (fun _ _ => Iff.rfl) fun c => ?_
    by_cases hu : c ∈ U
    · have := e1 c
      rw [mem_inU, mem_inU] at this
      exact ⟨fun h => (this.mp ⟨h, hu⟩).1, fun h => (this.mpr ⟨h, hu⟩).1⟩
    · have := e2 c
      rw [mem_outU, mem_outU] at this
      exact ⟨fun h => (this.mp ⟨h, hu⟩).1, fun h => (this.mpr ⟨h, hu⟩).1⟩
end
end Cm
/-! fronts and rests put together are the lots of the reading -/
namespace Cm
open PySem PySem.Spec PyProof.Rows Sd
theorem lv_filter {n : Int} {l : List Int} (h : LV n l) : (Sd.upTo n).filter (fun c => decide (c ∈ l)) = l :=
  pw_ext2 (R := (· < ·)) (fun a h => by omega) (fun a b h1 h2 => by omega) ((upTo_pw n).sublist List.filter_sublist) h.pw fun x => by
    rw [List.mem_filter, Sd.mem_upTo, decide_eq_true_iff]
    exact ⟨fun z => z.2, fun z => ⟨h.rng x z, z⟩⟩
theorem lv_sub {n : Int} {l : List Int} (h : LV n l) : List.Sublist l (Sd.upTo n) := by
  rw [← lv_filter h]
  exact List.filter_sublist
theorem sub_lv {n : Int} {l : List Int} (h : List.Sublist l (Sd.upTo n)) : LV n l := ⟨fun x hx => Sd.mem_upTo.mp (h.subset hx), sub_pw h⟩
theorem pw_nd {l : List Int} (h : l.Pairwise (· < ·)) : l.Nodup := h.imp fun {a b} h e => by subst e; omega
theorem at0_mono {l : List Int} (h : l.Pairwise (· < ·)) {i j : Int} (hi : 0 ≤ i ∧ i < l.length) (hj : 0 ≤ j ∧ j < l.length) (hij : i < j) : at0 l i < at0 l j := by
  have e1 := at0_get hi
  have e2 := at0_get hj
  obtain ⟨h1, k1⟩ := List.getElem?_eq_some_iff.mp e1
  obtain ⟨h2, k2⟩ := List.getElem?_eq_some_iff.mp e2
  rw [← k1, ← k2]
  exact List.pairwise_iff_getElem.mp h i.toNat j.toNat h1 h2 (by omega)
theorem tel_lv {n : Int} {l k : List Int} (h : LV n l) (hk : List.Sublist k (Sd.upTo l.length)) : LV n (telL l k) := by
  refine ⟨fun c hc => ?_, ?_⟩
  · obtain ⟨i, hi, rfl⟩ := mem_telL.mp hc
    exact h.rng _ (at0_mem (Sd.mem_upTo.mp (hk.subset hi)))
  · unfold telL
    rw [List.pairwise_map]
    refine List.Pairwise.imp_of_mem (fun {a b} ha hb hab => ?_) (sub_pw hk)
    exact at0_mono h.pw (Sd.mem_upTo.mp (hk.subset ha)) (Sd.mem_upTo.mp (hk.subset hb)) hab
theorem mem_sortK {L : List (List Int)} {l : List Int} : l ∈ sortK L ↔ l ∈ L := (sortK_perm L).mem_iff
theorem mem_told {n : Int} {S : List (Int × Int)} {l x : List Int} (h : LV n l) (v : VD l.length (aloneP S l x)) (r : Rd5) {z : List Int} : z ∈ sortK ((readL l.length (aloneP S l x) r).map (telL l)) ↔ List.Sublist z (Sd.upTo n) ∧ InR S l x r z := by
  have nd := pw_nd h.pw
  rw [mem_sortK, List.mem_map]
  constructor
  · rintro ⟨k, hk, rfl⟩
    obtain ⟨h1, h2⟩ := (alone_rd nd v r).mp hk
    exact ⟨lv_sub (tel_lv h h1), h2⟩
  · rintro ⟨h1, h2⟩
    have tn := tel_num_sub h2.sub
    exact ⟨numL l z, (alone_rd nd v r).mpr ⟨numL_sub l z, h2.congr (fun _ => Iff.rfl) (fun _ _ => Iff.rfl) fun c => (tn c).symm⟩, lot_ext (lv_sub (tel_lv h (numL_sub l z))) h1 tn⟩
theorem InR.empty (S : List (Int × Int)) (x : List Int) (r : Rd5) : InR S [] x r [] := by
  have u : UpIn S [] x [] := ⟨fun _ h => (by cases h), fun _ h => (by cases h), fun _ h => (by cases h), fun _ h => (by cases h)⟩
  have f : FuIn S [] x [] := ⟨u, fun _ h => (by cases h)⟩
  cases r with
  | up => exact u
  | fu => exact f
  | se => exact ⟨fun _ h => (by cases h), fun _ h => (by cases h), fun _ h => (by cases h)⟩
  | gr => exact ⟨u, fun o ho _ c hc => ho.sub c hc⟩
  | pl => exact ⟨f, fun o _ c hc => by cases hc⟩
section
variable {n : Int} {S : List (Int × Int)} {U : List Int}
theorem mem_frontL (v : VD n S) (a : AV n S U) (l8 : U.length ≤ 8) (r : Rd5) {m : List Int} : m ∈ frontL S U r ↔ List.Sublist m (Sd.upTo n) ∧ InR S U [] r m :=
  mem_told a.toLV (alone_vd a.ne l8 S []) r
theorem opn_lv (n : Int) (S : List (Int × Int)) (U m : List Int) : LV n (opn n S U m) := sub_lv List.filter_sublist
theorem mem_restL (n8 : n ≤ 8) (m : List Int) (r : Rd5) {o : List Int} : o ∈ restL n S U m r ↔ List.Sublist o (Sd.upTo n) ∧ InR S (opn n S U m) (los S U m) r o := by
  unfold restL
  by_cases e : openL n U (strL S m) = []
  · rw [if_pos e]
    have e' : opn n S U m = [] := e
    rw [e']
    constructor
    · intro h
      rw [List.mem_singleton.mp h]
      exact ⟨List.nil_sublist _, InR.empty _ _ r⟩
    · rintro ⟨_, h⟩
      have : o = [] := List.eq_nil_iff_forall_not_mem.mpr fun c hc => by have := h.sub c hc; cases this
      subst this
      simp
  · rw [if_neg e]
    exact mem_told (opn_lv n S U m) (alone_vd e (openL_few n8) S _) r
theorem readL_nodup (n : Int) (S : List (Int × Int)) (r : Rd5) : (readL n S r).Nodup := by
  have q : (sortK (qsubs S (Sd.upTo n))).Nodup := by
    rw [(sortK_perm _).nodup_iff, qsubs_eq]
    exact (subs_nodup _ (upTo_nodup n)).sublist List.filter_sublist
  cases r with
  | up => exact q.sublist List.filter_sublist
  | fu => exact q.sublist List.filter_sublist
  | se => exact q.sublist List.filter_sublist
  | gr => exact (q.sublist (l₁ := upheldL n S) List.filter_sublist).sublist List.filter_sublist
  | pl => simp [readL]
theorem readL_pw (n : Int) (S : List (Int × Int)) (r : Rd5) : (readL n S r).Pairwise (· ≤ ·) := by
  have q := sortK_pw (qsubs S (Sd.upTo n))
  cases r with
  | up => exact q.sublist List.filter_sublist
  | fu => exact q.sublist List.filter_sublist
  | se => exact q.sublist List.filter_sublist
  | gr => exact (q.sublist (l₁ := upheldL n S) List.filter_sublist).sublist List.filter_sublist
  | pl => simp [readL]
theorem told_nodup {l : List Int} (nd : l.Nodup) (T : List (Int × Int)) (r : Rd5) : (sortK ((readL l.length T r).map (telL l))).Nodup := by
  rw [(sortK_perm _).nodup_iff]
  unfold List.Nodup
  rw [List.pairwise_map]
  refine List.Pairwise.imp_of_mem (fun {a b} ha hb hab e => hab ?_) (readL_nodup l.length T r)
  rw [← num_tel nd (readL_sub ha), e, num_tel nd (readL_sub hb)]
theorem front_nodup (nd : U.Nodup) (r : Rd5) : (frontL S U r).Nodup := told_nodup nd _ r
theorem rest_nodup (m : List Int) (r : Rd5) : (restL n S U m r).Nodup := by
  unfold restL
  by_cases e : openL n U (strL S m) = []
  · rw [if_pos e]; simp
  · rw [if_neg e]; exact told_nodup openL_nodup _ r
abbrev rowsR (n : Int) (S : List (Int × Int)) (U : List Int) (r : Rd5) : List Row := (frontL S U r).map fun m => (m, restL n S U m r)
theorem mem_togL {R : List Row} {L : List Int} : L ∈ togL R ↔ ∃ z ∈ R, ∃ o ∈ z.2, L = sortI (z.1 ++ o) := by
  unfold togL
  rw [List.mem_flatten]
  constructor
  · rintro ⟨x, hx, h⟩
    obtain ⟨z, hz, rfl⟩ := List.mem_map.mp hx
    obtain ⟨o, ho, e⟩ := List.mem_map.mp h
    exact ⟨z, hz, o, ho, e.symm⟩
  · rintro ⟨z, hz, o, ho, e⟩
    exact ⟨joinR z, List.mem_map.mpr ⟨z, hz, rfl⟩, List.mem_map.mpr ⟨o, ho, e.symm⟩⟩
theorem join_facts (a : AV n S U) {m o : List Int} {r : Rd5} (hm : List.Sublist m (Sd.upTo n)) (ho : List.Sublist o (Sd.upTo n)) (h1 : ∀ c ∈ m, c ∈ U) (h2 : ∀ c ∈ o, c ∉ U) : List.Sublist (sortI (m ++ o)) (Sd.upTo n) ∧ inU U (sortI (m ++ o)) = m ∧ outU U (sortI (m ++ o)) = o := by
  have mem : ∀ c, c ∈ sortI (m ++ o) ↔ c ∈ m ∨ c ∈ o := fun c => by rw [(sortI_perm _).mem_iff, List.mem_append]
  have nd : (m ++ o).Nodup := by
    rw [List.nodup_append]
    exact ⟨sub_nodup hm, sub_nodup ho, fun a ha b hb e => h2 b hb (e ▸ h1 a ha)⟩
  have hs : List.Sublist (sortI (m ++ o)) (Sd.upTo n) := lv_sub ⟨fun c hc => by
    rcases (mem c).mp hc with h | h
    · exact Sd.mem_upTo.mp (hm.subset h)
    · exact Sd.mem_upTo.mp (ho.subset h), sortI_lt nd⟩
  refine ⟨hs, lot_ext (List.filter_sublist.trans hs) hm fun c => ?_, lot_ext (List.filter_sublist.trans hs) ho fun c => ?_⟩
  · rw [mem_inU, mem]
    exact ⟨fun ⟨h, hu⟩ => h.resolve_right fun z => h2 c z hu, fun h => ⟨.inl h, h1 c h⟩⟩
  · rw [mem_outU, mem]
    exact ⟨fun ⟨h, hu⟩ => h.resolve_left fun z => hu (h1 c z), fun h => ⟨.inr h, h2 c h⟩⟩
theorem tog_mem (v : VD n S) (n8 : n ≤ 8) (a : AV n S U) (l8 : U.length ≤ 8) (r : Rd5) {L : List Int} : L ∈ togL (rowsR n S U r) ↔ L ∈ readL n S r := by
  rw [mem_togL, mem_readL v r]
  constructor
  · rintro ⟨z, hz, o, ho, rfl⟩
    obtain ⟨m, hm, rfl⟩ := List.mem_map.mp hz
    obtain ⟨m1, m2⟩ := (mem_frontL v a l8 r).mp hm
    obtain ⟨o1, o2⟩ := (mem_restL n8 m r).mp ho
    obtain ⟨hs, e1, e2⟩ := join_facts (r := r) a m1 o1 m2.sub fun c hc => (mem_opn.mp (o2.sub c hc)).2.1
    refine ⟨hs, (split_rd v a hs r).mpr ?_⟩
    simp only [e1, e2]
    exact ⟨m2, o2⟩
  · rintro ⟨hL, h⟩
    obtain ⟨h1, h2⟩ := (split_rd v a hL r).mp h
    have s1 : List.Sublist (inU U L) (Sd.upTo n) := List.filter_sublist.trans hL
    have s2 : List.Sublist (outU U L) (Sd.upTo n) := List.filter_sublist.trans hL
    refine ⟨_, List.mem_map.mpr ⟨inU U L, (mem_frontL v a l8 r).mpr ⟨s1, h1⟩, rfl⟩, outU U L, (mem_restL n8 _ r).mpr ⟨s2, h2⟩, ?_⟩
    obtain ⟨k, _, _⟩ := join_facts (r := r) a s1 s2 (fun c hc => (mem_inU.mp hc).2) fun c hc => (mem_outU.mp hc).2
    refine lot_ext hL k fun c => ?_
    rw [(sortI_perm _).mem_iff, List.mem_append, mem_inU, mem_outU]
    by_cases hu : c ∈ U
    · exact ⟨fun h => .inl ⟨h, hu⟩, fun h => h.elim (·.1) (·.1)⟩
    · exact ⟨fun h => .inr ⟨h, hu⟩, fun h => h.elim (·.1) (·.1)⟩
theorem tog_nodup (v : VD n S) (n8 : n ≤ 8) (a : AV n S U) (l8 : U.length ≤ 8) (r : Rd5) : (togL (rowsR n S U r)).Nodup := by
  unfold togL List.Nodup
  rw [List.pairwise_flatten]
  have fact : ∀ m ∈ frontL S U r, ∀ o ∈ restL n S U m r, inU U (sortI (m ++ o)) = m ∧ outU U (sortI (m ++ o)) = o := fun m hm o ho => by
    obtain ⟨m1, m2⟩ := (mem_frontL v a l8 r).mp hm
    obtain ⟨o1, o2⟩ := (mem_restL n8 m r).mp ho
    exact (join_facts (r := r) a m1 o1 m2.sub fun c hc => (mem_opn.mp (o2.sub c hc)).2.1).2
  constructor
  · intro x hx
    obtain ⟨z, hz, rfl⟩ := List.mem_map.mp hx
    obtain ⟨m, hm, rfl⟩ := List.mem_map.mp hz
    show (List.map _ (restL n S U m r)).Nodup
    unfold List.Nodup
    rw [List.pairwise_map]
    refine List.Pairwise.imp_of_mem (fun {p q} hp hq hpq e => hpq ?_) (rest_nodup m r)
    have h1 := (fact m hm p hp).2
    have h2 := (fact m hm q hq).2
    rw [← h1, ← h2]
    exact congrArg _ e
  · unfold rowsR
    rw [List.map_map, List.pairwise_map]
    refine List.Pairwise.imp_of_mem (fun {p q} hp hq hpq => ?_) (front_nodup (pw_nd a.pw) r)
    intro x hx y hy
    obtain ⟨o, ho, rfl⟩ := List.mem_map.mp hx
    obtain ⟨o', ho', rfl⟩ := List.mem_map.mp hy
    intro e
    refine hpq ?_
    have h1 := (fact p hp o ho).1
    have h2 := (fact q hq o' ho').1
    rw [← h1, ← h2]
    exact congrArg _ e
theorem tog_eq (v : VD n S) (n8 : n ≤ 8) (a : AV n S U) (l8 : U.length ≤ 8) (r : Rd5) : sortK (togL (rowsR n S U r)) = readL n S r := by
  rw [sortK_of_perm (perm_of_mem (tog_nodup v n8 a l8 r) (readL_nodup n S r) fun x => tog_mem v n8 a l8 r), sortK_self (readL_pw n S r)]
/-- the part of a lot within the lot ahead is a lot of the front -/
theorem front_part (v : VD n S) (a : AV n S U) (l8 : U.length ≤ 8) (r : Rd5) {L : List Int} (h : L ∈ readL n S r) : inU U L ∈ frontL S U r := by
  obtain ⟨hL, h⟩ := (mem_readL v r).mp h
  exact (mem_frontL v a l8 r).mpr ⟨List.filter_sublist.trans hL, ((split_rd v a hL r).mp h).1⟩
/-- none is lost but settled ones -/
theorem upheld_has (n : Int) (S : List (Int × Int)) : ([] : List Int) ∈ upheldL n S := mem_upheldL.mpr ⟨List.nil_sublist _, fun _ h => (by cases h), fun _ h => (by cases h)⟩
theorem great_has : ∀ (L : List (List Int)), L ≠ [] → ∃ l ∈ L, ∀ o ∈ L, (∀ c ∈ l, c ∈ o) → o.length ≤ l.length := fun L hL => by
  obtain ⟨k, hk⟩ : ∃ k, k = (L.map List.length).foldr max 0 := ⟨_, rfl⟩
  have ub : ∀ {L : List (List Int)}, ∀ o ∈ L, o.length ≤ (L.map List.length).foldr max 0 := fun {L} => by
    induction L with
    | nil => intro o h; cases h
    | cons a L ih =>
      intro o h
      rw [List.map_cons, List.foldr_cons]
      rcases List.mem_cons.mp h with rfl | h
      · exact Nat.le_max_left _ _
      · exact Nat.le_trans (ih o h) (Nat.le_max_right _ _)
  have ex : ∀ {L : List (List Int)}, L ≠ [] → ∃ l ∈ L, l.length = (L.map List.length).foldr max 0 := fun {L} => by
    induction L with
    | nil => intro h; exact absurd rfl h
    | cons a L ih =>
      intro _
      rw [List.map_cons, List.foldr_cons]
      by_cases e : L = []
      · subst e; exact ⟨a, by simp, by simp⟩
      · obtain ⟨l, h1, h2⟩ := ih e
        by_cases c : a.length ≤ (L.map List.length).foldr max 0
        · exact ⟨l, List.mem_cons_of_mem _ h1, by rw [Nat.max_eq_right c]; exact h2⟩
        · exact ⟨a, List.mem_cons_self, by rw [Nat.max_eq_left (by omega)]⟩
  obtain ⟨l, h1, h2⟩ := ex hL
  exact ⟨l, h1, fun o ho _ => by rw [h2]; exact ub o ho⟩
theorem readL_has (n : Int) (S : List (Int × Int)) {r : Rd5} (hr : r ≠ .se) : readL n S r ≠ [] := by
  cases r with
  | se => exact absurd rfl hr
  | up => exact List.ne_nil_of_mem (upheld_has n S)
  | pl => simp [readL]
  | fu =>
    have h := (mem_plainL (n := n) (S := S) (l := plainL n S)).mp (by simp)
    exact List.ne_nil_of_mem h.1
  | gr =>
    obtain ⟨l, h1, h2⟩ := great_has (upheldL n S) (List.ne_nil_of_mem (upheld_has n S))
    refine List.ne_nil_of_mem (a := l) (mem_greatL.mpr ⟨mem_upheldL.mp h1, fun o ho hs => ?_⟩)
    have h3 := h2 o (mem_upheldL.mpr ho) hs
    have s1 := sub_nodup (mem_upheldL.mp h1).1
    have s2 := sub_nodup ho.1
    refine lot_ext ho.1 (mem_upheldL.mp h1).1 fun c => ⟨fun hc => ?_, hs c⟩
    refine Decidable.byContradiction fun hn => ?_
    have := nodup_sub (a := c :: l) (b := o) (List.nodup_cons.mpr ⟨hn, s1⟩) fun x hx => by
      rcases List.mem_cons.mp hx with rfl | hx
      · exact hc
      · exact hs x hx
    simp only [List.length_cons] at this
    omega
theorem restL_has {r : Rd5} (hr : r ≠ .se) (m : List Int) : restL n S U m r ≠ [] := by
  unfold restL
  by_cases e : openL n U (strL S m) = []
  · rw [if_pos e]; simp
  · rw [if_neg e]
    intro h
    have h2 := (sortK_perm ((readL (openL n U (strL S m)).length (aloneP S (openL n U (strL S m)) (strL S (looseL U m (strL S m)))) r).map (telL (openL n U (strL S m))))).length_eq
    rw [h, List.length_map] at h2
    exact readL_has _ _ hr (List.length_eq_zero_iff.mp h2.symm)
end
end Cm
/-! what can be shown: lots, rows; lots compared; put together by the split -/
namespace Cm
open PySem PySem.Spec PyProof.Rows Sd
theorem wt_tI (l : List Int) : wt (tpI l) = 7 * l.length + 4 := by
  have h : ∀ l : List Int, wtL (l.map iD) = 7 * l.length := fun l => by
    induction l with
    | nil => rfl
    | cons a l ih =>
      rw [List.map_cons, List.length_cons]
      show wt (iD a) + 2 + wtL (l.map iD) = _
      rw [ih]
      show 5 + 2 + _ = _
      omega
  show wtL (l.map iD) + 4 = _
  rw [h]
theorem sm_tI {l : List Int} (h : ∀ x ∈ l, x.natAbs < 200) : sm (tpI l) = true := by
  show smL (l.map iD) = true
  rw [smL_mem]
  intro d hd
  obtain ⟨x, hx, rfl⟩ := List.mem_map.mp hd
  show decide (x.natAbs < 200) = true
  exact decide_eq_true (h x hx)
theorem wt_tIs {L : List (List Int)} {k : Nat} (h : ∀ l ∈ L, l.length ≤ k) : wtL (L.map tpI) ≤ (7 * k + 6) * L.length := by
  induction L with
  | nil => simp [wtL]
  | cons l L ih =>
    have h1 := ih fun x hx => h x (List.mem_cons_of_mem _ hx)
    have h2 := h l List.mem_cons_self
    rw [List.map_cons, List.length_cons, Nat.mul_succ]
    show wt (tpI l) + 2 + wtL (L.map tpI) ≤ _
    rw [wt_tI]
    omega
def SmL (k : Nat) (l : List Int) : Prop := l.length ≤ k ∧ ∀ x ∈ l, x.natAbs < 200
theorem sub_sml {n : Int} {k : Nat} (hn : n ≤ k) (hk : k ≤ 100) {l : List Int} (h : List.Sublist l (Sd.upTo n)) : SmL k l := by
  refine ⟨?_, fun x hx => ?_⟩
  · have := sub_len h; omega
  · have := Sd.mem_upTo.mp (h.subset hx); omega
theorem wt_rows {R : List Cm.Row} {k : Nat} (h : ∀ z ∈ R, z.1.length ≤ k ∧ ∀ o ∈ z.2, o.length ≤ k) : wtL (R.map rwD) ≤ (7 * k + 18) * R.length + (7 * k + 6) * (togL R).length := by
  induction R with
  | nil => simp [wtL]
  | cons z R ih =>
    have h1 := ih fun x hx => h x (List.mem_cons_of_mem _ hx)
    have h2 := h z List.mem_cons_self
    have h3 := wt_tIs h2.2
    have e : (togL (z :: R)).length = z.2.length + (togL R).length := by
      show ((joinR z :: R.map joinR).flatten).length = _
      rw [List.flatten_cons, List.length_append]
      unfold joinR
      rw [List.length_map]; rfl
    rw [List.map_cons, List.length_cons, e, Nat.mul_succ, Nat.mul_add]
    show wt (tpI z.1) + 2 + (wtL (z.2.map tpI) + 4 + 2 + 0) + 4 + 2 + wtL (R.map rwD) ≤ _
    rw [wt_tI]
    omega
theorem dep_tI (l : List Int) : (tpI l).depth = 1 := by
  show PyData.depthAll (l.map iD) + 1 = 1
  rw [dep_ints]
theorem sdn_lots {L : List (List Int)} {k : Nat} (h : ∀ l ∈ L, SmL k l) : SDn 2 ((7 * k + 6) * L.length + 4) (lotsD L) := by
  refine ⟨?_, ?_, ?_⟩
  · show smL (L.map tpI) = true
    rw [smL_mem]
    intro d hd
    obtain ⟨l, hl, rfl⟩ := List.mem_map.mp hd
    exact sm_tI (h l hl).2
  · show PyData.depthAll (L.map tpI) + 1 ≤ 2
    have : PyData.depthAll (L.map tpI) ≤ 1 := depthAll_le fun d hd => by
      obtain ⟨l, hl, rfl⟩ := List.mem_map.mp hd
      rw [dep_tI]; exact Nat.le_refl _
    omega
  · have := wt_tIs fun l hl => (h l hl).1
    show wtL (L.map tpI) + 4 ≤ _
    omega
theorem sdn_rows {R : List Cm.Row} {k : Nat} (h : ∀ z ∈ R, SmL k z.1 ∧ ∀ o ∈ z.2, SmL k o) : SDn 4 ((7 * k + 18) * R.length + (7 * k + 6) * (togL R).length + 4) (.list (R.map rwD)) := by
  have tl : ∀ z ∈ R, smL (z.2.map tpI) = true ∧ PyData.depthAll (z.2.map tpI) ≤ 1 := fun z hz => ⟨by
    rw [smL_mem]
    intro d hd
    obtain ⟨l, hl, rfl⟩ := List.mem_map.mp hd
    exact sm_tI ((h z hz).2 l hl).2, depthAll_le fun d hd => by
    obtain ⟨l, hl, rfl⟩ := List.mem_map.mp hd
    rw [dep_tI]; exact Nat.le_refl _⟩
  refine ⟨?_, ?_, ?_⟩
  · show smL (R.map rwD) = true
    rw [smL_mem]
    intro d hd
    obtain ⟨z, hz, rfl⟩ := List.mem_map.mp hd
    show (sm (tpI z.1) && (smL (z.2.map tpI) && true)) = true
    rw [sm_tI (h z hz).1.2, (tl z hz).1]; rfl
  · show PyData.depthAll (R.map rwD) + 1 ≤ 4
    have : PyData.depthAll (R.map rwD) ≤ 3 := depthAll_le fun d hd => by
      obtain ⟨z, hz, rfl⟩ := List.mem_map.mp hd
      have h2 := (tl z hz).2
      show Nat.max (tpI z.1).depth (Nat.max (PyData.depthAll (z.2.map tpI) + 1) 0) + 1 ≤ 3
      rw [dep_tI]
      have h3 : Nat.max (PyData.depthAll (z.2.map tpI) + 1) 0 ≤ 2 := Nat.max_le.mpr ⟨by omega, by omega⟩
      have h4 : Nat.max 1 (Nat.max (PyData.depthAll (z.2.map tpI) + 1) 0) ≤ 2 := Nat.max_le.mpr ⟨by omega, h3⟩
      omega
    omega
  · have := wt_rows fun z hz => ⟨(h z hz).1.1, fun o ho => ((h z hz).2 o ho).1⟩
    show wtL (R.map rwD) + 4 ≤ _
    omega
/-! ### lots as data -/
theorem imm_ints : ∀ l : List Int, immL (l.map iD) = true
  | [] => rfl
  | _ :: l => imm_ints l
theorem imm_pairs : ∀ S : List (Int × Int), immL (S.map pD) = true
  | [] => rfl
  | _ :: S => imm_pairs S
theorem imm_dsp (n : Int) (S : List (Int × Int)) : imm (dsp n S) = true := by
  show (true && (true && (immL (S.map pD) && true))) = true
  rw [imm_pairs]; rfl
theorem imm_tI (l : List Int) : imm (tpI l) = true := imm_ints l
theorem lay_lots : ∀ L : List (List Int), PyData.canLayAll0 (L.map tpI) = true
  | [] => by simp [PyData.canLayAll0]
  | l :: L => by simp only [List.map_cons, PyData.canLayAll0, PyData.canLay0, lay_ints l, lay_lots L, Bool.and_self]
theorem dep_lots (L : List (List Int)) : PyData.depthAll (L.map tpI) ≤ 1 := depthAll_le fun d hd => by
  obtain ⟨l, hl, rfl⟩ := List.mem_map.mp hd
  rw [dep_tI]; exact Nat.le_refl _
theorem nb_lots (L : List (List Int)) : nbL (L.map tpI) = true := nbL_iff.mpr fun d hd => by
  obtain ⟨l, hl, rfl⟩ := List.mem_map.mp hd
  exact nb_ints l
theorem pe_lots (L : List (List Int)) : PE (lotsD L) := by
  refine ⟨nb_lots L, ?_⟩
  have := dep_lots L
  unfold SeqAt.shaped
  simp only [PyData.canLay0, PyData.depth, lay_lots, Bool.true_and, decide_eq_true_eq]
  exact decide_eq_true (by omega)
theorem pe_lotsT (L : List (List Int)) : PE (.tuple (L.map tpI)) := by
  refine ⟨nb_lots L, ?_⟩
  have := dep_lots L
  unfold SeqAt.shaped
  simp only [PyData.canLay0, PyData.depth, lay_lots, Bool.true_and, decide_eq_true_eq]
  exact decide_eq_true (by omega)
theorem mem_tIs {l : List Int} {L : List (List Int)} : tpI l ∈ L.map tpI ↔ l ∈ L := by
  rw [List.mem_map]
  exact ⟨fun ⟨m, h, e⟩ => tI_inj.mp e ▸ h, fun h => ⟨l, h, rfl⟩⟩
theorem in_lots (neg : Bool) (l : List Int) (L : List (List Int)) : inG neg (tpI l) (lotsD L) = some (.bool (neg != decide (l ∈ L))) :=
  in_PE (e := lotsD L) rfl (pe_tI l) (pe_lots L) (nbL_iff.mp (nb_lots L)) neg (by rw [decide_eq_true_iff]; exact mem_tIs.symm)
theorem in_lots0 (l : List Int) (L : List (List Int)) : inG false (tpI l) (lotsD L) = some (.bool (decide (l ∈ L))) := by
  rw [in_lots]
  cases decide (l ∈ L) <;> rfl
theorem lots_inj {L M : List (List Int)} : L.map tpI = M.map tpI ↔ L = M := by
  refine List.map_inj_right fun a b h => tI_inj.mp h
theorem eq_lots (L M : List (List Int)) : eqD (lotsD L) (lotsD M) = some (.bool (decide (L = M))) := eq_PE (pe_lots L) (pe_lots M) (by
  rw [decide_eq_true_iff, ← lots_inj]
  exact ⟨fun h => by rw [lotsD, h], fun h => by injection h⟩)
theorem ne_lots (L M : List (List Int)) : neD (lotsD L) (lotsD M) = some (.bool (!decide (L = M))) := ne_PE (pe_lots L) (pe_lots M) (by
  rw [decide_eq_true_iff, ← lots_inj]
  exact ⟨fun h => by rw [lotsD, h], fun h => by injection h⟩)
theorem ne_lotsT (L M : List (List Int)) : neD (.tuple (L.map tpI)) (.tuple (M.map tpI)) = some (.bool (!decide (L = M))) := ne_PE (pe_lotsT L) (pe_lotsT M) (by
  rw [decide_eq_true_iff, ← lots_inj]
  exact ⟨fun h => by rw [h], fun h => by injection h⟩)
/-! ### walks over drawn things -/
theorem ss_forD {α : Type} {gd : Gd} {body : SE} {it : IE} {ρ : Sd.Env} (ed : α → D) {Pr : List α → Prop} {I : Sd.Env → Prop} (hit : ∀ q, PotOk' q → ∃ L q', it ρ q = some (L.map ed, q') ∧ PotOk' q' ∧ Pr L) (h0 : I ρ) (st : ∀ L, Pr L → ∀ x ∈ L, ∀ ρ, I ρ → ∃ as, gd (ed x) = some as ∧ SS body (sets ρ (as.map (·.1)) (cl as)) I) : SS (forS it gd body) ρ I := fun q hq => by
  obtain ⟨L, q1, e1, k1, pl⟩ := hit q hq
  obtain ⟨ρ', q', e2, k2, r⟩ := forGo_sl (gd := gd) (body := body) ed (fun _ => I) L [] ρ h0 (fun pre x post e ρ hi => st L pl x (by rw [show L = pre ++ x :: post from e]; simp) ρ hi) q1 k1
  exact ⟨ρ', q', bind2 e1 e2, k2, r⟩
theorem sd_two {k w : Nat} {d e : D} (h : SDn k w d) (h' : SDn k w e) (hk : k ≤ 9) (hw : w ≤ 49000) : SD (.list [d, e]) :=
  (sd_list (k := k) (w := w) (m := 2) (fun x hx => by
    rcases List.mem_cons.mp hx with c | hx
    · rw [c]; exact h
    · rw [List.mem_singleton.mp hx]; exact h') (by simp)).sd (by omega) (by omega)
theorem sd_dsp {n : Int} {S : List (Int × Int)} (v : VD n S) : SDn 3 6022 (dsp n S) := by
  have n1 := v.n1
  have n10 := v.n10
  have h : SDn 2 (100 * 20 + 4) (tpP S) := sd_tuple (k := 1) (w := 18) (fun d hd => by
    obtain ⟨z, hz, rfl⟩ := List.mem_map.mp hd
    have := v.rng z hz
    exact sd_tpI (l := [z.1, z.2]) (m := 2) (fun x hx => by
      rcases List.mem_cons.mp hx with e | e
      · rw [e]; omega
      · rw [List.mem_singleton.mp e]; omega) (by simp)) (by rw [List.length_map]; exact v.few)
  refine (sd_tuple (k := 2) (w := 2004) (m := 3) (fun d hd => ?_) (by simp)).imp (by omega) (by omega)
  rcases List.mem_cons.mp hd with c | hd
  · rw [c]; exact (sd_str (by decide +kernel)).imp (by omega) (by omega)
  rcases List.mem_cons.mp hd with c | hd
  · rw [c]; exact (sd_i (by omega)).imp (by omega) (by omega)
  · rw [List.mem_singleton.mp hd]; exact h
/-! ### by the split -/
theorem readL_few {n : Int} {S : List (Int × Int)} (n8 : n ≤ 8) (r : Rd5) : (readL n S r).length ≤ 256 := by
  have hq : (sortK (qsubs S (Sd.upTo n))).length ≤ 256 := by
    rw [(sortK_perm _).length_eq]
    have h1 := qsubs_len S (Sd.upTo n)
    rw [upTo_len] at h1
    have h2 : 2 ^ n.toNat ≤ 2 ^ 8 := Nat.pow_le_pow_right (by decide) (by omega)
    omega
  cases r with
  | up => exact Nat.le_trans (List.length_filter_le _ _) hq
  | fu => exact Nat.le_trans (List.length_filter_le _ _) hq
  | gr => exact Nat.le_trans (List.length_filter_le _ _) (Nat.le_trans (List.length_filter_le _ _) hq)
  | se => exact Nat.le_trans (List.length_filter_le _ _) hq
  | pl => show 1 ≤ 256; decide
theorem front_few {S : List (Int × Int)} {l : List Int} (l8 : l.length ≤ 8) (r : Rd5) : (frontL S l r).length ≤ 256 := by
  unfold frontL
  rw [(sortK_perm _).length_eq, List.length_map]
  exact readL_few (by omega) r
theorem rows_map (n : Int) (S : List (Int × Int)) (l : List Int) (r : Rd5) : ((frontL S l r).map fun m => rowD n S l m r) = (rowsR n S l r).map rwD := by
  unfold rowsR
  rw [List.map_map]; rfl
theorem front_len {S : List (Int × Int)} {l : List Int} (l8 : l.length ≤ 8) (r : Rd5) : (rowsR n S l r).length ≤ 256 := by
  unfold rowsR
  rw [List.length_map]; exact front_few l8 r
theorem rest_few {n : Int} {S : List (Int × Int)} {l m : List Int} (n8 : n ≤ 8) (r : Rd5) : (restL n S l m r).length ≤ 256 := by
  unfold restL
  by_cases e : openL n l (strL S m) = []
  · rw [if_pos e]; simp
  · rw [if_neg e, (sortK_perm _).length_eq, List.length_map]
    exact readL_few (by have := openL_few (l := l) (st := strL S m) n8; omega) r
theorem row_facts {n : Int} {S : List (Int × Int)} {l : List Int} (v : VD n S) (n8 : n ≤ 8) (a : AV n S l) (l8 : l.length ≤ 8) (r : Rd5) {z : Cm.Row} (hz : z ∈ rowsR n S l r) : List.Sublist z.1 (Sd.upTo n) ∧ z.2.length ≤ 256 ∧ ∀ o ∈ z.2, List.Sublist o (Sd.upTo n) := by
  obtain ⟨m, hm, rfl⟩ := List.mem_map.mp hz
  exact ⟨((mem_frontL v a l8 r).mp hm).1, rest_few n8 r, fun o ho => ((mem_restL n8 m r).mp ho).1⟩
theorem e_lots_by_split {n : Int} {S : List (Int × Int)} {l : List Int} (v : VD n S) (h8 : n ≤ 8) (a : AV n S l) (l8 : l.length ≤ 8) (r : Rd5) (q : Pot) : s_lots_by_split [dsp n S, tpI l, .str r.str] q = some (lotsD (readL n S r), q) := by
  have h := e_together_of (R := rowsR n S l r) (front_len l8 r) (fun z hz => by
    obtain ⟨h1, h2, h3⟩ := row_facts v h8 a l8 r hz
    have n1 := v.n1
    exact ⟨h2, by have := sub_len h1; omega, fun o ho => by have := sub_len (h3 o ho); omega⟩) q
  rw [tog_eq v h8 a l8 r, ← rows_map] at h
  exact def_rt (seq_n (exp_ev (call_ev (ds := [dsp n S, tpI l]) (sq_cons rfl (sq_cons rfl sq_nil)) (e_want_ahead v a q))) (seq_n (exp_ev (call_ev (ds := [.str r.str]) (sq_cons rfl sq_nil) (e_want_reading r q))) (ret_ev (call_ev (sq_cons (call_ev (ds := [dsp n S, tpI l, .str r.str]) (sq_cons rfl (sq_cons rfl (sq_cons rfl sq_nil))) (e_rows_of v h8 a.ne (pw_nd a.pw) l8 r q)) sq_nil) h))))
end Cm
/-! the law's own lots -/
namespace Hd
open PySem PySem.Spec PyProof.Rows Sd Cm
theorem e_lw_struck {n : Int} {S : List (Int × Int)} (v : VD n S) (l : List Int) (q : Pot) : Hd.s__law_struck [dsp n S, tpI l] q = some (.list ((struck S l).map iD), q) := e_struck_by v l q
theorem okc_struck {S : List (Int × Int)} {l : List Int} {c : Int} : ((S.filter fun z => decide (z.2 = c)).all fun z => decide (z.1 ∈ struck S l)) = okc S l c := by
  unfold okc
  exact all_congr fun z _ => decide_eq_decide.mpr mem_struck
theorem e_lw_defends {n : Int} {S : List (Int × Int)} (v : VD n S) (l : List Int) (q : Pot) : Hd.s__law_defends [dsp n S, tpI l] q = some (tpI (defL n S l), q) := by
  have n1 := v.n1
  have n10 := v.n10
  refine p_def ?_ q
  refine p_seqR (S := fun ρ => ρ = [some (false, dsp n S), some (false, tpI l), some (false, .list ((struck S l).map iD)), none, none, none]) (p_set (fun q => call_ev (ds := [dsp n S, tpI l]) (sq_cons rfl (sq_cons rfl sq_nil)) (e_lw_struck v l q)) rfl) ?_
  rintro _ rfl
  refine p_ret fun q => ap_1 (d := .list ((defL n S l).map iD)) ?_ rfl
  refine (lcE_map (Sd.upTo n) iD (fun c => [(3, iD c)]) (okc S l) iD (q1 := q) (upTo_rng (ap2_ev (d := dsp n S) (e1 := .int 1) rfl rfl rfl) (by omega)) rfl fun c _ => ⟨rfl, ?_, fun _ => rfl⟩).trans (by rw [defL_okc])
  rw [← okc_struck]
  refine ap_1 (lcE_map S pD (fun z => [(4, iD z.1), (5, iD z.2)]) (fun z => decide (z.2 = c)) (fun z => .bool (decide (z.1 ∈ struck S l))) (q1 := q) (it_ev (d := tpP S) (ap2_ev (d := dsp n S) (e1 := .int 2) rfl rfl rfl) rfl) rfl fun z _ => ⟨rfl, ap2_ev rfl rfl (eq_i z.2 c), fun _ => ap2_ev rfl rfl (in1 z.1 _)⟩) (all_map _ _)
abbrev llE (n : Int) (S : List (Int × Int)) (r : Rd5) (o2 o3 o4 : Option (Bool × D)) : Sd.Env := [some (false, dsp n S), some (false, .str r.str), o2, o3, o4, none, none, none]
abbrev quietL (n : Int) (S : List (Int × Int)) : List (List Int) := sortK (qsubs S (Sd.upTo n))
theorem quiet_law {S : List (Int × Int)} {l : List Int} : (!(struck S l).any fun c => decide (c ∈ l)) = quietB S l := by
  unfold quietB
  congr 1
  exact any_mem' (fun x => mem_struck)
where any_mem' {l m : List Int} {p : Int → Bool} (h : ∀ x, x ∈ l ↔ x ∈ m) : l.any p = m.any p := any_mem h
theorem e_lw_lots {n : Int} {S : List (Int × Int)} (v : VD n S) (r : Rd5) (q : Pot) : Hd.s__law_lots [dsp n S, .str r.str] q = some (lotsD (readL n S r), q) := by
  have n1 := v.n1
  have n10 := v.n10
  refine p_def ?_ q
  refine p_seqR (S := fun ρ => ρ = llE n S r (some (false, lotsD (quietL n S))) none none) (p_set (fun q => ?_) rfl) ?_
  · refine (lcE_map (sortK (subsL (Sd.upTo n))) tpI (fun l => [(5, tpI l)]) (quietB S) tpI (q1 := q) (it_ev (d := lotsD (sortK (subsL (Sd.upTo n)))) (call_ev (ds := [.int n]) (sq_cons (ap2_ev (d := dsp n S) (e1 := .int 1) rfl rfl rfl) sq_nil) (e_every (by omega) q)) rfl) rfl fun l _ => ⟨rfl, ?_, fun _ => rfl⟩).trans (by rw [quiet_all])
    rw [← quiet_law]
    refine ap1_ev (d := .bool ((struck S l).any fun c => decide (c ∈ l))) (ap_1 (lcE_map (struck S l) iD (fun c => [(6, iD c)]) (fun _ => true) (fun c => .bool (decide (c ∈ l))) (q1 := q) (it_ev (d := .list ((struck S l).map iD)) (call_ev (ds := [dsp n S, tpI l]) (sq_cons rfl (sq_cons rfl sq_nil)) (e_lw_struck v l q)) rfl) rfl fun c _ => ⟨rfl, rfl, fun _ => ap2_ev rfl rfl (in0 c l)⟩) (by rw [filter_true, any_map])) rfl
  rintro _ rfl
  refine p_seqR (S := fun ρ => ρ = llE n S r (some (false, lotsD (quietL n S))) (some (false, lotsD (upheldL n S))) none) (p_set (fun q => ?_) rfl) ?_
  · refine (lcE_map (quietL n S) tpI (fun l => [(5, tpI l)]) (fun l => l.all fun c => decide (c ∈ defL n S l)) tpI (q1 := q) (it_ev (d := lotsD (quietL n S)) rfl rfl) rfl fun l _ => ⟨rfl, ?_, fun _ => rfl⟩).trans (by rw [law_upheld])
    refine ap_1 (lcE_map l iD (fun c => [(6, iD c)]) (fun _ => true) (fun c => .bool (decide (c ∈ defL n S l))) (q1 := q) (it_ev (d := tpI l) rfl rfl) rfl fun c _ => ⟨rfl, rfl, fun _ => ap2_ev (e1 := tpI (defL n S l)) rfl (call_ev (ds := [dsp n S, tpI l]) (sq_cons rfl (sq_cons rfl sq_nil)) (e_lw_defends v l q)) (in0 c _)⟩) (by rw [filter_true, all_map])
  rintro _ rfl
  refine p_seqR (S := fun ρ => ρ = llE n S r (some (false, lotsD (quietL n S))) (some (false, lotsD (upheldL n S))) (some (false, lotsD (fullL n S)))) (p_set (fun q => ?_) rfl) ?_
  · exact (lcE_map (upheldL n S) tpI (fun l => [(5, tpI l)]) (fun l => decide (defL n S l = l)) tpI (q1 := q) (it_ev (d := lotsD (upheldL n S)) rfl rfl) rfl fun l _ => ⟨rfl, ap2_ev (d := tpI (defL n S l)) (e1 := tpI l) (call_ev (ds := [dsp n S, tpI l]) (sq_cons rfl (sq_cons rfl sq_nil)) (e_lw_defends v l q)) rfl (eq_tI _ _), fun _ => rfl⟩).trans (by rw [law_full])
  rintro _ rfl
  have k : ∀ (x : Str) (b : Bool), eqD (.str r.str) (.str x) = some (.bool b) → PV (ap2 eqD (vr 1) (cst (.str x))) (llE n S r (some (false, lotsD (quietL n S))) (some (false, lotsD (upheldL n S))) (some (false, lotsD (fullL n S)))) (.bool b) := fun x b h q => ap2_ev (d := .str r.str) (e1 := .str x) rfl rfl h
  have nx : ∀ {c : Sd.Env → M D} {f : SE}, PV c (llE n S r (some (false, lotsD (quietL n S))) (some (false, lotsD (upheldL n S))) (some (false, lotsD (fullL n S)))) (.bool false) → PS (ifS c f nilS) (llE n S r (some (false, lotsD (quietL n S))) (some (false, lotsD (upheldL n S))) (some (false, lotsD (fullL n S)))) fun ρ => ρ = llE n S r (some (false, lotsD (quietL n S))) (some (false, lotsD (upheldL n S))) (some (false, lotsD (fullL n S))) := fun h => p_ifF h (p_nil rfl)
  cases r with
  | up => exact p_seqL (p_ifR (k "upheld" true (eqW (by decide +kernel))) (p_ret fun q => rfl))
  | fu =>
    refine p_seqR (nx (k "upheld" false (eqW (by decide +kernel)))) ?_
    rintro _ rfl
    exact p_seqL (p_ifR (k "full" true (eqW (by decide +kernel))) (p_ret fun q => rfl))
  | se =>
    refine p_seqR (nx (k "upheld" false (eqW (by decide +kernel)))) ?_
    rintro _ rfl
    refine p_seqR (nx (k "full" false (eqW (by decide +kernel)))) ?_
    rintro _ rfl
    refine p_seqL (p_ifR (k "settled" true (eqW (by decide +kernel))) (p_ret fun q => ?_))
    refine (lcE_map (quietL n S) tpI (fun l => [(5, tpI l)]) (fun l => decide (sortI (l ++ struck S l) = Sd.upTo n)) tpI (q1 := q) (it_ev (d := lotsD (quietL n S)) rfl rfl) rfl fun l hl => ⟨rfl, ?_, fun _ => rfl⟩).trans (by rw [law_settled v]; rfl)
    have hl2 := (quiet_mem hl).2.length_le
    rw [upTo_len] at hl2
    have hst := struck_few v l
    have rg : rgD 0 n = (Sd.upTo n).map iD := by
      rw [upTo_map]
      unfold rgD
      rw [Int.sub_zero]
      refine List.map_congr_left fun i _ => ?_
      rw [Int.zero_add]
    refine ap2_ev (d := .list ((sortI (l ++ struck S l)).map iD)) (e1 := .list ((Sd.upTo n).map iD)) (ap_1 (d := .list ((l ++ struck S l).map iD)) (ap2_ev (d := .list (l.map iD)) (e1 := .list ((struck S l).map iD)) (ap_1 (d := tpI l) rfl rfl) (call_ev (ds := [dsp n S, tpI l]) (sq_cons rfl (sq_cons rfl sq_nil)) (e_lw_struck v l q)) ?_) ?_) ?_ (eq_lI _ _)
    · show (if _ then _ else _) = _
      rw [if_pos (by rw [List.length_map, List.length_map]; omega), List.map_append]
    · exact sorted_ints (l ++ struck S l)
    · refine bind2 (a := .int n) (q1 := q) (ap2_ev (d := dsp n S) (e1 := .int 1) rfl rfl rfl) ?_
      show (if 0 ≤ n ∧ n ≤ 1000000 then M.pure (PyData.list (rgD 0 n)) else M.fail) q = _
      rw [if_pos (by omega), rg]; rfl
  | pl =>
    refine p_seqR (nx (k "upheld" false (eqW (by decide +kernel)))) ?_
    rintro _ rfl
    refine p_seqR (nx (k "full" false (eqW (by decide +kernel)))) ?_
    rintro _ rfl
    refine p_seqR (nx (k "settled" false (eqW (by decide +kernel)))) ?_
    rintro _ rfl
    refine p_seqL (p_ifR (k "plain" true (eqW (by decide +kernel))) (p_ret fun q => ?_))
    refine (lcE_map (fullL n S) tpI (fun l => [(5, tpI l)]) (fun l => (fullL n S).all fun o => withinB l o) tpI (q1 := q) (it_ev (d := lotsD (fullL n S)) rfl rfl) rfl fun l _ => ⟨rfl, ?_, fun _ => rfl⟩).trans (by rw [law_plain]; rfl)
    refine ap_1 (lcE_map (fullL n S) tpI (fun o => [(7, tpI o)]) (fun _ => true) (fun o => .bool (withinB l o)) (q1 := q) (it_ev (d := lotsD (fullL n S)) rfl rfl) rfl fun o _ => ⟨rfl, rfl, fun _ => ?_⟩) (by rw [filter_true, all_map])
    exact ap_1 (lcE_map l iD (fun c => [(6, iD c)]) (fun _ => true) (fun c => .bool (decide (c ∈ o))) (q1 := q) (it_ev (d := tpI l) rfl rfl) rfl fun c _ => ⟨rfl, rfl, fun _ => ap2_ev rfl rfl (in0 c o)⟩) (by rw [filter_true, all_map]; rfl)
  | gr =>
    refine p_seqR (nx (k "upheld" false (eqW (by decide +kernel)))) ?_
    rintro _ rfl
    refine p_seqR (nx (k "full" false (eqW (by decide +kernel)))) ?_
    rintro _ rfl
    refine p_seqR (nx (k "settled" false (eqW (by decide +kernel)))) ?_
    rintro _ rfl
    refine p_seqR (nx (k "plain" false (eqW (by decide +kernel)))) ?_
    rintro _ rfl
    refine p_ret fun q => lcE_map (upheldL n S) tpI (fun l => [(5, tpI l)]) (topB (upheldL n S)) tpI (q1 := q) (it_ev (d := lotsD (upheldL n S)) rfl rfl) rfl fun l _ => ⟨rfl, ?_, fun _ => rfl⟩
    refine ap1_ev (d := .bool ((upheldL n S).any fun o => !decide (o = l) && withinB l o)) (ap_1 (lcE_map (upheldL n S) tpI (fun o => [(7, tpI o)]) (fun _ => true) (fun o => .bool (!decide (o = l) && withinB l o)) (q1 := q) (it_ev (d := lotsD (upheldL n S)) rfl rfl) rfl fun o _ => ⟨rfl, rfl, fun _ => ?_⟩) (by rw [filter_true, any_map])) rfl
    exact and_b (ap2_ev (d := tpI o) (e1 := tpI l) rfl rfl (ne_tI o l)) (ap_1 (lcE_map l iD (fun c => [(6, iD c)]) (fun _ => true) (fun c => .bool (decide (c ∈ o))) (q1 := q) (it_ev (d := tpI l) rfl rfl) rfl fun c _ => ⟨rfl, rfl, fun _ => ap2_ev rfl rfl (in0 c o)⟩) (by rw [filter_true, all_map]; rfl))
end Hd
/-! the law's own rows; what is told -/
namespace Hd
open PySem PySem.Spec PyProof.Rows Sd Cm
abbrev lrE (n : Int) (S : List (Int × Int)) (l : List Int) (r : Rd5) (R : List (List Int)) (o4 o5 o6 o7 : Option (Bool × D)) : Sd.Env := [some (false, dsp n S), some (false, tpI l), some (false, .str r.str), some (true, .list (R.map fun m => rowD n S l m r)), o4, o5, o6, o7, none, none]
theorem readL_few {n : Int} {S : List (Int × Int)} (n8 : n ≤ 8) (r : Rd5) : (readL n S r).length ≤ 256 := by
  have hq : (sortK (qsubs S (Sd.upTo n))).length ≤ 256 := by
    rw [(sortK_perm _).length_eq]
    have h1 := qsubs_len S (Sd.upTo n)
    rw [upTo_len] at h1
    have h2 : 2 ^ n.toNat ≤ 2 ^ 8 := Nat.pow_le_pow_right (by decide) (by omega)
    omega
  cases r with
  | up => exact Nat.le_trans (List.length_filter_le _ _) hq
  | fu => exact Nat.le_trans (List.length_filter_le _ _) hq
  | gr => exact Nat.le_trans (List.length_filter_le _ _) (Nat.le_trans (List.length_filter_le _ _) hq)
  | se => exact Nat.le_trans (List.length_filter_le _ _) hq
  | pl => show 1 ≤ 256; decide
theorem front_few {S : List (Int × Int)} {l : List Int} (l8 : l.length ≤ 8) (r : Rd5) : (frontL S l r).length ≤ 256 := by
  unfold frontL
  rw [(sortK_perm _).length_eq, List.length_map]
  exact readL_few (by omega) r
theorem e_lw_rows {n : Int} {S : List (Int × Int)} {l : List Int} (v : VD n S) (h8 : n ≤ 8) (ne : l ≠ []) (l8 : l.length ≤ 8) (r : Rd5) (q : Pot) : Hd.s__law_rows [dsp n S, tpI l, .str r.str] q = some (.list ((frontL S l r).map fun m => rowD n S l m r), q) := by
  have vd := alone_vd ne l8 S []
  have hf := v.few
  have ea : ∀ q, s__law_alone [dsp n S, tpI l, .list []] q = some (dsp l.length (aloneP S l []), q) := fun q => by
    rw [← alone_eq]; exact e__law_alone (x := []) rfl l8 (by simp; omega) q
  refine p_def ?_ q
  refine p_seqR (S := fun ρ => ρ = lrE n S l r [] none none none none) (p_setB (fun q => rfl) rfl rfl) ?_
  rintro _ rfl
  refine p_seqR (p_for (frontL S l r) tpI (fun pre ρ => ∃ o4 o5 o6 o7, ρ = lrE n S l r pre o4 o5 o6 o7) (fun q => it_ev (d := lotsD (frontL S l r)) (ap_1 (d := lotsD ((readL l.length (aloneP S l []) r).map (telL l))) ?_ (sorted_lots _)) rfl) ⟨none, none, none, none, rfl⟩ ?_) ?_
  · refine (lcE_map (readL l.length (aloneP S l []) r) tpI (fun x => [(4, tpI x)]) (fun _ => true) (fun x => tpI (telL l x)) (q1 := q) (it_ev (d := lotsD _) (call_ev (ds := [dsp l.length (aloneP S l []), .str r.str]) (sq_cons (call_ev (ds := [dsp n S, tpI l, .list []]) (sq_cons rfl (sq_cons rfl (sq_cons rfl sq_nil))) (ea q)) (sq_cons rfl sq_nil)) (e_lw_lots vd r q)) rfl) rfl fun x hx => ⟨rfl, rfl, fun _ => tel_te (readL_rng hx) rfl rfl (fun _ => rfl) (fun _ => rfl)⟩).trans ?_
    rw [filter_true]
    show _ = some (PyData.list (((readL l.length (aloneP S l []) r).map (telL l)).map tpI), q)
    rw [List.map_map]; rfl
  · rintro pre m post e _ ⟨o4, o5, o6, o7, rfl⟩
    have hl := front_few (S := S) l8 r
    have hp : pre.length < 256 := by
      have := congrArg List.length e
      rw [List.length_append, List.length_cons] at this
      omega
    refine ⟨_, rfl, ?_⟩
    have fin : ∀ (o5 o6 : Option (Bool × D)) (L : List (List Int)), sortK L = restL n S l m r → PS (bldS 3 appH (tupE [vr 4, ap tupD [ap sortedG [vr 7]]])) (lrE n S l r pre (some (false, tpI m)) o5 o6 (some (false, lotsD L))) fun ρ => ∃ o4 o5 o6 o7, ρ = lrE n S l r (pre ++ [m]) o4 o5 o6 o7 := fun o5 o6 L hL => by
      refine p_app (d := rowD n S l m r) (ds := pre.map fun m => rowD n S l m r) (fun q => tup_ev (sq_cons rfl (sq_cons (ap_1 (d := lotsD (sortK L)) (ap_1 (d := lotsD L) rfl (sorted_lots L)) (by rw [hL]; rfl)) sq_nil))) rfl (by rw [List.length_map]; omega) ⟨some (false, tpI m), o5, o6, some (false, lotsD L), ?_⟩
      show [_, _, _, _, _, _, _, _, _, _] = lrE _ _ _ _ _ _ _ _ _
      unfold lrE
      rw [List.map_append]; rfl
    by_cases c : openL n l (strL S m) = []
    · have hr : ∀ q, s__law_rest [dsp n S, tpI l, tpI m] q = some (.tuple [.none, .tuple []], q) := fun q => by rw [e__law_rest v h8]; unfold restD; rw [if_pos c]
      refine p_seq (S := fun ρ => ρ = lrE n S l r pre (some (false, tpI m)) (some (false, .none)) (some (false, .tuple [])) o7) (p_asg (d := .tuple [.none, .tuple []]) (fun q => call_ev (ds := [dsp n S, tpI l, tpI m]) (sq_cons rfl (sq_cons rfl (sq_cons rfl sq_nil))) (hr q)) rfl rfl) ?_
      rintro _ rfl
      refine p_seq (S := fun ρ => ρ = lrE n S l r pre (some (false, tpI m)) (some (false, .none)) (some (false, .tuple [])) (some (false, lotsD [[]]))) (p_set (fun q => ite_t (q1 := q) rfl rfl) rfl) ?_
      rintro _ rfl
      exact fin _ _ _ (by unfold restL; rw [if_pos c]; exact sortK_self (by simp))
    · have h8' := openL_few (l := l) (st := strL S m) h8
      have hr : ∀ q, s__law_rest [dsp n S, tpI l, tpI m] q = some (.tuple [dsp (openL n l (strL S m)).length (aloneP S (openL n l (strL S m)) (strL S (looseL l m (strL S m)))), tpI (openL n l (strL S m))], q) := fun q => by rw [e__law_rest v h8]; unfold restD; rw [if_neg c, alone_eq]
      have vd2 := alone_vd c h8' S (strL S (looseL l m (strL S m)))
      have hR : restL n S l m r = sortK ((readL (openL n l (strL S m)).length (aloneP S (openL n l (strL S m)) (strL S (looseL l m (strL S m)))) r).map (telL (openL n l (strL S m)))) := by unfold restL; rw [if_neg c]
      generalize openL n l (strL S m) = op at *
      generalize aloneP S op (strL S (looseL l m (strL S m))) = T at *
      refine p_seq (S := fun ρ => ρ = lrE n S l r pre (some (false, tpI m)) (some (false, dsp op.length T)) (some (false, tpI op)) o7) (p_asg (d := .tuple [dsp op.length T, tpI op]) (fun q => call_ev (ds := [dsp n S, tpI l, tpI m]) (sq_cons rfl (sq_cons rfl (sq_cons rfl sq_nil))) (hr q)) rfl rfl) ?_
      rintro _ rfl
      refine p_seq (S := fun ρ => ρ = lrE n S l r pre (some (false, tpI m)) (some (false, dsp op.length T)) (some (false, tpI op)) (some (false, lotsD ((readL op.length T r).map (telL op))))) (p_set (fun q => ite_f (q1 := q) rfl ?_) rfl) ?_
      · refine (lcE_map (readL op.length T r) tpI (fun x => [(8, tpI x)]) (fun _ => true) (fun x => tpI (telL op x)) (q1 := q) (it_ev (d := lotsD _) (call_ev (ds := [dsp op.length T, .str r.str]) (sq_cons rfl (sq_cons rfl sq_nil)) (e_lw_lots vd2 r q)) rfl) rfl fun x hx => ⟨rfl, rfl, fun _ => tel_te (readL_rng hx) rfl rfl (fun _ => rfl) (fun _ => rfl)⟩).trans ?_
        rw [filter_true]
        show _ = some (PyData.list (((readL op.length T r).map (telL op)).map tpI), q)
        rw [List.map_map]; rfl
      rintro _ rfl
      exact fin _ _ _ hR.symm
  · rintro _ ⟨o4, o5, o6, o7, rfl⟩
    exact p_ret fun q => rfl
theorem e_split_rows {n : Int} {S : List (Int × Int)} {l : List Int} (v : VD n S) (h8 : n ≤ 8) (a : AV n S l) (l8 : l.length ≤ 8) (r : Rd5) (q : Pot) : s_split_rows [dsp n S, tpI l, .str r.str] q = some (.list ((frontL S l r).map fun m => rowD n S l m r), q) :=
  def_rt (seq_n (exp_ev (call_ev (ds := [dsp n S, tpI l]) (sq_cons rfl (sq_cons rfl sq_nil)) (e_want_ahead v a q))) (seq_n (exp_ev (call_ev (ds := [.str r.str]) (sq_cons rfl sq_nil) (e_want_reading r q))) (ret_ev (call_ev (ds := [dsp n S, tpI l, .str r.str]) (sq_cons rfl (sq_cons rfl (sq_cons rfl sq_nil))) (e_rows_of v h8 a.ne (a.pw.imp fun h => by have h : _ < _ := h; omega) l8 r q)))))
end Hd
/-! the law's own looks -/
namespace Hd
open PySem PySem.Spec PyProof.Rows Sd Cm
/-! ### the law's own looks -/
theorem e_lw_is_int {i n : Int} (h : 0 ≤ i ∧ i < n) (q : Pot) : Hd.s__law_is_int [.int i, .int n] q = some (.bool true, q) :=
  def_rt (ret_ev (and_tt rfl (and_tt rfl (chain_tt (x := .int 0) (y := .int i) (w := .int n) rfl rfl (by show some (PyData.bool (decide (0 ≤ i))) = _; rw [decide_eq_true h.1]) rfl (by show some (PyData.bool (decide (i < n))) = _; rw [decide_eq_true h.2])))))
theorem srt_self {l : List Int} (h : l.Pairwise (· < ·)) (h2 : l.length < 64) : srtSetD (tpI l) = some (.list (l.map iD)) := by
  have e := srtSet_ints l (by omega) (by have := nodup_sub (nodup_dedI l) (b := l) fun x hx => mem_dedI.mp hx; omega)
  have e2 : sortI (dedI l) = l := pw_ext2 (R := (· < ·)) (fun a h => by omega) (fun a b h1 h2 => by omega) (sortI_lt (nodup_dedI _)) h fun x => by rw [(sortI_perm _).mem_iff, mem_dedI]
  rw [e2] at e
  exact (srtSetD_tup _).trans e
theorem e_lw_is_lot {n : Int} {S : List (Int × Int)} (hn : n ≤ 10) {l : List Int} (h : LV n l) (q : Pot) : Hd.s__law_is_lot [dsp n S, tpI l] q = some (.bool true, q) := by
  have hl := sub_len (lv_sub h)
  refine def_rt (ret_ev (and_tt rfl (and_tt (ap_1 (lcE_map l iD (fun x => [(2, iD x)]) (fun _ => true) (fun x => .bool true) (q1 := q) (it_ev (d := tpI l) rfl rfl) rfl fun x hx => ⟨rfl, rfl, fun _ => call_ev (ds := [.int x, .int n]) (sq_cons rfl (sq_cons (ap2_ev (d := dsp n S) (e1 := .int 1) rfl rfl rfl) sq_nil)) (e_lw_is_int (h.rng x hx) q)⟩) ?_) (ap2_ev (d := .list (l.map iD)) (e1 := .list (l.map iD)) (ap_1 (d := tpI l) rfl rfl) (ap1_ev (d := tpI l) rfl (srt_self h.pw (by omega))) ?_))))
  · rw [filter_true, all_map]
    simp
  · rw [eq_lI]; simp
def aheadB (S : List (Int × Int)) (l : List Int) : Bool := !decide (l = []) && decide ((S.filter fun z => decide (z.2 ∈ l) && !decide (z.1 ∈ l)) = [])
theorem aheadB_iff {n : Int} {S : List (Int × Int)} {l : List Int} (h : LV n l) : aheadB S l = true ↔ AV n S l := by
  unfold aheadB
  rw [Bool.and_eq_true, Bool.not_eq_true', decide_eq_false_iff_not, decide_eq_true_iff, List.filter_eq_nil_iff]
  constructor
  · rintro ⟨h1, h2⟩
    refine ⟨h, h1, fun z hz hl => Decidable.byContradiction fun c => h2 z hz ?_⟩
    rw [Bool.and_eq_true, Bool.not_eq_true', decide_eq_false_iff_not, decide_eq_true_iff]
    exact ⟨hl, c⟩
  · intro a
    refine ⟨a.ne, fun z hz hc => ?_⟩
    rw [Bool.and_eq_true, Bool.not_eq_true', decide_eq_false_iff_not, decide_eq_true_iff] at hc
    exact hc.2 (a.cl z hz hc.1)
theorem lays_pairs (L : List (Int × Int)) : PE (.list (L.map pD)) := by
  have h := pe_pairs L
  refine ⟨h.1, ?_⟩
  have h2 := h.2
  unfold SeqAt.shaped at h2 ⊢
  simpa [PyData.canLay0, PyData.depth] using h2
theorem eq_nilP (L : List (Int × Int)) : eqD (.list (L.map pD)) (.list []) = some (.bool (decide (L = []))) := by
  refine eq_PE (lays_pairs L) (lays_pairs []) ?_
  rw [decide_eq_true_iff]
  constructor
  · rintro rfl; rfl
  · intro e
    cases L with
    | nil => rfl
    | cons a L => cases e
theorem e_lw_is_ahead {n : Int} {S : List (Int × Int)} (hn : n ≤ 10) {l : List Int} (h : LV n l) (q : Pot) : Hd.s__law_is_ahead [dsp n S, tpI l] q = some (.bool (aheadB S l), q) := by
  have t : ∀ q, orE (ap1 notD (callE Hd.s__law_is_lot [vr 0, vr 1])) (ap2 eqD (vr 1) (tupE [])) [some (false, dsp n S), some (false, tpI l), none] q = some (.bool (decide (l = [])), q) := fun q => or_ff (ap1_ev (d := .bool true) (call_ev (ds := [dsp n S, tpI l]) (sq_cons rfl (sq_cons rfl sq_nil)) (e_lw_is_lot hn h q)) rfl) (ap2_ev (d := tpI l) (e1 := .tuple []) rfl rfl (eq_nil l))
  refine p_def ?_ q
  by_cases c : l = []
  · subst c
    exact p_seqL (p_ifR (fun q => (t q).trans rfl) (p_ret fun q => rfl))
  · refine p_seqR (S := fun ρ => ρ = [some (false, dsp n S), some (false, tpI l), none]) (p_ifF (fun q => (t q).trans (by rw [decide_eq_false c])) (p_nil rfl)) ?_
    rintro _ rfl
    refine p_ret fun q => ?_
    unfold aheadB
    rw [decide_eq_false c]
    exact ap2_ev (e1 := .list []) (lcE_map S pD (fun z => [(2, pD z)]) (fun z => decide (z.2 ∈ l) && !decide (z.1 ∈ l)) pD (q1 := q) (it_ev (d := tpP S) (ap2_ev (d := dsp n S) (e1 := .int 2) rfl rfl rfl) rfl) rfl fun z _ => ⟨rfl, and_b (ap2_ev (d := .int z.2) (e1 := tpI l) rfl rfl (in0 z.2 l)) (ap2_ev (d := .int z.1) (e1 := tpI l) rfl rfl (nin0 z.1 l)), fun _ => rfl⟩) rfl (eq_nilP _)
end Hd
/-! facts about open strikes -/
namespace Cm
open PySem PySem.Spec PyProof.Rows Sd
theorem eq_shown {d : D} (h : SD d) : eqD (.str d.shown) (.str d.shown) = some (.bool true) := eq_str (shaped_shown h)
theorem eq_b (a b : Bool) : eqD (.bool a) (.bool b) = some (.bool (decide (a = b))) := by cases a <;> cases b <;> rfl
abbrev Fa := (Int × Int) × Bool
def b01 (b : Bool) : Int := if b = true then 1 else 0
def fD (f : Fa) : D := .tuple [pD f.1, .int (b01 f.2)]
abbrev FD (F : List Fa) : D := .tuple (F.map fD)
abbrev FsD (L : List (List Fa)) : D := .list (L.map FD)
def addF (L : List (List Fa)) (s : Int × Int) : List (List Fa) := L ++ (L.map (· ++ [(s, false)]) ++ L.map (· ++ [(s, true)]))
def allF (M : List (Int × Int)) : List (List Fa) := M.foldl addF [[]]
theorem allF_snoc (M : List (Int × Int)) (x : Int × Int) : allF (M ++ [x]) = addF (allF M) x := by
  unfold allF; rw [List.foldl_append]; rfl
theorem allF_len : ∀ M : List (Int × Int), (allF M).length = 3 ^ M.length := by
  refine snoc_ind rfl fun M x ih => ?_
  rw [allF_snoc]
  unfold addF
  rw [List.length_append, List.length_append, List.length_map, List.length_map, ih, List.length_append, List.length_singleton, Nat.pow_succ]
  omega
theorem mem_addF {L : List (List Fa)} {s : Int × Int} {F : List Fa} : F ∈ addF L s ↔ F ∈ L ∨ ∃ G ∈ L, ∃ b, F = G ++ [(s, b)] := by
  unfold addF
  rw [List.mem_append, List.mem_append, List.mem_map, List.mem_map]
  constructor
  · rintro (h | ⟨G, h, rfl⟩ | ⟨G, h, rfl⟩)
    · exact .inl h
    · exact .inr ⟨G, h, _, rfl⟩
    · exact .inr ⟨G, h, _, rfl⟩
  · rintro (h | ⟨G, h, b, rfl⟩)
    · exact .inl h
    · cases b with
      | false => exact .inr (.inl ⟨G, h, rfl⟩)
      | true => exact .inr (.inr ⟨G, h, rfl⟩)
theorem mem_allF : ∀ {M : List (Int × Int)} {F : List Fa}, F ∈ allF M ↔ List.Sublist (F.map (·.1)) M := by
  intro M
  refine snoc_ind (P := fun M => ∀ {F : List Fa}, F ∈ allF M ↔ List.Sublist (F.map (·.1)) M) ?_ ?_ M
  · intro F
    show F ∈ [[]] ↔ _
    rw [List.mem_singleton, List.sublist_nil, List.map_eq_nil_iff]
  · intro M x ih F
    rw [allF_snoc, mem_addF, sub_snoc, ih]
    refine or_congr Iff.rfl ⟨?_, ?_⟩
    · rintro ⟨G, h, b, rfl⟩
      exact ⟨_, ih.mp h, by rw [List.map_append]; rfl⟩
    · rintro ⟨m, h, e⟩
      obtain ⟨G, G2, rfl, h1, h2⟩ := List.map_eq_append_iff.mp e
      obtain ⟨f, r, rfl, h3, h4⟩ := List.map_eq_cons_iff.mp h2
      obtain rfl := List.map_eq_nil_iff.mp h4
      refine ⟨G, ih.mpr (by rw [h1]; exact h), f.2, ?_⟩
      rw [← h3]
theorem allF_le {M : List (Int × Int)} {F : List Fa} (h : F ∈ allF M) : F.length ≤ M.length := by
  have := (mem_allF.mp h).length_le
  rwa [List.length_map] at this
/-! ### data of facts -/
theorem pe_fact (f : Fa) : PE (fD f) := by
  refine ⟨rfl, ?_⟩
  unfold SeqAt.shaped fD
  have h1 : (pD f.1).canLay0 = true := by
    show PyData.canLay0 (.tuple _) = true
    simp only [PyData.canLay0]
    exact lay_ints [f.1.1, f.1.2]
  have h2 : (pD f.1).depth = 1 := by
    show PyData.depthAll ([f.1.1, f.1.2].map iD) + 1 = 1
    rw [dep_ints]
  simp [PyData.canLay0, PyData.canLayAll0, PyData.depth, PyData.depthAll, h1, h2]
theorem fact_lay (f : Fa) : (fD f).canLay0 = true ∧ (fD f).depth ≤ 2 := by
  have h1 : (pD f.1).canLay0 = true := by
    show PyData.canLay0 (.tuple _) = true
    simp only [PyData.canLay0]
    exact lay_ints [f.1.1, f.1.2]
  have h2 : (pD f.1).depth = 1 := by
    show PyData.depthAll ([f.1.1, f.1.2].map iD) + 1 = 1
    rw [dep_ints]
  unfold fD
  simp [PyData.canLay0, PyData.canLayAll0, PyData.depth, PyData.depthAll, h1, h2]
theorem facts_lay : ∀ F : List Fa, PyData.canLayAll0 (F.map fD) = true
  | [] => by simp [PyData.canLayAll0]
  | f :: F => by simp only [List.map_cons, PyData.canLayAll0, (fact_lay f).1, facts_lay F, Bool.and_self]
theorem facts_dep (F : List Fa) : (FD F).canLay0 = true ∧ (FD F).depth ≤ 3 := by
  have dp : PyData.depthAll (F.map fD) ≤ 2 := depthAll_le fun d hd => by
    obtain ⟨z, _, rfl⟩ := List.mem_map.mp hd
    exact (fact_lay z).2
  simp only [PyData.canLay0, PyData.depth]
  exact ⟨facts_lay F, by omega⟩
theorem nb_facts (F : List Fa) : nb (FD F) = true := by
  simp only [nb]
  exact nbL_iff.mpr fun d hd => by
    obtain ⟨z, _, rfl⟩ := List.mem_map.mp hd
    exact (pe_fact z).1
theorem pe_facts (F : List Fa) : PE (FD F) := ⟨nb_facts F, by
  unfold SeqAt.shaped
  rw [(facts_dep F).1, Bool.true_and]
  exact decide_eq_true (by have := (facts_dep F).2; omega)⟩
theorem lays_facts : ∀ L : List (List Fa), PyData.canLayAll0 (L.map FD) = true
  | [] => by simp [PyData.canLayAll0]
  | F :: L => by simp only [List.map_cons, PyData.canLayAll0, (facts_dep F).1, lays_facts L, Bool.and_self]
theorem pe_factsL (L : List (List Fa)) : PE (FsD L) := by
  refine ⟨by simp only [nb]; exact nbL_iff.mpr fun d hd => (by
    obtain ⟨z, _, rfl⟩ := List.mem_map.mp hd; exact nb_facts z), ?_⟩
  unfold SeqAt.shaped
  have dp : PyData.depthAll (L.map FD) ≤ 3 := depthAll_le fun d hd => by
    obtain ⟨z, _, rfl⟩ := List.mem_map.mp hd
    exact (facts_dep z).2
  simp only [PyData.canLay0, PyData.depth, lays_facts, Bool.true_and, decide_eq_true_eq]
  exact decide_eq_true (by omega)
theorem b01_inj {a b : Bool} (h : b01 a = b01 b) : a = b := by cases a <;> cases b <;> first | rfl | (exact absurd h (by decide))
theorem fD_inj {f g : Fa} (h : fD f = fD g) : f = g := by
  unfold fD at h
  simp only [PyData.tuple.injEq, List.cons.injEq, PyData.int.injEq, and_true] at h
  exact Prod.ext (pD_inj.mp h.1) (b01_inj h.2)
theorem mem_fDs {f : Fa} {F : List Fa} : fD f ∈ F.map fD ↔ f ∈ F := by
  rw [List.mem_map]
  exact ⟨fun ⟨y, h1, h2⟩ => fD_inj h2 ▸ h1, fun h => ⟨f, h, rfl⟩⟩
theorem in_facts (neg : Bool) (f : Fa) (F : List Fa) : inG neg (fD f) (FD F) = some (.bool (neg != decide (f ∈ F))) :=
  in_PE rfl (pe_fact f) (pe_facts F) (fun d hd => by obtain ⟨y, _, rfl⟩ := List.mem_map.mp hd; exact (pe_fact y).1) neg (by rw [decide_eq_true_iff, mem_fDs])
theorem FD_inj {F G : List Fa} : FD F = FD G ↔ F = G := by
  constructor
  · intro h
    have h : F.map fD = G.map fD := by simpa using h
    exact (List.map_inj_right fun x y => fD_inj).mp h
  · rintro rfl; rfl
/-! ### sorted by size -/
def gD (F : List Fa) : D := .tuple [.int F.length, FD F]
def leF (F G : List Fa) : Bool := leS (gD F) (gD G)
def sortF (L : List (List Fa)) : List (List Fa) := L.mergeSort leF
theorem sortF_map (L : List (List Fa)) : srt (L.map gD) = (sortF L).map gD := by
  unfold srt sortF
  exact (List.map_mergeSort (r := leF) (s := leS) (f := gD) fun a _ b _ => rfl).symm
theorem sortF_perm (L : List (List Fa)) : (sortF L).Perm L := List.mergeSort_perm _ _
theorem alike_fact (f g : Fa) : PySem.W.alike (fD f) (fD g) = true := by
  unfold fD
  rw [pD_eq, pD_eq]
  simp [PySem.W.alike, PySem.W.alikeAll]
theorem alike_facts : ∀ F G : List Fa, PySem.W.alikeAll (F.map fD) (G.map fD) = true
  | [], _ => by simp [PySem.W.alikeAll]
  | _ :: _, [] => by simp [PySem.W.alikeAll]
  | x :: a, y :: b => by simp only [List.map_cons, PySem.W.alikeAll, alike_fact, alike_facts a b, Bool.and_self]
theorem alike_FD (F G : List Fa) : PySem.W.alike (FD F) (FD G) = true := by
  simp only [PySem.W.alike]; exact alike_facts F G
theorem okS_gD (L : List (List Fa)) : okS (L.map gD) = true := by
  unfold okS alikeB sortB
  simp only [Bool.and_eq_true]
  refine ⟨?_, ?_, ?_, ?_⟩
  · rw [List.all_eq_true]; intro d hd
    rw [List.all_eq_true]; intro e he
    obtain ⟨a, _, rfl⟩ := List.mem_map.mp hd
    obtain ⟨b, _, rfl⟩ := List.mem_map.mp he
    show PySem.W.alike (.tuple [.int _, FD a]) (.tuple [.int _, FD b]) = true
    have h := alike_facts a b
    simp [PySem.W.alike, PySem.W.alikeAll, h]
  · rw [Bool.or_eq_true]
    left
    rw [List.all_eq_true]; intro d hd
    obtain ⟨a, _, rfl⟩ := List.mem_map.mp hd
    rfl
  · rw [nodL_all, List.all_eq_true]; intro d hd
    obtain ⟨a, _, rfl⟩ := List.mem_map.mp hd
    refine nb_nod ?_
    have := nb_facts a
    unfold gD
    simp only [nb, nbL] at this ⊢
    simp [this]
  · rw [List.all_eq_true]; intro d hd
    obtain ⟨a, _, rfl⟩ := List.mem_map.mp hd
    have := (facts_dep a).2
    have z : (gD a).depth ≤ 4 := by
      show PyData.depthAll [.int _, FD a] + 1 ≤ 4
      simp only [PyData.depthAll, PyData.depth] at this ⊢
      omega
    exact decide_eq_true (by omega)
theorem sorted_gD (L : List (List Fa)) : sortedG [.list (L.map gD)] = some (.list ((sortF L).map gD)) := by
  show (if okS (L.map gD) = true then some (PyData.list (srt (L.map gD))) else none) = _
  rw [if_pos (okS_gD L), sortF_map]
/-! ### all facts -/
theorem addF_lc {L : List (List Fa)} {s : Int × Int} (b : Bool) (hl : ∀ l ∈ L, l.length ≤ 100) {ρ : Sd.Env} {q : Pot} {i j k : Nat} {own : List Nat} {z : Int} (hz : z = b01 b) (hi : vr i ρ q = some (FsD L, q)) (hown : own.all (fun i => decide (i < ρ.length)) = true)
    (hk : ∀ l : List Fa, vr k (sets (wipeD ρ own) [k] [(false, FD l)]) q = some (FD l, q)) (hj : ∀ l : List Fa, vr j (sets (wipeD ρ own) [k] [(false, FD l)]) q = some (pD s, q)) : lcE own (itE (vr i)) (gN k) (cst (.bool true)) (ap2 addD (vr k) (tupE [tupE [vr j, cst (.int z)]])) ρ q = some (FsD (L.map (· ++ [(s, b)])), q) := by
  refine (lcE_map L FD (fun l => [(k, FD l)]) (fun _ => true) (fun l => FD (l ++ [(s, b)])) (q1 := q) (it_ev (d := FsD L) hi rfl) hown fun l hl2 => ⟨rfl, rfl, fun _ => ap2_ev (d := FD l) (e1 := .tuple [fD (s, b)]) (hk l) (tup_ev (sq_cons (tup_ev (sq_cons (hj l) (sq_cons (by rw [hz]; rfl) sq_nil))) sq_nil)) ?_⟩).trans (by rw [filter_true]; show _ = some (PyData.list ((L.map (· ++ [(s, b)])).map FD), q); rw [List.map_map]; rfl)
  show (if (l.map fD).length + 1 ≤ 1000000 then some (PyData.tuple (l.map fD ++ [fD (s, b)])) else none) = _
  have := hl l hl2
  rw [if_pos (by rw [List.length_map]; omega)]
  show some (PyData.tuple _) = some (PyData.tuple _)
  rw [List.map_append]; rfl
theorem add_Fs {L G : List (List Fa)} (h : L.length + G.length ≤ 1000000) : addD (FsD L) (FsD G) = some (FsD (L ++ G)) := by
  show (if _ then _ else _) = _
  rw [if_pos (by rw [List.length_map, List.length_map]; exact h)]
  show some (PyData.list _) = some (PyData.list _)
  rw [List.map_append]
theorem pw3 {k : Nat} (h : k ≤ 6) : 3 ^ k ≤ 729 := Nat.le_trans (Nat.pow_le_pow_right (by decide) h) (by decide)
theorem e_all_facts {M : List (Int × Int)} (hM : M.length ≤ 6) (q : Pot) : s_all_facts [tpP M] q = some (FsD (sortF (allF M)), q) := by
  refine p_def ?_ q
  refine p_seqR (S := fun ρ => ρ = [some (false, tpP M), some (false, FsD [[]]), none, none, none, none]) (p_set (fun _ => rfl) rfl) ?_
  rintro _ rfl
  refine p_seqR (p_for M pD (fun pre ρ => ∃ o2 o3, ρ = [some (false, tpP M), some (false, FsD (allF pre)), o2, o3, none, none]) (fun q => it_ev (d := tpP M) rfl rfl) ⟨none, none, rfl⟩ ?_) ?_
  · rintro pre x post e _ ⟨o2, o3, rfl⟩
    have hp : pre.length ≤ 6 := by
      have := congrArg List.length e
      rw [List.length_append, List.length_cons] at this
      omega
    have h3 := allF_len pre
    have h4 := pw3 hp
    have hl : ∀ l ∈ allF pre, l.length ≤ 100 := fun l h => by have := allF_le h; omega
    refine ⟨_, rfl, ?_⟩
    refine p_seq (S := fun ρ => ρ = [some (false, tpP M), some (false, FsD (allF pre)), some (false, pD x), some (false, FsD ((allF pre).map (· ++ [(x, false)]) ++ (allF pre).map (· ++ [(x, true)]))), none, none]) (p_set (fun q => ap2_ev (addF_lc false hl rfl rfl rfl (fun _ => rfl) (fun _ => rfl)) (addF_lc true hl rfl rfl rfl (fun _ => rfl) (fun _ => rfl)) (add_Fs (by rw [List.length_map, List.length_map]; omega))) rfl) ?_
    rintro _ rfl
    refine p_set (d := FsD (allF (pre ++ [x]))) (fun q => ap2_ev (d := FsD (allF pre)) (e1 := FsD ((allF pre).map (· ++ [(x, false)]) ++ (allF pre).map (· ++ [(x, true)]))) rfl rfl ?_) ⟨some (false, pD x), some (false, FsD ((allF pre).map (· ++ [(x, false)]) ++ (allF pre).map (· ++ [(x, true)]))), rfl⟩
    rw [add_Fs (by rw [List.length_append, List.length_map, List.length_map]; omega), allF_snoc]; rfl
  · rintro _ ⟨o2, o3, rfl⟩
    refine p_ret fun q => ?_
    refine (lcE_map (sortF (allF M)) gD (fun F => [(4, .int F.length), (5, FD F)]) (fun _ => true) FD (q1 := q) (it_ev (d := .list ((sortF (allF M)).map gD)) (ap_1 (d := .list ((allF M).map gD)) ?_ (sorted_gD _)) rfl) rfl fun F _ => ⟨rfl, rfl, fun _ => rfl⟩).trans (by rw [filter_true])
    refine (lcE_map (allF M) FD (fun F => [(5, FD F)]) (fun _ => true) gD (q1 := q) (it_ev (d := FsD (allF M)) rfl rfl) rfl fun F _ => ⟨rfl, rfl, fun _ => tup_ev (sq_cons (ap_1 (d := FD F) rfl ?_) (sq_cons rfl sq_nil))⟩).trans (by rw [filter_true])
    show some (PyData.int ((F.map fD).length : Nat)) = _
    rw [List.length_map]
theorem e_lall_facts {M : List (Int × Int)} (hM : M.length ≤ 6) (q : Pot) : s__law_all_facts [tpP M] q = some (FsD (sortF (allF M)), q) := by
  refine p_def ?_ q
  refine p_seqR (S := fun ρ => ρ = [some (false, tpP M), some (false, FsD [[]]), none, none, none]) (p_set (fun _ => rfl) rfl) ?_
  rintro _ rfl
  refine p_seqR (p_for M pD (fun pre ρ => ∃ o2, ρ = [some (false, tpP M), some (false, FsD (allF pre)), o2, none, none]) (fun q => it_ev (d := tpP M) rfl rfl) ⟨none, rfl⟩ ?_) ?_
  · rintro pre x post e _ ⟨o2, rfl⟩
    have hp : pre.length ≤ 6 := by
      have := congrArg List.length e
      rw [List.length_append, List.length_cons] at this
      omega
    have h3 := allF_len pre
    have h4 := pw3 hp
    have hl : ∀ l ∈ allF pre, l.length ≤ 100 := fun l h => by have := allF_le h; omega
    refine ⟨_, rfl, ?_⟩
    refine p_set (d := FsD (allF (pre ++ [x]))) (fun q => ap2_ev (d := FsD (allF pre ++ (allF pre).map (· ++ [(x, false)]))) (ap2_ev (d := FsD (allF pre)) rfl (addF_lc false hl rfl rfl rfl (fun _ => rfl) (fun _ => rfl)) (add_Fs (by rw [List.length_map]; omega))) (addF_lc true hl rfl rfl rfl (fun _ => rfl) (fun _ => rfl)) ?_) ⟨some (false, pD x), rfl⟩
    rw [add_Fs (by rw [List.length_append, List.length_map, List.length_map]; omega), allF_snoc]
    unfold addF
    rw [List.append_assoc]
  · rintro _ ⟨o2, rfl⟩
    refine p_ret fun q => ?_
    refine (lcE_map (sortF (allF M)) gD (fun F => [(3, .int F.length), (4, FD F)]) (fun _ => true) FD (q1 := q) (it_ev (d := .list ((sortF (allF M)).map gD)) (ap_1 (d := .list ((allF M).map gD)) ?_ (sorted_gD _)) rfl) rfl fun F _ => ⟨rfl, rfl, fun _ => rfl⟩).trans (by rw [filter_true])
    refine (lcE_map (allF M) FD (fun F => [(4, FD F)]) (fun _ => true) gD (q1 := q) (it_ev (d := FsD (allF M)) rfl rfl) rfl fun F _ => ⟨rfl, rfl, fun _ => tup_ev (sq_cons (ap_1 (d := FD F) rfl ?_) (sq_cons rfl sq_nil))⟩).trans (by rw [filter_true])
    show some (PyData.int ((F.map fD).length : Nat)) = _
    rw [List.length_map]
end Cm
namespace Hd
open PySem PySem.Spec PyProof.Rows Sd Cm
abbrev O := Option (Bool × D)
abbrev mE (n : Int) (S : List (Int × Int)) (o3 o4 o5 o6 o7 o8 o9 o10 o11 o12 : O) : Sd.Env := [some (false, potD), some (false, dsp n S), some (false, .str (dsp n S).shown), o3, o4, o5, o6, o7, o8, o9, o10, o11, o12]
def Tn (n : Int) (S : List (Int × Int)) (o3 o4 : O) (ρ : Sd.Env) : Prop := ∃ o5 o6 o7 o8 o9 o10 o11 o12, ρ = mE n S o3 o4 o5 o6 o7 o8 o9 o10 o11 o12
theorem tog_len {n : Int} {S : List (Int × Int)} {U : List Int} (v : VD n S) (n8 : n ≤ 8) (a : AV n S U) (l8 : U.length ≤ 8) (r : Rd5) : (togL (rowsR n S U r)).length = (readL n S r).length := by
  rw [← tog_eq v n8 a l8 r, (sortK_perm _).length_eq]
theorem rows_sd {n : Int} {S : List (Int × Int)} {U : List Int} (v : VD n S) (n6 : n ≤ 6) (a : AV n S U) (r : Rd5) : SDn 4 27652 (.list ((rowsR n S U r).map rwD)) := by
  have l6 := sub_len (lv_sub a.toLV)
  have l8 : U.length ≤ 8 := by omega
  have h := sdn_rows (R := rowsR n S U r) (k := 6) fun z hz => by
    obtain ⟨h1, _, h3⟩ := row_facts v (by omega) a l8 r hz
    exact ⟨sub_sml (by omega) (by omega) h1, fun o ho => sub_sml (by omega) (by omega) (h3 o ho)⟩
  have h1 := front_len (n := n) (S := S) l8 r
  have h2 := tog_len v (by omega) a l8 r
  have h3 := readL_few (S := S) (n := n) (by omega) r
  exact h.imp (by omega) (by omega)
theorem due_sd {n : Int} {S : List (Int × Int)} (n6 : n ≤ 6) (r : Rd5) : SDn 2 12300 (lotsD (readL n S r)) := by
  have h := sdn_lots (L := readL n S r) (k := 6) fun l hl => sub_sml (by omega) (by omega) (readL_sub hl)
  have h3 := readL_few (S := S) (n := n) (by omega) r
  exact h.imp (by omega) (by omega)
theorem turn {n : Int} {S : List (Int × Int)} {U : List Int} (v : VD n S) (n6 : n ≤ 6) (a : AV n S U) (r : Rd5) (o3 o6 o7 o8 o9 o10 o11 o12 : O) :
    SS (seqS (parS [6, 7] [(false, callE s__law_lots [vr 1, vr 5]), (false, callE s__law_rows [vr 1, vr 4, vr 5])]) (toldS 8 (callN s_split_rows [vr 1, vr 4, vr 5]) (callE (fun ds => s_split_rows (permL [2, 1, 0] ds)) [vr 5, vr 4, vr 1]) (ap2 neD (ap reprD [vr 8]) (ap reprD [lstE [vr 7, vr 7]])) (seqS (ifS (ap2 neD (ap reprD [callE s_split_rows [vr 1, vr 4, vr 5]]) (ap reprD [vr 7])) (retS (cst (.bool false))) (nilS)) (seqS (ifS (ap2 neD (ap reprD [lstE [callE s_lots_by_split [vr 1, vr 4, vr 5], callE (fun ds => s_lots_by_split (permL [2, 1, 0] ds)) [vr 5, vr 4, vr 1]]]) (ap reprD [lstE [vr 6, vr 6]])) (retS (cst (.bool false))) (nilS)) (seqS (setS 9 (lcE [10, 11] (itE (vr 7)) (gT [gN 10, gN 11]) (cst (.bool true)) (vr 10))) (seqS (ifS (ap1 notD (ap allD [lcE [10] (itE (vr 6)) (gN 10) (cst (.bool true)) (ap2 (inG false) (ap tupD [lcE [12] (itE (vr 10)) (gN 12) (ap2 (inG false) (vr 12) (vr 4)) (vr 12)]) (vr 9))])) (retS (cst (.bool false))) (nilS)) (ifS (andE (ap2 neD (vr 5) (cst (.str "settled"))) (ap1 notD (ap allD [lcE [10, 11] (itE (vr 7)) (gT [gN 10, gN 11]) (cst (.bool true)) (ap2 neD (vr 11) (tupE []))]))) (retS (cst (.bool false))) (nilS))))))))
      (mE n S o3 (some (false, tpI U)) (some (false, .str r.str)) o6 o7 o8 o9 o10 o11 o12) (Tn n S o3 (some (false, tpI U))) := by
  have n1 := v.n1
  have n8 : n ≤ 8 := by omega
  have l6 := sub_len (lv_sub a.toLV)
  have l8 : U.length ≤ 8 := by omega
  have sR := rows_sd v n6 a r
  have sD := due_sd (S := S) n6 r
  have cL : ∀ q, Hd.s__law_lots [dsp n S, .str r.str] q = some (lotsD (readL n S r), q) := e_lw_lots v r
  have cR : ∀ q, Hd.s__law_rows [dsp n S, tpI U, .str r.str] q = some (.list ((rowsR n S U r).map rwD), q) := fun q => by rw [← rows_map]; exact e_lw_rows v n8 a.ne l8 r q
  have cS : ∀ q, s_split_rows [dsp n S, tpI U, .str r.str] q = some (.list ((rowsR n S U r).map rwD), q) := fun q => by rw [← rows_map]; exact e_split_rows v n8 a l8 r q
  have cB : ∀ q, s_lots_by_split [dsp n S, tpI U, .str r.str] q = some (lotsD (readL n S r), q) := e_lots_by_split v n8 a l8 r
  have fp : ∀ L ∈ readL n S r, inU U L ∈ (rowsR n S U r).map (·.1) := fun L hL => by
    unfold rowsR
    rw [List.map_map]
    exact List.mem_map.mpr ⟨_, front_part v a l8 r hL, rfl⟩
  have rh : r ≠ .se → ∀ z ∈ rowsR n S U r, z.2 ≠ [] := fun hr z hz => by
    obtain ⟨m, hm, rfl⟩ := List.mem_map.mp hz
    exact restL_has hr m
  have hlen := front_len (n := n) (S := S) l8 r
  generalize rowsR n S U r = Rw at *
  generalize readL n S r = L at *
  have iA : immL [dsp n S, tpI U, .str r.str] = true := by
    show (imm (dsp n S) && (imm (tpI U) && true)) = true
    rw [imm_dsp, imm_tI]; rfl
  refine ss_seq (S := fun ρ => ρ = mE n S o3 (some (false, tpI U)) (some (false, .str r.str)) (some (false, lotsD L)) (some (false, .list (Rw.map rwD))) o8 o9 o10 o11 o12) (ss_par2 (show 6 < 13 by decide) (show 7 < 13 by decide) (es_p (R := fun d => d = lotsD L) (fun q => call_ev (ds := [dsp n S, .str r.str]) (sq_cons rfl (sq_cons rfl sq_nil)) (cL q)) rfl) (es_p (R := fun d => d = .list (Rw.map rwD)) (fun q => call_ev (ds := [dsp n S, tpI U, .str r.str]) (sq_cons rfl (sq_cons rfl (sq_cons rfl sq_nil))) (cR q)) rfl) (fun z => by cases z) (fun z => by cases z) ?_) ?_
  · rintro d e rfl rfl; rfl
  rintro _ rfl
  refine ss_told (xs := Rw.map rwD) (d2 := .list (Rw.map rwD)) (fun q => bind2 (a := [dsp n S, tpI U, .str r.str]) (q1 := q) (sq_cons rfl (sq_cons rfl (sq_cons rfl sq_nil))) ?_) (fun q => call_ev (ds := [.str r.str, tpI U, dsp n S]) (sq_cons rfl (sq_cons rfl (sq_cons rfl sq_nil))) (cS q)) (show 8 < 13 by decide) (by rw [List.length_map]; omega) (fun q => ne_repr (d := .list [.list (Rw.map rwD), .list (Rw.map rwD)]) (sd_two sR sR (by omega) (by omega)) rfl rfl (lst_ev (sq_cons rfl (sq_cons rfl sq_nil)))) ?_
  · rw [if_pos iA]
    exact bind2 (cS q) rfl
  show SS _ (mE n S o3 (some (false, tpI U)) (some (false, .str r.str)) (some (false, lotsD L)) (some (false, .list (Rw.map rwD))) none o9 o10 o11 o12) _
  refine ss_seq (S := fun ρ => ρ = mE n S o3 (some (false, tpI U)) (some (false, .str r.str)) (some (false, lotsD L)) (some (false, .list (Rw.map rwD))) none o9 o10 o11 o12) (ss_ifF (fun q => ne_repr (d := .list (Rw.map rwD)) (sR.sd (by omega) (by omega)) rfl (call_ev (ds := [dsp n S, tpI U, .str r.str]) (sq_cons rfl (sq_cons rfl (sq_cons rfl sq_nil))) (cS q)) rfl) (ss_nil rfl)) ?_
  rintro _ rfl
  refine ss_seq (S := fun ρ => ρ = mE n S o3 (some (false, tpI U)) (some (false, .str r.str)) (some (false, lotsD L)) (some (false, .list (Rw.map rwD))) none o9 o10 o11 o12) (ss_ifF (fun q => ne_repr (d := .list [lotsD L, lotsD L]) (sd_two sD sD (by omega) (by omega)) rfl (lst_ev (sq_cons (call_ev (ds := [dsp n S, tpI U, .str r.str]) (sq_cons rfl (sq_cons rfl (sq_cons rfl sq_nil))) (cB q)) (sq_cons (call_ev (ds := [.str r.str, tpI U, dsp n S]) (sq_cons rfl (sq_cons rfl (sq_cons rfl sq_nil))) (cB q)) sq_nil))) (lst_ev (sq_cons rfl (sq_cons rfl sq_nil)))) (ss_nil rfl)) ?_
  rintro _ rfl
  refine ss_seq (S := fun ρ => ρ = mE n S o3 (some (false, tpI U)) (some (false, .str r.str)) (some (false, lotsD L)) (some (false, .list (Rw.map rwD))) none (some (false, lotsD (Rw.map (·.1)))) o10 o11 o12) (ss_set (es_p (R := fun d => d = lotsD (Rw.map (·.1))) (fun q => ?_) rfl) ?_) ?_
  · refine (lcE_map Rw rwD (fun z => [(10, tpI z.1), (11, .tuple (z.2.map tpI))]) (fun _ => true) (fun z => tpI z.1) (q1 := q) (it_ev (d := .list (Rw.map rwD)) rfl rfl) rfl fun z _ => ⟨rfl, rfl, fun _ => rfl⟩).trans ?_
    rw [filter_true]
    show _ = some (PyData.list ((Rw.map (·.1)).map tpI), q)
    rw [List.map_map]; rfl
  · rintro d rfl; rfl
  rintro _ rfl
  refine ss_seq (S := fun ρ => ρ = mE n S o3 (some (false, tpI U)) (some (false, .str r.str)) (some (false, lotsD L)) (some (false, .list (Rw.map rwD))) none (some (false, lotsD (Rw.map (·.1)))) o10 o11 o12) (ss_ifF (fun q => ap1_ev (d := .bool true) (ap_1 (lcE_map L tpI (fun l => [(10, tpI l)]) (fun _ => true) (fun l => .bool (decide (inU U l ∈ Rw.map (·.1)))) (q1 := q) (it_ev (d := lotsD L) rfl rfl) rfl fun l _ => ⟨rfl, rfl, fun _ => ap2_ev (d := tpI (inU U l)) (e1 := lotsD (Rw.map (·.1))) (ap_1 (lcE_map l iD (fun c => [(12, iD c)]) (fun c => decide (c ∈ U)) iD (q1 := q) (it_ev (d := tpI l) rfl rfl) rfl fun c _ => ⟨rfl, ap2_ev rfl rfl (in0 c U), fun _ => rfl⟩) rfl) rfl (in_lots0 _ _)⟩) ?_) rfl) (ss_nil rfl)) ?_
  · rw [filter_true, all_map]
    congr 2
    rw [List.all_eq_true]
    exact fun l hl => decide_eq_true (fp l hl)
  rintro _ rfl
  refine ss_ifF (fun q => ?_) (ss_nil ⟨_, _, _, _, _, _, _, _, rfl⟩)
  by_cases hr : r = .se
  · subst hr
    exact and_f (ap2_ev (d := .str Rd5.se.str) (e1 := .str "settled") rfl rfl (neW (c := true) (by decide +kernel)))
  · refine and_tt (q1 := q) (ap2_ev (d := .str r.str) (e1 := .str "settled") rfl rfl ?_) (ap1_ev (d := .bool true) (ap_1 (lcE_map Rw rwD (fun z => [(10, tpI z.1), (11, .tuple (z.2.map tpI))]) (fun _ => true) (fun z => .bool (!decide (z.2 = []))) (q1 := q) (it_ev (d := .list (Rw.map rwD)) rfl rfl) rfl fun z _ => ⟨rfl, rfl, fun _ => ap2_ev (d := .tuple (z.2.map tpI)) (e1 := .tuple []) rfl rfl (ne_lotsT z.2 [])⟩) ?_) rfl)
    · cases r <;> first | exact absurd rfl hr | exact neW (c := false) (by decide +kernel)
    · rw [filter_true, all_map]
      congr 2
      rw [List.all_eq_true]
      intro z hz
      rw [Bool.not_eq_true', decide_eq_false_iff_not]
      exact rh hr z hz
theorem e_law_right : FS Hd.s__law_right [potD] fun d => d = .bool true := by
  refine fs_def ?_
  refine rs_seq (S := fun ρ => ∃ n S, ρ = [some (false, potD), some (false, dsp n S), none, none, none, none, none, none, none, none, none, none, none] ∧ VD n S ∧ n ≤ 6) (ss_set (es_call (ds := [potD, .int 6]) (fun q => sq_cons rfl (sq_cons rfl sq_nil)) (e_dispute 40692 4831 17 (m := 6) (by omega))) ?_) ?_
  · rintro d ⟨n, S, rfl, v, h6⟩
    exact ⟨n, S, rfl, v, h6⟩
  rintro _ ⟨n, S, rfl, v, n6⟩
  have n1 := v.n1
  have sd := sd_dsp v
  refine rs_seq (S := fun ρ => ρ = mE n S none none none none none none none none none none) (ss_set (es_p (R := fun d => d = .str (dsp n S).shown) (fun q => ap_1 (d := dsp n S) rfl (repr_ev (sd.sd (by omega) (by omega)) rfl)) rfl) ?_) ?_
  · rintro d rfl; rfl
  rintro _ rfl
  have hev : ∀ l ∈ (sortK (subsL (Sd.upTo n))).filter (aheadB S), AV n S l := fun l hl => by
    obtain ⟨h1, h2⟩ := List.mem_filter.mp hl
    exact (aheadB_iff (sub_lv (mem_all.mp h1))).mp h2
  have av : AV n S (Sd.upTo n) := ⟨sub_lv (List.Sublist.refl _), fun e => by
    have := upTo_len n
    rw [e] at this
    simp at this
    omega, fun z hz _ => Sd.mem_upTo.mpr ⟨(v.rng z hz).1, (v.rng z hz).2.1⟩⟩
  have hne : Sd.upTo n ∈ (sortK (subsL (Sd.upTo n))).filter (aheadB S) := List.mem_filter.mpr ⟨mem_all.mpr (List.Sublist.refl _), (aheadB_iff av.toLV).mpr av⟩
  have hfew : ((sortK (subsL (Sd.upTo n))).filter (aheadB S)).length ≤ 64 := by
    refine Nat.le_trans (List.length_filter_le _ _) ?_
    rw [(sortK_perm _).length_eq, subsL_len, upTo_len]
    have h2 : 2 ^ n.toNat ≤ 2 ^ 6 := Nat.pow_le_pow_right (by decide) (by omega)
    omega
  refine rs_seq (S := fun ρ => ρ = mE n S (some (false, lotsD ((sortK (subsL (Sd.upTo n))).filter (aheadB S)))) none none none none none none none none none) (ss_set (es_p (R := fun d => d = lotsD ((sortK (subsL (Sd.upTo n))).filter (aheadB S))) (fun q => ?_) rfl) ?_) ?_
  · exact lcE_map (sortK (subsL (Sd.upTo n))) tpI (fun l => [(10, tpI l)]) (aheadB S) tpI (q1 := q) (it_ev (d := lotsD (sortK (subsL (Sd.upTo n)))) (call_ev (ds := [.int n]) (sq_cons (ap2_ev (d := dsp n S) (e1 := .int 1) rfl rfl rfl) sq_nil) (e_every (by omega) q)) rfl) rfl fun l hl => ⟨rfl, call_ev (ds := [dsp n S, tpI l]) (sq_cons rfl (sq_cons rfl sq_nil)) (e_lw_is_ahead (by omega) (sub_lv (mem_all.mp hl)) q), fun _ => rfl⟩
  · rintro d rfl; rfl
  rintro _ rfl
  generalize (sortK (subsL (Sd.upTo n))).filter (aheadB S) = Ev at *
  have pk : ∀ ρ : Sd.Env, (∀ q, seqE [vr 0, vr 3] ρ q = some ([potD, lotsD Ev], q)) → ES (callE (s__law_pick 40692 4831 17) [vr 0, vr 3]) ρ fun d => ∃ x ∈ Ev, d = tpI x := fun ρ h =>
    es_call h (e_pick 40692 4831 17 Ev tpI ⟨List.length_pos_of_mem hne, by omega⟩)
  refine rs_seq (S := fun ρ => ∃ o4, Tn n S (some (false, lotsD Ev)) o4 ρ) (ss_forD tpI (Pr := fun L => ∀ l ∈ L, AV n S l) (I := fun ρ => ∃ o4, Tn n S (some (false, lotsD Ev)) o4 ρ) ?_ ⟨none, _, _, _, _, _, _, _, _, rfl⟩ ?_) ?_
  · intro q hq
    obtain ⟨d1, q1, e1, k1, x1, h1, rfl⟩ := pk (mE n S (some (false, lotsD Ev)) none none none none none none none none none) (fun q => sq_cons rfl (sq_cons rfl sq_nil)) q hq
    obtain ⟨d2, q2, e2, k2, x2, h2, rfl⟩ := pk (mE n S (some (false, lotsD Ev)) none none none none none none none none none) (fun q => sq_cons rfl (sq_cons rfl sq_nil)) q1 k1
    refine ⟨[x1, x2], q2, it_ev (d := .list [tpI x1, tpI x2]) (lst_ev (sq_cons e1 (sq_cons e2 sq_nil))) rfl, k2, fun l hl => ?_⟩
    rcases List.mem_cons.mp hl with rfl | hl
    · exact hev _ h1
    · rw [List.mem_singleton.mp hl]; exact hev _ h2
  · rintro L hL U hU _ ⟨o4, o5, o6, o7, o8, o9, o10, o11, o12, rfl⟩
    refine ⟨_, rfl, ?_⟩
    show SS _ (mE n S (some (false, lotsD Ev)) (some (false, tpI U)) o5 o6 o7 o8 o9 o10 o11 o12) _
    refine SS.imp (ss_for [Rd5.up, .fu, .gr, .se, .pl] (fun r => .str r.str) (fun _ ρ => Tn n S (some (false, lotsD Ev)) (some (false, tpI U)) ρ) (fun q => it_ev (d := .list ([Rd5.up, .fu, .gr, .se, .pl].map fun r => .str r.str)) (lst_ev (sq_cons rfl (sq_cons rfl (sq_cons rfl (sq_cons rfl (sq_cons rfl sq_nil)))))) rfl) ⟨_, _, _, _, _, _, _, _, rfl⟩ ?_) fun ρ h => ⟨_, h⟩
    rintro pre r post _ _ ⟨o5, o6, o7, o8, o9, o10, o11, o12, rfl⟩
    exact ⟨_, rfl, turn v n6 (hL U hU) r _ o6 o7 o8 o9 o10 o11 o12⟩
  · rintro _ ⟨o4, o5, o6, o7, o8, o9, o10, o11, o12, rfl⟩
    exact rs_ret (es_p (fun q => ap2_ev (d := .str (dsp n S).shown) (e1 := .str (dsp n S).shown) (ap_1 (d := dsp n S) rfl (repr_ev (sd.sd (by omega) (by omega)) rfl)) rfl (eq_shown (sd.sd (by omega) (by omega)))) rfl)
theorem good : ∀ q, PotOk q → ∃ q', s__law_right [potD] q = some (.bool true, q') := fun q hq => by
  obtain ⟨d, q', h, _, rfl⟩ := e_law_right q hq
  exact ⟨q', h⟩
end Hd
open PySem PySem.W PySem.Calls PyProof.Rows
theorem PySem.Challenge.cw_stillsaid_k85_whole_splits_in_all_readin_holds : PySem.Challenge.rw_stillsaid_k85_whole_splits_in_all_readin.Holds := by
  w_on; o_law
  refine HandSHeadRun.head_any (r := OpenLaw.row PySem.Challenge.rw_stillsaid_k85_whole_splits_in_all_readin) (q := view (OpenLaw.row PySem.Challenge.rw_stillsaid_k85_whole_splits_in_all_readin).prog [68]) (H := Hd.hk) (ob := Hd.ob) (M := 4000) (loose := Hd.loose) (d := HandSHeadRun.topDef (OpenLaw.row PySem.Challenge.rw_stillsaid_k85_whole_splits_in_all_readin).prog 68) (kwd := []) Hd.ob_eq
    (by kernel_rfl) (fun s => by kernel_rfl) Hd.run (by kernel_rfl) (by kernel_rfl) (by kernel_rfl) (by rfl) (by first | assumption | decide +kernel) (by decide +kernel) ⟨rfl, rfl, rfl, rfl, rfl, by decide +kernel⟩ ?hw ?hc
  case hw => w_witness2
  case hc =>
    refine Sd.walk_ofG (l := PySem.Challenge.rw_stillsaid_k85_whole_splits_in_all_readin) (n := 63) (k := 10 + 2) (x := "script") rfl (by decide) (by kernel_rfl) ⟨rfl, by decide, by decide⟩ ?_
    intro w mg fa h Y G hmg0
    obtain ⟨K, KX, c⟩ := Y
    have hmg : mg ("law" : PySem.Str) = some (.ref fa) := by
      have e : (HandSHeadRun.topDef (OpenLaw.row PySem.Challenge.rw_stillsaid_k85_whole_splits_in_all_readin).prog 68).name = ("law" : PySem.Str) := by kernel_rfl
      rw [← e]
      exact hmg0
    obtain ⟨a, rfl⟩ := Hd.have_al KX G hmg c
    have hb := a.F68.bindsA (ps := ["script"]) fun _ _ _ _ _ _ us hl => match us, hl with | [_], _ => rfl
    refine ⟨K, a.fd68, Sd.spLaw K, KX, fun s v => hb s [v] rfl, fun H b ns _ only sq => ⟨b, ns, rfl, only, sq, fun _ => rfl⟩, fun base _ _ => ?_⟩
    exact (Hd.gLaw (n := 10) (sem := Hd.s__law_right)  a.F68 a.F53 a.F67 (Hd.gPot a.F53 a.m_len a.m_int a.m_abs a.m_max) ((Hd.g67 a).mono (by decide)) a.h53 a.h67 a.m_all a.m_range a.m_max a.m_min a.m_len Hd.good)
